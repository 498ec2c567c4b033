/-
  known of wharflaw20, and what is known of it ahead.
-/
import Derived.Test.YtggoagemdhflfaaGreatSson
import Derived.Test.YtggoagemdhflfaaGreatRs
import Derived.Test.YtggoagemdhflfaaGreatPlsOk
set_option linter.unusedVariables false
set_option linter.unusedSimpArgs false
namespace Go.Proofs.YtggoagemdhflfaaGreat
open Go

def k20_pcs : List (SB × Bool) := []
def k20_dead : List (List (SB × Bool)) := []
def k20_tree : R := (.done (.bool (.lit .true)) ⟨.nil, 0, ⟨[], [], []⟩⟩)
set_option maxRecDepth 1000000 in
theorem k20_run : evCall Tryz.prog plans sumsW 100000 28 [] (s0 k20_pcs [[]] []) finK = k20_tree := by kernel_rfl
set_option maxRecDepth 1000000 in
theorem k20_ok : okTree k20_tree true k20_pcs k20_dead = true := by kernel_rfl
theorem k20_any (w : World) : Calls Tryz.prog 28 #[] w fun e w' => e = .returned (.bool true) ∧ Kp [] w w' :=
  run_bool follows_mixed plans_ok sumsW_ok k20_run k20_ok (fun _ => 0) (fun x hx => by simp [k20_pcs] at hx) rgOk_nil (fun d hd => by simp [k20_dead] at hd) (xs := []) rfl w
noncomputable def k20_sum : List AV → Option AV
  | [] => some (.bool (.lit true))
  | _ => none
theorem k20_sum_ok : PureOk Tryz.prog 28 k20_sum := by
  intro l v h φ ρ xs w hx
  cases l with
  | nil =>
    cases h
    simp only [concL, Option.some.injEq] at hx
    subst hx
    exact ⟨_, rfl, k20_any w⟩
  | cons a l => cases h
/-- and known -/
noncomputable def sumsK20 : Sums := sumOr (sumPure 28 k20_sum) sumsW
theorem sumsK20_ok : SumsOk Tryz.prog sumsK20 := sumOr_ok (sumPure_ok (enter_of Tryz.func28 (by kernel_rfl) (by kernel_rfl)) k20_sum_ok) sumsW_ok

end Go.Proofs.YtggoagemdhflfaaGreat
