/-
  known of wharflaw24, and what is known of it ahead.
-/
import Derived.Test.YtmifojdpdbjodaaGreatSsr
import Derived.Test.YtmifojdpdbjodaaGreatCe
import Derived.Test.YtmifojdpdbjodaaGreatPlsOk
set_option linter.unusedVariables false
set_option linter.unusedSimpArgs false
namespace Go.Proofs.YtmifojdpdbjodaaGreat
open Go

def k24_pcs : List (SB × Bool) := []
def k24_dead : List (List (SB × Bool)) := []
def k24_tree : R := (.done (.bool (.lit .true)) ⟨.nil, 0, ⟨[], [], []⟩⟩)
set_option maxRecDepth 1000000 in
theorem k24_run : evCall Tryz.prog plans sumsQ 100000 4 [] (s0 k24_pcs [[]] []) finK = k24_tree := by kernel_rfl
set_option maxRecDepth 1000000 in
theorem k24_ok : okTree k24_tree true k24_pcs k24_dead = true := by kernel_rfl
theorem k24_any (w : World) : Calls Tryz.prog 4 #[] w fun e w' => e = .returned (.bool true) ∧ Kp [] w w' :=
  run_bool follows_mixed plans_ok sumsQ_ok k24_run k24_ok (fun _ => 0) (fun x hx => by simp [k24_pcs] at hx) rgOk_nil (fun d hd => by simp [k24_dead] at hd) (xs := []) rfl w
noncomputable def k24_sum : List AV → Option AV
  | [] => some (.bool (.lit true))
  | _ => none
theorem k24_sum_ok : PureOk Tryz.prog 4 k24_sum := by
  intro l v h φ ρ xs w hx
  cases l with
  | nil =>
    cases h
    simp only [concL, Option.some.injEq] at hx
    subst hx
    exact ⟨_, rfl, k24_any w⟩
  | cons a l => cases h
/-- and known -/
noncomputable def sumsK24 : Sums := sumOr (sumPure 4 k24_sum) sumsQ
theorem sumsK24_ok : SumsOk Tryz.prog sumsK24 := sumOr_ok (sumPure_ok (enter_of Tryz.func4 (by kernel_rfl) (by kernel_rfl)) k24_sum_ok) sumsQ_ok

end Go.Proofs.YtmifojdpdbjodaaGreat
