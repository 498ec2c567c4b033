/-
  known of wharflaw18, and what is known of it ahead.
-/
import Derived.Test.YtooebogidjejoaaGreatCg
import Derived.Test.YtooebogidjejoaaGreatCe
import Derived.Test.YtooebogidjejoaaGreatPlsOk
set_option linter.unusedVariables false
set_option linter.unusedSimpArgs false
namespace Go.Proofs.YtooebogidjejoaaGreat
open Go

def k18_pcs : List (SB × Bool) := []
def k18_dead : List (List (SB × Bool)) := []
def k18_tree : R := (.done (.bool (.lit .true)) ⟨.nil, 0, ⟨[], [], []⟩⟩)
set_option maxRecDepth 1000000 in
theorem k18_run : evCall Tryz.prog plans sumsP 100000 5 [] (s0 k18_pcs [[]] []) finK = k18_tree := by kernel_rfl
set_option maxRecDepth 1000000 in
theorem k18_ok : okTree k18_tree true k18_pcs k18_dead = true := by kernel_rfl
theorem k18_any (w : World) : Calls Tryz.prog 5 #[] w fun e w' => e = .returned (.bool true) ∧ Kp [] w w' :=
  run_bool follows_mixed plans_ok sumsP_ok k18_run k18_ok (fun _ => 0) (fun x hx => by simp [k18_pcs] at hx) rgOk_nil (fun d hd => by simp [k18_dead] at hd) (xs := []) rfl w
noncomputable def k18_sum : List AV → Option AV
  | [] => some (.bool (.lit true))
  | _ => none
theorem k18_sum_ok : PureOk Tryz.prog 5 k18_sum := by
  intro l v h φ ρ xs w hx
  cases l with
  | nil =>
    cases h
    simp only [concL, Option.some.injEq] at hx
    subst hx
    exact ⟨_, rfl, k18_any w⟩
  | cons a l => cases h
/-- and known -/
noncomputable def sumsK18 : Sums := sumOr (sumPure 5 k18_sum) sumsP
theorem sumsK18_ok : SumsOk Tryz.prog sumsK18 := sumOr_ok (sumPure_ok (enter_of Tryz.func5 (by kernel_rfl) (by kernel_rfl)) k18_sum_ok) sumsP_ok

end Go.Proofs.YtooebogidjejoaaGreat
