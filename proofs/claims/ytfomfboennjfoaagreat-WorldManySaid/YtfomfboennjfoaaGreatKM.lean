/-
  known of wharflaw24, and what is known of it ahead.
-/
import Derived.Test.YtfomfboennjfoaaGreatStk
import Derived.Test.YtfomfboennjfoaaGreatCe
import Derived.Test.YtfomfboennjfoaaGreatPlsOk
set_option linter.unusedVariables false
set_option linter.unusedSimpArgs false
namespace Go.Proofs.YtfomfboennjfoaaGreat
open Go

def kM_pcs : List (SB × Bool) := []
def kM_dead : List (List (SB × Bool)) := []
def kM_tree : R := (.done (.bool (.lit .true)) ⟨.nil, 0, ⟨[], [], []⟩⟩)
set_option maxRecDepth 1000000 in
theorem kM_run : evCall Tryz.prog plans sumsT 100000 24 [] (s0 kM_pcs [[]] []) finK = kM_tree := by kernel_rfl
set_option maxRecDepth 1000000 in
theorem kM_ok : okTree kM_tree true kM_pcs kM_dead = true := by kernel_rfl
theorem kM_any (w : World) : Calls Tryz.prog 24 #[] w fun e w' => e = .returned (.bool true) ∧ Kp [] w w' :=
  run_bool follows_mixed plans_ok sumsT_ok kM_run kM_ok (fun _ => 0) (fun x hx => by simp [kM_pcs] at hx) rgOk_nil (fun d hd => by simp [kM_dead] at hd) (xs := []) rfl w
noncomputable def kM_sum : List AV → Option AV
  | [] => some (.bool (.lit true))
  | _ => none
theorem kM_sum_ok : PureOk Tryz.prog 24 kM_sum := by
  intro l v h φ ρ xs w hx
  cases l with
  | nil =>
    cases h
    simp only [concL, Option.some.injEq] at hx
    subst hx
    exact ⟨_, rfl, kM_any w⟩
  | cons a l => cases h
/-- and known -/
noncomputable def sumsKM : Sums := sumOr (sumPure 24 kM_sum) sumsT
theorem sumsKM_ok : SumsOk Tryz.prog sumsKM := sumOr_ok (sumPure_ok (enter_of Tryz.func24 (by kernel_rfl) (by kernel_rfl)) kM_sum_ok) sumsT_ok

end Go.Proofs.YtfomfboennjfoaaGreat
