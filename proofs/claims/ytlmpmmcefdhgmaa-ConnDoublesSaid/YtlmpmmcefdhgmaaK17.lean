/-
  known of wharflaw17, and what is known of it ahead.
-/
import Derived.Test.YtlmpmmcefdhgmaaSsm
import Derived.Test.YtlmpmmcefdhgmaaRs
import Derived.Test.YtlmpmmcefdhgmaaPlsOk
set_option linter.unusedVariables false
set_option linter.unusedSimpArgs false
namespace Go.Proofs.Ytlmpmmcefdhgmaa
open Go

def k17_pcs : List (SB × Bool) := []
def k17_dead : List (List (SB × Bool)) := []
def k17_tree : R := (.done (.bool (.lit .true)) ⟨.nil, 0, ⟨[], [], []⟩⟩)
set_option maxRecDepth 1000000 in
theorem k17_run : evCall Try.prog plans sumsP 100000 7 [] (s0 k17_pcs [[]] []) finK = k17_tree := by kernel_rfl
set_option maxRecDepth 1000000 in
theorem k17_ok : okTree k17_tree true k17_pcs k17_dead = true := by kernel_rfl
theorem k17_any (w : World) : Calls Try.prog 7 #[] w fun e w' => e = .returned (.bool true) ∧ Kp [] w w' :=
  run_bool follows_mixed plans_ok sumsP_ok k17_run k17_ok (fun _ => 0) (fun x hx => by simp [k17_pcs] at hx) rgOk_nil (fun d hd => by simp [k17_dead] at hd) (xs := []) rfl w
noncomputable def k17_sum : List AV → Option AV
  | [] => some (.bool (.lit true))
  | _ => none
theorem k17_sum_ok : PureOk Try.prog 7 k17_sum := by
  intro l v h φ ρ xs w hx
  cases l with
  | nil =>
    cases h
    simp only [concL, Option.some.injEq] at hx
    subst hx
    exact ⟨_, rfl, k17_any w⟩
  | cons a l => cases h
/-- and known -/
noncomputable def sumsK17 : Sums := sumOr (sumPure 7 k17_sum) sumsP
theorem sumsK17_ok : SumsOk Try.prog sumsK17 := sumOr_ok (sumPure_ok (enter_of Try.func7 (by kernel_rfl) (by kernel_rfl)) k17_sum_ok) sumsP_ok

end Go.Proofs.Ytlmpmmcefdhgmaa
