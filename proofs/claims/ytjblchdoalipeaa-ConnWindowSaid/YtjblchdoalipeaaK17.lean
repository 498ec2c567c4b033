/-
  known of wharflaw17, and what is known of it ahead.
-/
import Derived.Test.YtjblchdoalipeaaCg
import Derived.Test.YtjblchdoalipeaaCe
import Derived.Test.YtjblchdoalipeaaPlsOk
set_option linter.unusedVariables false
set_option linter.unusedSimpArgs false
namespace Go.Proofs.Ytjblchdoalipeaa
open Go

def k17_pcs : List (SB × Bool) := []
def k17_dead : List (List (SB × Bool)) := []
def k17_tree : R := (.done (.bool (.lit .true)) ⟨.nil, 0, ⟨[], [], []⟩⟩)
set_option maxRecDepth 1000000 in
theorem k17_run : evCall Try.prog plans sumsP 100000 5 [] (s0 k17_pcs [[]] []) finK = k17_tree := by kernel_rfl
set_option maxRecDepth 1000000 in
theorem k17_ok : okTree k17_tree true k17_pcs k17_dead = true := by kernel_rfl
theorem k17_any (w : World) : Calls Try.prog 5 #[] w fun e w' => e = .returned (.bool true) ∧ Kp [] w w' :=
  run_bool follows_mixed plans_ok sumsP_ok k17_run k17_ok (fun _ => 0) (fun x hx => by simp [k17_pcs] at hx) rgOk_nil (fun d hd => by simp [k17_dead] at hd) (xs := []) rfl w
noncomputable def k17_sum : List AV → Option AV
  | [] => some (.bool (.lit true))
  | _ => none
theorem k17_sum_ok : PureOk Try.prog 5 k17_sum := by
  intro l v h φ ρ xs w hx
  cases l with
  | nil =>
    cases h
    simp only [concL, Option.some.injEq] at hx
    subst hx
    exact ⟨_, rfl, k17_any w⟩
  | cons a l => cases h
/-- and known -/
noncomputable def sumsK17 : Sums := sumOr (sumPure 5 k17_sum) sumsP
theorem sumsK17_ok : SumsOk Try.prog sumsK17 := sumOr_ok (sumPure_ok (enter_of Try.func5 (by kernel_rfl) (by kernel_rfl)) k17_sum_ok) sumsP_ok

end Go.Proofs.Ytjblchdoalipeaa
