/-
  known, and what is known of it ahead.
-/
import Derived.Test.YtdklpcjipkhenaaGreatOdd
import Derived.Test.YtdklpcjipkhenaaGreatPlsOk
set_option linter.unusedVariables false
set_option linter.unusedSimpArgs false
namespace Go.Proofs.YtdklpcjipkhenaaGreat
open Go

def known_pcs : List (SB × Bool) := []
def known_dead : List (List (SB × Bool)) := []
def known_tree : R := (.done (.bool (.lit .true)) ⟨.nil, 0, ⟨[], []⟩⟩)
set_option maxRecDepth 1000000 in
theorem known_run : evCall Tryz.prog plans sums1 100000 9 [] (s0 known_pcs [[]]) finK = known_tree := by kernel_rfl
set_option maxRecDepth 1000000 in
theorem known_ok : okTree known_tree true known_pcs known_dead = true := by kernel_rfl
theorem known_any (w : World) : Calls Tryz.prog 9 #[] w fun e w' => e = .returned (.bool true) ∧ Kp [] w w' :=
  run_bool follows_mixed plans_ok sums1_ok known_run known_ok (fun _ => 0) (fun x hx => by simp [known_pcs] at hx) (fun d hd => by simp [known_dead] at hd) (xs := []) rfl w
noncomputable def sumKn : List AV → Option AV
  | [] => some (.bool (.lit true))
  | _ => none
theorem sumKn_ok : PureOk Tryz.prog 9 sumKn := by
  intro l v h φ ρ xs w hx
  cases l with
  | nil =>
    cases h
    simp only [concL, Option.some.injEq] at hx
    subst hx
    exact ⟨_, rfl, known_any w⟩
  | cons a l => cases h
/-- and known -/
noncomputable def sums2 : Sums := sumOr sums1 (sumPure 9 sumKn)
theorem sums2_ok : SumsOk Tryz.prog sums2 := sumOr_ok sums1_ok (sumPure_ok (enter_of Tryz.func9 (by kernel_rfl) (by kernel_rfl)) sumKn_ok)

end Go.Proofs.YtdklpcjipkhenaaGreat
