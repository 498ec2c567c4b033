/-
  known of wharflaw19, and what is known of it ahead.
-/
import Derived.Test.YtjjfmhaakickcaaGreatSsh
import Derived.Test.YtjjfmhaakickcaaGreatCe
import Derived.Test.YtjjfmhaakickcaaGreatPlsOk
set_option linter.unusedVariables false
set_option linter.unusedSimpArgs false
namespace Go.Proofs.YtjjfmhaakickcaaGreat
open Go

def k19_pcs : List (SB × Bool) := []
def k19_dead : List (List (SB × Bool)) := []
def k19_tree : R := (.done (.bool (.lit .true)) ⟨.nil, 0, ⟨[], [], []⟩⟩)
set_option maxRecDepth 1000000 in
theorem k19_run : evCall Tryz.prog plans sumsN 100000 8 [] (s0 k19_pcs [[]] []) finK = k19_tree := by kernel_rfl
set_option maxRecDepth 1000000 in
theorem k19_ok : okTree k19_tree true k19_pcs k19_dead = true := by kernel_rfl
theorem k19_any (w : World) : Calls Tryz.prog 8 #[] w fun e w' => e = .returned (.bool true) ∧ Kp [] w w' :=
  run_bool follows_mixed plans_ok sumsN_ok k19_run k19_ok (fun _ => 0) (fun x hx => by simp [k19_pcs] at hx) rgOk_nil (fun d hd => by simp [k19_dead] at hd) (xs := []) rfl w
noncomputable def k19_sum : List AV → Option AV
  | [] => some (.bool (.lit true))
  | _ => none
theorem k19_sum_ok : PureOk Tryz.prog 8 k19_sum := by
  intro l v h φ ρ xs w hx
  cases l with
  | nil =>
    cases h
    simp only [concL, Option.some.injEq] at hx
    subst hx
    exact ⟨_, rfl, k19_any w⟩
  | cons a l => cases h
/-- and known -/
noncomputable def sumsK19 : Sums := sumOr (sumPure 8 k19_sum) sumsN
theorem sumsK19_ok : SumsOk Tryz.prog sumsK19 := sumOr_ok (sumPure_ok (enter_of Tryz.func8 (by kernel_rfl) (by kernel_rfl)) k19_sum_ok) sumsN_ok

end Go.Proofs.YtjjfmhaakickcaaGreat
