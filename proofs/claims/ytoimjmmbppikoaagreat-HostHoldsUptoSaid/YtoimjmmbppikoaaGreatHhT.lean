/-
  HostHolds: the rounds, and what is told behind them.
-/
import Derived.Test.YtoimjmmbppikoaaGreatHhQ
import Derived.Test.YtoimjmmbppikoaaGreatHhE0
import Derived.Test.YtoimjmmbppikoaaGreatHhE1
import Derived.Test.YtoimjmmbppikoaaGreatHhE2
import Derived.Test.YtoimjmmbppikoaaGreatHhE3
import Derived.Test.YtoimjmmbppikoaaGreatHhE4
set_option linter.unusedVariables false
set_option linter.unusedSimpArgs false
namespace Go.Proofs.YtoimjmmbppikoaaGreat
open Go

theorem hp0 : ∀ x ∈ ([(0, patP), (1, patS1)] : List (Nat × Pat)), x.2.okB 103 = true ∧ x.2 = patN x.1 := by
  refine List.forall_mem_cons.2 ⟨And.intro patP_ok rfl, ?_⟩
  refine List.forall_mem_cons.2 ⟨And.intro patS1_ok rfl, ?_⟩
  exact fun x hx => by cases hx
theorem hp1 : ∀ x ∈ ([(1, patS1), (2, patS2)] : List (Nat × Pat)), x.2.okB 103 = true ∧ x.2 = patN x.1 := by
  refine List.forall_mem_cons.2 ⟨And.intro patS1_ok rfl, ?_⟩
  refine List.forall_mem_cons.2 ⟨And.intro patS2_ok rfl, ?_⟩
  exact fun x hx => by cases hx
theorem hp2 : ∀ x ∈ ([(2, patS2), (3, patS3)] : List (Nat × Pat)), x.2.okB 103 = true ∧ x.2 = patN x.1 := by
  refine List.forall_mem_cons.2 ⟨And.intro patS2_ok rfl, ?_⟩
  refine List.forall_mem_cons.2 ⟨And.intro patS3_ok rfl, ?_⟩
  exact fun x hx => by cases hx
theorem hp3 : ∀ x ∈ ([(3, patS3), (4, patS4)] : List (Nat × Pat)), x.2.okB 103 = true ∧ x.2 = patN x.1 := by
  refine List.forall_mem_cons.2 ⟨And.intro patS3_ok rfl, ?_⟩
  refine List.forall_mem_cons.2 ⟨And.intro patS4_ok rfl, ?_⟩
  exact fun x hx => by cases hx
theorem hp4 : ∀ x ∈ ([(4, patS4)] : List (Nat × Pat)), x.2.okB 103 = true ∧ x.2 = patN x.1 := by
  refine List.forall_mem_cons.2 ⟨And.intro patS4_ok rfl, ?_⟩
  exact fun x hx => by cases hx
theorem roundF : ∀ j, ∃ K ps LL, leavesT Tryz.prog ops14 callH 103 treeT ((patN j).st [], (patN j).ts 103) = some [K, K, K, K, K, K] ∧ endsR (heavy ps K) [] = some LL ∧ (∀ x ∈ ps, x.2.okB 103 = true ∧ x.2 = patN x.1) ∧ ∀ x ∈ LL, ∀ (ρ : Nat → Int) (i : Nat), i < 300 → Inv (patN j) ρ i (i + 1) → (∀ c ∈ x.2, c.1.ev ρ = c.2) → LeafOk x.1 ρ i
  | 0 => ⟨_, _, _, lv0, en0, hp0, step0⟩
  | 1 => ⟨_, _, _, lv1, en1, hp1, step1⟩
  | 2 => ⟨_, _, _, lv2, en2, hp2, step2⟩
  | 3 => ⟨_, _, _, lv3, en3, hp3, step3⟩
  | _ + 4 => ⟨_, _, _, lv4, en4, hp4, step4⟩

end Go.Proofs.YtoimjmmbppikoaaGreat
