/-
  ConnWindow: at those ticks nothing is done.
-/
import Derived.Test.YtjblchdoalipeaaAccW
import Derived.Test.YtjblchdoalipeaaPlsOk
set_option linter.unusedVariables false
set_option linter.unusedSimpArgs false
namespace Go.Proofs.Ytjblchdoalipeaa
open Go

theorem plansZ0_ok : PlansOk Try.prog plansZ0 := plansOk_ac plans_ok rfl fun a ha => by
  have ha : a ∈ [accL 3 11 0 1500 (rgZ 0 0)] := ha
  simp only [List.mem_cons, List.not_mem_nil, or_false] at ha
  rcases ha with rfl
  · exact accL_ok rfl (by decide) (by decide)
theorem plansZ1_ok : PlansOk Try.prog plansZ1 := plansOk_ac plans_ok rfl fun a ha => by
  have ha : a ∈ [accL 3 11 0 1500 (rgZ 1 1072)] := ha
  simp only [List.mem_cons, List.not_mem_nil, or_false] at ha
  rcases ha with rfl
  · exact accL_ok rfl (by decide) (by decide)
theorem plansZ2_ok : PlansOk Try.prog plansZ2 := plansOk_ac plans_ok rfl fun a ha => by
  have ha : a ∈ [accL 3 11 0 1500 (rgZ 1073 5000)] := ha
  simp only [List.mem_cons, List.not_mem_nil, or_false] at ha
  rcases ha with rfl
  · exact accL_ok rfl (by decide) (by decide)
theorem plansA0_ok : PlansOk Try.prog plansA0 := plansOk_ac plans_ok rfl fun a ha => by
  have ha : a ∈ [accL 3 3 0 11 (rgW 0 0 1 1), accF 3 3 0 11 (rgW 0 0 1 1), accL 3 4 11 31 (rgW 0 0 1 1), accF 3 4 11 31 (rgW 0 0 1 1), accL 3 5 31 71 (rgW 0 0 1 1), accF 3 5 31 71 (rgW 0 0 1 1), accL 3 6 71 151 (rgW 0 0 1 1), accF 3 6 71 151 (rgW 0 0 1 1), accL 3 7 151 311 (rgW 0 0 1 1), accF 3 7 151 311 (rgW 0 0 1 1), accL 3 8 311 631 (rgW 0 0 1 1), accF 3 8 311 631 (rgW 0 0 1 1), accL 3 9 631 1231 (rgW 0 0 1 1), accF 3 9 631 1231 (rgW 0 0 1 1), accL 3 10 1231 1500 (rgW 0 0 1 1)] := ha
  simp only [List.mem_cons, List.not_mem_nil, or_false] at ha
  rcases ha with rfl | rfl | rfl | rfl | rfl | rfl | rfl | rfl | rfl | rfl | rfl | rfl | rfl | rfl | rfl
  · exact accL_ok rfl (by decide) (by decide)
  · exact accF_ok rfl (by decide) (by decide)
  · exact accL_ok rfl (by decide) (by decide)
  · exact accF_ok rfl (by decide) (by decide)
  · exact accL_ok rfl (by decide) (by decide)
  · exact accF_ok rfl (by decide) (by decide)
  · exact accL_ok rfl (by decide) (by decide)
  · exact accF_ok rfl (by decide) (by decide)
  · exact accL_ok rfl (by decide) (by decide)
  · exact accF_ok rfl (by decide) (by decide)
  · exact accL_ok rfl (by decide) (by decide)
  · exact accF_ok rfl (by decide) (by decide)
  · exact accL_ok rfl (by decide) (by decide)
  · exact accF_ok rfl (by decide) (by decide)
  · exact accL_ok rfl (by decide) (by decide)
theorem plansA1_ok : PlansOk Try.prog plansA1 := plansOk_ac plans_ok rfl fun a ha => by
  have ha : a ∈ [accL 3 3 0 11 (rgW 0 0 2 535), accF 3 3 0 11 (rgW 0 0 2 535), accL 3 4 11 31 (rgW 0 0 2 535), accF 3 4 11 31 (rgW 0 0 2 535), accL 3 5 31 71 (rgW 0 0 2 535), accF 3 5 31 71 (rgW 0 0 2 535), accL 3 6 71 151 (rgW 0 0 2 535), accF 3 6 71 151 (rgW 0 0 2 535), accL 3 7 151 311 (rgW 0 0 2 535), accF 3 7 151 311 (rgW 0 0 2 535), accL 3 8 311 631 (rgW 0 0 2 535), accF 3 8 311 631 (rgW 0 0 2 535), accL 3 9 631 1231 (rgW 0 0 2 535), accF 3 9 631 1231 (rgW 0 0 2 535), accL 3 10 1231 1500 (rgW 0 0 2 535)] := ha
  simp only [List.mem_cons, List.not_mem_nil, or_false] at ha
  rcases ha with rfl | rfl | rfl | rfl | rfl | rfl | rfl | rfl | rfl | rfl | rfl | rfl | rfl | rfl | rfl
  · exact accL_ok rfl (by decide) (by decide)
  · exact accF_ok rfl (by decide) (by decide)
  · exact accL_ok rfl (by decide) (by decide)
  · exact accF_ok rfl (by decide) (by decide)
  · exact accL_ok rfl (by decide) (by decide)
  · exact accF_ok rfl (by decide) (by decide)
  · exact accL_ok rfl (by decide) (by decide)
  · exact accF_ok rfl (by decide) (by decide)
  · exact accL_ok rfl (by decide) (by decide)
  · exact accF_ok rfl (by decide) (by decide)
  · exact accL_ok rfl (by decide) (by decide)
  · exact accF_ok rfl (by decide) (by decide)
  · exact accL_ok rfl (by decide) (by decide)
  · exact accF_ok rfl (by decide) (by decide)
  · exact accL_ok rfl (by decide) (by decide)
theorem plansA2_ok : PlansOk Try.prog plansA2 := plansOk_ac plans_ok rfl fun a ha => by
  have ha : a ∈ [accL 3 3 0 11 (rgW 0 0 536 6000), accF 3 3 0 11 (rgW 0 0 536 6000), accL 3 4 11 31 (rgW 0 0 536 6000), accF 3 4 11 31 (rgW 0 0 536 6000), accL 3 5 31 71 (rgW 0 0 536 6000), accF 3 5 31 71 (rgW 0 0 536 6000), accL 3 6 71 151 (rgW 0 0 536 6000), accF 3 6 71 151 (rgW 0 0 536 6000), accL 3 7 151 311 (rgW 0 0 536 6000), accF 3 7 151 311 (rgW 0 0 536 6000), accL 3 8 311 631 (rgW 0 0 536 6000), accF 3 8 311 631 (rgW 0 0 536 6000), accL 3 9 631 1231 (rgW 0 0 536 6000), accF 3 9 631 1231 (rgW 0 0 536 6000), accL 3 10 1231 1500 (rgW 0 0 536 6000)] := ha
  simp only [List.mem_cons, List.not_mem_nil, or_false] at ha
  rcases ha with rfl | rfl | rfl | rfl | rfl | rfl | rfl | rfl | rfl | rfl | rfl | rfl | rfl | rfl | rfl
  · exact accL_ok rfl (by decide) (by decide)
  · exact accF_ok rfl (by decide) (by decide)
  · exact accL_ok rfl (by decide) (by decide)
  · exact accF_ok rfl (by decide) (by decide)
  · exact accL_ok rfl (by decide) (by decide)
  · exact accF_ok rfl (by decide) (by decide)
  · exact accL_ok rfl (by decide) (by decide)
  · exact accF_ok rfl (by decide) (by decide)
  · exact accL_ok rfl (by decide) (by decide)
  · exact accF_ok rfl (by decide) (by decide)
  · exact accL_ok rfl (by decide) (by decide)
  · exact accF_ok rfl (by decide) (by decide)
  · exact accL_ok rfl (by decide) (by decide)
  · exact accF_ok rfl (by decide) (by decide)
  · exact accL_ok rfl (by decide) (by decide)
theorem plansB0_ok : PlansOk Try.prog plansB0 := plansOk_ac plans_ok rfl fun a ha => by
  have ha : a ∈ [accL 3 3 0 11 (rgW 1 535 1 535), accF 3 3 0 11 (rgW 1 535 1 535), accL 3 4 11 31 (rgW 1 535 1 535), accF 3 4 11 31 (rgW 1 535 1 535), accL 3 5 31 71 (rgW 1 535 1 535), accF 3 5 31 71 (rgW 1 535 1 535), accL 3 6 71 151 (rgW 1 535 1 535), accF 3 6 71 151 (rgW 1 535 1 535), accL 3 7 151 311 (rgW 1 535 1 535), accF 3 7 151 311 (rgW 1 535 1 535), accL 3 8 311 631 (rgW 1 535 1 535), accF 3 8 311 631 (rgW 1 535 1 535), accL 3 9 631 1231 (rgW 1 535 1 535), accF 3 9 631 1231 (rgW 1 535 1 535), accL 3 10 1231 1500 (rgW 1 535 1 535)] := ha
  simp only [List.mem_cons, List.not_mem_nil, or_false] at ha
  rcases ha with rfl | rfl | rfl | rfl | rfl | rfl | rfl | rfl | rfl | rfl | rfl | rfl | rfl | rfl | rfl
  · exact accL_ok rfl (by decide) (by decide)
  · exact accF_ok rfl (by decide) (by decide)
  · exact accL_ok rfl (by decide) (by decide)
  · exact accF_ok rfl (by decide) (by decide)
  · exact accL_ok rfl (by decide) (by decide)
  · exact accF_ok rfl (by decide) (by decide)
  · exact accL_ok rfl (by decide) (by decide)
  · exact accF_ok rfl (by decide) (by decide)
  · exact accL_ok rfl (by decide) (by decide)
  · exact accF_ok rfl (by decide) (by decide)
  · exact accL_ok rfl (by decide) (by decide)
  · exact accF_ok rfl (by decide) (by decide)
  · exact accL_ok rfl (by decide) (by decide)
  · exact accF_ok rfl (by decide) (by decide)
  · exact accL_ok rfl (by decide) (by decide)
theorem plansB1_ok : PlansOk Try.prog plansB1 := plansOk_ac plans_ok rfl fun a ha => by
  have ha : a ∈ [accL 3 3 0 11 (rgW 1 535 536 6000), accF 3 3 0 11 (rgW 1 535 536 6000), accL 3 4 11 31 (rgW 1 535 536 6000), accF 3 4 11 31 (rgW 1 535 536 6000), accL 3 5 31 71 (rgW 1 535 536 6000), accF 3 5 31 71 (rgW 1 535 536 6000), accL 3 6 71 151 (rgW 1 535 536 6000), accF 3 6 71 151 (rgW 1 535 536 6000), accL 3 7 151 311 (rgW 1 535 536 6000), accF 3 7 151 311 (rgW 1 535 536 6000), accL 3 8 311 631 (rgW 1 535 536 6000), accF 3 8 311 631 (rgW 1 535 536 6000), accL 3 9 631 1231 (rgW 1 535 536 6000), accF 3 9 631 1231 (rgW 1 535 536 6000), accL 3 10 1231 1500 (rgW 1 535 536 6000)] := ha
  simp only [List.mem_cons, List.not_mem_nil, or_false] at ha
  rcases ha with rfl | rfl | rfl | rfl | rfl | rfl | rfl | rfl | rfl | rfl | rfl | rfl | rfl | rfl | rfl
  · exact accL_ok rfl (by decide) (by decide)
  · exact accF_ok rfl (by decide) (by decide)
  · exact accL_ok rfl (by decide) (by decide)
  · exact accF_ok rfl (by decide) (by decide)
  · exact accL_ok rfl (by decide) (by decide)
  · exact accF_ok rfl (by decide) (by decide)
  · exact accL_ok rfl (by decide) (by decide)
  · exact accF_ok rfl (by decide) (by decide)
  · exact accL_ok rfl (by decide) (by decide)
  · exact accF_ok rfl (by decide) (by decide)
  · exact accL_ok rfl (by decide) (by decide)
  · exact accF_ok rfl (by decide) (by decide)
  · exact accL_ok rfl (by decide) (by decide)
  · exact accF_ok rfl (by decide) (by decide)
  · exact accL_ok rfl (by decide) (by decide)
theorem plansC0_ok : PlansOk Try.prog plansC0 := plansOk_ac plans_ok rfl fun a ha => by
  have ha : a ∈ [accL 3 3 0 11 (rgW 536 1071 1 535), accF 3 3 0 11 (rgW 536 1071 1 535), accL 3 4 11 31 (rgW 536 1071 1 535), accF 3 4 11 31 (rgW 536 1071 1 535), accL 3 5 31 71 (rgW 536 1071 1 535), accF 3 5 31 71 (rgW 536 1071 1 535), accL 3 6 71 151 (rgW 536 1071 1 535), accF 3 6 71 151 (rgW 536 1071 1 535), accL 3 7 151 311 (rgW 536 1071 1 535), accF 3 7 151 311 (rgW 536 1071 1 535), accL 3 8 311 631 (rgW 536 1071 1 535), accF 3 8 311 631 (rgW 536 1071 1 535), accL 3 9 631 1231 (rgW 536 1071 1 535), accF 3 9 631 1231 (rgW 536 1071 1 535), accL 3 10 1231 1500 (rgW 536 1071 1 535)] := ha
  simp only [List.mem_cons, List.not_mem_nil, or_false] at ha
  rcases ha with rfl | rfl | rfl | rfl | rfl | rfl | rfl | rfl | rfl | rfl | rfl | rfl | rfl | rfl | rfl
  · exact accL_ok rfl (by decide) (by decide)
  · exact accF_ok rfl (by decide) (by decide)
  · exact accL_ok rfl (by decide) (by decide)
  · exact accF_ok rfl (by decide) (by decide)
  · exact accL_ok rfl (by decide) (by decide)
  · exact accF_ok rfl (by decide) (by decide)
  · exact accL_ok rfl (by decide) (by decide)
  · exact accF_ok rfl (by decide) (by decide)
  · exact accL_ok rfl (by decide) (by decide)
  · exact accF_ok rfl (by decide) (by decide)
  · exact accL_ok rfl (by decide) (by decide)
  · exact accF_ok rfl (by decide) (by decide)
  · exact accL_ok rfl (by decide) (by decide)
  · exact accF_ok rfl (by decide) (by decide)
  · exact accL_ok rfl (by decide) (by decide)
theorem plansD0_ok : PlansOk Try.prog plansD0 := plansOk_ac plans_ok rfl fun a ha => by
  have ha : a ∈ [accL 3 3 0 11 (rgW 536 536 536 536), accF 3 3 0 11 (rgW 536 536 536 536), accL 3 4 11 31 (rgW 536 536 536 536), accF 3 4 11 31 (rgW 536 536 536 536), accL 3 5 31 71 (rgW 536 536 536 536), accF 3 5 31 71 (rgW 536 536 536 536), accL 3 6 71 151 (rgW 536 536 536 536), accF 3 6 71 151 (rgW 536 536 536 536), accL 3 7 151 311 (rgW 536 536 536 536), accF 3 7 151 311 (rgW 536 536 536 536), accL 3 8 311 631 (rgW 536 536 536 536), accF 3 8 311 631 (rgW 536 536 536 536), accL 3 9 631 1231 (rgW 536 536 536 536), accF 3 9 631 1231 (rgW 536 536 536 536), accL 3 10 1231 1500 (rgW 536 536 536 536)] := ha
  simp only [List.mem_cons, List.not_mem_nil, or_false] at ha
  rcases ha with rfl | rfl | rfl | rfl | rfl | rfl | rfl | rfl | rfl | rfl | rfl | rfl | rfl | rfl | rfl
  · exact accL_ok rfl (by decide) (by decide)
  · exact accF_ok rfl (by decide) (by decide)
  · exact accL_ok rfl (by decide) (by decide)
  · exact accF_ok rfl (by decide) (by decide)
  · exact accL_ok rfl (by decide) (by decide)
  · exact accF_ok rfl (by decide) (by decide)
  · exact accL_ok rfl (by decide) (by decide)
  · exact accF_ok rfl (by decide) (by decide)
  · exact accL_ok rfl (by decide) (by decide)
  · exact accF_ok rfl (by decide) (by decide)
  · exact accL_ok rfl (by decide) (by decide)
  · exact accF_ok rfl (by decide) (by decide)
  · exact accL_ok rfl (by decide) (by decide)
  · exact accF_ok rfl (by decide) (by decide)
  · exact accL_ok rfl (by decide) (by decide)
theorem plansD1_ok : PlansOk Try.prog plansD1 := plansOk_ac plans_ok rfl fun a ha => by
  have ha : a ∈ [accL 3 3 0 11 (rgW 536 536 537 1071), accF 3 3 0 11 (rgW 536 536 537 1071), accL 3 4 11 31 (rgW 536 536 537 1071), accF 3 4 11 31 (rgW 536 536 537 1071), accL 3 5 31 71 (rgW 536 536 537 1071), accF 3 5 31 71 (rgW 536 536 537 1071), accL 3 6 71 151 (rgW 536 536 537 1071), accF 3 6 71 151 (rgW 536 536 537 1071), accL 3 7 151 311 (rgW 536 536 537 1071), accF 3 7 151 311 (rgW 536 536 537 1071), accL 3 8 311 631 (rgW 536 536 537 1071), accF 3 8 311 631 (rgW 536 536 537 1071), accL 3 9 631 1231 (rgW 536 536 537 1071), accF 3 9 631 1231 (rgW 536 536 537 1071), accL 3 10 1231 1500 (rgW 536 536 537 1071)] := ha
  simp only [List.mem_cons, List.not_mem_nil, or_false] at ha
  rcases ha with rfl | rfl | rfl | rfl | rfl | rfl | rfl | rfl | rfl | rfl | rfl | rfl | rfl | rfl | rfl
  · exact accL_ok rfl (by decide) (by decide)
  · exact accF_ok rfl (by decide) (by decide)
  · exact accL_ok rfl (by decide) (by decide)
  · exact accF_ok rfl (by decide) (by decide)
  · exact accL_ok rfl (by decide) (by decide)
  · exact accF_ok rfl (by decide) (by decide)
  · exact accL_ok rfl (by decide) (by decide)
  · exact accF_ok rfl (by decide) (by decide)
  · exact accL_ok rfl (by decide) (by decide)
  · exact accF_ok rfl (by decide) (by decide)
  · exact accL_ok rfl (by decide) (by decide)
  · exact accF_ok rfl (by decide) (by decide)
  · exact accL_ok rfl (by decide) (by decide)
  · exact accF_ok rfl (by decide) (by decide)
  · exact accL_ok rfl (by decide) (by decide)
theorem plansD2_ok : PlansOk Try.prog plansD2 := plansOk_ac plans_ok rfl fun a ha => by
  have ha : a ∈ [accL 3 3 0 11 (rgW 536 536 1072 6000), accF 3 3 0 11 (rgW 536 536 1072 6000), accL 3 4 11 31 (rgW 536 536 1072 6000), accF 3 4 11 31 (rgW 536 536 1072 6000), accL 3 5 31 71 (rgW 536 536 1072 6000), accF 3 5 31 71 (rgW 536 536 1072 6000), accL 3 6 71 151 (rgW 536 536 1072 6000), accF 3 6 71 151 (rgW 536 536 1072 6000), accL 3 7 151 311 (rgW 536 536 1072 6000), accF 3 7 151 311 (rgW 536 536 1072 6000), accL 3 8 311 631 (rgW 536 536 1072 6000), accF 3 8 311 631 (rgW 536 536 1072 6000), accL 3 9 631 1231 (rgW 536 536 1072 6000), accF 3 9 631 1231 (rgW 536 536 1072 6000), accL 3 10 1231 1500 (rgW 536 536 1072 6000)] := ha
  simp only [List.mem_cons, List.not_mem_nil, or_false] at ha
  rcases ha with rfl | rfl | rfl | rfl | rfl | rfl | rfl | rfl | rfl | rfl | rfl | rfl | rfl | rfl | rfl
  · exact accL_ok rfl (by decide) (by decide)
  · exact accF_ok rfl (by decide) (by decide)
  · exact accL_ok rfl (by decide) (by decide)
  · exact accF_ok rfl (by decide) (by decide)
  · exact accL_ok rfl (by decide) (by decide)
  · exact accF_ok rfl (by decide) (by decide)
  · exact accL_ok rfl (by decide) (by decide)
  · exact accF_ok rfl (by decide) (by decide)
  · exact accL_ok rfl (by decide) (by decide)
  · exact accF_ok rfl (by decide) (by decide)
  · exact accL_ok rfl (by decide) (by decide)
  · exact accF_ok rfl (by decide) (by decide)
  · exact accL_ok rfl (by decide) (by decide)
  · exact accF_ok rfl (by decide) (by decide)
  · exact accL_ok rfl (by decide) (by decide)
theorem plansE0_ok : PlansOk Try.prog plansE0 := plansOk_ac plans_ok rfl fun a ha => by
  have ha : a ∈ [accL 3 3 0 11 (rgW 537 1071 536 536), accF 3 3 0 11 (rgW 537 1071 536 536), accL 3 4 11 31 (rgW 537 1071 536 536), accF 3 4 11 31 (rgW 537 1071 536 536), accL 3 5 31 71 (rgW 537 1071 536 536), accF 3 5 31 71 (rgW 537 1071 536 536), accL 3 6 71 151 (rgW 537 1071 536 536), accF 3 6 71 151 (rgW 537 1071 536 536), accL 3 7 151 311 (rgW 537 1071 536 536), accF 3 7 151 311 (rgW 537 1071 536 536), accL 3 8 311 631 (rgW 537 1071 536 536), accF 3 8 311 631 (rgW 537 1071 536 536), accL 3 9 631 1231 (rgW 537 1071 536 536), accF 3 9 631 1231 (rgW 537 1071 536 536), accL 3 10 1231 1500 (rgW 537 1071 536 536)] := ha
  simp only [List.mem_cons, List.not_mem_nil, or_false] at ha
  rcases ha with rfl | rfl | rfl | rfl | rfl | rfl | rfl | rfl | rfl | rfl | rfl | rfl | rfl | rfl | rfl
  · exact accL_ok rfl (by decide) (by decide)
  · exact accF_ok rfl (by decide) (by decide)
  · exact accL_ok rfl (by decide) (by decide)
  · exact accF_ok rfl (by decide) (by decide)
  · exact accL_ok rfl (by decide) (by decide)
  · exact accF_ok rfl (by decide) (by decide)
  · exact accL_ok rfl (by decide) (by decide)
  · exact accF_ok rfl (by decide) (by decide)
  · exact accL_ok rfl (by decide) (by decide)
  · exact accF_ok rfl (by decide) (by decide)
  · exact accL_ok rfl (by decide) (by decide)
  · exact accF_ok rfl (by decide) (by decide)
  · exact accL_ok rfl (by decide) (by decide)
  · exact accF_ok rfl (by decide) (by decide)
  · exact accL_ok rfl (by decide) (by decide)
theorem plansE1_ok : PlansOk Try.prog plansE1 := plansOk_ac plans_ok rfl fun a ha => by
  have ha : a ∈ [accL 3 3 0 11 (rgW 537 1071 537 1071), accF 3 3 0 11 (rgW 537 1071 537 1071), accL 3 4 11 31 (rgW 537 1071 537 1071), accF 3 4 11 31 (rgW 537 1071 537 1071), accL 3 5 31 71 (rgW 537 1071 537 1071), accF 3 5 31 71 (rgW 537 1071 537 1071), accL 3 6 71 151 (rgW 537 1071 537 1071), accF 3 6 71 151 (rgW 537 1071 537 1071), accL 3 7 151 311 (rgW 537 1071 537 1071), accF 3 7 151 311 (rgW 537 1071 537 1071), accL 3 8 311 631 (rgW 537 1071 537 1071), accF 3 8 311 631 (rgW 537 1071 537 1071), accL 3 9 631 1231 (rgW 537 1071 537 1071), accF 3 9 631 1231 (rgW 537 1071 537 1071), accL 3 10 1231 1500 (rgW 537 1071 537 1071)] := ha
  simp only [List.mem_cons, List.not_mem_nil, or_false] at ha
  rcases ha with rfl | rfl | rfl | rfl | rfl | rfl | rfl | rfl | rfl | rfl | rfl | rfl | rfl | rfl | rfl
  · exact accL_ok rfl (by decide) (by decide)
  · exact accF_ok rfl (by decide) (by decide)
  · exact accL_ok rfl (by decide) (by decide)
  · exact accF_ok rfl (by decide) (by decide)
  · exact accL_ok rfl (by decide) (by decide)
  · exact accF_ok rfl (by decide) (by decide)
  · exact accL_ok rfl (by decide) (by decide)
  · exact accF_ok rfl (by decide) (by decide)
  · exact accL_ok rfl (by decide) (by decide)
  · exact accF_ok rfl (by decide) (by decide)
  · exact accL_ok rfl (by decide) (by decide)
  · exact accF_ok rfl (by decide) (by decide)
  · exact accL_ok rfl (by decide) (by decide)
  · exact accF_ok rfl (by decide) (by decide)
  · exact accL_ok rfl (by decide) (by decide)
theorem plansE2_ok : PlansOk Try.prog plansE2 := plansOk_ac plans_ok rfl fun a ha => by
  have ha : a ∈ [accL 3 3 0 11 (rgW 537 1071 1072 6000), accF 3 3 0 11 (rgW 537 1071 1072 6000), accL 3 4 11 31 (rgW 537 1071 1072 6000), accF 3 4 11 31 (rgW 537 1071 1072 6000), accL 3 5 31 71 (rgW 537 1071 1072 6000), accF 3 5 31 71 (rgW 537 1071 1072 6000), accL 3 6 71 151 (rgW 537 1071 1072 6000), accF 3 6 71 151 (rgW 537 1071 1072 6000), accL 3 7 151 311 (rgW 537 1071 1072 6000), accF 3 7 151 311 (rgW 537 1071 1072 6000), accL 3 8 311 631 (rgW 537 1071 1072 6000), accF 3 8 311 631 (rgW 537 1071 1072 6000), accL 3 9 631 1231 (rgW 537 1071 1072 6000), accF 3 9 631 1231 (rgW 537 1071 1072 6000), accL 3 10 1231 1500 (rgW 537 1071 1072 6000)] := ha
  simp only [List.mem_cons, List.not_mem_nil, or_false] at ha
  rcases ha with rfl | rfl | rfl | rfl | rfl | rfl | rfl | rfl | rfl | rfl | rfl | rfl | rfl | rfl | rfl
  · exact accL_ok rfl (by decide) (by decide)
  · exact accF_ok rfl (by decide) (by decide)
  · exact accL_ok rfl (by decide) (by decide)
  · exact accF_ok rfl (by decide) (by decide)
  · exact accL_ok rfl (by decide) (by decide)
  · exact accF_ok rfl (by decide) (by decide)
  · exact accL_ok rfl (by decide) (by decide)
  · exact accF_ok rfl (by decide) (by decide)
  · exact accL_ok rfl (by decide) (by decide)
  · exact accF_ok rfl (by decide) (by decide)
  · exact accL_ok rfl (by decide) (by decide)
  · exact accF_ok rfl (by decide) (by decide)
  · exact accL_ok rfl (by decide) (by decide)
  · exact accF_ok rfl (by decide) (by decide)
  · exact accL_ok rfl (by decide) (by decide)
theorem plansF0_ok : PlansOk Try.prog plansF0 := plansOk_ac plans_ok rfl fun a ha => by
  have ha : a ∈ [accL 3 3 0 11 (rgW 1072 5000 1 535), accF 3 3 0 11 (rgW 1072 5000 1 535), accL 3 4 11 31 (rgW 1072 5000 1 535), accF 3 4 11 31 (rgW 1072 5000 1 535), accL 3 5 31 71 (rgW 1072 5000 1 535), accF 3 5 31 71 (rgW 1072 5000 1 535), accL 3 6 71 151 (rgW 1072 5000 1 535), accF 3 6 71 151 (rgW 1072 5000 1 535), accL 3 7 151 311 (rgW 1072 5000 1 535), accF 3 7 151 311 (rgW 1072 5000 1 535), accL 3 8 311 631 (rgW 1072 5000 1 535), accF 3 8 311 631 (rgW 1072 5000 1 535), accL 3 9 631 1231 (rgW 1072 5000 1 535), accF 3 9 631 1231 (rgW 1072 5000 1 535), accL 3 10 1231 1500 (rgW 1072 5000 1 535)] := ha
  simp only [List.mem_cons, List.not_mem_nil, or_false] at ha
  rcases ha with rfl | rfl | rfl | rfl | rfl | rfl | rfl | rfl | rfl | rfl | rfl | rfl | rfl | rfl | rfl
  · exact accL_ok rfl (by decide) (by decide)
  · exact accF_ok rfl (by decide) (by decide)
  · exact accL_ok rfl (by decide) (by decide)
  · exact accF_ok rfl (by decide) (by decide)
  · exact accL_ok rfl (by decide) (by decide)
  · exact accF_ok rfl (by decide) (by decide)
  · exact accL_ok rfl (by decide) (by decide)
  · exact accF_ok rfl (by decide) (by decide)
  · exact accL_ok rfl (by decide) (by decide)
  · exact accF_ok rfl (by decide) (by decide)
  · exact accL_ok rfl (by decide) (by decide)
  · exact accF_ok rfl (by decide) (by decide)
  · exact accL_ok rfl (by decide) (by decide)
  · exact accF_ok rfl (by decide) (by decide)
  · exact accL_ok rfl (by decide) (by decide)
theorem plansF1_ok : PlansOk Try.prog plansF1 := plansOk_ac plans_ok rfl fun a ha => by
  have ha : a ∈ [accL 3 3 0 11 (rgW 1072 5000 536 536), accF 3 3 0 11 (rgW 1072 5000 536 536), accL 3 4 11 31 (rgW 1072 5000 536 536), accF 3 4 11 31 (rgW 1072 5000 536 536), accL 3 5 31 71 (rgW 1072 5000 536 536), accF 3 5 31 71 (rgW 1072 5000 536 536), accL 3 6 71 151 (rgW 1072 5000 536 536), accF 3 6 71 151 (rgW 1072 5000 536 536), accL 3 7 151 311 (rgW 1072 5000 536 536), accF 3 7 151 311 (rgW 1072 5000 536 536), accL 3 8 311 631 (rgW 1072 5000 536 536), accF 3 8 311 631 (rgW 1072 5000 536 536), accL 3 9 631 1231 (rgW 1072 5000 536 536), accF 3 9 631 1231 (rgW 1072 5000 536 536), accL 3 10 1231 1500 (rgW 1072 5000 536 536)] := ha
  simp only [List.mem_cons, List.not_mem_nil, or_false] at ha
  rcases ha with rfl | rfl | rfl | rfl | rfl | rfl | rfl | rfl | rfl | rfl | rfl | rfl | rfl | rfl | rfl
  · exact accL_ok rfl (by decide) (by decide)
  · exact accF_ok rfl (by decide) (by decide)
  · exact accL_ok rfl (by decide) (by decide)
  · exact accF_ok rfl (by decide) (by decide)
  · exact accL_ok rfl (by decide) (by decide)
  · exact accF_ok rfl (by decide) (by decide)
  · exact accL_ok rfl (by decide) (by decide)
  · exact accF_ok rfl (by decide) (by decide)
  · exact accL_ok rfl (by decide) (by decide)
  · exact accF_ok rfl (by decide) (by decide)
  · exact accL_ok rfl (by decide) (by decide)
  · exact accF_ok rfl (by decide) (by decide)
  · exact accL_ok rfl (by decide) (by decide)
  · exact accF_ok rfl (by decide) (by decide)
  · exact accL_ok rfl (by decide) (by decide)
theorem plansF2_ok : PlansOk Try.prog plansF2 := plansOk_ac plans_ok rfl fun a ha => by
  have ha : a ∈ [accL 3 3 0 11 (rgW 1072 5000 537 1071), accF 3 3 0 11 (rgW 1072 5000 537 1071), accL 3 4 11 31 (rgW 1072 5000 537 1071), accF 3 4 11 31 (rgW 1072 5000 537 1071), accL 3 5 31 71 (rgW 1072 5000 537 1071), accF 3 5 31 71 (rgW 1072 5000 537 1071), accL 3 6 71 151 (rgW 1072 5000 537 1071), accF 3 6 71 151 (rgW 1072 5000 537 1071), accL 3 7 151 311 (rgW 1072 5000 537 1071), accF 3 7 151 311 (rgW 1072 5000 537 1071), accL 3 8 311 631 (rgW 1072 5000 537 1071), accF 3 8 311 631 (rgW 1072 5000 537 1071), accL 3 9 631 1231 (rgW 1072 5000 537 1071), accF 3 9 631 1231 (rgW 1072 5000 537 1071), accL 3 10 1231 1500 (rgW 1072 5000 537 1071)] := ha
  simp only [List.mem_cons, List.not_mem_nil, or_false] at ha
  rcases ha with rfl | rfl | rfl | rfl | rfl | rfl | rfl | rfl | rfl | rfl | rfl | rfl | rfl | rfl | rfl
  · exact accL_ok rfl (by decide) (by decide)
  · exact accF_ok rfl (by decide) (by decide)
  · exact accL_ok rfl (by decide) (by decide)
  · exact accF_ok rfl (by decide) (by decide)
  · exact accL_ok rfl (by decide) (by decide)
  · exact accF_ok rfl (by decide) (by decide)
  · exact accL_ok rfl (by decide) (by decide)
  · exact accF_ok rfl (by decide) (by decide)
  · exact accL_ok rfl (by decide) (by decide)
  · exact accF_ok rfl (by decide) (by decide)
  · exact accL_ok rfl (by decide) (by decide)
  · exact accF_ok rfl (by decide) (by decide)
  · exact accL_ok rfl (by decide) (by decide)
  · exact accF_ok rfl (by decide) (by decide)
  · exact accL_ok rfl (by decide) (by decide)
theorem plansF3_ok : PlansOk Try.prog plansF3 := plansOk_ac plans_ok rfl fun a ha => by
  have ha : a ∈ [accL 3 3 0 11 (rgW 1072 5000 1072 1072), accF 3 3 0 11 (rgW 1072 5000 1072 1072), accL 3 4 11 31 (rgW 1072 5000 1072 1072), accF 3 4 11 31 (rgW 1072 5000 1072 1072), accL 3 5 31 71 (rgW 1072 5000 1072 1072), accF 3 5 31 71 (rgW 1072 5000 1072 1072), accL 3 6 71 151 (rgW 1072 5000 1072 1072), accF 3 6 71 151 (rgW 1072 5000 1072 1072), accL 3 7 151 311 (rgW 1072 5000 1072 1072), accF 3 7 151 311 (rgW 1072 5000 1072 1072), accL 3 8 311 631 (rgW 1072 5000 1072 1072), accF 3 8 311 631 (rgW 1072 5000 1072 1072), accL 3 9 631 1231 (rgW 1072 5000 1072 1072), accF 3 9 631 1231 (rgW 1072 5000 1072 1072), accL 3 10 1231 1500 (rgW 1072 5000 1072 1072)] := ha
  simp only [List.mem_cons, List.not_mem_nil, or_false] at ha
  rcases ha with rfl | rfl | rfl | rfl | rfl | rfl | rfl | rfl | rfl | rfl | rfl | rfl | rfl | rfl | rfl
  · exact accL_ok rfl (by decide) (by decide)
  · exact accF_ok rfl (by decide) (by decide)
  · exact accL_ok rfl (by decide) (by decide)
  · exact accF_ok rfl (by decide) (by decide)
  · exact accL_ok rfl (by decide) (by decide)
  · exact accF_ok rfl (by decide) (by decide)
  · exact accL_ok rfl (by decide) (by decide)
  · exact accF_ok rfl (by decide) (by decide)
  · exact accL_ok rfl (by decide) (by decide)
  · exact accF_ok rfl (by decide) (by decide)
  · exact accL_ok rfl (by decide) (by decide)
  · exact accF_ok rfl (by decide) (by decide)
  · exact accL_ok rfl (by decide) (by decide)
  · exact accF_ok rfl (by decide) (by decide)
  · exact accL_ok rfl (by decide) (by decide)
theorem plansG0_ok : PlansOk Try.prog plansG0 := plansOk_ac plans_ok rfl fun a ha => by
  have ha : a ∈ [accL 3 3 0 11 (rgW 1072 1072 1073 1607), accF 3 3 0 11 (rgW 1072 1072 1073 1607), accL 3 4 11 31 (rgW 1072 1072 1073 1607), accF 3 4 11 31 (rgW 1072 1072 1073 1607), accL 3 5 31 71 (rgW 1072 1072 1073 1607), accF 3 5 31 71 (rgW 1072 1072 1073 1607), accL 3 6 71 151 (rgW 1072 1072 1073 1607), accF 3 6 71 151 (rgW 1072 1072 1073 1607), accL 3 7 151 311 (rgW 1072 1072 1073 1607), accF 3 7 151 311 (rgW 1072 1072 1073 1607), accL 3 8 311 631 (rgW 1072 1072 1073 1607), accF 3 8 311 631 (rgW 1072 1072 1073 1607), accL 3 9 631 1231 (rgW 1072 1072 1073 1607), accF 3 9 631 1231 (rgW 1072 1072 1073 1607), accL 3 10 1231 1500 (rgW 1072 1072 1073 1607)] := ha
  simp only [List.mem_cons, List.not_mem_nil, or_false] at ha
  rcases ha with rfl | rfl | rfl | rfl | rfl | rfl | rfl | rfl | rfl | rfl | rfl | rfl | rfl | rfl | rfl
  · exact accL_ok rfl (by decide) (by decide)
  · exact accF_ok rfl (by decide) (by decide)
  · exact accL_ok rfl (by decide) (by decide)
  · exact accF_ok rfl (by decide) (by decide)
  · exact accL_ok rfl (by decide) (by decide)
  · exact accF_ok rfl (by decide) (by decide)
  · exact accL_ok rfl (by decide) (by decide)
  · exact accF_ok rfl (by decide) (by decide)
  · exact accL_ok rfl (by decide) (by decide)
  · exact accF_ok rfl (by decide) (by decide)
  · exact accL_ok rfl (by decide) (by decide)
  · exact accF_ok rfl (by decide) (by decide)
  · exact accL_ok rfl (by decide) (by decide)
  · exact accF_ok rfl (by decide) (by decide)
  · exact accL_ok rfl (by decide) (by decide)
theorem plansG1_ok : PlansOk Try.prog plansG1 := plansOk_ac plans_ok rfl fun a ha => by
  have ha : a ∈ [accL 3 3 0 11 (rgW 1072 1072 1608 6000), accF 3 3 0 11 (rgW 1072 1072 1608 6000), accL 3 4 11 31 (rgW 1072 1072 1608 6000), accF 3 4 11 31 (rgW 1072 1072 1608 6000), accL 3 5 31 71 (rgW 1072 1072 1608 6000), accF 3 5 31 71 (rgW 1072 1072 1608 6000), accL 3 6 71 151 (rgW 1072 1072 1608 6000), accF 3 6 71 151 (rgW 1072 1072 1608 6000), accL 3 7 151 311 (rgW 1072 1072 1608 6000), accF 3 7 151 311 (rgW 1072 1072 1608 6000), accL 3 8 311 631 (rgW 1072 1072 1608 6000), accF 3 8 311 631 (rgW 1072 1072 1608 6000), accL 3 9 631 1231 (rgW 1072 1072 1608 6000), accF 3 9 631 1231 (rgW 1072 1072 1608 6000), accL 3 10 1231 1500 (rgW 1072 1072 1608 6000)] := ha
  simp only [List.mem_cons, List.not_mem_nil, or_false] at ha
  rcases ha with rfl | rfl | rfl | rfl | rfl | rfl | rfl | rfl | rfl | rfl | rfl | rfl | rfl | rfl | rfl
  · exact accL_ok rfl (by decide) (by decide)
  · exact accF_ok rfl (by decide) (by decide)
  · exact accL_ok rfl (by decide) (by decide)
  · exact accF_ok rfl (by decide) (by decide)
  · exact accL_ok rfl (by decide) (by decide)
  · exact accF_ok rfl (by decide) (by decide)
  · exact accL_ok rfl (by decide) (by decide)
  · exact accF_ok rfl (by decide) (by decide)
  · exact accL_ok rfl (by decide) (by decide)
  · exact accF_ok rfl (by decide) (by decide)
  · exact accL_ok rfl (by decide) (by decide)
  · exact accF_ok rfl (by decide) (by decide)
  · exact accL_ok rfl (by decide) (by decide)
  · exact accF_ok rfl (by decide) (by decide)
  · exact accL_ok rfl (by decide) (by decide)
theorem plansH0_ok : PlansOk Try.prog plansH0 := plansOk_ac plans_ok rfl fun a ha => by
  have ha : a ∈ [accL 3 3 0 11 (rgW 1073 5000 1073 1607), accF 3 3 0 11 (rgW 1073 5000 1073 1607), accL 3 4 11 31 (rgW 1073 5000 1073 1607), accF 3 4 11 31 (rgW 1073 5000 1073 1607), accL 3 5 31 71 (rgW 1073 5000 1073 1607), accF 3 5 31 71 (rgW 1073 5000 1073 1607), accL 3 6 71 151 (rgW 1073 5000 1073 1607), accF 3 6 71 151 (rgW 1073 5000 1073 1607), accL 3 7 151 311 (rgW 1073 5000 1073 1607), accF 3 7 151 311 (rgW 1073 5000 1073 1607), accL 3 8 311 631 (rgW 1073 5000 1073 1607), accF 3 8 311 631 (rgW 1073 5000 1073 1607), accL 3 9 631 1231 (rgW 1073 5000 1073 1607), accF 3 9 631 1231 (rgW 1073 5000 1073 1607), accL 3 10 1231 1500 (rgW 1073 5000 1073 1607)] := ha
  simp only [List.mem_cons, List.not_mem_nil, or_false] at ha
  rcases ha with rfl | rfl | rfl | rfl | rfl | rfl | rfl | rfl | rfl | rfl | rfl | rfl | rfl | rfl | rfl
  · exact accL_ok rfl (by decide) (by decide)
  · exact accF_ok rfl (by decide) (by decide)
  · exact accL_ok rfl (by decide) (by decide)
  · exact accF_ok rfl (by decide) (by decide)
  · exact accL_ok rfl (by decide) (by decide)
  · exact accF_ok rfl (by decide) (by decide)
  · exact accL_ok rfl (by decide) (by decide)
  · exact accF_ok rfl (by decide) (by decide)
  · exact accL_ok rfl (by decide) (by decide)
  · exact accF_ok rfl (by decide) (by decide)
  · exact accL_ok rfl (by decide) (by decide)
  · exact accF_ok rfl (by decide) (by decide)
  · exact accL_ok rfl (by decide) (by decide)
  · exact accF_ok rfl (by decide) (by decide)
  · exact accL_ok rfl (by decide) (by decide)
theorem plansH1_ok : PlansOk Try.prog plansH1 := plansOk_ac plans_ok rfl fun a ha => by
  have ha : a ∈ [accL 3 3 0 11 (rgW 1073 5000 1608 6000), accF 3 3 0 11 (rgW 1073 5000 1608 6000), accL 3 4 11 31 (rgW 1073 5000 1608 6000), accF 3 4 11 31 (rgW 1073 5000 1608 6000), accL 3 5 31 71 (rgW 1073 5000 1608 6000), accF 3 5 31 71 (rgW 1073 5000 1608 6000), accL 3 6 71 151 (rgW 1073 5000 1608 6000), accF 3 6 71 151 (rgW 1073 5000 1608 6000), accL 3 7 151 311 (rgW 1073 5000 1608 6000), accF 3 7 151 311 (rgW 1073 5000 1608 6000), accL 3 8 311 631 (rgW 1073 5000 1608 6000), accF 3 8 311 631 (rgW 1073 5000 1608 6000), accL 3 9 631 1231 (rgW 1073 5000 1608 6000), accF 3 9 631 1231 (rgW 1073 5000 1608 6000), accL 3 10 1231 1500 (rgW 1073 5000 1608 6000)] := ha
  simp only [List.mem_cons, List.not_mem_nil, or_false] at ha
  rcases ha with rfl | rfl | rfl | rfl | rfl | rfl | rfl | rfl | rfl | rfl | rfl | rfl | rfl | rfl | rfl
  · exact accL_ok rfl (by decide) (by decide)
  · exact accF_ok rfl (by decide) (by decide)
  · exact accL_ok rfl (by decide) (by decide)
  · exact accF_ok rfl (by decide) (by decide)
  · exact accL_ok rfl (by decide) (by decide)
  · exact accF_ok rfl (by decide) (by decide)
  · exact accL_ok rfl (by decide) (by decide)
  · exact accF_ok rfl (by decide) (by decide)
  · exact accL_ok rfl (by decide) (by decide)
  · exact accF_ok rfl (by decide) (by decide)
  · exact accL_ok rfl (by decide) (by decide)
  · exact accF_ok rfl (by decide) (by decide)
  · exact accL_ok rfl (by decide) (by decide)
  · exact accF_ok rfl (by decide) (by decide)
  · exact accL_ok rfl (by decide) (by decide)

end Go.Proofs.Ytjblchdoalipeaa
