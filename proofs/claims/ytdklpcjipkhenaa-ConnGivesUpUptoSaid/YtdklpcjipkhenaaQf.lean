/-
  Functions told without temporaries. Printed by res2_all.py.
-/
import Derived.Test.YtdklpcjipkhenaaQe0
import Derived.Test.YtdklpcjipkhenaaQe1
import Derived.Test.YtdklpcjipkhenaaQe2
import Derived.Test.YtdklpcjipkhenaaQe3
import Derived.Test.YtdklpcjipkhenaaPlsOk
set_option linter.unusedVariables false
set_option linter.unusedSimpArgs false
namespace Go.Proofs.Ytdklpcjipkhenaa
open Go

noncomputable section
theorem chR0_ok : SumsOk Try.prog chR0 := noSums_ok
set_option maxRecDepth 100000 in
theorem smF15_ok : SumsOk Try.prog smF15 := sumOr_ok sumsB_ok (noSums_ok)
set_option maxRecDepth 100000 in
theorem M15_ok : ResOk Try.prog 15 (mA2 C15) := by
  intro ρ w0 l s κ alt D h
  unfold mA2 at h
  split at h
  · exact .inr (known_of follows_mixed plans_ok smF15_ok (C15_eq _ _ s κ) h)
  · exact .inl h
set_option maxRecDepth 100000 in
theorem smF17_ok : SumsOk Try.prog smF17 := sumOr_ok sumsB_ok (noSums_ok)
set_option maxRecDepth 100000 in
theorem M17_ok : ResOk Try.prog 17 (mA1 C17) := by
  intro ρ w0 l s κ alt D h
  unfold mA1 at h
  split at h
  · exact .inr (known_of follows_mixed plans_ok smF17_ok (C17_eq _ s κ) h)
  · exact .inl h
set_option maxRecDepth 100000 in
theorem smF25_ok : SumsOk Try.prog smF25 := sumOr_ok sumsB_ok (noSums_ok)
set_option maxRecDepth 100000 in
theorem M25_ok : ResOk Try.prog 25 (mA1 C25) := by
  intro ρ w0 l s κ alt D h
  unfold mA1 at h
  split at h
  · exact .inr (known_of follows_mixed plans_ok smF25_ok (C25_eq _ s κ) h)
  · exact .inl h
set_option maxRecDepth 100000 in
theorem smF28_ok : SumsOk Try.prog smF28 := sumOr_ok sumsB_ok (noSums_ok)
set_option maxRecDepth 100000 in
theorem M28_ok : ResOk Try.prog 28 (mA1 C28) := by
  intro ρ w0 l s κ alt D h
  unfold mA1 at h
  split at h
  · exact .inr (known_of follows_mixed plans_ok smF28_ok (C28_eq _ s κ) h)
  · exact .inl h
set_option maxRecDepth 100000 in
theorem smF31_ok : SumsOk Try.prog smF31 := sumOr_ok sumsB_ok (noSums_ok)
set_option maxRecDepth 100000 in
theorem M31_ok : ResOk Try.prog 31 (mA0 C31) := by
  intro ρ w0 l s κ alt D h
  unfold mA0 at h
  split at h
  · exact .inr (known_of follows_mixed plans_ok smF31_ok (C31_eq s κ) h)
  · exact .inl h
set_option maxRecDepth 100000 in
theorem smF33_ok : SumsOk Try.prog smF33 := sumOr_ok sumsB_ok (noSums_ok)
set_option maxRecDepth 100000 in
theorem M33_ok : ResOk Try.prog 33 (mA1 C33) := by
  intro ρ w0 l s κ alt D h
  unfold mA1 at h
  split at h
  · exact .inr (known_of follows_mixed plans_ok smF33_ok (C33_eq _ s κ) h)
  · exact .inl h
set_option maxRecDepth 100000 in
theorem smF37_ok : SumsOk Try.prog smF37 := sumOr_ok sumsB_ok (noSums_ok)
set_option maxRecDepth 100000 in
theorem M37_ok : ResOk Try.prog 37 (mA2 C37) := by
  intro ρ w0 l s κ alt D h
  unfold mA2 at h
  split at h
  · exact .inr (known_of follows_mixed plans_ok smF37_ok (C37_eq _ _ s κ) h)
  · exact .inl h
set_option maxRecDepth 100000 in
theorem smF38_ok : SumsOk Try.prog smF38 := sumOr_ok sumsB_ok (noSums_ok)
set_option maxRecDepth 100000 in
theorem M38_ok : ResOk Try.prog 38 (mA2 C38) := by
  intro ρ w0 l s κ alt D h
  unfold mA2 at h
  split at h
  · exact .inr (known_of follows_mixed plans_ok smF38_ok (C38_eq _ _ s κ) h)
  · exact .inl h
set_option maxRecDepth 100000 in
theorem smF40_ok : SumsOk Try.prog smF40 := sumOr_ok sumsB_ok (noSums_ok)
set_option maxRecDepth 100000 in
theorem M40_ok : ResOk Try.prog 40 (mA2 C40) := by
  intro ρ w0 l s κ alt D h
  unfold mA2 at h
  split at h
  · exact .inr (known_of follows_mixed plans_ok smF40_ok (C40_eq _ _ s κ) h)
  · exact .inl h
set_option maxRecDepth 100000 in
theorem smF41_ok : SumsOk Try.prog smF41 := sumOr_ok sumsB_ok (noSums_ok)
set_option maxRecDepth 100000 in
theorem M41_ok : ResOk Try.prog 41 (mA3 C41) := by
  intro ρ w0 l s κ alt D h
  unfold mA3 at h
  split at h
  · exact .inr (known_of follows_mixed plans_ok smF41_ok (C41_eq _ _ _ s κ) h)
  · exact .inl h
set_option maxRecDepth 100000 in
theorem smF42_ok : SumsOk Try.prog smF42 := sumOr_ok sumsB_ok (noSums_ok)
set_option maxRecDepth 100000 in
theorem M42_ok : ResOk Try.prog 42 (mA1 C42) := by
  intro ρ w0 l s κ alt D h
  unfold mA1 at h
  split at h
  · exact .inr (known_of follows_mixed plans_ok smF42_ok (C42_eq _ s κ) h)
  · exact .inl h
set_option maxRecDepth 100000 in
theorem smF46_ok : SumsOk Try.prog smF46 := sumOr_ok sumsB_ok (noSums_ok)
set_option maxRecDepth 100000 in
theorem M46_ok : ResOk Try.prog 46 (mA2 C46) := by
  intro ρ w0 l s κ alt D h
  unfold mA2 at h
  split at h
  · exact .inr (known_of follows_mixed plans_ok smF46_ok (C46_eq _ _ s κ) h)
  · exact .inl h
set_option maxRecDepth 100000 in
theorem smF47_ok : SumsOk Try.prog smF47 := sumOr_ok sumsB_ok (noSums_ok)
set_option maxRecDepth 100000 in
theorem M47_ok : ResOk Try.prog 47 (mA2 C47) := by
  intro ρ w0 l s κ alt D h
  unfold mA2 at h
  split at h
  · exact .inr (known_of follows_mixed plans_ok smF47_ok (C47_eq _ _ s κ) h)
  · exact .inl h
set_option maxRecDepth 100000 in
theorem smF53_ok : SumsOk Try.prog smF53 := sumOr_ok sumsB_ok (noSums_ok)
set_option maxRecDepth 100000 in
theorem M53_ok : ResOk Try.prog 53 (mA2 C53) := by
  intro ρ w0 l s κ alt D h
  unfold mA2 at h
  split at h
  · exact .inr (known_of follows_mixed plans_ok smF53_ok (C53_eq _ _ s κ) h)
  · exact .inl h
set_option maxRecDepth 100000 in
theorem smF61_ok : SumsOk Try.prog smF61 := sumOr_ok sumsB_ok (noSums_ok)
set_option maxRecDepth 100000 in
theorem M61_ok : ResOk Try.prog 61 (mA2 C61) := by
  intro ρ w0 l s κ alt D h
  unfold mA2 at h
  split at h
  · exact .inr (known_of follows_mixed plans_ok smF61_ok (C61_eq _ _ s κ) h)
  · exact .inl h
set_option maxRecDepth 100000 in
theorem smF62_ok : SumsOk Try.prog smF62 := sumOr_ok sumsB_ok (noSums_ok)
set_option maxRecDepth 100000 in
theorem M62_ok : ResOk Try.prog 62 (mA1 C62) := by
  intro ρ w0 l s κ alt D h
  unfold mA1 at h
  split at h
  · exact .inr (known_of follows_mixed plans_ok smF62_ok (C62_eq _ s κ) h)
  · exact .inl h
set_option maxRecDepth 100000 in
theorem smF65_ok : SumsOk Try.prog smF65 := sumOr_ok sumsB_ok (noSums_ok)
set_option maxRecDepth 100000 in
theorem M65_ok : ResOk Try.prog 65 (mA1 C65) := by
  intro ρ w0 l s κ alt D h
  unfold mA1 at h
  split at h
  · exact .inr (known_of follows_mixed plans_ok smF65_ok (C65_eq _ s κ) h)
  · exact .inl h
set_option maxRecDepth 100000 in
theorem smF71_ok : SumsOk Try.prog smF71 := sumOr_ok sumsB_ok (noSums_ok)
set_option maxRecDepth 100000 in
theorem M71_ok : ResOk Try.prog 71 (mA2 C71) := by
  intro ρ w0 l s κ alt D h
  unfold mA2 at h
  split at h
  · exact .inr (known_of follows_mixed plans_ok smF71_ok (C71_eq _ _ s κ) h)
  · exact .inl h
set_option maxRecDepth 100000 in
theorem smF73_ok : SumsOk Try.prog smF73 := sumOr_ok sumsB_ok (noSums_ok)
set_option maxRecDepth 100000 in
theorem M73_ok : ResOk Try.prog 73 (mA2 C73) := by
  intro ρ w0 l s κ alt D h
  unfold mA2 at h
  split at h
  · exact .inr (known_of follows_mixed plans_ok smF73_ok (C73_eq _ _ s κ) h)
  · exact .inl h
set_option maxRecDepth 100000 in
theorem smF79_ok : SumsOk Try.prog smF79 := sumOr_ok sumsB_ok (noSums_ok)
set_option maxRecDepth 100000 in
theorem M79_ok : ResOk Try.prog 79 (mA2 C79) := by
  intro ρ w0 l s κ alt D h
  unfold mA2 at h
  split at h
  · exact .inr (known_of follows_mixed plans_ok smF79_ok (C79_eq _ _ s κ) h)
  · exact .inl h
set_option maxRecDepth 100000 in
theorem smF80_ok : SumsOk Try.prog smF80 := sumOr_ok sumsB_ok (noSums_ok)
set_option maxRecDepth 100000 in
theorem M80_ok : ResOk Try.prog 80 (mA1 C80) := by
  intro ρ w0 l s κ alt D h
  unfold mA1 at h
  split at h
  · exact .inr (known_of follows_mixed plans_ok smF80_ok (C80_eq _ s κ) h)
  · exact .inl h
set_option maxRecDepth 100000 in
theorem smF89_ok : SumsOk Try.prog smF89 := sumOr_ok sumsB_ok (noSums_ok)
set_option maxRecDepth 100000 in
theorem M89_ok : ResOk Try.prog 89 (mA2 C89) := by
  intro ρ w0 l s κ alt D h
  unfold mA2 at h
  split at h
  · exact .inr (known_of follows_mixed plans_ok smF89_ok (C89_eq _ _ s κ) h)
  · exact .inl h
set_option maxRecDepth 100000 in
theorem smF94_ok : SumsOk Try.prog smF94 := sumOr_ok sumsB_ok (noSums_ok)
set_option maxRecDepth 100000 in
theorem M94_ok : ResOk Try.prog 94 (mA1 C94) := by
  intro ρ w0 l s κ alt D h
  unfold mA1 at h
  split at h
  · exact .inr (known_of follows_mixed plans_ok smF94_ok (C94_eq _ s κ) h)
  · exact .inl h
set_option maxRecDepth 100000 in
theorem smF96_ok : SumsOk Try.prog smF96 := sumOr_ok sumsB_ok (noSums_ok)
set_option maxRecDepth 100000 in
theorem M96_ok : ResOk Try.prog 96 (mA1 C96) := by
  intro ρ w0 l s κ alt D h
  unfold mA1 at h
  split at h
  · exact .inr (known_of follows_mixed plans_ok smF96_ok (C96_eq _ s κ) h)
  · exact .inl h
set_option maxRecDepth 100000 in
theorem smF98_ok : SumsOk Try.prog smF98 := sumOr_ok sumsB_ok (noSums_ok)
set_option maxRecDepth 100000 in
theorem M98_ok : ResOk Try.prog 98 (mA2 C98) := by
  intro ρ w0 l s κ alt D h
  unfold mA2 at h
  split at h
  · exact .inr (known_of follows_mixed plans_ok smF98_ok (C98_eq _ _ s κ) h)
  · exact .inl h
set_option maxRecDepth 100000 in
theorem smF99_ok : SumsOk Try.prog smF99 := sumOr_ok sumsB_ok (noSums_ok)
set_option maxRecDepth 100000 in
theorem M99_ok : ResOk Try.prog 99 (mA2 C99) := by
  intro ρ w0 l s κ alt D h
  unfold mA2 at h
  split at h
  · exact .inr (known_of follows_mixed plans_ok smF99_ok (C99_eq _ _ s κ) h)
  · exact .inl h
set_option maxRecDepth 100000 in
theorem smF100_ok : SumsOk Try.prog smF100 := sumOr_ok sumsB_ok (noSums_ok)
set_option maxRecDepth 100000 in
theorem M100_ok : ResOk Try.prog 100 (mA1 C100) := by
  intro ρ w0 l s κ alt D h
  unfold mA1 at h
  split at h
  · exact .inr (known_of follows_mixed plans_ok smF100_ok (C100_eq _ s κ) h)
  · exact .inl h
set_option maxRecDepth 100000 in
theorem smF101_ok : SumsOk Try.prog smF101 := sumOr_ok sumsB_ok (noSums_ok)
set_option maxRecDepth 100000 in
theorem M101_ok : ResOk Try.prog 101 (mA3 C101) := by
  intro ρ w0 l s κ alt D h
  unfold mA3 at h
  split at h
  · exact .inr (known_of follows_mixed plans_ok smF101_ok (C101_eq _ _ _ s κ) h)
  · exact .inl h
set_option maxRecDepth 100000 in
theorem smF105_ok : SumsOk Try.prog smF105 := sumOr_ok sumsB_ok (noSums_ok)
set_option maxRecDepth 100000 in
theorem M105_ok : ResOk Try.prog 105 (mA2 C105) := by
  intro ρ w0 l s κ alt D h
  unfold mA2 at h
  split at h
  · exact .inr (known_of follows_mixed plans_ok smF105_ok (C105_eq _ _ s κ) h)
  · exact .inl h
set_option maxRecDepth 100000 in
theorem smF106_ok : SumsOk Try.prog smF106 := sumOr_ok sumsB_ok (noSums_ok)
set_option maxRecDepth 100000 in
theorem M106_ok : ResOk Try.prog 106 (mA1 C106) := by
  intro ρ w0 l s κ alt D h
  unfold mA1 at h
  split at h
  · exact .inr (known_of follows_mixed plans_ok smF106_ok (C106_eq _ s κ) h)
  · exact .inl h
set_option maxRecDepth 100000 in
theorem smF107_ok : SumsOk Try.prog smF107 := sumOr_ok sumsB_ok (noSums_ok)
set_option maxRecDepth 100000 in
theorem M107_ok : ResOk Try.prog 107 (mA3 C107) := by
  intro ρ w0 l s κ alt D h
  unfold mA3 at h
  split at h
  · exact .inr (known_of follows_mixed plans_ok smF107_ok (C107_eq _ _ _ s κ) h)
  · exact .inl h
set_option maxRecDepth 100000 in
theorem smF111_ok : SumsOk Try.prog smF111 := sumOr_ok sumsB_ok (noSums_ok)
set_option maxRecDepth 100000 in
theorem M111_ok : ResOk Try.prog 111 (mA1 C111) := by
  intro ρ w0 l s κ alt D h
  unfold mA1 at h
  split at h
  · exact .inr (known_of follows_mixed plans_ok smF111_ok (C111_eq _ s κ) h)
  · exact .inl h
set_option maxRecDepth 100000 in
theorem smF114_ok : SumsOk Try.prog smF114 := sumOr_ok sumsB_ok (noSums_ok)
set_option maxRecDepth 100000 in
theorem M114_ok : ResOk Try.prog 114 (mA1 C114) := by
  intro ρ w0 l s κ alt D h
  unfold mA1 at h
  split at h
  · exact .inr (known_of follows_mixed plans_ok smF114_ok (C114_eq _ s κ) h)
  · exact .inl h
set_option maxRecDepth 100000 in
theorem smF115_ok : SumsOk Try.prog smF115 := sumOr_ok sumsB_ok (noSums_ok)
set_option maxRecDepth 100000 in
theorem M115_ok : ResOk Try.prog 115 (mA1 C115) := by
  intro ρ w0 l s κ alt D h
  unfold mA1 at h
  split at h
  · exact .inr (known_of follows_mixed plans_ok smF115_ok (C115_eq _ s κ) h)
  · exact .inl h
set_option maxRecDepth 100000 in
theorem smF117_ok : SumsOk Try.prog smF117 := sumOr_ok sumsB_ok (noSums_ok)
set_option maxRecDepth 100000 in
theorem M117_ok : ResOk Try.prog 117 (mA1 C117) := by
  intro ρ w0 l s κ alt D h
  unfold mA1 at h
  split at h
  · exact .inr (known_of follows_mixed plans_ok smF117_ok (C117_eq _ s κ) h)
  · exact .inl h
set_option maxRecDepth 100000 in
theorem chR1_ok : SumsOk Try.prog chR1 := sumOr_ok (sumRes_ok M15_ok) (sumOr_ok (sumRes_ok M17_ok) (sumOr_ok (sumRes_ok M25_ok) (sumOr_ok (sumRes_ok M28_ok) (sumOr_ok (sumRes_ok M31_ok) (sumOr_ok (sumRes_ok M33_ok) (sumOr_ok (sumRes_ok M37_ok) (sumOr_ok (sumRes_ok M38_ok) (sumOr_ok (sumRes_ok M40_ok) (sumOr_ok (sumRes_ok M41_ok) (sumOr_ok (sumRes_ok M42_ok) (sumOr_ok (sumRes_ok M46_ok) (sumOr_ok (sumRes_ok M47_ok) (sumOr_ok (sumRes_ok M53_ok) (sumOr_ok (sumRes_ok M61_ok) (sumOr_ok (sumRes_ok M62_ok) (sumOr_ok (sumRes_ok M65_ok) (sumOr_ok (sumRes_ok M71_ok) (sumOr_ok (sumRes_ok M73_ok) (sumOr_ok (sumRes_ok M79_ok) (sumOr_ok (sumRes_ok M80_ok) (sumOr_ok (sumRes_ok M89_ok) (sumOr_ok (sumRes_ok M94_ok) (sumOr_ok (sumRes_ok M96_ok) (sumOr_ok (sumRes_ok M98_ok) (sumOr_ok (sumRes_ok M99_ok) (sumOr_ok (sumRes_ok M100_ok) (sumOr_ok (sumRes_ok M101_ok) (sumOr_ok (sumRes_ok M105_ok) (sumOr_ok (sumRes_ok M106_ok) (sumOr_ok (sumRes_ok M107_ok) (sumOr_ok (sumRes_ok M111_ok) (sumOr_ok (sumRes_ok M114_ok) (sumOr_ok (sumRes_ok M115_ok) (sumOr_ok (sumRes_ok M117_ok) (chR0_ok)))))))))))))))))))))))))))))))))))
set_option maxRecDepth 100000 in
theorem smF20_ok : SumsOk Try.prog smF20 := sumOr_ok sumsB_ok (sumOr_ok (sumRes_ok M41_ok) (sumOr_ok (sumRes_ok M42_ok) (noSums_ok)))
set_option maxRecDepth 100000 in
theorem M20_ok : ResOk Try.prog 20 (mA1 C20) := by
  intro ρ w0 l s κ alt D h
  unfold mA1 at h
  split at h
  · exact .inr (known_of follows_mixed plans_ok smF20_ok (C20_eq _ s κ) h)
  · exact .inl h
set_option maxRecDepth 100000 in
theorem smF34_ok : SumsOk Try.prog smF34 := sumOr_ok sumsB_ok (sumOr_ok (sumRes_ok M33_ok) (sumOr_ok (sumRes_ok M61_ok) (noSums_ok)))
set_option maxRecDepth 100000 in
theorem M34_ok : ResOk Try.prog 34 (mA3 C34) := by
  intro ρ w0 l s κ alt D h
  unfold mA3 at h
  split at h
  · exact .inr (known_of follows_mixed plans_ok smF34_ok (C34_eq _ _ _ s κ) h)
  · exact .inl h
set_option maxRecDepth 100000 in
theorem smF35_ok : SumsOk Try.prog smF35 := sumOr_ok sumsB_ok (sumOr_ok (sumRes_ok M33_ok) (sumOr_ok (sumRes_ok M61_ok) (noSums_ok)))
set_option maxRecDepth 100000 in
theorem M35_ok : ResOk Try.prog 35 (mA2 C35) := by
  intro ρ w0 l s κ alt D h
  unfold mA2 at h
  split at h
  · exact .inr (known_of follows_mixed plans_ok smF35_ok (C35_eq _ _ s κ) h)
  · exact .inl h
set_option maxRecDepth 100000 in
theorem smF36_ok : SumsOk Try.prog smF36 := sumOr_ok sumsB_ok (sumOr_ok (sumRes_ok M62_ok) (noSums_ok))
set_option maxRecDepth 100000 in
theorem M36_ok : ResOk Try.prog 36 (mA2 C36) := by
  intro ρ w0 l s κ alt D h
  unfold mA2 at h
  split at h
  · exact .inr (known_of follows_mixed plans_ok smF36_ok (C36_eq _ _ s κ) h)
  · exact .inl h
set_option maxRecDepth 100000 in
theorem smF44_ok : SumsOk Try.prog smF44 := sumOr_ok sumsB_ok (sumOr_ok (sumRes_ok M61_ok) (sumOr_ok (sumRes_ok M62_ok) (noSums_ok)))
set_option maxRecDepth 100000 in
theorem M44_ok : ResOk Try.prog 44 (mA2 C44) := by
  intro ρ w0 l s κ alt D h
  unfold mA2 at h
  split at h
  · exact .inr (known_of follows_mixed plans_ok smF44_ok (C44_eq _ _ s κ) h)
  · exact .inl h
set_option maxRecDepth 100000 in
theorem smF49_ok : SumsOk Try.prog smF49 := sumOr_ok sumsB_ok (sumOr_ok (sumRes_ok M71_ok) (noSums_ok))
set_option maxRecDepth 100000 in
theorem M49_ok : ResOk Try.prog 49 (mA3 C49) := by
  intro ρ w0 l s κ alt D h
  unfold mA3 at h
  split at h
  · exact .inr (known_of follows_mixed plans_ok smF49_ok (C49_eq _ _ _ s κ) h)
  · exact .inl h
set_option maxRecDepth 100000 in
theorem smF66_ok : SumsOk Try.prog smF66 := sumOr_ok sumsB_ok (sumOr_ok (sumRes_ok M33_ok) (sumOr_ok (sumRes_ok M37_ok) (noSums_ok)))
set_option maxRecDepth 100000 in
theorem M66_ok : ResOk Try.prog 66 (mA1 C66) := by
  intro ρ w0 l s κ alt D h
  unfold mA1 at h
  split at h
  · exact .inr (known_of follows_mixed plans_ok smF66_ok (C66_eq _ s κ) h)
  · exact .inl h
set_option maxRecDepth 100000 in
theorem smF69_ok : SumsOk Try.prog smF69 := sumOr_ok sumsB_ok (sumOr_ok (sumRes_ok M96_ok) (noSums_ok))
set_option maxRecDepth 100000 in
theorem M69_ok : ResOk Try.prog 69 (mA1 C69) := by
  intro ρ w0 l s κ alt D h
  unfold mA1 at h
  split at h
  · exact .inr (known_of follows_mixed plans_ok smF69_ok (C69_eq _ s κ) h)
  · exact .inl h
set_option maxRecDepth 100000 in
theorem smF70_ok : SumsOk Try.prog smF70 := sumOr_ok sumsB_ok (sumOr_ok (sumRes_ok M98_ok) (sumOr_ok (sumRes_ok M99_ok) (sumOr_ok (sumRes_ok M100_ok) (noSums_ok))))
set_option maxRecDepth 100000 in
theorem M70_ok : ResOk Try.prog 70 (mA2 C70) := by
  intro ρ w0 l s κ alt D h
  unfold mA2 at h
  split at h
  · exact .inr (known_of follows_mixed plans_ok smF70_ok (C70_eq _ _ s κ) h)
  · exact .inl h
set_option maxRecDepth 100000 in
theorem smF72_ok : SumsOk Try.prog smF72 := sumOr_ok sumsB_ok (sumOr_ok (sumRes_ok M100_ok) (noSums_ok))
set_option maxRecDepth 100000 in
theorem M72_ok : ResOk Try.prog 72 (mA1 C72) := by
  intro ρ w0 l s κ alt D h
  unfold mA1 at h
  split at h
  · exact .inr (known_of follows_mixed plans_ok smF72_ok (C72_eq _ s κ) h)
  · exact .inl h
set_option maxRecDepth 100000 in
theorem smF76_ok : SumsOk Try.prog smF76 := sumOr_ok sumsB_ok (sumOr_ok (sumRes_ok M101_ok) (noSums_ok))
set_option maxRecDepth 100000 in
theorem M76_ok : ResOk Try.prog 76 (mA2 C76) := by
  intro ρ w0 l s κ alt D h
  unfold mA2 at h
  split at h
  · exact .inr (known_of follows_mixed plans_ok smF76_ok (C76_eq _ _ s κ) h)
  · exact .inl h
set_option maxRecDepth 100000 in
theorem smF77_ok : SumsOk Try.prog smF77 := sumOr_ok sumsB_ok (sumOr_ok (sumRes_ok M101_ok) (noSums_ok))
set_option maxRecDepth 100000 in
theorem M77_ok : ResOk Try.prog 77 (mA2 C77) := by
  intro ρ w0 l s κ alt D h
  unfold mA2 at h
  split at h
  · exact .inr (known_of follows_mixed plans_ok smF77_ok (C77_eq _ _ s κ) h)
  · exact .inl h
set_option maxRecDepth 100000 in
theorem smF78_ok : SumsOk Try.prog smF78 := sumOr_ok sumsB_ok (sumOr_ok (sumRes_ok M101_ok) (noSums_ok))
set_option maxRecDepth 100000 in
theorem M78_ok : ResOk Try.prog 78 (mA2 C78) := by
  intro ρ w0 l s κ alt D h
  unfold mA2 at h
  split at h
  · exact .inr (known_of follows_mixed plans_ok smF78_ok (C78_eq _ _ s κ) h)
  · exact .inl h
set_option maxRecDepth 100000 in
theorem smF82_ok : SumsOk Try.prog smF82 := sumOr_ok sumsB_ok (sumOr_ok (sumRes_ok M37_ok) (noSums_ok))
set_option maxRecDepth 100000 in
theorem M82_ok : ResOk Try.prog 82 (mA2 C82) := by
  intro ρ w0 l s κ alt D h
  unfold mA2 at h
  split at h
  · exact .inr (known_of follows_mixed plans_ok smF82_ok (C82_eq _ _ s κ) h)
  · exact .inl h
set_option maxRecDepth 100000 in
theorem smF86_ok : SumsOk Try.prog smF86 := sumOr_ok sumsB_ok (sumOr_ok (sumRes_ok M107_ok) (noSums_ok))
set_option maxRecDepth 100000 in
theorem M86_ok : ResOk Try.prog 86 (mA4 C86) := by
  intro ρ w0 l s κ alt D h
  unfold mA4 at h
  split at h
  · exact .inr (known_of follows_mixed plans_ok smF86_ok (C86_eq _ _ _ _ s κ) h)
  · exact .inl h
set_option maxRecDepth 100000 in
theorem smF87_ok : SumsOk Try.prog smF87 := sumOr_ok sumsB_ok (sumOr_ok (sumRes_ok M89_ok) (noSums_ok))
set_option maxRecDepth 100000 in
theorem M87_ok : ResOk Try.prog 87 (mA2 C87) := by
  intro ρ w0 l s κ alt D h
  unfold mA2 at h
  split at h
  · exact .inr (known_of follows_mixed plans_ok smF87_ok (C87_eq _ _ s κ) h)
  · exact .inl h
set_option maxRecDepth 100000 in
theorem smF90_ok : SumsOk Try.prog smF90 := sumOr_ok sumsB_ok (sumOr_ok (sumRes_ok M98_ok) (sumOr_ok (sumRes_ok M99_ok) (noSums_ok)))
set_option maxRecDepth 100000 in
theorem M90_ok : ResOk Try.prog 90 (mA3 C90) := by
  intro ρ w0 l s κ alt D h
  unfold mA3 at h
  split at h
  · exact .inr (known_of follows_mixed plans_ok smF90_ok (C90_eq _ _ _ s κ) h)
  · exact .inl h
set_option maxRecDepth 100000 in
theorem smF93_ok : SumsOk Try.prog smF93 := sumOr_ok sumsB_ok (sumOr_ok (sumRes_ok M37_ok) (noSums_ok))
set_option maxRecDepth 100000 in
theorem M93_ok : ResOk Try.prog 93 (mA4 C93) := by
  intro ρ w0 l s κ alt D h
  unfold mA4 at h
  split at h
  · exact .inr (known_of follows_mixed plans_ok smF93_ok (C93_eq _ _ _ _ s κ) h)
  · exact .inl h
set_option maxRecDepth 100000 in
theorem smF103_ok : SumsOk Try.prog smF103 := sumOr_ok sumsB_ok (sumOr_ok (sumRes_ok M25_ok) (noSums_ok))
set_option maxRecDepth 100000 in
theorem M103_ok : ResOk Try.prog 103 (mA1 C103) := by
  intro ρ w0 l s κ alt D h
  unfold mA1 at h
  split at h
  · exact .inr (known_of follows_mixed plans_ok smF103_ok (C103_eq _ s κ) h)
  · exact .inl h
set_option maxRecDepth 100000 in
theorem smF104_ok : SumsOk Try.prog smF104 := sumOr_ok sumsB_ok (sumOr_ok (sumRes_ok M114_ok) (noSums_ok))
set_option maxRecDepth 100000 in
theorem M104_ok : ResOk Try.prog 104 (mA2 C104) := by
  intro ρ w0 l s κ alt D h
  unfold mA2 at h
  split at h
  · exact .inr (known_of follows_mixed plans_ok smF104_ok (C104_eq _ _ s κ) h)
  · exact .inl h
set_option maxRecDepth 100000 in
theorem smF112_ok : SumsOk Try.prog smF112 := sumOr_ok sumsB_ok (sumOr_ok (sumRes_ok M99_ok) (noSums_ok))
set_option maxRecDepth 100000 in
theorem M112_ok : ResOk Try.prog 112 (mA3 C112) := by
  intro ρ w0 l s κ alt D h
  unfold mA3 at h
  split at h
  · exact .inr (known_of follows_mixed plans_ok smF112_ok (C112_eq _ _ _ s κ) h)
  · exact .inl h
set_option maxRecDepth 100000 in
theorem smF113_ok : SumsOk Try.prog smF113 := sumOr_ok sumsB_ok (sumOr_ok (sumRes_ok M117_ok) (chR1_ok))
set_option maxRecDepth 100000 in
theorem M113_ok : ResOk Try.prog 113 (mA1 C113) := by
  intro ρ w0 l s κ alt D h
  unfold mA1 at h
  split at h
  · exact .inr (known_of follows_mixed plans_ok smF113_ok (C113_eq _ s κ) h)
  · exact .inl h
set_option maxRecDepth 100000 in
theorem smF116_ok : SumsOk Try.prog smF116 := sumOr_ok sumsB_ok (sumOr_ok (sumRes_ok M115_ok) (noSums_ok))
set_option maxRecDepth 100000 in
theorem M116_ok : ResOk Try.prog 116 (mA2 C116) := by
  intro ρ w0 l s κ alt D h
  unfold mA2 at h
  split at h
  · exact .inr (known_of follows_mixed plans_ok smF116_ok (C116_eq _ _ s κ) h)
  · exact .inl h
set_option maxRecDepth 100000 in
theorem chR2_ok : SumsOk Try.prog chR2 := sumOr_ok (sumRes_ok M20_ok) (sumOr_ok (sumRes_ok M34_ok) (sumOr_ok (sumRes_ok M35_ok) (sumOr_ok (sumRes_ok M36_ok) (sumOr_ok (sumRes_ok M44_ok) (sumOr_ok (sumRes_ok M49_ok) (sumOr_ok (sumRes_ok M66_ok) (sumOr_ok (sumRes_ok M69_ok) (sumOr_ok (sumRes_ok M70_ok) (sumOr_ok (sumRes_ok M72_ok) (sumOr_ok (sumRes_ok M76_ok) (sumOr_ok (sumRes_ok M77_ok) (sumOr_ok (sumRes_ok M78_ok) (sumOr_ok (sumRes_ok M82_ok) (sumOr_ok (sumRes_ok M86_ok) (sumOr_ok (sumRes_ok M87_ok) (sumOr_ok (sumRes_ok M90_ok) (sumOr_ok (sumRes_ok M93_ok) (sumOr_ok (sumRes_ok M103_ok) (sumOr_ok (sumRes_ok M104_ok) (sumOr_ok (sumRes_ok M112_ok) (sumOr_ok (sumRes_ok M113_ok) (sumOr_ok (sumRes_ok M116_ok) (chR1_ok)))))))))))))))))))))))
set_option maxRecDepth 100000 in
theorem smF50_ok : SumsOk Try.prog smF50 := sumOr_ok sumsB_ok (sumOr_ok (sumRes_ok M36_ok) (noSums_ok))
set_option maxRecDepth 100000 in
theorem M50_ok : ResOk Try.prog 50 (mA4 C50) := by
  intro ρ w0 l s κ alt D h
  unfold mA4 at h
  split at h
  · exact .inr (known_of follows_mixed plans_ok smF50_ok (C50_eq _ _ _ _ s κ) h)
  · exact .inl h
set_option maxRecDepth 100000 in
theorem smF51_ok : SumsOk Try.prog smF51 := sumOr_ok sumsB_ok (sumOr_ok (sumRes_ok M72_ok) (noSums_ok))
set_option maxRecDepth 100000 in
theorem M51_ok : ResOk Try.prog 51 (mA2 C51) := by
  intro ρ w0 l s κ alt D h
  unfold mA2 at h
  split at h
  · exact .inr (known_of follows_mixed plans_ok smF51_ok (C51_eq _ _ s κ) h)
  · exact .inl h
set_option maxRecDepth 100000 in
theorem smF64_ok : SumsOk Try.prog smF64 := sumOr_ok sumsB_ok (sumOr_ok (sumRes_ok M49_ok) (sumOr_ok (sumRes_ok M96_ok) (noSums_ok)))
set_option maxRecDepth 100000 in
theorem M64_ok : ResOk Try.prog 64 (mA1 C64) := by
  intro ρ w0 l s κ alt D h
  unfold mA1 at h
  split at h
  · exact .inr (known_of follows_mixed plans_ok smF64_ok (C64_eq _ s κ) h)
  · exact .inl h
set_option maxRecDepth 100000 in
theorem smF67_ok : SumsOk Try.prog smF67 := sumOr_ok sumsB_ok (sumOr_ok (sumRes_ok M82_ok) (noSums_ok))
set_option maxRecDepth 100000 in
theorem M67_ok : ResOk Try.prog 67 (mA1 C67) := by
  intro ρ w0 l s κ alt D h
  unfold mA1 at h
  split at h
  · exact .inr (known_of follows_mixed plans_ok smF67_ok (C67_eq _ s κ) h)
  · exact .inl h
set_option maxRecDepth 100000 in
theorem smF74_ok : SumsOk Try.prog smF74 := sumOr_ok sumsB_ok (sumOr_ok (sumRes_ok M76_ok) (sumOr_ok (sumRes_ok M78_ok) (sumOr_ok (sumRes_ok M80_ok) (noSums_ok))))
set_option maxRecDepth 100000 in
theorem M74_ok : ResOk Try.prog 74 (mA1 C74) := by
  intro ρ w0 l s κ alt D h
  unfold mA1 at h
  split at h
  · exact .inr (known_of follows_mixed plans_ok smF74_ok (C74_eq _ s κ) h)
  · exact .inl h
set_option maxRecDepth 100000 in
theorem smF75_ok : SumsOk Try.prog smF75 := sumOr_ok sumsB_ok (sumOr_ok (sumRes_ok M76_ok) (sumOr_ok (sumRes_ok M77_ok) (sumOr_ok (sumRes_ok M78_ok) (sumOr_ok (sumRes_ok M79_ok) (sumOr_ok (sumRes_ok M80_ok) (noSums_ok))))))
set_option maxRecDepth 100000 in
theorem M75_ok : ResOk Try.prog 75 (mA4 C75) := by
  intro ρ w0 l s κ alt D h
  unfold mA4 at h
  split at h
  · exact .inr (known_of follows_mixed plans_ok smF75_ok (C75_eq _ _ _ _ s κ) h)
  · exact .inl h
set_option maxRecDepth 100000 in
theorem smF83_ok : SumsOk Try.prog smF83 := sumOr_ok sumsB_ok (sumOr_ok (sumRes_ok M103_ok) (noSums_ok))
set_option maxRecDepth 100000 in
theorem M83_ok : ResOk Try.prog 83 (mA2 C83) := by
  intro ρ w0 l s κ alt D h
  unfold mA2 at h
  split at h
  · exact .inr (known_of follows_mixed plans_ok smF83_ok (C83_eq _ _ s κ) h)
  · exact .inl h
set_option maxRecDepth 100000 in
theorem smF84_ok : SumsOk Try.prog smF84 := sumOr_ok sumsB_ok (sumOr_ok (sumRes_ok M82_ok) (sumOr_ok (sumRes_ok M104_ok) (sumOr_ok (sumRes_ok M105_ok) (sumOr_ok (sumRes_ok M106_ok) (noSums_ok)))))
set_option maxRecDepth 100000 in
theorem M84_ok : ResOk Try.prog 84 (mA2 C84) := by
  intro ρ w0 l s κ alt D h
  unfold mA2 at h
  split at h
  · exact .inr (known_of follows_mixed plans_ok smF84_ok (C84_eq _ _ s κ) h)
  · exact .inl h
set_option maxRecDepth 100000 in
theorem smF85_ok : SumsOk Try.prog smF85 := sumOr_ok sumsB_ok (sumOr_ok (sumRes_ok M38_ok) (sumOr_ok (sumRes_ok M49_ok) (noSums_ok)))
set_option maxRecDepth 100000 in
theorem M85_ok : ResOk Try.prog 85 (mA1 C85) := by
  intro ρ w0 l s κ alt D h
  unfold mA1 at h
  split at h
  · exact .inr (known_of follows_mixed plans_ok smF85_ok (C85_eq _ s κ) h)
  · exact .inl h
set_option maxRecDepth 100000 in
theorem smF92_ok : SumsOk Try.prog smF92 := sumOr_ok sumsB_ok (sumOr_ok (sumRes_ok M49_ok) (noSums_ok))
set_option maxRecDepth 100000 in
theorem M92_ok : ResOk Try.prog 92 (mA1 C92) := by
  intro ρ w0 l s κ alt D h
  unfold mA1 at h
  split at h
  · exact .inr (known_of follows_mixed plans_ok smF92_ok (C92_eq _ s κ) h)
  · exact .inl h
set_option maxRecDepth 100000 in
theorem smF97_ok : SumsOk Try.prog smF97 := sumOr_ok sumsB_ok (sumOr_ok (sumRes_ok M82_ok) (noSums_ok))
set_option maxRecDepth 100000 in
theorem M97_ok : ResOk Try.prog 97 (mA2 C97) := by
  intro ρ w0 l s κ alt D h
  unfold mA2 at h
  split at h
  · exact .inr (known_of follows_mixed plans_ok smF97_ok (C97_eq _ _ s κ) h)
  · exact .inl h
set_option maxRecDepth 100000 in
theorem smF102_ok : SumsOk Try.prog smF102 := sumOr_ok sumsB_ok (sumOr_ok (sumRes_ok M113_ok) (noSums_ok))
set_option maxRecDepth 100000 in
theorem M102_ok : ResOk Try.prog 102 (mA1 C102) := by
  intro ρ w0 l s κ alt D h
  unfold mA1 at h
  split at h
  · exact .inr (known_of follows_mixed plans_ok smF102_ok (C102_eq _ s κ) h)
  · exact .inl h
set_option maxRecDepth 100000 in
theorem smF109_ok : SumsOk Try.prog smF109 := sumOr_ok sumsB_ok (sumOr_ok (sumRes_ok M82_ok) (sumOr_ok (sumRes_ok M99_ok) (sumOr_ok (sumRes_ok M100_ok) (noSums_ok))))
set_option maxRecDepth 100000 in
theorem M109_ok : ResOk Try.prog 109 (mA3 C109) := by
  intro ρ w0 l s κ alt D h
  unfold mA3 at h
  split at h
  · exact .inr (known_of follows_mixed plans_ok smF109_ok (C109_eq _ _ _ s κ) h)
  · exact .inl h
set_option maxRecDepth 100000 in
theorem smF110_ok : SumsOk Try.prog smF110 := sumOr_ok sumsB_ok (sumOr_ok (sumRes_ok M115_ok) (sumOr_ok (sumRes_ok M116_ok) (chR2_ok)))
set_option maxRecDepth 100000 in
theorem M110_ok : ResOk Try.prog 110 (mA2 C110) := by
  intro ρ w0 l s κ alt D h
  unfold mA2 at h
  split at h
  · exact .inr (known_of follows_mixed plans_ok smF110_ok (C110_eq _ _ s κ) h)
  · exact .inl h
set_option maxRecDepth 100000 in
theorem chR3_ok : SumsOk Try.prog chR3 := sumOr_ok (sumRes_ok M50_ok) (sumOr_ok (sumRes_ok M51_ok) (sumOr_ok (sumRes_ok M64_ok) (sumOr_ok (sumRes_ok M67_ok) (sumOr_ok (sumRes_ok M74_ok) (sumOr_ok (sumRes_ok M75_ok) (sumOr_ok (sumRes_ok M83_ok) (sumOr_ok (sumRes_ok M84_ok) (sumOr_ok (sumRes_ok M85_ok) (sumOr_ok (sumRes_ok M92_ok) (sumOr_ok (sumRes_ok M97_ok) (sumOr_ok (sumRes_ok M102_ok) (sumOr_ok (sumRes_ok M109_ok) (sumOr_ok (sumRes_ok M110_ok) (chR2_ok))))))))))))))
set_option maxRecDepth 100000 in
theorem smF39_ok : SumsOk Try.prog smF39 := sumOr_ok sumsB_ok (sumOr_ok (sumRes_ok M50_ok) (noSums_ok))
set_option maxRecDepth 100000 in
theorem M39_ok : ResOk Try.prog 39 (mA1 C39) := by
  intro ρ w0 l s κ alt D h
  unfold mA1 at h
  split at h
  · exact .inr (known_of follows_mixed plans_ok smF39_ok (C39_eq _ s κ) h)
  · exact .inl h
set_option maxRecDepth 100000 in
theorem smF57_ok : SumsOk Try.prog smF57 := sumOr_ok sumsB_ok (sumOr_ok (sumRes_ok M82_ok) (sumOr_ok (sumRes_ok M83_ok) (sumOr_ok (sumRes_ok M85_ok) (sumOr_ok (sumRes_ok M87_ok) (noSums_ok)))))
set_option maxRecDepth 100000 in
theorem M57_ok : ResOk Try.prog 57 (mA2 C57) := by
  intro ρ w0 l s κ alt D h
  unfold mA2 at h
  split at h
  · exact .inr (known_of follows_mixed plans_ok smF57_ok (C57_eq _ _ s κ) h)
  · exact .inl h
set_option maxRecDepth 100000 in
theorem smF63_ok : SumsOk Try.prog smF63 := sumOr_ok sumsB_ok (sumOr_ok (sumRes_ok M50_ok) (noSums_ok))
set_option maxRecDepth 100000 in
theorem M63_ok : ResOk Try.prog 63 (mA1 C63) := by
  intro ρ w0 l s κ alt D h
  unfold mA1 at h
  split at h
  · exact .inr (known_of follows_mixed plans_ok smF63_ok (C63_eq _ s κ) h)
  · exact .inl h
set_option maxRecDepth 100000 in
theorem smF68_ok : SumsOk Try.prog smF68 := sumOr_ok sumsB_ok (sumOr_ok (sumRes_ok M34_ok) (sumOr_ok (sumRes_ok M37_ok) (sumOr_ok (sumRes_ok M50_ok) (sumOr_ok (sumRes_ok M66_ok) (sumOr_ok (sumRes_ok M97_ok) (noSums_ok))))))
set_option maxRecDepth 100000 in
theorem M68_ok : ResOk Try.prog 68 (mA3 C68) := by
  intro ρ w0 l s κ alt D h
  unfold mA3 at h
  split at h
  · exact .inr (known_of follows_mixed plans_ok smF68_ok (C68_eq _ _ _ s κ) h)
  · exact .inl h
set_option maxRecDepth 100000 in
theorem smF81_ok : SumsOk Try.prog smF81 := sumOr_ok sumsB_ok (sumOr_ok (sumRes_ok M76_ok) (sumOr_ok (sumRes_ok M77_ok) (sumOr_ok (sumRes_ok M79_ok) (sumOr_ok (sumRes_ok M80_ok) (sumOr_ok (sumRes_ok M102_ok) (noSums_ok))))))
set_option maxRecDepth 100000 in
theorem M81_ok : ResOk Try.prog 81 (mA3 C81) := by
  intro ρ w0 l s κ alt D h
  unfold mA3 at h
  split at h
  · exact .inr (known_of follows_mixed plans_ok smF81_ok (C81_eq _ _ _ s κ) h)
  · exact .inl h
set_option maxRecDepth 100000 in
theorem smF91_ok : SumsOk Try.prog smF91 := sumOr_ok sumsB_ok (sumOr_ok (sumRes_ok M34_ok) (sumOr_ok (sumRes_ok M37_ok) (sumOr_ok (sumRes_ok M50_ok) (sumOr_ok (sumRes_ok M82_ok) (noSums_ok)))))
set_option maxRecDepth 100000 in
theorem M91_ok : ResOk Try.prog 91 (mA1 C91) := by
  intro ρ w0 l s κ alt D h
  unfold mA1 at h
  split at h
  · exact .inr (known_of follows_mixed plans_ok smF91_ok (C91_eq _ s κ) h)
  · exact .inl h
set_option maxRecDepth 100000 in
theorem smF95_ok : SumsOk Try.prog smF95 := sumOr_ok sumsB_ok (sumOr_ok (sumRes_ok M110_ok) (sumOr_ok (sumRes_ok M111_ok) (chR3_ok)))
set_option maxRecDepth 100000 in
theorem M95_ok : ResOk Try.prog 95 (mA3 C95) := by
  intro ρ w0 l s κ alt D h
  unfold mA3 at h
  split at h
  · exact .inr (known_of follows_mixed plans_ok smF95_ok (C95_eq _ _ _ s κ) h)
  · exact .inl h
set_option maxRecDepth 100000 in
theorem chR4_ok : SumsOk Try.prog chR4 := sumOr_ok (sumRes_ok M39_ok) (sumOr_ok (sumRes_ok M57_ok) (sumOr_ok (sumRes_ok M63_ok) (sumOr_ok (sumRes_ok M68_ok) (sumOr_ok (sumRes_ok M81_ok) (sumOr_ok (sumRes_ok M91_ok) (sumOr_ok (sumRes_ok M95_ok) (chR3_ok)))))))
set_option maxRecDepth 100000 in
theorem smF18_ok : SumsOk Try.prog smF18 := sumOr_ok sumsB_ok (sumOr_ok (sumRes_ok M33_ok) (sumOr_ok (sumRes_ok M34_ok) (sumOr_ok (sumRes_ok M35_ok) (sumOr_ok (sumRes_ok M36_ok) (sumOr_ok (sumRes_ok M37_ok) (sumOr_ok (sumRes_ok M38_ok) (sumOr_ok (sumRes_ok M39_ok) (sumOr_ok (sumRes_ok M40_ok) (noSums_ok)))))))))
set_option maxRecDepth 100000 in
theorem M18_ok : ResOk Try.prog 18 (mA3 C18) := by
  intro ρ w0 l s κ alt D h
  unfold mA3 at h
  split at h
  · exact .inr (known_of follows_mixed plans_ok smF18_ok (C18_eq _ _ _ s κ) h)
  · exact .inl h
set_option maxRecDepth 100000 in
theorem smF43_ok : SumsOk Try.prog smF43 := sumOr_ok sumsB_ok (sumOr_ok (sumRes_ok M63_ok) (sumOr_ok (sumRes_ok M64_ok) (noSums_ok)))
set_option maxRecDepth 100000 in
theorem M43_ok : ResOk Try.prog 43 (mA2 C43) := by
  intro ρ w0 l s κ alt D h
  unfold mA2 at h
  split at h
  · exact .inr (known_of follows_mixed plans_ok smF43_ok (C43_eq _ _ s κ) h)
  · exact .inl h
set_option maxRecDepth 100000 in
theorem smF45_ok : SumsOk Try.prog smF45 := sumOr_ok sumsB_ok (sumOr_ok (sumRes_ok M37_ok) (sumOr_ok (sumRes_ok M38_ok) (sumOr_ok (sumRes_ok M39_ok) (sumOr_ok (sumRes_ok M64_ok) (sumOr_ok (sumRes_ok M65_ok) (sumOr_ok (sumRes_ok M66_ok) (sumOr_ok (sumRes_ok M67_ok) (sumOr_ok (sumRes_ok M68_ok) (chR4_ok)))))))))
set_option maxRecDepth 100000 in
theorem M45_ok : ResOk Try.prog 45 (mA2 C45) := by
  intro ρ w0 l s κ alt D h
  unfold mA2 at h
  split at h
  · exact .inr (known_of follows_mixed plans_ok smF45_ok (C45_eq _ _ s κ) h)
  · exact .inl h
set_option maxRecDepth 100000 in
theorem smF55_ok : SumsOk Try.prog smF55 := sumOr_ok sumsB_ok (sumOr_ok (sumRes_ok M25_ok) (sumOr_ok (sumRes_ok M39_ok) (sumOr_ok (sumRes_ok M49_ok) (sumOr_ok (sumRes_ok M62_ok) (sumOr_ok (sumRes_ok M86_ok) (noSums_ok))))))
set_option maxRecDepth 100000 in
theorem M55_ok : ResOk Try.prog 55 (mA2 C55) := by
  intro ρ w0 l s κ alt D h
  unfold mA2 at h
  split at h
  · exact .inr (known_of follows_mixed plans_ok smF55_ok (C55_eq _ _ s κ) h)
  · exact .inl h
set_option maxRecDepth 100000 in
theorem smF56_ok : SumsOk Try.prog smF56 := sumOr_ok sumsB_ok (sumOr_ok (sumRes_ok M38_ok) (sumOr_ok (sumRes_ok M39_ok) (sumOr_ok (sumRes_ok M47_ok) (noSums_ok))))
set_option maxRecDepth 100000 in
theorem M56_ok : ResOk Try.prog 56 (mA2 C56) := by
  intro ρ w0 l s κ alt D h
  unfold mA2 at h
  split at h
  · exact .inr (known_of follows_mixed plans_ok smF56_ok (C56_eq _ _ s κ) h)
  · exact .inl h
set_option maxRecDepth 100000 in
theorem smF59_ok : SumsOk Try.prog smF59 := sumOr_ok sumsB_ok (sumOr_ok (sumRes_ok M37_ok) (sumOr_ok (sumRes_ok M38_ok) (sumOr_ok (sumRes_ok M44_ok) (sumOr_ok (sumRes_ok M49_ok) (sumOr_ok (sumRes_ok M62_ok) (sumOr_ok (sumRes_ok M93_ok) (sumOr_ok (sumRes_ok M94_ok) (sumOr_ok (sumRes_ok M95_ok) (noSums_ok)))))))))
set_option maxRecDepth 100000 in
theorem M59_ok : ResOk Try.prog 59 (mA2 C59) := by
  intro ρ w0 l s κ alt D h
  unfold mA2 at h
  split at h
  · exact .inr (known_of follows_mixed plans_ok smF59_ok (C59_eq _ _ s κ) h)
  · exact .inl h
set_option maxRecDepth 100000 in
theorem chR5_ok : SumsOk Try.prog chR5 := sumOr_ok (sumRes_ok M18_ok) (sumOr_ok (sumRes_ok M43_ok) (sumOr_ok (sumRes_ok M45_ok) (sumOr_ok (sumRes_ok M55_ok) (sumOr_ok (sumRes_ok M56_ok) (sumOr_ok (sumRes_ok M59_ok) (chR4_ok))))))
set_option maxRecDepth 100000 in
theorem smF21_ok : SumsOk Try.prog smF21 := sumOr_ok sumsB_ok (sumOr_ok (sumRes_ok M43_ok) (noSums_ok))
set_option maxRecDepth 100000 in
theorem M21_ok : ResOk Try.prog 21 (mA2 C21) := by
  intro ρ w0 l s κ alt D h
  unfold mA2 at h
  split at h
  · exact .inr (known_of follows_mixed plans_ok smF21_ok (C21_eq _ _ s κ) h)
  · exact .inl h
set_option maxRecDepth 100000 in
theorem smF23_ok : SumsOk Try.prog smF23 := sumOr_ok sumsB_ok (sumOr_ok (sumRes_ok M38_ok) (sumOr_ok (sumRes_ok M40_ok) (sumOr_ok (sumRes_ok M44_ok) (sumOr_ok (sumRes_ok M45_ok) (noSums_ok)))))
set_option maxRecDepth 100000 in
theorem M23_ok : ResOk Try.prog 23 (mA3 C23) := by
  intro ρ w0 l s κ alt D h
  unfold mA3 at h
  split at h
  · exact .inr (known_of follows_mixed plans_ok smF23_ok (C23_eq _ _ _ s κ) h)
  · exact .inl h
set_option maxRecDepth 100000 in
theorem smF27_ok : SumsOk Try.prog smF27 := sumOr_ok sumsB_ok (sumOr_ok (sumRes_ok M33_ok) (sumOr_ok (sumRes_ok M45_ok) (sumOr_ok (sumRes_ok M47_ok) (noSums_ok))))
set_option maxRecDepth 100000 in
theorem M27_ok : ResOk Try.prog 27 (mA2 C27) := by
  intro ρ w0 l s κ alt D h
  unfold mA2 at h
  split at h
  · exact .inr (known_of follows_mixed plans_ok smF27_ok (C27_eq _ _ s κ) h)
  · exact .inl h
set_option maxRecDepth 100000 in
theorem smF48_ok : SumsOk Try.prog smF48 := sumOr_ok sumsB_ok (sumOr_ok (sumRes_ok M37_ok) (sumOr_ok (sumRes_ok M38_ok) (sumOr_ok (sumRes_ok M45_ok) (sumOr_ok (sumRes_ok M47_ok) (sumOr_ok (sumRes_ok M63_ok) (sumOr_ok (sumRes_ok M64_ok) (sumOr_ok (sumRes_ok M66_ok) (sumOr_ok (sumRes_ok M67_ok) (sumOr_ok (sumRes_ok M68_ok) (sumOr_ok (sumRes_ok M69_ok) (sumOr_ok (sumRes_ok M70_ok) (noSums_ok))))))))))))
set_option maxRecDepth 100000 in
theorem M48_ok : ResOk Try.prog 48 (mA1 C48) := by
  intro ρ w0 l s κ alt D h
  unfold mA1 at h
  split at h
  · exact .inr (known_of follows_mixed plans_ok smF48_ok (C48_eq _ s κ) h)
  · exact .inl h
set_option maxRecDepth 100000 in
theorem smF54_ok : SumsOk Try.prog smF54 := sumOr_ok sumsB_ok (sumOr_ok (sumRes_ok M45_ok) (sumOr_ok (sumRes_ok M47_ok) (sumOr_ok (sumRes_ok M51_ok) (sumOr_ok (sumRes_ok M63_ok) (sumOr_ok (sumRes_ok M64_ok) (sumOr_ok (sumRes_ok M82_ok) (sumOr_ok (sumRes_ok M83_ok) (sumOr_ok (sumRes_ok M84_ok) (sumOr_ok (sumRes_ok M85_ok) (noSums_ok))))))))))
set_option maxRecDepth 100000 in
theorem M54_ok : ResOk Try.prog 54 (mA2 C54) := by
  intro ρ w0 l s κ alt D h
  unfold mA2 at h
  split at h
  · exact .inr (known_of follows_mixed plans_ok smF54_ok (C54_eq _ _ s κ) h)
  · exact .inl h
set_option maxRecDepth 100000 in
theorem smF60_ok : SumsOk Try.prog smF60 := sumOr_ok sumsB_ok (sumOr_ok (sumRes_ok M37_ok) (sumOr_ok (sumRes_ok M38_ok) (sumOr_ok (sumRes_ok M45_ok) (sumOr_ok (sumRes_ok M62_ok) (sumOr_ok (sumRes_ok M92_ok) (noSums_ok))))))
set_option maxRecDepth 100000 in
theorem M60_ok : ResOk Try.prog 60 (mA2 C60) := by
  intro ρ w0 l s κ alt D h
  unfold mA2 at h
  split at h
  · exact .inr (known_of follows_mixed plans_ok smF60_ok (C60_eq _ _ s κ) h)
  · exact .inl h
set_option maxRecDepth 100000 in
theorem chR6_ok : SumsOk Try.prog chR6 := sumOr_ok (sumRes_ok M21_ok) (sumOr_ok (sumRes_ok M23_ok) (sumOr_ok (sumRes_ok M27_ok) (sumOr_ok (sumRes_ok M48_ok) (sumOr_ok (sumRes_ok M54_ok) (sumOr_ok (sumRes_ok M60_ok) (chR5_ok))))))
set_option maxRecDepth 100000 in
theorem smF26_ok : SumsOk Try.prog smF26 := sumOr_ok sumsB_ok (sumOr_ok (sumRes_ok M38_ok) (sumOr_ok (sumRes_ok M39_ok) (sumOr_ok (sumRes_ok M46_ok) (sumOr_ok (sumRes_ok M47_ok) (sumOr_ok (sumRes_ok M48_ok) (sumOr_ok (sumRes_ok M49_ok) (sumOr_ok (sumRes_ok M50_ok) (noSums_ok))))))))
set_option maxRecDepth 100000 in
theorem M26_ok : ResOk Try.prog 26 (mA2 C26) := by
  intro ρ w0 l s κ alt D h
  unfold mA2 at h
  split at h
  · exact .inr (known_of follows_mixed plans_ok smF26_ok (C26_eq _ _ s κ) h)
  · exact .inl h
set_option maxRecDepth 100000 in
theorem chR7_ok : SumsOk Try.prog chR7 := sumOr_ok (sumRes_ok M26_ok) (chR6_ok)
set_option maxRecDepth 100000 in
theorem smF32_ok : SumsOk Try.prog smF32 := sumOr_ok sumsB_ok (chR7_ok)
set_option maxRecDepth 100000 in
theorem M32_ok : ResOk Try.prog 32 (mA2 C32) := by
  intro ρ w0 l s κ alt D h
  unfold mA2 at h
  split at h
  · exact .inr (known_of follows_mixed plans_ok smF32_ok (C32_eq _ _ s κ) h)
  · exact .inl h
set_option maxRecDepth 100000 in
theorem smF52_ok : SumsOk Try.prog smF52 := sumOr_ok sumsB_ok (sumOr_ok (sumRes_ok M73_ok) (sumOr_ok (sumRes_ok M74_ok) (sumOr_ok (sumRes_ok M81_ok) (chR7_ok))))
set_option maxRecDepth 100000 in
theorem M52_ok : ResOk Try.prog 52 (mA1 C52) := by
  intro ρ w0 l s κ alt D h
  unfold mA1 at h
  split at h
  · exact .inr (known_of follows_mixed plans_ok smF52_ok (C52_eq _ s κ) h)
  · exact .inl h
set_option maxRecDepth 100000 in
theorem smF108_ok : SumsOk Try.prog smF108 := sumOr_ok sumsB_ok (chR7_ok)
set_option maxRecDepth 100000 in
theorem M108_ok : ResOk Try.prog 108 (mA3 C108) := by
  intro ρ w0 l s κ alt D h
  unfold mA3 at h
  split at h
  · exact .inr (known_of follows_mixed plans_ok smF108_ok (C108_eq _ _ _ s κ) h)
  · exact .inl h
set_option maxRecDepth 100000 in
theorem chR8_ok : SumsOk Try.prog chR8 := sumOr_ok (sumRes_ok M32_ok) (sumOr_ok (sumRes_ok M52_ok) (sumOr_ok (sumRes_ok M108_ok) (chR7_ok)))
set_option maxRecDepth 100000 in
theorem smF30_ok : SumsOk Try.prog smF30 := sumOr_ok sumsB_ok (sumOr_ok (sumRes_ok M52_ok) (noSums_ok))
set_option maxRecDepth 100000 in
theorem M30_ok : ResOk Try.prog 30 (mA1 C30) := by
  intro ρ w0 l s κ alt D h
  unfold mA1 at h
  split at h
  · exact .inr (known_of follows_mixed plans_ok smF30_ok (C30_eq _ s κ) h)
  · exact .inl h
set_option maxRecDepth 100000 in
theorem smF88_ok : SumsOk Try.prog smF88 := sumOr_ok sumsB_ok (sumOr_ok (sumRes_ok M35_ok) (sumOr_ok (sumRes_ok M37_ok) (sumOr_ok (sumRes_ok M64_ok) (sumOr_ok (sumRes_ok M82_ok) (sumOr_ok (sumRes_ok M84_ok) (sumOr_ok (sumRes_ok M91_ok) (sumOr_ok (sumRes_ok M108_ok) (noSums_ok))))))))
set_option maxRecDepth 100000 in
theorem M88_ok : ResOk Try.prog 88 (mA2 C88) := by
  intro ρ w0 l s κ alt D h
  unfold mA2 at h
  split at h
  · exact .inr (known_of follows_mixed plans_ok smF88_ok (C88_eq _ _ s κ) h)
  · exact .inl h
set_option maxRecDepth 100000 in
theorem chR9_ok : SumsOk Try.prog chR9 := sumOr_ok (sumRes_ok M30_ok) (sumOr_ok (sumRes_ok M88_ok) (chR8_ok))
set_option maxRecDepth 100000 in
theorem smF29_ok : SumsOk Try.prog smF29 := sumOr_ok sumsB_ok (sumOr_ok (sumRes_ok M30_ok) (sumOr_ok (sumRes_ok M43_ok) (sumOr_ok (sumRes_ok M51_ok) (noSums_ok))))
set_option maxRecDepth 100000 in
theorem M29_ok : ResOk Try.prog 29 (mA3 C29) := by
  intro ρ w0 l s κ alt D h
  unfold mA3 at h
  split at h
  · exact .inr (known_of follows_mixed plans_ok smF29_ok (C29_eq _ _ _ s κ) h)
  · exact .inl h
set_option maxRecDepth 100000 in
theorem smF58_ok : SumsOk Try.prog smF58 := sumOr_ok sumsB_ok (sumOr_ok (sumRes_ok M25_ok) (sumOr_ok (sumRes_ok M37_ok) (sumOr_ok (sumRes_ok M39_ok) (sumOr_ok (sumRes_ok M47_ok) (sumOr_ok (sumRes_ok M82_ok) (sumOr_ok (sumRes_ok M87_ok) (sumOr_ok (sumRes_ok M88_ok) (sumOr_ok (sumRes_ok M89_ok) (sumOr_ok (sumRes_ok M90_ok) (sumOr_ok (sumRes_ok M91_ok) (sumOr_ok (sumRes_ok M92_ok) (chR9_ok))))))))))))
set_option maxRecDepth 100000 in
theorem M58_ok : ResOk Try.prog 58 (mA2 C58) := by
  intro ρ w0 l s κ alt D h
  unfold mA2 at h
  split at h
  · exact .inr (known_of follows_mixed plans_ok smF58_ok (C58_eq _ _ s κ) h)
  · exact .inl h
set_option maxRecDepth 100000 in
theorem chR10_ok : SumsOk Try.prog chR10 := sumOr_ok (sumRes_ok M29_ok) (sumOr_ok (sumRes_ok M58_ok) (chR9_ok))
set_option maxRecDepth 100000 in
theorem smF16_ok : SumsOk Try.prog smF16 := sumOr_ok sumsB_ok (sumOr_ok (sumRes_ok M30_ok) (sumOr_ok (sumRes_ok M31_ok) (sumOr_ok (sumRes_ok M32_ok) (chR10_ok))))
set_option maxRecDepth 100000 in
theorem M16_ok : ResOk Try.prog 16 (mA3 C16) := by
  intro ρ w0 l s κ alt D h
  unfold mA3 at h
  split at h
  · exact .inr (known_of follows_mixed plans_ok smF16_ok (C16_eq _ _ _ s κ) h)
  · exact .inl h
set_option maxRecDepth 100000 in
theorem chR11_ok : SumsOk Try.prog chR11 := sumOr_ok (sumRes_ok M16_ok) (chR10_ok)
set_option maxRecDepth 100000 in
theorem smF19_ok : SumsOk Try.prog smF19 := sumOr_ok sumsB_ok (sumOr_ok (sumRes_ok M15_ok) (sumOr_ok (sumRes_ok M16_ok) (sumOr_ok (sumRes_ok M17_ok) (sumOr_ok (sumRes_ok M20_ok) (sumOr_ok (sumRes_ok M21_ok) (sumOr_ok (sumRes_ok M29_ok) (chR11_ok)))))))
set_option maxRecDepth 100000 in
theorem M19_ok : ResOk Try.prog 19 (mA0 C19) := by
  intro ρ w0 l s κ alt D h
  unfold mA0 at h
  split at h
  · exact .inr (known_of follows_mixed plans_ok smF19_ok (C19_eq s κ) h)
  · exact .inl h
set_option maxRecDepth 100000 in
theorem chR12_ok : SumsOk Try.prog chR12 := sumOr_ok (sumRes_ok M19_ok) (chR11_ok)
set_option maxRecDepth 100000 in
theorem smF13_ok : SumsOk Try.prog smF13 := sumOr_ok sumsB_ok (sumOr_ok (sumRes_ok M15_ok) (sumOr_ok (sumRes_ok M17_ok) (sumOr_ok (sumRes_ok M18_ok) (sumOr_ok (sumRes_ok M19_ok) (sumOr_ok (sumRes_ok M20_ok) (sumOr_ok (sumRes_ok M21_ok) (sumOr_ok (sumRes_ok M26_ok) (sumOr_ok (sumRes_ok M28_ok) (noSums_ok)))))))))
set_option maxRecDepth 100000 in
theorem M13_ok : ResOk Try.prog 13 (mA1 C13) := by
  intro ρ w0 l s κ alt D h
  unfold mA1 at h
  split at h
  · exact .inr (known_of follows_mixed plans_ok smF13_ok (C13_eq _ s κ) h)
  · exact .inl h
set_option maxRecDepth 100000 in
theorem chR13_ok : SumsOk Try.prog chR13 := sumOr_ok (sumRes_ok M13_ok) (chR12_ok)
theorem sumsR_ok : SumsOk Try.prog sumsR := sumOr_ok sumsB_ok chR13_ok
end
end Go.Proofs.Ytdklpcjipkhenaa
