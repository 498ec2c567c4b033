/-
  What is known ahead of a run of hosts with rows of bytes: two laws' own comparisons.
-/
import Derived.Test.YtfomfboennjfoaaGreatCg
import Derived.Test.YtfomfboennjfoaaGreatSson
set_option linter.unusedVariables false
set_option linter.unusedSimpArgs false
namespace Go.Proofs.YtfomfboennjfoaaGreat
open Go Go.RowKit

namespace S24
set_option maxHeartbeats 400000 in
theorem same_any (b1 o1 c1 b2 o2 c2 n : Nat) (z : Nat → Int) (hn : n < 4611686018427387904) (w : World) (h1 : ∀ i, i < n → w.cell? ⟨b1, o1 + i, none⟩ = some (.int .u8 (z i))) (h2 : ∀ i, i < n → w.cell? ⟨b2, o2 + i, none⟩ = some (.int .u8 (z i))) :
    Calls Tryz.prog 28 #[.slice (some ⟨b1, o1, none⟩) n c1, .slice (some ⟨b2, o2, none⟩) n c2] w fun e w' => e = .returned (.bool true) ∧ ∃ k, w' = w.drewN k := by
  have H1 := Lib.hid h1
  have H2 := Lib.hid h2
  clear h1 h2
  go_enter Tryz.func28, Tryz.ntmps28
  have hne : ((n : Int) != (n : Int)) = false := by simp
  go_wp2
  go_loopw [5] (fun i wr => ∃ k : Nat, k ≤ n ∧ i = .int .i64 k ∧ ∃ d, wr = w.drewN d) (fun i _ => n - (intOf i).toNat)
  case atStart => exact ⟨0, Nat.zero_le _, rfl, 0, rfl⟩
  case round =>
    obtain ⟨k, hk, rfl, d, rfl⟩ := hrel
    by_cases hlt : k < n
    · have g1 := H1.out k hlt
      have g2 := H2.out k hlt
      have hnz : (z k != z k) = false := by simp
      go_wp2
      go_quiet (fail)
      go_wp2
      go_roundw
      case rel => exact ⟨k + 1, by omega, by go_num, _, rfl⟩
      case measure => simp [intOf]; omega
    · go_wp2
      go_ret
      exact ⟨rfl, _, rfl⟩
theorem sumSame_ok : SumsOk Tryz.prog (sumSame 28) := by
  intro ρ f l s κ alt D h
  unfold sumSame at h
  rcases brec_cases h with ⟨hf, h1⟩ | ⟨_, h1⟩
  · rw [natBeq] at hf
    have hf := of_decide_eq_true hf
    subst hf
    unfold sameR at h1
    split at h1
    · rename_i x y
      rcases brec_cases h1 with ⟨hro, h2⟩ | ⟨_, h2⟩
      · rw [Bool.and_eq_true, Bool.and_eq_true] at hro
        obtain ⟨_, hx1, hy1⟩ := hro
        obtain ⟨n, h2, hn⟩ := lenS_inv h2
        obtain ⟨hlt, h2⟩ := brec_inv h2
        obtain ⟨cs, pc1, h3, hx, h4⟩ := readR_at' (P := Tryz.prog) (ρ := ρ) hx1 h2
        obtain ⟨ds, pc2, h5, hy, h6⟩ := readR_at' (P := Tryz.prog) (ρ := ρ) hy1 h3
        obtain ⟨cs', h7, e7⟩ := trimC_inv h5
        obtain ⟨ds', h8, e8⟩ := trimC_inv h7
        obtain ⟨cs2, h8, e7'⟩ := mrgK_inv h8
        obtain ⟨ds2, h8, e8'⟩ := mrgK_inv h8
        obtain ⟨he, h9⟩ := brec_inv h8
        refine .inr ⟨_, _, h9, hx.trans hy, fun {w0 φ w xs} hρ hxs hm => ?_⟩
        have hρ1 : Holds ρ pc1 := hρ.of_ext hy
        obtain ⟨y, ys, e1, e2, rfl⟩ := concL_cons.1 hxs
        obtain ⟨y2, ys2, e3, e4, rfl⟩ := concL_cons.1 e2
        simp only [concL, Option.some.injEq] at e4
        subst e4
        have hz : ropeZ ρ cs = ropeZ ρ ds := by rw [← e7, ← e8, ← e7' ρ hρ.rg, ← e8' ρ hρ.rg]; exact eqCs_ok he
        obtain ⟨b1, o1, m1, c1, rfl, hl1, hb1⟩ := h4 hρ1 hm e1
        obtain ⟨b2, o2, m2, c2, rfl, hl2, hb2⟩ := h6 hρ hm e3
        rw [← hz] at hl2 hb2
        have hrg : RgOk ρ s.pc.rg := by rw [← hx.rg, ← hy.rg]; exact hρ.rg
        have hsmall : m1 < 4611686018427387904 := by
          obtain ⟨l1, l2⟩ := ltB_ok hlt (ρ := ρ) hrg
          obtain ⟨_, _, _, _, e3, e4⟩ := hn hrg e1
          cases e3
          omega
        subst hl1
        subst hl2
        refine CallsOr.of (enter_of Tryz.func28 (by kernel_rfl) (by kernel_rfl) _ w) ?_
        refine (same_any b1 o1 c1 b2 o2 c2 _ (valZ (ropeZ ρ cs)) hsmall w (fun i hi => ?_) (fun i hi => ?_)).mono fun e' w' ⟨he, d, hk⟩ => ⟨φ, _, he, List.prefix_refl _, rfl, (hm.pc pc2).keeps (by rw [hk]; exact (Kp.refl _ _).drewN d)⟩
        · rw [hb1 i _ (List.getElem?_eq_getElem hi)]
          unfold valZ
          rw [List.getElem?_eq_getElem hi]
          rfl
        · rw [hb2 i _ (List.getElem?_eq_getElem hi)]
          unfold valZ
          rw [List.getElem?_eq_getElem hi]
          rfl
      · exact .inl h2
    · exact .inl h1
  · exact .inl h1
end S24
noncomputable def sumsQ : Sums := sumOr sumPartR (sumOr (sumSame 18) (sumOr (sumSame 28) sumsW))
theorem sumsQ_ok : SumsOk Tryz.prog sumsQ := sumOr_ok sumPartR_ok (sumOr_ok sumSame_ok (sumOr_ok S24.sumSame_ok sumsW_ok))
end Go.Proofs.YtfomfboennjfoaaGreat
