/-
  A law's own comparison of two rows of bytes (same), known ahead where both are told alike.
-/
import Derived.Test.YticednpolhnneaaGreatSrs
set_option linter.unusedVariables false
set_option linter.unusedSimpArgs false
namespace Go.Proofs.YticednpolhnneaaGreat
open Go Go.RowKit

noncomputable section
def eqSs (a : List SI) : List SI → Bool := List.rec (motive := fun _ => List SI → Bool) (fun b => List.rec (motive := fun _ => Bool) true (fun _ _ _ => false) b)
  (fun x _ ih b => List.rec (motive := fun _ => Bool) false (fun y b _ => SI.beq x y && ih b) b) a
def eqC (c d : Ch) : Bool := match c, d with
  | .bs a, .bs b => eqSs a b
  | .fil n v, .fil m u => SI.beq n m && SI.beq v u
  | .row a o n, .row b p m => Nat.beq a b && (SI.beq o p && SI.beq n m)
  | _, _ => false
def eqCs (a : List Ch) : List Ch → Bool := List.rec (motive := fun _ => List Ch → Bool) (fun b => List.rec (motive := fun _ => Bool) true (fun _ _ _ => false) b)
  (fun x _ ih b => List.rec (motive := fun _ => Bool) false (fun y b _ => eqC x y && ih b) b) a
/-- chunks of nothing left out -/
def trimC (cs : List Ch) : (List Ch → R) → R := List.rec (motive := fun _ => (List Ch → R) → R) (fun κ => κ []) (fun c _ ih κ => ih fun r => lenH c fun n => Bool.rec (motive := fun _ => R) (κ (c :: r)) (κ r) (isZ n)) cs
def locV (h : Tr AObj) (x : AV) : Bool := match x with
  | .sl _ _ _ _ => true
  | _ => ropy h x
def sameR (l : List AV) (s : St) (κ : AV → St → R) (alt : R) : R := match l with
  | [x, y] => Bool.rec (motive := fun _ => R) alt (lenS s.pc x fun n => Bool.rec (motive := fun _ => R) (.fail 483) (readR s.hp s.pc x fun cs pc => readR s.hp pc y fun ds pc => trimC cs fun cs => trimC ds fun ds => Bool.rec (motive := fun _ => R) (.fail 484) (κ (.bool (.lit true)) ⟨s.hp, s.nx, pc⟩) (eqCs cs ds)) (ltB s.pc.rg n)) ((ropy s.hp x || ropy s.hp y) && (locV s.hp x && locV s.hp y))
  | _ => alt
def sumSame (f0 : FuncId) : Sums := fun f l s κ alt => Bool.rec (motive := fun _ => R) alt (sameR l s κ alt) (Nat.beq f f0)
end
theorem eqSs_ok {ρ : Nat → Int} : ∀ {a b : List SI}, eqSs a b = true → a.map (SI.ev ρ) = b.map (SI.ev ρ)
  | [], [], _ => rfl
  | [], _ :: _, h => by cases h
  | _ :: _, [], h => by cases h
  | x :: a, y :: b, h => by
    have h : (SI.beq x y && eqSs a b) = true := h
    rw [Bool.and_eq_true] at h
    rw [List.map_cons, List.map_cons, SI.beq_eq _ _ h.1, eqSs_ok h.2]
theorem eqC_ok {ρ : Nat → Int} {c d : Ch} (h : eqC c d = true) : c.zs ρ = d.zs ρ := by
  unfold eqC at h
  split at h
  · simp only [Ch.zs]; exact eqSs_ok h
  · rw [Bool.and_eq_true] at h
    simp only [Ch.zs, SI.beq_eq _ _ h.1, SI.beq_eq _ _ h.2]
  · rw [Bool.and_eq_true, Bool.and_eq_true, natBeq, decide_eq_true_eq] at h
    obtain ⟨rfl, h1, h2⟩ := h
    simp only [Ch.zs, SI.beq_eq _ _ h1, SI.beq_eq _ _ h2]
  · cases h
theorem eqCs_ok {ρ : Nat → Int} : ∀ {a b : List Ch}, eqCs a b = true → ropeZ ρ a = ropeZ ρ b
  | [], [], _ => rfl
  | [], _ :: _, h => by cases h
  | _ :: _, [], h => by cases h
  | x :: a, y :: b, h => by
    have h : (eqC x y && eqCs a b) = true := h
    rw [Bool.and_eq_true] at h
    rw [ropeZ_cons, ropeZ_cons, eqC_ok h.1, eqCs_ok h.2]
theorem trimC_inv {D : Dn} : ∀ {cs : List Ch} {κ : List Ch → R}, trimC cs κ ∈ D → ∃ r, κ r ∈ D ∧ ∀ ρ, ropeZ ρ r = ropeZ ρ cs
  | [], κ, h => ⟨[], h, fun _ => rfl⟩
  | c :: cs, κ, h => by
    obtain ⟨r, h1, h2⟩ := trimC_inv (cs := cs) (κ := fun r => lenH c fun n => Bool.rec (motive := fun _ => R) (κ (c :: r)) (κ r) (isZ n)) h
    obtain ⟨n, h3, h4⟩ := lenH_inv h1
    rcases brec_cases h3 with ⟨hz, h5⟩ | ⟨_, h5⟩
    · refine ⟨r, h5, fun ρ => ?_⟩
      have hl := h4 ρ
      rw [isZ_ev hz] at hl
      have hn : c.zs ρ = [] := List.length_eq_zero_iff.1 (by omega)
      rw [ropeZ_cons, hn, h2]; rfl
    · exact ⟨_, h5, fun ρ => by rw [ropeZ_cons, ropeZ_cons, h2]⟩

set_option maxHeartbeats 400000 in
theorem same_any (b1 o1 c1 b2 o2 c2 n : Nat) (z : Nat → Int) (hn : n < 4611686018427387904) (w : World) (h1 : ∀ i, i < n → w.cell? ⟨b1, o1 + i, none⟩ = some (.int .u8 (z i))) (h2 : ∀ i, i < n → w.cell? ⟨b2, o2 + i, none⟩ = some (.int .u8 (z i))) :
    Calls Tryz.prog 21 #[.slice (some ⟨b1, o1, none⟩) n c1, .slice (some ⟨b2, o2, none⟩) n c2] w fun e w' => e = .returned (.bool true) ∧ ∃ k, w' = w.drewN k := by
  have H1 := Lib.hid h1
  have H2 := Lib.hid h2
  clear h1 h2
  go_enter Tryz.func21, Tryz.ntmps21
  have hne : ((n : Int) != (n : Int)) = false := by simp
  go_wp2
  go_loopw [5] (fun i wr => ∃ k : Nat, k ≤ n ∧ i = .int .i64 k ∧ ∃ d, wr = w.drewN d) (fun i _ => n - (intOf i).toNat)
  case atStart => exact ⟨0, Nat.zero_le _, rfl, 0, rfl⟩
  case round =>
    obtain ⟨k, hk, rfl, d, rfl⟩ := hrel
    by_cases hlt : k < n
    · have g1 := H1.out k hlt
      have g2 := H2.out k hlt
      have hnz : (z k != z k) = false := by simp
      go_wp2
      go_quiet (fail)
      go_wp2
      go_roundw
      case rel => exact ⟨k + 1, by omega, by go_num, _, rfl⟩
      case measure => simp [intOf]; omega
    · go_wp2
      go_ret
      exact ⟨rfl, _, rfl⟩
theorem sumSame_ok : SumsOk Tryz.prog (sumSame 21) := by
  intro ρ f l s κ alt D h
  unfold sumSame at h
  rcases brec_cases h with ⟨hf, h1⟩ | ⟨_, h1⟩
  · rw [natBeq] at hf
    have hf := of_decide_eq_true hf
    subst hf
    unfold sameR at h1
    split at h1
    · rename_i x y
      rcases brec_cases h1 with ⟨hro, h2⟩ | ⟨_, h2⟩
      · rw [Bool.and_eq_true, Bool.and_eq_true] at hro
        obtain ⟨_, hx1, hy1⟩ := hro
        obtain ⟨n, h2, hn⟩ := lenS_inv h2
        obtain ⟨hlt, h2⟩ := brec_inv h2
        obtain ⟨cs, pc1, h3, hx, h4⟩ := readR_at' (P := Tryz.prog) (ρ := ρ) hx1 h2
        obtain ⟨ds, pc2, h5, hy, h6⟩ := readR_at' (P := Tryz.prog) (ρ := ρ) hy1 h3
        obtain ⟨cs', h7, e7⟩ := trimC_inv h5
        obtain ⟨ds', h8, e8⟩ := trimC_inv h7
        obtain ⟨he, h9⟩ := brec_inv h8
        refine .inr ⟨_, _, h9, hx.trans hy, fun {w0 φ w xs} hρ hxs hm => ?_⟩
        have hρ1 : Holds ρ pc1 := hρ.of_ext hy
        obtain ⟨y, ys, e1, e2, rfl⟩ := concL_cons.1 hxs
        obtain ⟨y2, ys2, e3, e4, rfl⟩ := concL_cons.1 e2
        simp only [concL, Option.some.injEq] at e4
        subst e4
        have hz : ropeZ ρ cs = ropeZ ρ ds := by rw [← e7, ← e8]; exact eqCs_ok he
        obtain ⟨b1, o1, m1, c1, rfl, hl1, hb1⟩ := h4 hρ1 hm e1
        obtain ⟨b2, o2, m2, c2, rfl, hl2, hb2⟩ := h6 hρ hm e3
        rw [← hz] at hl2 hb2
        have hrg : RgOk ρ s.pc.rg := by rw [← hx.rg, ← hy.rg]; exact hρ.rg
        have hsmall : m1 < 4611686018427387904 := by
          obtain ⟨l1, l2⟩ := ltB_ok hlt (ρ := ρ) hrg
          obtain ⟨_, _, _, _, e3, e4⟩ := hn hrg e1
          cases e3
          omega
        subst hl1
        subst hl2
        refine CallsOr.of (enter_of Tryz.func21 (by kernel_rfl) (by kernel_rfl) _ w) ?_
        refine (same_any b1 o1 c1 b2 o2 c2 _ (valZ (ropeZ ρ cs)) hsmall w (fun i hi => ?_) (fun i hi => ?_)).mono fun e' w' ⟨he, d, hk⟩ => ⟨φ, _, he, List.prefix_refl _, rfl, (hm.pc pc2).keeps (by rw [hk]; exact (Kp.refl _ _).drewN d)⟩
        · rw [hb1 i _ (List.getElem?_eq_getElem hi)]
          unfold valZ
          rw [List.getElem?_eq_getElem hi]
          rfl
        · rw [hb2 i _ (List.getElem?_eq_getElem hi)]
          unfold valZ
          rw [List.getElem?_eq_getElem hi]
          rfl
      · exact .inl h2
    · exact .inl h1
  · exact .inl h1
noncomputable def sumsP : Sums := sumOr sumPartR (sumOr (sumSame 21) sumsB)
theorem sumsP_ok : SumsOk Tryz.prog sumsP := sumOr_ok sumPartR_ok (sumOr_ok sumSame_ok sumsB_ok)
end Go.Proofs.YticednpolhnneaaGreat
