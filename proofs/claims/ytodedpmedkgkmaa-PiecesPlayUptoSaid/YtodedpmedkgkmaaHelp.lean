/-
  The laws' own small functions over bytes: same, roomy, stands, spoil.
-/
import Derived.Test.YtodedpmedkgkmaaRows
import Derived.Test.YtodedpmedkgkmaaRingPlain
import Derived.Test.YtodedpmedkgkmaaMix
set_option linter.unusedVariables false
set_option linter.unusedSimpArgs false
namespace Go.Proofs.Ytodedpmedkgkmaa
open Go.RowKit

theorem infoU8 : (Try.prog.info? 5).map (fun i => (i.zero, i.size, i.bytes)) = some (some (.int .u8 0), 1, 1) := by kernel_rfl

theorem Byt.ptr {w : World} {p : Option Addr} {c n : Nat} {l : List UInt8} (h : Byt w (.slice p n c) l) {k : Nat} (hk : k < l.length) : ∃ b o, p = some ⟨b, o, none⟩ ∧ ∀ i, i < l.length → w.cell? ⟨b, o + i, none⟩ = some (bv (l.getD i 0)) := by
  rcases h with ⟨_, _, _, _, _, rfl⟩ | ⟨b, o, cap, h1, _, _, h2⟩
  · simp at hk
  · simp only [Value.slice.injEq] at h1
    exact ⟨b, o, h1.1, h2⟩
theorem Byt.len {w : World} {p : Option Addr} {c n : Nat} {l : List UInt8} (h : Byt w (.slice p n c) l) : n = l.length ∧ n ≤ c ∧ n ≤ maxLen := by
  rcases h with ⟨_, _, h1, _, _, rfl⟩ | ⟨b, o, cap, h1, h2, h3, _⟩ <;> simp only [Value.slice.injEq] at h1
  · obtain ⟨_, rfl, rfl⟩ := h1; simp
  · obtain ⟨_, rfl, rfl⟩ := h1; exact ⟨rfl, h2, Nat.le_trans h2 h3⟩
theorem Byt.shape {w : World} {v : Value} {l : List UInt8} (h : Byt w v l) : ∃ p c, v = .slice p l.length c := by
  rcases h with ⟨_, _, rfl, _, _, rfl⟩ | ⟨b, o, cap, rfl, _⟩ <;> exact ⟨_, _, rfl⟩
/-- the head of what is read -/
theorem Byt.take {w : World} {p : Option Addr} {c n : Nat} {l : List UInt8} (h : Byt w (.slice p n c) l) {k : Nat} (hk : k ≤ n) : Byt w (.slice p k c) (l.take k) := by
  rcases h with ⟨p0, c0, h1, hp, hm, rfl⟩ | ⟨b, o, cap, h1, h2, h3, h4⟩ <;> simp only [Value.slice.injEq] at h1
  · obtain ⟨rfl, rfl, rfl⟩ := h1
    obtain rfl : k = 0 := by omega
    exact .inl ⟨_, _, rfl, hp, hm, by simp⟩
  · obtain ⟨rfl, rfl, rfl⟩ := h1
    have e : (l.take k).length = k := by simp; omega
    refine .inr ⟨b, o, c, by rw [e], by omega, h3, fun i hi => ?_⟩
    rw [e] at hi
    have hh := h4 i (by omega)
    simpa [List.getD_eq_getElem?_getD, List.getElem?_take, hi] using hh

/-- what roomy gives -/
def Roomy (w : World) (l : List UInt8) (e : Ending) (w' : World) : Prop := ∃ v, e = .returned v ∧ OwnB w' w.heap.size 5 v (l ++ [171]) ∧ Kp [] w w'

theorem roomy_post {w w1 w2 w3 : World} {p1 p2 p3 : Option Addr} {c1 c2 c3 : Nat} {l : List UInt8} {o1 o2 o3 : Obj} {t : TypeId} (hown1 : OwnB w1 w.heap.size t (.slice p1 l.length c1) l) (hown2 : OwnB w2 w.heap.size t (.slice p2 (l.length + 1) c2) (l ++ [171]))
    (hown3 : OwnB w3 w.heap.size 5 (.slice p3 (l.length + 2) c3) (l ++ [171, 171])) (hk1 : Kp (obp (some ⟨w.heap.size, 0, none⟩)) (w.alloc o1) w1) (hk2 : Kp (obp p1) (w1.alloc o2) w2) (hk3 : Kp (obp p2) (w2.alloc o3) w3) :
    Roomy w l (.returned (.slice p3 (l.length + 1) c3)) w3 := by
  have h3 := hown3.take (k := l.length + 1) (by omega)
  have e1 : (l ++ [171, 171]).take (l.length + 1) = l ++ [171] := by
    rw [show l ++ [171, 171] = (l ++ [171]) ++ [171] by simp, List.take_left' (by simp)]
  rw [e1] at h3
  have k1 : Kp [] w w1 := ((Kp.refl [] w).alloc o1).trans' hk1 (by simp) (fun i hi => .inr (by simp [obp] at hi; omega))
  have k2 : Kp [] w w2 := (k1.alloc o2).trans' hk2 (by simp) (fun i hi => .inr (hown1.obp_le i hi))
  exact ⟨_, rfl, h3, (k2.alloc o3).trans' hk3 (by simp) (fun i hi => .inr (hown2.obp_le i hi))⟩

theorem stands_of {l1 l2 : List UInt8} (h : l1.length = l2.length + 1) : sameTo l1 (l2 ++ [171]) = (sameTo (l1.take l2.length) l2 && (((l1.getD l2.length 0).toNat : Int) == 171)) := by
  unfold sameTo
  have e : l1 = l1.take l2.length ++ [l1.getD l2.length 0] := by
    conv => lhs; rw [← List.take_append_drop l2.length l1]
    congr 1
    apply List.ext_getElem
    · simp; omega
    · intro i h1 h2
      obtain rfl : i = 0 := by simp at h2; omega
      simp [List.getD_eq_getElem?_getD, h]
  rw [Bool.eq_iff_iff]
  simp only [decide_eq_true_eq, Bool.and_eq_true, beq_iff_eq]
  constructor
  · rintro rfl
    simp
  · rintro ⟨h1, h2⟩
    rw [e, h1]
    congr 2
    apply UInt8.toNat_inj.1
    simpa using (by omega : (l1.getD l2.length 0).toNat = 171)

/-- the tail of what is read: at the end of the room the address stays -/
theorem Byt.drop1 {w : World} {p : Option Addr} {c n : Nat} {l : List UInt8} (h : Byt w (.slice p n c) l) {k : Nat} (hk : k ≤ n) (hc : c = k) : Byt w (.slice p (n - k) (c - k)) (l.drop k) := by
  have hl := h.len
  rcases h with ⟨p0, c0, h1, hp, hm, rfl⟩ | ⟨b, o, cap, h1, h2, h3, h4⟩ <;> simp only [Value.slice.injEq] at h1
  · obtain ⟨rfl, rfl, rfl⟩ := h1
    exact .inl ⟨_, _, by rw [Nat.zero_sub], fun e => by have := hp e; omega, by omega, by simp⟩
  · obtain ⟨rfl, rfl, rfl⟩ := h1
    exact .inr ⟨b, o, c - k, by simp, by simp; omega, by omega, fun i hi => by simp at hi; omega⟩
theorem Byt.drop2 {w : World} {p : Option Addr} {c n : Nat} {l : List UInt8} (h : Byt w (.slice p n c) l) {k : Nat} (hk : k ≤ n) (hc : ¬ c = k) : Byt w (.slice (p.map (fun x => x.add k)) (n - k) (c - k)) (l.drop k) := by
  have hl := h.len
  rcases h with ⟨p0, c0, h1, hp, hm, rfl⟩ | ⟨b, o, cap, h1, h2, h3, h4⟩ <;> simp only [Value.slice.injEq] at h1
  · obtain ⟨rfl, rfl, rfl⟩ := h1
    exact .inl ⟨_, _, by rw [Nat.zero_sub], fun e => by have := hp (by simpa using e); omega, by omega, by simp⟩
  · obtain ⟨rfl, rfl, rfl⟩ := h1
    refine .inr ⟨b, o + k, c - k, by simp [add_lit], by simp; omega, by omega, fun i hi => ?_⟩
    rw [List.length_drop] at hi
    rw [getD_drop', Nat.add_assoc]
    exact h4 (k + i) (by omega)
theorem obp_map (p : Option Addr) (k : Nat) : obp (p.map (fun x => x.add k)) = obp p := by
  cases p with
  | none => rfl
  | some a => simp only [obp, Option.map_some]; congr 1; unfold Addr.add; split <;> rfl

set_option maxHeartbeats 400000 in
theorem l13_same (v1 v2 : Value) (l1 l2 : List UInt8) (w : World) (hb1 : Byt w v1 l1) (hb2 : Byt w v2 l2) :
    Calls Try.prog 18 #[v1, v2] w fun e w' => e = .returned (.bool (sameTo l1 l2)) ∧ ∃ n, w' = w.drewN n := by
  obtain ⟨p1, c1, rfl, hm1, h1⟩ := hb1.cases
  obtain ⟨p2, c2, rfl, hm2, h2⟩ := hb2.cases
  unfold maxLen at hm1 hm2
  clear hb1 hb2
  by_cases hl : l1.length = l2.length
  · have HL := Lib.hid hl
    have H1 := Lib.hid h1
    have H2 := Lib.hid h2
    clear hl h1 h2
    go_enter Try.func18, Try.ntmps18
    have hne : ((l1.length : Int) != (l2.length : Int)) = false := by simp [HL.out]
    go_wp2
    go_loopw [5] (fun i wr => ∃ k : Nat, k ≤ l1.length ∧ i = .int .i64 k ∧ l1.take k = l2.take k ∧ ∃ n, wr = w.drewN n) (fun i _ => l1.length - (intOf i).toNat)
    case atStart => exact ⟨0, Nat.zero_le _, rfl, rfl, 0, rfl⟩
    case round =>
      obtain ⟨k, hk, rfl, hrow, n, rfl⟩ := hrel
      have Hrow := Lib.hid hrow
      clear hrow
      by_cases hlt : k < l1.length
      · have hlt2 : k < l2.length := by have := HL.out; omega
        obtain ⟨b1, o1, rfl, g1⟩ := H1.out.resolve_left (by rintro rfl; simp at hlt)
        obtain ⟨b2, o2, rfl, g2⟩ := H2.out.resolve_left (by rintro rfl; simp at hlt2)
        replace g1 := g1 k hlt
        replace g2 := g2 k hlt2
        unfold bv at g1 g2
        generalize hx : l1.getD k 0 = x at g1
        generalize hy : l2.getD k 0 = y at g2
        have Hx := Lib.hid hx
        have Hy := Lib.hid hy
        clear hx hy
        go_wp2
        go_quiet (fail)
        go_wp2
        · go_ret
          exact ⟨ret_bool (sameTo_no Hx.out Hy.out (by assumption)).symm, _, World.drewN_drewN _ _ _⟩
        · go_roundw
          case rel => exact ⟨k + 1, by omega, by go_num, take_next hlt hlt2 Hx.out Hy.out Hrow.out (by assumption), _, rfl⟩
          case measure => simp [intOf]; omega
      · go_wp2
        go_ret
        exact ⟨ret_bool (sameTo_all hk hlt HL.out Hrow.out).symm, _, rfl⟩
  · have hne : ((l1.length : Int) != (l2.length : Int)) = true := by simp; omega
    have HN := Lib.hid hl
    clear hl
    go_enter Try.func18, Try.ntmps18
    go_wp2
    go_ret
    exact ⟨ret_bool (sameTo_len HN.out).symm, 0, rfl⟩


set_option maxHeartbeats 800000 in
theorem l13_roomy (v : Value) (l : List UInt8) (w : World) (hb : Byt w v l) (hl : l.length ≤ 1073741824) :
    Calls Try.prog 12 #[v] w (Roomy w l) := by
  obtain ⟨p0, c0, rfl⟩ := hb.shape
  have HB := Lib.hid hb
  clear hb
  have hko : ∀ (w1 : World), Kp [] w w1 → Byt w1 (.slice p0 l.length c0) l := fun w1 k => HB.out.kp k (by simp)
  have HK := Lib.hid hko
  clear hko
  go_enter Try.func12, Try.ntmps12
  go_wp2_with (first
    | (at_builtin; refine wpList_append_bytes rfl (.tmp 3) (.tmp 4) 32 rfl 5 Try.underlying32 infoU8 w.heap.size [] l l l.length rfl rfl (own_new w _ _ (Nat.le_refl _)) (HK.out _ ((Kp.refl _ _).alloc _)) rfl ?_ ?_ ?_ ?_; omega; omega; simp; intro p1 c1 w1 hown1 hk1 ho1)
    | (at_builtin; refine wpList_append_bytes rfl (.tmp 5) (.tmp 6) 32 rfl 5 Try.underlying32 infoU8 w.heap.size l [171] (l ++ [171]) (l.length + 1) rfl rfl (own_alloc hown1 _) (byt_new w1 [171] _ (by unfold maxLen; simp)) rfl ?_ ?_ ?_ ?_; omega; omega; (have := hk1.size; simp at this ⊢; omega); intro p2 c2 w2 hown2 hk2 ho2)
    | (at_builtin; refine wpList_append_bytes rfl (.tmp 7) (.tmp 8) 32 rfl 5 Try.underlying32 infoU8 w.heap.size (l ++ [171]) [171] (l ++ [171, 171]) (l.length + 2) rfl rfl (own_alloc hown2 _) (byt_new w2 [171] _ (by unfold maxLen; simp)) (by simp) ?_ ?_ ?_ ?_; omega; omega; (have := hk1.size; have := hk2.size; simp at *; omega); intro p3 c3 w3 hown3 hk3 ho3; have hc3 := hown3.cap.2.1))
  go_ret
  exact roomy_post hown1 hown2 hown3 hk1 hk2 hk3

set_option maxHeartbeats 800000 in
theorem l13_stands (v1 v2 : Value) (l1 l2 : List UInt8) (w : World) (hb1 : Byt w v1 l1) (hb2 : Byt w v2 l2) (hl : l2.length ≤ 1073741824) :
    Calls Try.prog 15 #[v1, v2] w fun e w' => e = .returned (.bool (sameTo l1 (l2 ++ [171]))) ∧ ∃ n, w' = w.drewN n := by
  obtain ⟨p1, c1, rfl⟩ := hb1.shape
  obtain ⟨p2, c2, rfl⟩ := hb2.shape
  by_cases hlen : l1.length = l2.length + 1
  · have ht := hb1.take (k := l2.length) (by omega)
    obtain ⟨b1, o1, rfl, hc⟩ := hb1.ptr (k := l2.length) (by omega)
    have hcap := hb1.len.2.1
    have hx := hc l2.length (by omega)
    clear hc hb1
    have HT := Lib.hid ht
    have HB := Lib.hid hb2
    have HX := Lib.hid (stands_of hlen)
    have h2l : (l2.length : Int) < (l1.length : Int) := by omega
    have hle : ((l1.length : Int) == (l2.length : Int) + 1) = true := by rw [beq_iff_eq]; omega
    have hlt : l2.length < l1.length := by omega
    clear ht hb2 hlen
    unfold bv at hx
    generalize l1.getD l2.length 0 = x at hx HX
    cases hs : sameTo (l1.take l2.length) l2
    · rw [hs] at HX
      have HS := Lib.hid hs
      clear hs
      go_enter Try.func15, Try.ntmps15
      go_wp2_with (go_at_call 18; refine (l13_same _ _ _ _ _ HT.out HB.out).mono ?_; rw [HS.out]; rintro e w' ⟨rfl, n1, rfl⟩)
      go_ret
      exact ⟨ret_bool (by rw [HX.out]; rfl), n1, rfl⟩
    · rw [hs] at HX
      have HS := Lib.hid hs
      clear hs
      go_enter Try.func15, Try.ntmps15
      go_wp2_with (go_at_call 18; refine (l13_same _ _ _ _ _ HT.out HB.out).mono ?_; rw [HS.out]; rintro e w' ⟨rfl, n1, rfl⟩)
      go_ret
      exact ⟨ret_bool (by rw [HX.out]; simp), n1, rfl⟩
  · have hle : ((l1.length : Int) == (l2.length : Int) + 1) = false := by rw [beq_eq_false_iff_ne]; omega
    have e0 : sameTo l1 (l2 ++ [171]) = false := sameTo_len (by simp; exact hlen)
    rw [e0]
    clear hlen e0 hb1 hb2
    go_enter Try.func15, Try.ntmps15
    go_wp2
    go_ret
    exact ⟨rfl, 0, rfl⟩

set_option maxHeartbeats 800000 in
theorem l13_spoil (v : Value) (l : List UInt8) (w : World) (hown : OwnB w 0 5 v l) (hl : l.length ≤ 1073741824) :
    Calls Try.prog 16 #[v] w fun e w' => e = .returned (.tuple #[]) ∧ Kp (ob v) w w' := by
  obtain ⟨p0, c0, rfl, _⟩ := hown.shape
  rw [ob_slice]
  go_enter Try.func16, Try.ntmps16
  go_wp2_with (at_builtin; refine wpList_append_bytes rfl (.tmp 4) (.tmp 5) 32 rfl 5 Try.underlying32 infoU8 0 l [99] (l ++ [99]) (l.length + 1) rfl rfl (own_alloc hown _) (byt_new w [99] _ (by unfold maxLen; simp)) rfl ?_ ?_ ?_ ?_; omega; omega; omega; intro p1 c1 w1 hown1 hk1 ho1)
  obtain ⟨g, rfl, _⟩ := hown1.ptr (by omega)
  have hg : g ∈ obp p0 ∨ w.heap.size ≤ g := by
    rcases ho1 with h | h
    · exact .inl (by rw [← h]; simp [obp])
    · exact .inr (by simp [obp] at h; omega)
  have hkp : Kp (obp p0) w w1 := ((Kp.refl _ w).alloc _).trans hk1
  have hc1 := hown1.cap.2.1
  clear ho1 hk1
  go_loopw [3] (fun i wr => ∃ k : Nat, k ≤ l.length + 1 ∧ i = .int .i64 k ∧ (∃ l', OwnB wr 0 5 (.slice (some ⟨g, 0, none⟩) (l.length + 1) c1) l') ∧ Kp (obp p0) w wr) (fun i _ => l.length + 1 - (intOf i).toNat)
  case atStart => exact ⟨0, Nat.zero_le _, rfl, ⟨_, hown1⟩, hkp⟩
  case round =>
    obtain ⟨k, hk, rfl, ⟨l', hown'⟩, hkp'⟩ := hrel
    by_cases hlt : k < l.length + 1
    · have hcell := hown'.cellAt hlt
      have hfro := hown'.frozenAt k
      go_wp2
      go_roundw
      case rel => exact ⟨k + 1, by omega, by go_num, ⟨_, hown'.set k 98⟩, hkp'.setCell hg _⟩
      case measure => simp [intOf]; omega
    · go_wp2
      go_end0
      exact ⟨rfl, hkp'⟩

end Go.Proofs.Ytodedpmedkgkmaa
