/-
  HostAltered: a whole run, by the reckoner but for the place and the store.
-/
import Derived.Test.YtjjfmhaakickcaaGreatHay
set_option linter.unusedVariables false
set_option linter.unusedSimpArgs false
namespace Go.Proofs.YtjjfmhaakickcaaGreat
open Go

/-! the rope is another one from here on -/
structure Sw where
  pos : SI
  len : SI
  cs : List Ch
  cs' : List Ch
  fa : List (SB × Bool)
structure SwOk (ρ : Nat → Int) (X : Sw) : Prop where
  ex : ∃ (j : Nat) (z : Int), X.pos.ev ρ = (j : Int) ∧ (j : Int) < X.len.ev ρ ∧ (ropeZ ρ X.cs)[j]? = some z ∧ ropeZ ρ X.cs' = (ropeZ ρ X.cs).set j (bits .xor .u8 z (ρ 2))
noncomputable section
def sslOf (v : AV) : Option (Nat × SI) := match v with
  | .ssl id (.lit (.ofNat 0)) (.lit (.ofNat 0)) n none => some (id, n)
  | _ => none
def ropeOf (o : AObj) : Option (List Ch × TypeId × Bool) := match o with
  | .rope cs T r => some (cs, T, r)
  | _ => none
def isV (o : Option AV) (v : AV) : Bool := match o with
  | some u => AV.beq u v
  | none => false
def swC (X : Sw) (t : Ts) (v : AV) (n : SI) : Bool := isV (t.get 102) v && (isV (t.get 101) (.int .i64 X.pos) && (isV (t.get 104) (.int .i64 X.pos) && (isV (t.get 108) (.int .u8 (.var 2)) && (SI.beq n X.len && [105, 106, 109, 110].all fun d => isN (t.get d)))))
def slOf (v : AV) : Option (Nat × Nat) := match v with
  | .sl id 0 n none => some (id, n)
  | _ => none
def celOf (o : AObj) : Option (Nat × Tr AV × TypeId × Bool) := match o with
  | .cells n c none T r => some (n, c, T, r)
  | _ => none
def chBs (cs : List Ch) : Option (List SI) := match cs with
  | [.bs l] => some l
  | _ => none
def celsB (c : Tr AV) (l : List SI) : Nat → Bool := List.rec (motive := fun _ => Nat → Bool) (fun _ => true) (fun e _ ih i => isV (c.get i) (.int .u8 e) && ih (Nat.succ i)) l
def trU (l : List SI) : Tr AV := trOf (l.map (AV.int .u8))
/-- a row of cells, all told: it counts as a rope of these bytes -/
def swL (X : Sw) (s : St) (κ : RK) (t : Ts) (pc : PC) (v : AV) : R := optK (slOf v) 924 fun x => optK ((s.hp.get x.1).bind celOf) 925 fun y => optK (chBs X.cs) 926 fun A => optK (chBs X.cs') 927 fun B =>
  Bool.rec (motive := fun _ => R) (.fail 928) (κ ⟨s.hp.set x.1 (.cells y.1 (trU B) none y.2.2.1 y.2.2.2), s.nx, ⟨X.fa ++ pc.l, pc.smp, pc.rg⟩⟩ t) (Nat.beq A.length y.1 && (Nat.beq B.length y.1 && (Nat.beq x.2 y.1 && (celsB y.2.1 A 0 && (celsB (trU B) B 0 && swC X t v (natS x.2))))))
def swK (X : Sw) (s : St) (κ : RK) (t : Ts) (pc : PC) : R := t.getK 99 fun v => Option.rec (motive := fun _ => R) (swL X s κ t pc v) (fun x => optK ((s.hp.get x.1).bind ropeOf) 912 fun y =>
  Bool.rec (motive := fun _ => R) (.fail 913) (κ ⟨s.hp.set x.1 (.rope X.cs' y.2.1 y.2.2), s.nx, ⟨X.fa ++ pc.l, pc.smp, pc.rg⟩⟩ t) (chL X.cs y.1 && swC X t v x.2)) (sslOf v)
def sw29 (X : Sw) (s : St) (t : Ts) (κ : RK) : R := evQs Tryz.prog ops29 (nat_lit 112) s.hp (pick ops29 [0, 1, 2, 3, 4, 5, 8, 9]) .no t s.pc (swK X s κ)
end
theorem sslOf_eq {v : AV} {x : Nat × SI} (h : sslOf v = some x) : v = .ssl x.1 (.lit (.ofNat 0)) (.lit (.ofNat 0)) x.2 none := by
  unfold sslOf at h
  split at h
  · cases h; rfl
  · cases h
theorem ropeOf_eq {o : AObj} {y : List Ch × TypeId × Bool} (h : ropeOf o = some y) : o = .rope y.1 y.2.1 y.2.2 := by
  unfold ropeOf at h
  split at h
  · cases h; rfl
  · cases h
theorem isV_eq {o : Option AV} {v : AV} (h : isV o v = true) : o = some v := by
  unfold isV at h
  split at h
  · rw [AV.beq_eq _ _ h]
  · cases h
theorem GA.same {φ : List Pl} {ρ : Nat → Int} {t : Ts} {sz : Nat} {a a' : Act} {L : List Nat} (h : GA φ ρ t sz a) (hs : Same a a' L) (hL : ∀ d ∈ L, t.get d = none) : GA φ ρ t sz a' :=
  ⟨hs.1.trans h.size, fun d v hv => by
    rw [h.tm d v hv]
    exact congrArg some (hs.2.2 d (fun hd => by rw [hL d hd] at hv; cases hv)).symm, by rw [hs.2.1]; exact h.df⟩
section
variable {ρ : Nat → Int} {D : Dn} {X : Sw}
theorem slOf_eq {v : AV} {x : Nat × Nat} (h : slOf v = some x) : v = .sl x.1 0 x.2 none := by
  unfold slOf at h
  split at h
  · cases h; rfl
  · cases h
theorem celOf_eq {o : AObj} {y : Nat × Tr AV × TypeId × Bool} (h : celOf o = some y) : o = .cells y.1 y.2.1 none y.2.2.1 y.2.2.2 := by
  unfold celOf at h
  split at h
  · cases h; rfl
  · cases h
theorem chBs_eq {cs : List Ch} {l : List SI} (h : chBs cs = some l) : cs = [.bs l] := by
  unfold chBs at h
  split at h
  · cases h; rfl
  · cases h
theorem celsB_get {c : Tr AV} : ∀ {l : List SI} {k : Nat}, celsB c l k = true → ∀ i e, l[i]? = some e → celA c none (k + i) = some (.int .u8 e)
  | [], _, _, i, e, he => by cases he
  | x :: l, k, h, i, e, he => by
    have h : (isV (c.get k) (.int .u8 x) && celsB c l (Nat.succ k)) = true := h
    rw [Bool.and_eq_true] at h
    cases i with
    | zero =>
      cases he
      have := isV_eq h.1
      unfold celA
      rw [Nat.add_zero, this]
    | succ i =>
      rw [show k + (i + 1) = Nat.succ k + i by omega]
      exact celsB_get h.2 i e he
/-- one byte of a row that is told is another one -/
theorem Gm.cellSet {P : Program} {w0 : Base} {φ : List Pl} {s : St} {w : World} (hg : Gm P ρ w0 φ s w) {id n : Nat} {c c' : Tr AV} {A B : List SI} {T : TypeId} {row : Bool} {p : Pl} (hid : s.hp.get id = some (.cells n c none T row)) (hp : φ[id]? = some p) (hA : A.length = n) (hB : B.length = n) (cA : celsB c A 0 = true) (cB : celsB c' B 0 = true) {j : Nat} {z : Int} (hj : j < n) (hz : B.map (SI.ev ρ) = (A.map (SI.ev ρ)).set j z) :
    Gm P ρ w0 φ ⟨s.hp.set id (.cells n c' none T row), s.nx, s.pc⟩ (w.setCell ⟨p.blk, p.sh + j, none⟩ (.int .u8 z)) := by
  obtain ⟨p', arr, fz, hp', hr⟩ := hg.hp.obj _ _ hid
  rw [hp] at hp'
  cases hp'
  have hlt : p.blk < w.heap.size := (hg.lo id p hp).2
  have hsz : (w.setCell ⟨p.blk, p.sh + j, none⟩ (.int .u8 z)).heap.size = w.heap.size := by simp [World.setCell]
  have hh : (w.setCell ⟨p.blk, p.sh + j, none⟩ (.int .u8 z)).heap[p.blk]? = some (.cells (arr.setIfInBounds (p.sh + j) (.int .u8 z)) T fz) := by
    have h' : w.heap[p.blk] = .cells arr T fz := by have := hr.blk; simpa [Array.getElem?_eq_getElem hlt] using this
    show (w.heap.modify p.blk _)[p.blk]? = _
    rw [Array.getElem?_eq_getElem (by simpa using hlt), Array.getElem_modify_self, h']
    rfl
  have hk : Kp [p.blk] w (w.setCell ⟨p.blk, p.sh + j, none⟩ (.int .u8 z)) := by
    refine ⟨rfl, rfl, rfl, by rw [hsz]; exact Nat.le_refl _, fun k hk hn => ?_⟩
    simp only [List.mem_singleton] at hn
    show (w.heap.modify p.blk _)[k]? = _
    rw [Array.getElem?_modify, if_neg (fun e => hn e.symm)]
  refine hg.upd hid rfl hp hk ⟨p, _, fz, hp, ⟨hh, by rw [Array.size_setIfInBounds]; exact hr.size, hr.le, hr.fix, hr.es, hr.fr, fun i hi => ?_⟩⟩
  have hle := hr.le
  have hszz := hr.size
  have hib : i < B.length := by omega
  have hia : i < A.length := by omega
  have eB := celsB_get cB i B[i] (List.getElem?_eq_getElem hib)
  have eA := celsB_get cA i A[i] (List.getElem?_eq_getElem hia)
  rw [Nat.zero_add] at eA eB
  obtain ⟨v, x, e1, e2, e3, e4⟩ := hr.cell i hi
  rw [eA] at e1
  cases e1
  have hzi : (B.map (SI.ev ρ))[i]? = ((A.map (SI.ev ρ)).set j z)[i]? := by rw [hz]
  rw [List.getElem?_map, List.getElem?_eq_getElem hib, List.getElem?_set, List.getElem?_map, List.getElem?_eq_getElem hia] at hzi
  refine ⟨_, _, eB, rfl, ?_, rfl⟩
  by_cases hji : j = i
  · subst hji
    have hzi : B[j].ev ρ = z := by simpa [hia] using hzi
    rw [hzi]
    simp [show p.sh + j < arr.size by omega]
  · have hzi : B[i].ev ρ = A[i].ev ρ := by simpa [hji] using hzi
    rw [Array.getElem?_setIfInBounds_ne (by omega), e3, hzi, ← e2]
    rfl
set_option maxRecDepth 100000 in
theorem core29 {φ : List Pl} {w0 : Base} {a : Act} {w : World} {s s' : St} {t1 : Ts} {v : AV} {pos : SI} {n c j : Nat} {z : Int} {p : Pl} {arr : Array Value} {T : TypeId} {fz : Nat × Nat}
    (hq : ∀ C : World → Prop, (∀ w, C w → Hp Tryz.prog φ ρ s.hp w) → (∃ w, C w) → ∀ N : Act → Prop, (∀ a', GA φ ρ t1 112 a' → N a') → wpQuiet Tryz.prog ops29 C N (pick ops29 [0, 1, 2, 3, 4, 5, 8, 9]) a) (hm : Gm Tryz.prog ρ w0 φ s w)
    (hsl : conc φ ρ v = some (.slice (some ⟨p.blk, p.sh, none⟩) n c)) (hv : t1.get 99 = some v) (c102 : t1.get 102 = some v) (c101 : t1.get 101 = some (.int .i64 pos)) (c104 : t1.get 104 = some (.int .i64 pos)) (c108 : t1.get 108 = some (.int .u8 (.var 2))) (n105 : t1.get 105 = none) (n106 : t1.get 106 = none) (n109 : t1.get 109 = none) (n110 : t1.get 110 = none)
    (j1 : pos.ev ρ = j) (jn : j < n) (hb : w.heap[p.blk]? = some (.cells arr T fz)) (hcell : arr[p.sh + j]? = some (.int .u8 z)) (hfz : ¬ (fz.1 ≤ p.sh + j ∧ p.sh + j < fz.2))
    (hG : ∀ k, Gm Tryz.prog ρ w0 φ s' ((w.drewN k).setCell ⟨p.blk, p.sh + j, none⟩ (.int .u8 (bits .xor .u8 z (ρ 2))))) : (Code.region 29 ops29 true).wp Tryz.prog (Post Tryz.prog ρ w0 φ 112 .normal s' t1) a w := by
  refine wp_region_mix plan29 (by kernel_rfl) plan29_ok ?_
  show wpQuiet Tryz.prog ops29 (Dr w) _ (pick ops29 [0, 1, 2, 3, 4, 5, 8, 9] ++ pick ops29 [6, 7, 10, 11]) a
  refine wpQuiet_app (hq (Dr w) (fun w' ⟨n, hn⟩ => by rw [hn]; exact (hm.drewN n).hp) ⟨w, Dr.self w⟩ _ fun a1 g1 => ?_)
  rw [pick29]
  have e99 := (g1.tm 99 _ hv).symm.trans hsl
  have e102 := (g1.tm 102 _ c102).symm.trans hsl
  have e101 : some (Act.at a1 101) = some (Value.int .i64 j) := (g1.tm 101 _ c101).symm.trans (by rw [← j1]; rfl)
  have e104 : some (Act.at a1 104) = some (Value.int .i64 j) := (g1.tm 104 _ c104).symm.trans (by rw [← j1]; rfl)
  have e108 : some (Act.at a1 108) = some (Value.int .u8 (ρ 2)) := (g1.tm 108 _ c108).symm
  have hadd : (⟨p.blk, p.sh, none⟩ : Addr).add j = ⟨p.blk, p.sh + j, none⟩ := add_plain _ _ _
  have hlt : p.sh + j < arr.size := (Array.getElem?_eq_some_iff.1 hcell).1
  refine hand29 q29_6 q29_7 q29_10 q29_11 (q := ⟨p.blk, p.sh, none⟩) (n := n) (c := c) (j := j) (z := z) (b := ρ 2) g1.size (Option.some.inj e99) (Option.some.inj e102) (Option.some.inj e101) (Option.some.inj e104) (Option.some.inj e108) jn (fun w' ⟨n, hn⟩ => ?_) fun a2 s2 a110 a109 n => ?_
  · rw [hadd, hn]
    show World.cell? (w.drewN n) _ = _
    have hb : (w.drewN n).heap[p.blk]? = some (.cells arr T fz) := hb
    unfold World.cell?
    simp only [hb]
    exact hcell
  · rw [pick29']
    rw [hadd] at a110
    have p12 := q29_12.1
    have d12 := q29_12.2.1
    have g12 := q29_12.2.2
    have hrun := store29 (w := w.drewN n) p12 a110 a109 (show (w.drewN n).heap[p.blk]? = some (.cells arr T fz) from hb) hlt hfz
    refine wpList_plain g12 fun K hK => ?_
    unfold Oper.wp
    rw [hrun]
    refine hK _ _ ?_
    rw [d12]
    refine wpList_nil ⟨?_, ?_⟩
    · show _ = _
      rfl
    · show NoPanic _ .normal _ _
      refine NoPanic.normal ⟨rfl, φ, List.prefix_refl _, ?_, hG n⟩
      exact g1.same s2 (by
        intro d hd
        simp only [List.mem_cons, List.not_mem_nil, or_false] at hd
        rcases hd with rfl | rfl | rfl | rfl <;> assumption)
set_option maxRecDepth 100000 in
theorem sw29_ok (hX : SwOk ρ X) {s : St} {t : Ts} {κ : RK} (h : sw29 X s t κ ∈ D) : ∃ s' t', κ s' t' ∈ D ∧ PcExt s.pc s'.pc ∧ ∀ {w0 φ a w}, Holds ρ s'.pc → GA φ ρ t 112 a → Gm Tryz.prog ρ w0 φ s w →
    (Code.region 29 ops29 true).wp Tryz.prog (Post Tryz.prog ρ w0 φ 112 .normal s' t') a w := by
  obtain ⟨t1, pc1, h1, x1, _, q1⟩ := evQs_sound (ρ := ρ) (m := .no) trivial (show evQs Tryz.prog ops29 (nat_lit 112) s.hp (pick ops29 [0, 1, 2, 3, 4, 5, 8, 9]) .no t s.pc (swK X s κ) ∈ D from h)
  obtain ⟨v, hv, h2⟩ := getK_inv h1
  obtain ⟨j, z, j1, j2, j3, j4⟩ := hX.ex
  have hj : j < (ropeZ ρ X.cs).length := (List.getElem?_eq_some_iff.1 j3).1
  have fin : ∀ {n : SI}, swC X t1 v n = true → t1.get 102 = some v ∧ t1.get 101 = some (.int .i64 X.pos) ∧ t1.get 104 = some (.int .i64 X.pos) ∧ t1.get 108 = some (.int .u8 (.var 2)) ∧ n = X.len ∧ t1.get 105 = none ∧ t1.get 106 = none ∧ t1.get 109 = none ∧ t1.get 110 = none := by
    intro n hc
    simp only [swC, Bool.and_eq_true, List.all_cons, List.all_nil, isN_iff] at hc
    obtain ⟨c102, c101, c104, c108, cn, n105, n106, n109, n110, _⟩ := hc
    exact ⟨isV_eq c102, isV_eq c101, isV_eq c104, isV_eq c108, SI.beq_eq _ _ cn, n105, n106, n109, n110⟩
  cases hx : sslOf v with
  | some x =>
    rw [hx] at h2
    obtain ⟨y, hy, h4⟩ := optK_inv (show optK ((s.hp.get x.1).bind ropeOf) 912 (fun y => Bool.rec (motive := fun _ => R) (.fail 913) (κ ⟨s.hp.set x.1 (.rope X.cs' y.2.1 y.2.2), s.nx, ⟨X.fa ++ pc1.l, pc1.smp, pc1.rg⟩⟩ t1) (chL X.cs y.1 && swC X t1 v x.2)) ∈ D from h2)
    obtain ⟨hc, h5⟩ := brec_inv h4
    simp only [Option.bind_eq_some_iff] at hy
    obtain ⟨o, ho, hy⟩ := hy
    obtain rfl := ropeOf_eq hy
    obtain rfl := sslOf_eq hx
    rw [Bool.and_eq_true] at hc
    obtain ⟨hcs, hc⟩ := hc
    have hcs := chL_eq _ _ hcs
    obtain ⟨c102, c101, c104, c108, cn, n105, n106, n109, n110⟩ := fin hc
    refine ⟨_, _, h5, x1.trans ⟨⟨X.fa, rfl⟩, rfl⟩, fun {w0 φ a w} hρ hg hm => ?_⟩
    have hρ1 : Holds ρ pc1 := ⟨fun y hy => hρ.l y (List.mem_append_right _ hy), hρ.rg⟩
    obtain ⟨p, arr, fz, hp, hr⟩ := hm.hp.obj _ _ ho
    rw [← hcs] at hr
    obtain ⟨c, hsl⟩ : ∃ c, conc φ ρ (.ssl x.1 (.lit (.ofNat 0)) (.lit (.ofNat 0)) x.2 none) = some (.slice (some ⟨p.blk, p.sh, none⟩) (x.2.ev ρ).toNat c) := by
      simp only [conc, hp, Option.map_some, SI.ev]
      by_cases h0 : (x.2.ev ρ).toNat = 0 ∧ p.room (Int.ofNat 0).toNat = 0
      · exact ⟨0, congrArg some ((if_pos h0).trans (by rw [h0.1]; rfl))⟩
      · exact ⟨p.room (Int.ofNat 0).toNat, congrArg some (if_neg h0)⟩
    have hlt : p.sh + j < arr.size := by have := hr.le; have := hr.size; omega
    exact core29 (q1 (φ := φ) hρ1 hg) hm hsl hv c102 c101 c104 c108 n105 n106 n109 n110 j1 (by rw [cn]; omega) hr.blk (hr.cell j z j3) (hr.fr _ (by rw [← hr.size]; exact hlt))
      (fun k => ((hm.drewN k).pc ⟨X.fa ++ pc1.l, pc1.smp, pc1.rg⟩).ropeSet (by rw [← hcs] at ho; exact ho) hp hj j4)
  | none =>
    rw [hx] at h2
    have h2 : swL X s κ t1 pc1 v ∈ D := h2
    unfold swL at h2
    obtain ⟨x, hx, h2⟩ := optK_inv h2
    obtain ⟨y, hy, h2⟩ := optK_inv h2
    obtain ⟨A, hA, h2⟩ := optK_inv h2
    obtain ⟨B, hB, h2⟩ := optK_inv h2
    obtain ⟨hc, h5⟩ := brec_inv h2
    simp only [Option.bind_eq_some_iff] at hy
    obtain ⟨o, ho, hy⟩ := hy
    obtain rfl := celOf_eq hy
    obtain rfl := slOf_eq hx
    have hA := chBs_eq hA
    have hB := chBs_eq hB
    simp only [Bool.and_eq_true, natBeq, decide_eq_true_eq] at hc
    obtain ⟨lA, lB, ln, kA, kB, hc⟩ := hc
    obtain ⟨c102, c101, c104, c108, cn, n105, n106, n109, n110⟩ := fin hc
    have eA : ropeZ ρ X.cs = A.map (SI.ev ρ) := by rw [hA]; simp [ropeZ, Ch.zs]
    have eB : ropeZ ρ X.cs' = B.map (SI.ev ρ) := by rw [hB]; simp [ropeZ, Ch.zs]
    rw [eA] at j3 j4 hj
    rw [eB] at j4
    rw [List.length_map] at hj
    refine ⟨_, _, h5, x1.trans ⟨⟨X.fa, rfl⟩, rfl⟩, fun {w0 φ a w} hρ hg hm => ?_⟩
    have hρ1 : Holds ρ pc1 := ⟨fun y hy => hρ.l y (List.mem_append_right _ hy), hρ.rg⟩
    obtain ⟨p, arr, fz, hp, hr⟩ := hm.hp.obj _ _ ho
    have hsl : conc φ ρ (.sl x.1 0 x.2 none) = some (.slice (some ⟨p.blk, p.sh, none⟩) x.2 (p.room 0)) := by
      simp only [conc, hp, Option.map_some, Option.getD_none, Nat.add_zero]
    have hlt : p.sh + j < arr.size := by have := hr.le; have := hr.size; omega
    obtain ⟨v, xx, e1, e2, e3, _⟩ := hr.cell j (by omega)
    have hja := celsB_get kA j A[j] (List.getElem?_eq_getElem hj)
    rw [Nat.zero_add, e1] at hja
    cases hja
    have hzz : A[j].ev ρ = z := by
      rw [List.getElem?_map, List.getElem?_eq_getElem hj] at j3
      exact Option.some.inj j3
    cases e2
    rw [hzz] at e3
    have hln : X.len.ev ρ = (x.2 : Int) := by rw [← cn]; rfl
    exact core29 (q1 (φ := φ) hρ1 hg) hm hsl hv c102 c101 c104 c108 n105 n106 n109 n110 j1 (by omega) hr.blk e3 (hr.fr _ (by rw [← hr.size]; exact hlt))
      (fun k => ((hm.drewN k).pc ⟨X.fa ++ pc1.l, pc1.smp, pc1.rg⟩).cellSet ho hp lA lB kA kB (by omega) j4)
end

/-! the call of bytes -/
noncomputable section
variable (ih : EvT)
def endB (κ : AV → St → R) (e : Ex) (s : St) (t : Ts) : R := Ex.rec (motive := fun _ => R) (.fail 920) (fun _ => .fail 921) (Bool.rec (motive := fun _ => R) (.fail 922) (t.getK 2 fun v => κ v s) (isN (t.get 112))) e
def boolOf (v : AV) : Option SB := match v with
  | .bool c => some c
  | _ => none
def sw28 (X : Sw) (κ : AV → St → R) (e : Ex) (s : St) (t : Ts) : R := Ex.rec (motive := fun _ => R) (t.getK 98 fun v => optK (boolOf v) 914 fun c => decK s.pc c fun b pc => Bool.rec (motive := fun _ => R) (.fail 915) (sw29 X ⟨s.hp, s.nx, pc⟩ t fun s t => ih 7 112 tlB s t (endB κ)) b) (fun _ => .fail 916) (.fail 917) e
def swB (X : Sw) (κ : AV → St → R) (e : Ex) (s : St) (t : Ts) : R := Ex.rec (motive := fun _ => R) (ih 7 112 r28 s t (sw28 ih X κ)) (fun _ => .fail 918) (.fail 919) e
def bytesR (X : Sw) (v : AV) (s : St) (κ : AV → St → R) : R := evL ih 7 112 preB s (tsOf 112 [v]) (swB ih X κ)
def oneV (args : List AV) : Option AV := match args with
  | [v] => some v
  | _ => none
def callB (call : CallT) (X : Sw) : CallT := fun f args s κ => Bool.rec (motive := fun _ => R) (call f args s κ) (optK (oneV args) 923 fun v => bytesR ih X v s κ) (Nat.beq f 7)
end
theorem boolOf_eq {v : AV} {c : SB} (h : boolOf v = some c) : v = .bool c := by
  unfold boolOf at h
  split at h
  · cases h; rfl
  · cases h
theorem oneV_eq {l : List AV} {v : AV} (h : oneV l = some v) : l = [v] := by
  unfold oneV at h
  split at h
  · cases h; rfl
  · cases h
structure Env (ρ : Nat → Int) (pl : Plans) (ih : EvT) (call : CallT) : Prop where
  ih : CodeSound Tryz.prog ρ pl ih
  call : CallSound Tryz.prog ρ call
  b1 : ∀ c ∈ preB, codeOk pl 7 c = true
  b2 : codeOk pl 7 r28 = true
  b3 : codeOk pl 7 tlB = true
  l1 : ∀ c ∈ preL, codeOk pl 3 c = true
  l2 : ∀ c ∈ midL, codeOk pl 3 c = true
  l3 : codeOk pl 3 tlL = true
section
variable {ρ : Nat → Int} {pl : Plans} {ih : EvT} {call : CallT} {X : Sw}
theorem ga_enter {φ : List Pl} {n : Nat} {args : List AV} {xs : List Value} (hxs : concL φ ρ args = some xs) (hn : args.length ≤ n) : GA φ ρ (tsOf n args) n { tmps := xs.toArray ++ Array.replicate (n - xs.toArray.size) undef, defers := [] } := by
  have hl := concL_length hxs
  have hts : ∀ d v, (tsOf n args).get d = some v → d < args.length := fun d v hv => (List.getElem?_eq_some_iff.1 (tsOf_get hv)).1
  refine ⟨by simp [hl]; omega, fun d v hv => ?_, ?_⟩
  · obtain ⟨x, e1, e2⟩ := concL_get hxs (tsOf_get hv)
    rw [e1]
    congr 1
    have hd2 : d < xs.length := (List.getElem?_eq_some_iff.1 e2).1
    rw [List.getElem?_eq_getElem hd2] at e2
    cases e2
    simp [Array.getD, Array.getElem_append, hd2]
    intro h; omega
  · cases hg : (tsOf n args).get n with
    | none => exact .none
    | some v => have := hts _ _ hg; omega
theorem df_none {φ : List Pl} {t : Ts} {sz : Nat} {a : Act} (h : GA φ ρ t sz a) (hn : t.get sz = none) : a.defers = [] := by
  have hd := h.df
  rw [hn] at hd
  generalize a.defers = ds at hd ⊢
  cases hd
  rfl
set_option maxRecDepth 100000 in
theorem callB_ok (E : Env ρ pl ih call) (hX : SwOk ρ X) : CallSound Tryz.prog ρ (callB ih call X) := by
  intro f args s κ D hD
  rcases brec_cases (show Bool.rec (motive := fun _ => R) (call f args s κ) (optK (oneV args) 923 fun v => bytesR ih X v s κ) (Nat.beq f 7) ∈ D from hD) with ⟨hf, h⟩ | ⟨_, h⟩
  rotate_left
  · exact E.call h
  rw [natBeq] at hf
  have hf := of_decide_eq_true hf
  subst hf
  obtain ⟨v, hv, h⟩ := optK_inv h
  obtain rfl := oneV_eq hv
  obtain ⟨e, s1, t1, h1, x1, q1⟩ := evL_sound E.ih E.b1 h
  cases e with
  | exit i => cases h1
  | ret => cases h1
  | normal =>
    obtain ⟨e, s2, t2, h2, x2, q2⟩ := E.ih E.b2 (show ih 7 112 r28 s1 t1 (sw28 ih X κ) ∈ D from h1)
    cases e with
    | exit i => cases h2
    | ret => cases h2
    | normal =>
      obtain ⟨v98, hg98, h2⟩ := getK_inv (show t2.getK 98 (fun v => optK (boolOf v) 914 fun c => decK s2.pc c fun b pc => Bool.rec (motive := fun _ => R) (.fail 915) (sw29 X ⟨s2.hp, s2.nx, pc⟩ t2 fun s t => ih 7 112 tlB s t (endB κ)) b) ∈ D from h2)
      obtain ⟨c98, hc98, h2⟩ := optK_inv h2
      obtain rfl := boolOf_eq hc98
      obtain ⟨b98, pcd, h2, xd, hd⟩ := decK_inv h2
      obtain ⟨hb98, h2⟩ := brec_inv h2
      subst hb98
      obtain ⟨s3, t3, h3, x3, q3⟩ := sw29_ok hX h2
      obtain ⟨e, s4, t4, h4, x4, q4⟩ := E.ih E.b3 h3
      cases e with
      | exit i => cases h4
      | normal => cases h4
      | ret =>
        obtain ⟨hn, h4⟩ := brec_inv (show Bool.rec (motive := fun _ => R) (.fail 922) (t4.getK 2 fun v => κ v s4) (isN (t4.get 112)) ∈ D from h4)
        obtain ⟨u, hu, h5⟩ := getK_inv h4
        refine ⟨u, s4, h5, x1.trans (x2.trans (xd.trans (x3.trans x4))), fun {w0 φ w xs} hρ hxs hm => ?_⟩
        refine .of (enter_of Tryz.func7 (by kernel_rfl) (by kernel_rfl) _ _) (calls_of_wp (c := cOf 7) Tryz.func7 (by kernel_rfl) ?_)
        rw [bodyB_eq]
        have g0 := ga_enter (n := 112) hxs (by show 1 ≤ 112; omega)
        rw [show Tryz.f7.ntmps = 112 by kernel_rfl]
        refine q1 (hρ.of_ext (x2.trans (xd.trans (x3.trans x4)))) g0 hm _ _ fun a1 w1 hp1 => ?_
        obtain ⟨_, φ1, p1, g1, m1⟩ := hp1
        show (Code.seq (.seq r28 (.cond (.tmp 98) (.region 29 ops29 true) .skip)) tlB).wp Tryz.prog _ a1 w1
        refine wp_seq (wp_seq (Code.wp_mono (fun e a2 w2 hp2 => ?_) (q2 (hρ.of_ext (xd.trans (x3.trans x4))) g1 m1)))
        obtain ⟨rfl, φ2, p2, g2, m2⟩ := hp2
        show (Code.cond (.tmp 98) (.region 29 ops29 true) .skip).wp Tryz.prog _ a2 w2
        have hρd := hρ.of_ext (x3.trans x4)
        have hv98 : some (Value.bool (c98.ev ρ)) = some (Act.at a2 98) := g2.tm 98 _ hg98
        rw [hd ρ hρd] at hv98
        refine wp_cond_true (Option.some.inj hv98).symm (Code.wp_mono (fun e a3 w3 hp3 => ?_) (q3 (hρ.of_ext x4) g2 (m2.pc pcd)))
        obtain ⟨rfl, φ3, p3, g3, m3⟩ := hp3
        show tlB.wp Tryz.prog _ a3 w3
        refine Code.wp_mono (fun e a4 w4 hp4 => ?_) (q4 hρ g3 m3)
        obtain ⟨rfl, φ4, p4, g4, m4⟩ := hp4
        refine bodyPost_ret (results_tmp rfl _ _ _) (df_none g4 (isN_iff.1 hn)) ⟨φ4, _, rfl, p1.trans (p2.trans (p3.trans p4)), ?_, m4⟩
        exact g4.tm 2 _ hu
end

/-! the whole run -/
noncomputable section
variable (ih : EvT) (call : CallT)
def finA (s : St) (t : Ts) : R := Bool.rec (motive := fun _ => R) (.fail 903) (t.getK 8 fun v => .done v ⟨.nil, nat_lit 0, ⟨s.pc.l, [], []⟩⟩) (isN (t.get 134))
def retA (e : Ex) (s : St) (t : Ts) : R := Ex.rec (motive := fun _ => R) (.fail 904) (fun _ => .fail 905) (finA s t) e
def midA (X : Sw) (e : Ex) (s : St) (t : Ts) : R := Ex.rec (motive := fun _ => R) (evOps Tryz.prog ops23 (callB ih call X) (nat_lit 134) ops23.toList .no s t fun s t => ih 3 134 tlL s t retA) (fun _ => .fail 906) (finA s t) e
def plA (X : Sw) (E14 : SI) (e : Ex) (s : St) (t : Ts) : R := Ex.rec (motive := fun _ => R) (Bool.rec (motive := fun _ => R) (.fail 907) (evL ih 3 134 midL s (Tr.set t 15 (.int .i64 (.var 3))) (midA ih call X)) ([69, 70, 71, 72, 73, 74, 75, 76, 77, 78].all (fun d => isN (t.get d)) && (isV (t.get 1) (.int .i64 (.var 1)) && (isN (t.get 134) && isV (t.get 14) (.int .i64 E14))))) (fun _ => .fail 908) (.fail 909) e
def altR (X : Sw) (E14 : SI) (s : St) (args : List AV) : R := evL ih 3 134 preL s (tsOf 134 args) (plA ih call X E14)
end
section
variable {ρ : Nat → Int} {pl : Plans} {ih : EvT} {call : CallT} {X : Sw} {D : Dn}
theorem finA_ok {s : St} {t : Ts} (h : finA s t ∈ D) : s.pc.l = D.S.pc.l ∧ ∀ {w0 φ a w}, GA φ ρ t 134 a → Gm Tryz.prog ρ w0 φ s w → D.V = .bool (.lit true) → bodyPost Tryz.prog Tryz.f3 (fun e w' => e = .returned (.bool true) ∧ Kp [] w0.w0 w') .ret a w := by
  obtain ⟨hn, h⟩ := brec_inv h
  obtain ⟨v, hv, h⟩ := getK_inv h
  obtain ⟨hV, hS⟩ : v = D.V ∧ (⟨.nil, nat_lit 0, ⟨s.pc.l, [], []⟩⟩ : St) = D.S := h
  refine ⟨by rw [← hS], fun {w0 φ a w} hg hm hb => ?_⟩
  refine bodyPost_ret (results_tmp rfl _ _ _) (df_none hg (isN_iff.1 hn)) ⟨?_, hm.kp⟩
  have := hg.tm 8 _ hv
  rw [hV, hb] at this
  exact congrArg _ (Option.some.inj this).symm
set_option maxRecDepth 100000 in
/-- A RUN OF THE LAW. -/
theorem alt_main (E : Env ρ pl ih call) (hX : SwOk ρ X) {E14 : SI} {args : List AV} {pcs acc : List (SB × Bool)} {rg : List (Int × Int)} {L : List (AV × List (SB × Bool))} (hen : endsR (altR ih call X E14 ⟨.nil, nat_lit 0, ⟨pcs, [[]], rg⟩⟩ args) acc = some L) (hL : ∀ x ∈ L, (∀ y ∈ x.2, y.1.ev ρ = y.2) → x.1 = .bool (.lit true))
    (hacc : ∀ x ∈ acc, x.1.ev ρ = x.2) (hrg : RgOk ρ rg) {y : Int} (hy : E14.ev ρ = y) (hy2 : 2 ≤ y ∧ y ≤ 100000) (h3 : ρ 3 = place (ρ 1) y) {xs : List Value} (hxs : concL [] ρ args = some xs) (hl : args.length ≤ 134) (W : World) (hfo : FoOk ρ W) :
    Calls Tryz.prog 3 xs.toArray W fun e w' => e = .returned (.bool true) ∧ Kp [] W w' := by
  obtain ⟨V, S, l, h1, h2, h2', h4⟩ := endsR_inv (ρ := ρ) _ hen hacc
  have hV : V = .bool (.lit true) := hL _ h2 h2'
  obtain ⟨e, s1, t1, e1, x1, q1⟩ := evL_sound E.ih E.l1 h1
  cases e with
  | exit i => cases e1
  | ret => cases e1
  | normal =>
    obtain ⟨hc, e1⟩ := brec_inv (show Bool.rec (motive := fun _ => R) (.fail 907) (evL ih 3 134 midL s1 (Tr.set t1 15 (.int .i64 (.var 3))) (midA ih call X)) ([69, 70, 71, 72, 73, 74, 75, 76, 77, 78].all (fun d => isN (t1.get d)) && (isV (t1.get 1) (.int .i64 (.var 1)) && (isN (t1.get 134) && isV (t1.get 14) (.int .i64 E14)))) ∈ Dn.mk ρ V S from e1)
    simp only [Bool.and_eq_true] at hc
    obtain ⟨c1, c2, c0, c3⟩ := hc
    obtain ⟨e, s2, t2, e2, x2, q2⟩ := evL_sound E.ih E.l2 e1
    -- what goes on behind the place
    have go : ∀ (b : Bool), (Holds ρ s2.pc → ∀ {w0 φ a w}, w0.w0 = W → GA φ ρ t2 134 a → Gm Tryz.prog ρ w0 φ s2 w → Exit.then (fun a w => (Code.seq (.region 23 ops23 false) tlL).wp Tryz.prog (bodyPost Tryz.prog Tryz.f3 (fun e w' => e = .returned (.bool true) ∧ Kp [] W w')) a w) (bodyPost Tryz.prog Tryz.f3 (fun e w' => e = .returned (.bool true) ∧ Kp [] W w')) (exOf e) a w) → Holds ρ s2.pc →
        Calls Tryz.prog 3 xs.toArray W fun e w' => e = .returned (.bool true) ∧ Kp [] W w' := by
      intro _ hgo hρ
      refine calls_of_wp (c := cOf 3) Tryz.func3 (by kernel_rfl) ?_
      rw [bodyL_eq]
      have g0 := ga_enter (n := 134) hxs hl
      rw [show Tryz.f3.ntmps = 134 by kernel_rfl]
      refine q1 (w0 := ⟨W, []⟩) (hρ.of_ext x2) g0 (Gm.start W hfo _ _ _) _ _ fun a1 w1 hp1 => ?_
      obtain ⟨_, φ1, p1, g1, m1⟩ := hp1
      show (Code.seq (.region 16 ops16 false) (.seq (.seq (.region 17 ops17 false) (.cond (.tmp 74) (.region 18 ops18 false) .skip)) (seqs midL (.seq (.region 23 ops23 false) tlL)))).wp Tryz.prog _ a1 w1
      have t1' := g1.tm 1 _ (isV_eq c2)
      have t14 := g1.tm 14 _ (isV_eq c3)
      refine place_ok (x := ρ 1) (y := y) g1.size (Option.some.inj t1').symm (by rw [← hy]; exact (Option.some.inj t14).symm) hy2 fun a2 s2' h15 => ?_
      have g2 : GA φ1 ρ (Tr.set t1 15 (.int .i64 (.var 3))) 134 a2 := by
        refine ⟨s2'.1.trans g1.size, fun d v hv => ?_, ?_⟩
        · have hw : Tr.get (Tr.set t1 15 (.int .i64 (.var 3))) d = some v := hv
          rw [Tr.get_set] at hw
          by_cases hd : d = 15
          · rw [if_pos hd] at hw
            subst hd
            obtain rfl := Option.some.inj hw
            show some (Value.int .i64 (ρ 3)) = some (Act.at a2 15)
            rw [h15, h3]
          · rw [if_neg hd] at hw
            rw [g1.tm d v hw]
            refine congrArg some (s2'.2.2 d fun hm => ?_).symm
            simp only [List.mem_cons, List.not_mem_nil, or_false] at hm
            have hn : ∀ d ∈ [69, 70, 71, 72, 73, 74, 75, 76, 77, 78], t1.get d = none := fun d hd => isN_iff.1 (List.all_eq_true.1 c1 d hd)
            have : d ∈ [69, 70, 71, 72, 73, 74, 75, 76, 77, 78] := by
              simp only [List.mem_cons, List.not_mem_nil, or_false]
              omega
            have hw : t1.get d = some v := hw
            rw [hn d this] at hw
            cases hw
        · show DfOk φ1 ρ (Tr.get (Tr.set t1 15 (.int .i64 (.var 3))) 134) a2.defers
          rw [Tr.get_set, if_neg (by decide), s2'.2.1]
          exact g1.df
      refine q2 hρ g2 m1 _ _ fun a3 w3 hp3 => ?_
      obtain ⟨_, φ3, p3, g3, m3⟩ := hp3
      exact hgo hρ rfl g3 m3
    have hS : ∀ pc : PC, PcExt s2.pc pc → pc.l = S.pc.l → Holds ρ pc := fun pc hx he => ⟨by rw [he]; exact h4, by rw [hx.rg, x2.rg, x1.rg]; exact hrg⟩
    cases e with
    | exit i => cases e2
    | ret =>
      obtain ⟨f1, f2⟩ := finA_ok (ρ := ρ) (show finA s2 t2 ∈ Dn.mk ρ V S from e2)
      exact go true (fun hρ {w0 φ a w} hw hg hm => by
        have := f2 hg hm hV
        rw [hw] at this
        exact this) (hS _ (.refl _) f1)
    | normal =>
      obtain ⟨s3, t3, e3, x3, _, q3⟩ := evOps_sound (callB_ok E hX) (m := .no) trivial (show evOps Tryz.prog ops23 (callB ih call X) 134 ops23.toList .no s2 t2 (fun s t => ih 3 134 tlL s t retA) ∈ Dn.mk ρ V S from e2)
      obtain ⟨e, s4, t4, e4, x4, q4⟩ := E.ih E.l3 e3
      cases e with
      | exit i => cases e4
      | normal => cases e4
      | ret =>
        obtain ⟨f1, f2⟩ := finA_ok (ρ := ρ) (show finA s4 t4 ∈ Dn.mk ρ V S from e4)
        have hρ4 : Holds ρ s4.pc := hS _ (x3.trans x4) f1
        refine go true (fun hρ {w0 φ a w} hw hg hm => ?_) (hρ4.of_ext (x3.trans x4))
        show (Code.seq (.region 23 ops23 false) tlL).wp Tryz.prog _ a w
        refine wp_seq (wp_region_list (q3 (hρ4.of_ext x4) hg hm _ fun φ1 a1 w1 p1 g1 m1 => ?_))
        show tlL.wp Tryz.prog _ a1 w1
        refine Code.wp_mono (fun e a2 w2 hp2 => ?_) (q4 hρ4 g1 m1)
        obtain ⟨rfl, φ2, p2, g2, m2⟩ := hp2
        have := f2 g2 m2 hV
        rw [hw] at this
        exact this
end
end Go.Proofs.YtjjfmhaakickcaaGreat
