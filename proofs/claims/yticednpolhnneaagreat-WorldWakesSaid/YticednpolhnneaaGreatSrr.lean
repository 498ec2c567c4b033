/-
  Ropes: rows that are made, copied, put behind one another.
-/
import Derived.Test.YticednpolhnneaaGreatSrq
import Derived.Test.YticednpolhnneaaGreatSxn
import Derived.Test.YticednpolhnneaaGreatSxl
set_option linter.unusedVariables false
set_option linter.unusedSimpArgs false
namespace Go.Proofs.YticednpolhnneaaGreat
open Go

section
variable {P : Program} {ρ : Nat → Int} {D : Dn}
/-- bytes as values -/
def bytV (zs : List Int) : List Value := zs.map fun z => .int .u8 z
theorem bytV_len (zs : List Int) : (bytV zs).length = zs.length := by simp [bytV]
theorem bytV_one (zs : List Int) : ∀ v ∈ bytV zs, v.oneCell' = true := by
  intro v hv
  simp only [bytV, List.mem_map] at hv
  obtain ⟨z, _, rfl⟩ := hv
  rfl
theorem first_bytes {w : World} {b o m c : Nat} {zs : List Int} (h : BytesAt w b o zs) {k : Nat} (hk : k ≤ zs.length) : (Builtin.firstCells 1 k (.slice (some ⟨b, o, none⟩) m c)).run P w = .ok (bytV (zs.take k)).toArray w := by
  have hr := run_loadCells_list (P := P) (w := w) ⟨b, o, none⟩ (bytV (zs.take k)) (fun j x hj => by
    simp only [bytV, List.getElem?_map, Option.map_eq_some_iff] at hj
    obtain ⟨z, hz, rfl⟩ := hj
    rw [List.getElem?_take] at hz
    split at hz
    · rw [add_plain]
      exact h j z hz
    · cases hz)
  have hm : (bytV (zs.take k)).length = k * 1 := by rw [bytV_len, List.length_take, Nat.mul_one, Nat.min_eq_left hk]
  rw [hm] at hr
  exact hr
theorem BytesAt.heap {w w' : World} {b o : Nat} {zs : List Int} (h : BytesAt w b o zs) (he : w'.heap = w.heap) : BytesAt w' b o zs := by
  intro i z hz
  have := h i z hz
  unfold World.cell? at this ⊢
  rw [he]
  exact this
theorem readR_sound {s : St} {x : AV} {pc : PC} {κ : List Ch → PC → R} (hD : readR s.hp pc x κ ∈ D) : ∃ cs pc', κ cs pc' ∈ D ∧ PcExt pc pc' ∧ ∀ {w0 φ w v}, Holds ρ pc' → Gm P ρ w0 φ s w → conc φ ρ x = some v →
    ∃ a m c, v = .slice a m c ∧ m = (ropeZ ρ cs).length ∧ ∀ k, k ≤ m → ∀ w' : World, w'.heap = w.heap → (Builtin.firstCells 1 k v).run P w' = .ok (bytV ((ropeZ ρ cs).take k)).toArray w' := by
  have none0 : ∀ {a : Option Addr} {c k : Nat} {w' : World}, k ≤ 0 → (Builtin.firstCells 1 k (.slice a 0 c)).run P w' = .ok (bytV (([] : List Int).take k)).toArray w' := by
    intro a c k w' hk
    obtain rfl : k = 0 := by omega
    cases a <;> rfl
  unfold readR at hD
  split at hD
  · rename_i id off len cap
    obtain ⟨o, ho, h1⟩ := optK_inv hD
    obtain ⟨cs, pc', h2, hx, _, h3⟩ := readO_inv h1
    refine ⟨cs, pc', h2, hx, fun {w0 φ w v} hρ hg hv => ?_⟩
    obtain ⟨p, hp, rfl⟩ := conc_sl hv
    obtain ⟨a1, a2, a3, a4, a5⟩ := h3 hρ (hg.hp.obj _ _ ho) hp
    have a4 : (ropeZ ρ cs).length = len := a4
    exact ⟨_, _, _, rfl, a4.symm, fun k hk w' he => first_bytes (a5.heap he) (by omega)⟩
  · rename_i id o0 off len cap
    obtain ⟨o, ho, h1⟩ := optK_inv hD
    obtain ⟨cs, pc', h2, hx, _, h3⟩ := readO_inv h1
    refine ⟨cs, pc', h2, hx, fun {w0 φ w v} hρ hg hv => ?_⟩
    have hpl : ∃ p, φ[id]? = some p := by
      simp only [conc, Option.map_eq_some_iff] at hv
      obtain ⟨p, hp, _⟩ := hv
      exact ⟨p, hp⟩
    obtain ⟨p, hp⟩ := hpl
    obtain ⟨a1, a2, a3, a4, a5⟩ := h3 hρ (hg.hp.obj _ _ ho) hp
    cases cap with
    | some c =>
      rw [ssl_some hp] at hv
      cases hv
      exact ⟨_, _, _, rfl, a4.symm, fun k hk w' he => first_bytes (a5.heap he) (by omega)⟩
    | none =>
      rw [ssl_none hp] at hv
      cases hv
      split
      · rename_i hz
        have hl := isZ_ev hz.1 ρ
        rw [hl] at a4
        have hn : ropeZ ρ cs = [] := List.length_eq_zero_iff.1 a4
        rw [hn]
        exact ⟨_, _, _, rfl, rfl, fun k hk w' he => none0 hk⟩
      · exact ⟨_, _, _, rfl, a4.symm, fun k hk w' he => first_bytes (a5.heap he) (by omega)⟩
  · rename_i a o0 off len
    obtain ⟨e, h1, he⟩ := plE_inv hD
    obtain ⟨b, pc', h2, hx, hle⟩ := leD_inv h1
    obtain ⟨hb, h3⟩ := brec_inv h2
    simp only [Bool.and_eq_true, natBle, natBlt, decide_eq_true_eq] at hb
    obtain ⟨rfl, hj1, hj2⟩ := hb
    refine ⟨_, pc', h3, hx, fun {w0 φ w v} hρ hg hv => ?_⟩
    obtain ⟨m1, m2, m3, rfl⟩ := fsl_some hv
    obtain ⟨f1, f2, f3⟩ := he ρ (by rw [← hx.rg]; exact hρ.rg)
    have hl : e.ev ρ ≤ ρ a := (hle ρ hρ).1 rfl
    have hzl : (ropeZ ρ [.row a off len]).length = (len.ev ρ).toNat := by simp [ropeZ, Ch.zs]
    refine ⟨_, _, _, rfl, hzl.symm, fun k hk w' hh => ?_⟩
    refine first_bytes (BytesAt.heap (w := w) (fun i z hz => ?_) hh) (by omega)
    have hi : i < (len.ev ρ).toNat := by
      rw [← hzl]
      exact (List.getElem?_eq_some_iff.1 hz).1
    have hz2 : z = rowB ρ a ((off.ev ρ).toNat + i) := by
      simp only [ropeZ, List.flatMap_cons, List.flatMap_nil, List.append_nil, Ch.zs, List.getElem?_map, Option.map_eq_some_iff] at hz
      obtain ⟨i', h5, rfl⟩ := hz
      rw [List.getElem?_range hi] at h5
      cases h5
      rfl
    obtain ⟨_, _, hc⟩ := hg.fo a hj1 hj2 m1
    obtain ⟨arr, T, fz, b1, b2⟩ := hc ((off.ev ρ).toNat + i) (by omega)
    have hcap : ¬ (ρ (fCap a)).toNat ≤ (off.ev ρ).toNat := by omega
    rw [if_neg hcap]
    have hblk : w.heap[(ρ (fBlk a)).toNat]? = some (.cells arr T fz) := by
      rw [← b1]
      exact hg.kp.block _ (Array.getElem?_eq_some_iff.1 b1).1 (by simp)
    subst hz2
    simp only [World.cell?, hblk]
    show arr[(ρ (fOff a)).toNat + (off.ev ρ).toNat + i]? = _
    rw [Nat.add_assoc]
    exact b2
  · refine ⟨_, pc, hD, .refl _, fun {w0 φ w v} hρ hg hv => ?_⟩
    simp only [conc, Option.some.injEq] at hv
    subst hv
    exact ⟨_, _, _, rfl, rfl, fun k hk w' he => none0 hk⟩
  · refine ⟨_, pc, hD, .refl _, fun {w0 φ w v} hρ hg hv => ?_⟩
    simp only [conc, Option.map_eq_some_iff] at hv
    obtain ⟨p, _, rfl⟩ := hv
    split
    · exact ⟨_, _, _, rfl, rfl, fun k hk w' he => none0 hk⟩
    · exact ⟨_, _, _, rfl, rfl, fun k hk w' he => none0 hk⟩
  · refine ⟨_, pc, hD, .refl _, fun {w0 φ w v} hρ hg hv => ?_⟩
    simp only [conc, Option.map_eq_some_iff] at hv
    obtain ⟨p, _, rfl⟩ := hv
    exact ⟨_, _, _, rfl, rfl, fun k hk w' he => none0 hk⟩
  · obtain ⟨hb, h1⟩ := brec_inv hD
    refine ⟨_, pc, h1, .refl _, fun {w0 φ w v} hρ hg hv => ?_⟩
    obtain ⟨p, k, c, e, h2⟩ := osl0_ev hb
    cases e
    rw [h2 hρ.rg hv]
    exact ⟨_, _, _, rfl, rfl, fun k hk w' he => none0 hk⟩
  · cases hD
theorem appCh_inv : ∀ {a b : List Ch} {κ : List Ch → R}, appCh a b κ ∈ D → κ (a ++ b) ∈ D
  | [], b, κ, h => h
  | c :: a, b, κ, h => appCh_inv (a := a) (κ := fun r => κ (c :: r)) h
theorem ropeZ_app (a b : List Ch) : ropeZ ρ (a ++ b) = ropeZ ρ a ++ ropeZ ρ b := by simp [ropeZ]
theorem totR_inv {pc : PC} : ∀ {cs : List Ch} {κ : SI → R}, totR cs pc κ ∈ D → ∃ t, κ t ∈ D ∧ ∀ ρ, RgOk ρ pc.rg → 0 ≤ t.ev ρ ∧ (ropeZ ρ cs).length = (t.ev ρ).toNat
  | [], κ, h => ⟨zeroS, h, fun ρ _ => ⟨Int.le_refl _, rfl⟩⟩
  | c :: cs, κ, h => by
    obtain ⟨m, h1, hm⟩ := lenH_inv (show lenH c (fun m => totR cs pc fun t => plE pc m t κ) ∈ D from h)
    obtain ⟨t, h2, ht⟩ := totR_inv h1
    obtain ⟨e, h3, he⟩ := plE_inv h2
    refine ⟨e, h3, fun ρ hr => ?_⟩
    obtain ⟨e1, e2, e3⟩ := he ρ hr
    have := hm ρ
    have := (ht ρ hr).2
    rw [ropeZ_cons, List.length_append]
    omega
theorem ltB_ok {rg : List (Int × Int)} {e : SI} (h : ltB rg e = true) {ρ : Nat → Int} (hr : RgOk ρ rg) : 0 ≤ e.ev ρ ∧ e.ev ρ ≤ 1099511627776 := by
  unfold ltB at h
  cases hx : rngS rg e with
  | none => rw [hx] at h; cases h
  | some r =>
    obtain ⟨l, u⟩ := r
    rw [hx] at h
    have h : (pos0 l && leF u (.ofNat (nat_lit 1099511627776))) = true := h
    simp only [Bool.and_eq_true, pos0_eq, leF_eq, decide_eq_true_eq] at h
    have hin := rngS_in hr e l u hx
    have h2 : u ≤ 1099511627776 := h.2
    omega
theorem byteT_ok {e sz : Nat} (h : byteT P e sz = true) : sz = 1 ∧ bytesA P e = some 1 ∧ zeroA P e = some (.int .u8 (.lit (.ofNat 0))) := by
  simp only [byteT, Bool.and_eq_true, natBeq, decide_eq_true_eq] at h
  obtain ⟨_, h2, h3, h4⟩ := h
  refine ⟨h2, ?_, ?_⟩
  · unfold oneU at h3
    split at h3
    · assumption
    · cases h3
  · unfold zeroU at h4
    split at h4
    · assumption
    · cases h4
theorem growOk_byte {e : Nat} (hb : bytesA P e = some 1) (hz : zeroA P e = some (.int .u8 (.lit (.ofNat 0)))) {N : Nat} (hN : N ≤ 1099511627776) : growOk P e 1 N = true := by
  unfold growOk
  rw [hb]
  simp only
  rw [hz]
  simp only [cellsK, lenL]
  simp only [Bool.and_eq_true, natBeq, natBlt, natBle, decide_eq_true_eq, Bool.not_eq_true', decide_eq_false_iff_not]
  have h1 : (2 * N + 1000) * 1 ≤ 281474976710656 := by omega
  first | exact ⟨trivial, (by decide), (by decide), h1⟩ | exact ⟨rfl, (by decide), (by decide), h1⟩ | simpa using h1
/-- a new rope -/
theorem newP_sound {s : St} {cs : List Ch} {T : TypeId} {row : Bool} {κ : Nat → St → R} (hD : newP s (.rope cs T row) κ ∈ D) : ∃ s', κ s.nx s' ∈ D ∧ s'.pc = s.pc ∧ ∀ {w0 φ w p arr fz}, Gm P ρ w0 φ s w → w0.w0.heap.size ≤ p.blk → p.blk < w.heap.size → (∀ i o' q, s.hp.get i = some o' → live o' = true → φ[i]? = some q → q.blk ≠ p.blk) →
    (∀ x ∈ w0.fr, p.blk ≠ x.1) → RopeOk P ρ w p arr fz cs T row → Gm P ρ w0 (φ ++ [p]) s' w ∧ (φ ++ [p])[s.nx]? = some p := by
  obtain ⟨hp, nx, pc⟩ := s
  have h1 := Eq.mp (congrArg (· ∈ D) (forceN_eq nx _)) (show forceN nx (fun nx => κ nx ⟨hp.set nx (.rope cs T row), Nat.succ nx, pc⟩) ∈ D from hD)
  refine ⟨_, h1, rfl, fun {w0 φ w p arr fz} hg hlo hhi hfree hfr ho => ?_⟩
  have hlen : φ.length = nx := hg.len
  have hnx : (φ ++ [p])[nx]? = some p := by rw [← hlen]; simp
  have ho' : ObjOk P (φ ++ [p]) ρ w nx (.rope cs T row) := ⟨p, arr, fz, hnx, ho⟩
  exact ⟨hg.add hlo hhi hfree ho' pc hfr, hnx⟩
theorem bytV_get {zs : List Int} {i : Nat} {z : Int} (h : zs[i]? = some z) : (bytV zs)[i]? = some (.int .u8 z) := by simp [bytV, h]
theorem makeR_sound {T : TypeId} {x y : AV} {s : St} {κ : AV → St → R} (hD : makeR P T x y s κ ∈ D) : ∃ v s', κ v s' ∈ D ∧ s'.pc = s.pc ∧ ∀ {w0 φ w a b}, RgOk ρ s.pc.rg → Gm P ρ w0 φ s w → conc φ ρ x = some a → conc φ ρ y = some b → ∃ φ' z w', φ <+: φ' ∧ conc φ' ρ v = some z ∧ Gm P ρ w0 φ' s' w' ∧ (Instr.makeSlice T a b).run P w = .ok z w' := by
  obtain ⟨k, l, rfl, h1⟩ := intV_inv hD
  obtain ⟨k', c, rfl, h2⟩ := intV_inv h1
  obtain ⟨d, hd, h3⟩ := optK_inv h2
  split at h3
  rotate_left
  · cases h3
  rename_i e sz
  obtain ⟨hu, hs⟩ := ixOf_sli hd
  obtain ⟨hb, h4⟩ := brec_inv h3
  simp only [Bool.and_eq_true] at hb
  obtain ⟨hlc, hlt, hby⟩ := hb
  obtain rfl := SI.beq_eq _ _ hlc
  obtain ⟨rfl, hb1, hz⟩ := byteT_ok hby
  obtain ⟨s', h5, hpc, h6⟩ := newP_sound (P := P) (ρ := ρ) h4
  refine ⟨_, s', h5, hpc, fun {w0 φ w a b} hr hm ha hb => ?_⟩
  obtain ⟨l1, l2⟩ := ltB_ok hlt hr
  simp only [conc, Option.some.injEq] at ha hb
  subst ha; subst hb
  obtain ⟨zv, hzr, hzc⟩ := zero_conc hz (w := w) (φ := φ) (ρ := ρ)
  simp only [conc, SI.ev, Option.some.injEq] at hzc
  obtain ⟨n, hn⟩ : ∃ n : Nat, l.ev ρ = (n : Int) := ⟨(l.ev ρ).toNat, by omega⟩
  have hnt : (l.ev ρ).toNat = n := by omega
  have hrun := run_makeSlice (P := P) (w := w) (k := k) (k' := k') hu hs hb1 (Nat.le_refl n) (by omega) (by omega) hzr (by rw [← hzc]; rfl) (by omega)
  rw [← hn] at hrun
  have hzl : zv.cells.toList = [.int .u8 0] := by rw [← hzc]; rfl
  rw [hzl] at hrun
  have hrl : (repG [Value.int .u8 0] n).length = n := by rw [repG_length]; simp
  have hrz : ropeZ ρ [.fil l zeroS] = List.replicate n 0 := by
    simp only [ropeZ, List.flatMap_cons, List.flatMap_nil, List.append_nil, Ch.zs, hnt]
    rfl
  have ho : RopeOk P ρ { w with heap := w.heap.push (.cells (repG [Value.int .u8 0] n).toArray e) } ⟨w.heap.size, 0, n, 1⟩ (repG [Value.int .u8 0] n).toArray (0, 0) [.fil l zeroS] e false := by
    refine ⟨by simp, by simp [hrl], by rw [hrz]; simp, fun _ => ⟨rfl, by rw [hrz]; simp, rfl, rfl⟩, (fun h => by cases h), rfl, (fun i _ h => by simp at h), fun i z hz => ?_⟩
    rw [hrz] at hz
    have hi : i < n := by
      have := (List.getElem?_eq_some_iff.1 hz).1
      simpa using this
    rw [List.getElem?_replicate_of_lt hi] at hz
    cases hz
    simp only [Nat.zero_add, List.getElem?_toArray]
    rw [repG_get _ _ _ (by simpa using hi)]
    simp [Nat.mod_one]
  obtain ⟨r1, r2⟩ := h6 (hm.push (.cells (repG [Value.int .u8 0] n).toArray e)) (p := ⟨w.heap.size, 0, n, 1⟩) hm.kp.size (by simp) (fun i o' q hi hl hq he => by have := (hm.lo i q hq).2; simp only at he; omega) (fun x hx => Nat.ne_of_gt (hm.fr x hx).1) ho
  refine ⟨_, _, _, pre_one _ _, ?_, r1, hrun⟩
  rw [ssl_some r2]
  have e0 : (zeroS.ev ρ).toNat = 0 := rfl
  simp only [e0, hnt, Nat.add_zero]
/-- a rope in the place of what stood there -/
theorem Gm.toRope {s : St} {w w' : World} {w0 : Base} {φ : List Pl} {pc : PC} (hg : Gm P ρ w0 φ s w) {id : Nat} {o : AObj} {p : Pl} (hid : s.hp.get id = some o) (hl : live o = true) (hp : φ[id]? = some p) (hk : Kp [p.blk] w w') {arr : Array Value} {fz : Nat × Nat} {cs : List Ch} {T : TypeId} {r : Bool} (ho : RopeOk P ρ w' p arr fz cs T r) : Gm P ρ w0 φ ⟨s.hp.set id (.rope cs T r), s.nx, pc⟩ w' :=
  (hg.upd hid hl hp hk (o' := .rope cs T r) ⟨p, arr, fz, hp, ho⟩).pc pc
theorem wrtC_sound {s : St} {pc : PC} {id : Nat} {off n : SI} {cs ws : List Ch} {T : TypeId} {r : Bool} {κ : St → R} (hD : wrtC s pc id off n cs ws T r κ ∈ D) : ∃ s', κ s' ∈ D ∧ PcExt pc s'.pc ∧ ∀ {w0 φ w p o arr fz}, Holds ρ s'.pc → Gm P ρ w0 φ s w → s.hp.get id = some o → live o = true → φ[id]? = some p → RopeOk P ρ w p arr fz ws T r → (ropeZ ρ cs).length = (n.ev ρ).toNat →
    ∃ w', (storeCells ⟨p.blk, p.sh + (off.ev ρ).toNat, none⟩ (bytV (ropeZ ρ cs))).run P w = .ok () w' ∧ Gm P ρ w0 φ s' w' := by
  obtain ⟨a, pc1, h1, x1, ha⟩ := takeR_inv hD
  obtain ⟨e, h2, he⟩ := plE_inv h1
  obtain ⟨b, pc2, h3, x2, hb⟩ := dropR_inv h2
  have h4 := appCh_inv (appCh_inv h3)
  refine ⟨_, h4, x1.trans x2, fun {w0 φ w p o arr fz} hρ hg hid hl hp hc hlen => ?_⟩
  obtain ⟨a1, a2, a3⟩ := ha ρ (hρ.of_ext x2)
  obtain ⟨e1, e2, e3⟩ := he ρ (by rw [← x2.rg]; exact hρ.rg)
  obtain ⟨b1, b2, b3⟩ := hb ρ hρ
  have hle := hc.le
  have hsz := hc.size
  have e4 : (e.ev ρ).toNat = (off.ev ρ).toNat + (n.ev ρ).toNat := by omega
  obtain ⟨w', arr', r1, r2, r3, r4, r5, r6⟩ := storeCells_run (P := P) (g := p.blk) (o := p.sh + (off.ev ρ).toNat) (bytV (ropeZ ρ cs)) 0 w arr hc.blk (by rw [bytV_len, hlen]; omega) (by rw [hsz]; exact hc.fr) (bytV_one _)
  have hall : ropeZ ρ (a ++ (cs ++ b)) = (ropeZ ρ ws).take (off.ev ρ).toNat ++ (ropeZ ρ cs ++ (ropeZ ρ ws).drop (e.ev ρ).toNat) := by rw [ropeZ_app, ropeZ_app, a3, b3]
  have hal : (ropeZ ρ (a ++ (cs ++ b))).length = (ropeZ ρ ws).length := by
    rw [hall, List.length_append, List.length_append, List.length_take, List.length_drop, hlen]
    omega
  refine ⟨w', r1, hg.toRope hid hl hp r5 (arr := arr') (fz := fz) ⟨r2, by rw [r3, hsz], by rw [hal]; exact hle, fun hr => ?_, hc.es, hc.e1, hc.fr, fun i z hz => ?_⟩⟩
  · obtain ⟨q1, q2, q3, q4⟩ := hc.fix hr
    exact ⟨q1, by rw [hal]; exact q2, q3, q4⟩
  · have h7 := r4 (p.sh + i)
    simp only [Nat.add_zero, bytV_len, hlen] at h7
    rw [h7]
    rw [hall] at hz
    by_cases c1 : i < (off.ev ρ).toNat
    · rw [if_neg (by omega)]
      rw [List.getElem?_append_left (by rw [List.length_take]; omega), List.getElem?_take, if_pos c1] at hz
      exact hc.cell i z hz
    · rw [List.getElem?_append_right (by rw [List.length_take]; omega), List.length_take, Nat.min_eq_left a2] at hz
      by_cases c2 : i < (off.ev ρ).toNat + (n.ev ρ).toNat
      · rw [if_pos (by omega)]
        rw [List.getElem?_append_left (by rw [hlen]; omega)] at hz
        rw [show p.sh + i - (p.sh + (off.ev ρ).toNat) = i - (off.ev ρ).toNat by omega]
        exact bytV_get hz
      · rw [if_neg (by omega)]
        rw [List.getElem?_append_right (by rw [hlen]; omega), List.getElem?_drop, hlen, e4, show (off.ev ρ).toNat + (n.ev ρ).toNat + (i - (off.ev ρ).toNat - (n.ev ρ).toNat) = i by omega] at hz
        exact hc.cell i z hz
theorem wrtR_sound {s : St} {pc : PC} {id : Nat} {off n : SI} {cs : List Ch} {κ : St → R} (hD : wrtR P s pc id off n cs κ ∈ D) : ∃ s', κ s' ∈ D ∧ PcExt pc s'.pc ∧ ∀ {w0 φ w p}, Holds ρ s'.pc → Gm P ρ w0 φ s w → φ[id]? = some p → (ropeZ ρ cs).length = (n.ev ρ).toNat →
    ∃ w', (storeCells ⟨p.blk, p.sh + (off.ev ρ).toNat, none⟩ (bytV (ropeZ ρ cs))).run P w = .ok () w' ∧ Gm P ρ w0 φ s' w' := by
  obtain ⟨o, ho, h1⟩ := optK_inv hD
  cases o with
  | rope ws T r =>
    obtain ⟨s', h2, hx, h3⟩ := wrtC_sound (P := P) (ρ := ρ) (show wrtC s pc id off n cs ws T r κ ∈ D from h1)
    refine ⟨s', h2, hx, fun {w0 φ w p} hρ hg hp hl => ?_⟩
    obtain ⟨p', arr, fz, hp', hc⟩ := hg.hp.obj _ _ ho
    rw [hp] at hp'; cases hp'
    exact h3 hρ hg ho rfl hp hc hl
  | cells m c d T r =>
    obtain ⟨h1b, h2⟩ := brec_inv (show Bool.rec (motive := fun _ => R) (.fail 455) (cellR c d (nat_lit 0) m fun ws => wrtC s pc id off n cs ws T r κ) (one1 P T r) ∈ D from h1)
    obtain ⟨ws, h3, hlen, hby⟩ := cellR_inv h2
    obtain ⟨s', h4, hx, h5⟩ := wrtC_sound (P := P) (ρ := ρ) h3
    refine ⟨s', h4, hx, fun {w0 φ w p} hρ hg hp hl => ?_⟩
    obtain ⟨p', arr, fz, hp', hc⟩ := hg.hp.obj _ _ ho
    rw [hp] at hp'; cases hp'
    have hby := hby hc (by show 0 + m ≤ m; omega)
    have e1 : p.es = 1 := by
      cases hr : r with
      | false => exact (hc.fix hr).2.2.2
      | true =>
        have h6 := (hc.es hr).1
        rw [hr] at h1b
        have h1b : (match sizeA P T with | some n => Nat.beq n (nat_lit 1) | none => false) = true := h1b
        rw [h6] at h1b
        have h1b : Nat.beq p.es 1 = true := h1b
        rw [natBeq] at h1b
        exact of_decide_eq_true h1b
    refine h5 hρ hg ho rfl hp ⟨hc.blk, hc.size, by rw [hlen]; exact hc.le, fun hr => ?_, hc.es, e1, hc.fr, fun i z hz => ?_⟩ hl
    · obtain ⟨q1, q2, q3, q4⟩ := hc.fix hr
      exact ⟨q1, by rw [hlen]; exact q2, q3, q4⟩
    · have := hby i z hz
      simp only [World.cell?, hc.blk] at this
      exact this
  | map _ _ => cases h1
  | iter _ _ _ _ => cases h1
  | dead => cases h1
theorem avsB_eq : ∀ l : List SI, avsB l = l.map (AV.int .u8)
  | [] => rfl
  | e :: l => by show AV.int .u8 e :: avsB l = _; rw [avsB_eq l]; rfl
theorem appSI_inv : ∀ {a b : List SI} {κ : List SI → R}, appSI a b κ ∈ D → κ (a ++ b) ∈ D
  | [], b, κ, h => h
  | c :: a, b, κ, h => appSI_inv (κ := fun r => κ (c :: r)) h
theorem bsOf_inv : ∀ {cs : List Ch} {no : R} {κ : List SI → R}, bsOf cs no κ ∈ D → no ∈ D ∨ ∃ l, κ l ∈ D ∧ ∀ ρ, ropeZ ρ cs = l.map (SI.ev ρ)
  | [], no, κ, h => .inr ⟨[], h, fun _ => rfl⟩
  | c :: cs, no, κ, h => by
    cases c with
    | fil n v => exact .inl h
    | row a o n => exact .inl h
    | bs l =>
      rcases bsOf_inv (cs := cs) (κ := fun r => appSI l r κ) h with h1 | ⟨r, h1, h2⟩
      · exact .inl h1
      · exact .inr ⟨l ++ r, appSI_inv h1, fun ρ => by rw [ropeZ_cons, h2, List.map_append]; rfl⟩
theorem concL_bs {φ : List Pl} : ∀ l : List SI, concL φ ρ (l.map (AV.int .u8)) = some (bytV (l.map (SI.ev ρ)))
  | [] => rfl
  | e :: l => by
    simp only [List.map_cons, concL, conc, Option.bind_some, concL_bs l, Option.map_some]
    rfl
theorem wrtL_sound {s : St} {pc : PC} {id off : Nat} {n : SI} {cs : List Ch} {κ : St → R} (hD : wrtL P s pc id off n cs κ ∈ D) : ∃ s', κ s' ∈ D ∧ PcExt pc s'.pc ∧ ∀ {w0 φ w p}, Holds ρ s'.pc → Gm P ρ w0 φ s w → φ[id]? = some p → (ropeZ ρ cs).length = (n.ev ρ).toNat →
    ∃ w', (storeCells ⟨p.blk, p.sh + ((natS off).ev ρ).toNat, none⟩ (bytV (ropeZ ρ cs))).run P w = .ok () w' ∧ Gm P ρ w0 φ s' w' := by
  rcases bsOf_inv hD with h | ⟨l, h1, hl⟩
  · exact wrtR_sound h
  rcases brec_cases h1 with ⟨_, h2⟩ | ⟨_, h2⟩
  · exact wrtR_sound h2
  · obtain ⟨s', h3, hpc, h4⟩ := stP_sound (P := P) (ρ := ρ) h2
    refine ⟨s', h3, by rw [hpc]; exact .refl _, fun {w0 φ w p} hρ hg hp hn => ?_⟩
    rw [hl]
    exact h4 (hg.pc pc) hp (by rw [avsB_eq]; exact concL_bs l)
theorem first0 {w : World} {p : Option Addr} {m c : Nat} : (Builtin.firstCells 1 0 (.slice p m c)).run P w = .ok #[] w := by
  cases p <;> simp [Builtin.firstCells, loadCells, loadCellsFrom]
theorem copy_run {T e : TypeId} {Ts : Array TypeId} (hT : Ts[0]? = some T) (hu : P.underlying T = some (.slice e)) (hs : sizeA P e = some 1) {w w' : World} {p : Option Addr} {dl c : Nat} {bp : Option Addr} {m bc k : Nat} (hk : k = min m dl) {vs : List Value} (h1 : (Builtin.firstCells 1 k (.slice bp m bc)).run P w = .ok vs.toArray w) (h2 : (match p with | some q => storeCells q vs | none => pure ()).run P w = .ok () w') :
    ∀ R', (Builtin.copy_ Ts R' #[.slice p dl c, .slice bp m bc]).run P w = .ok (.int .i64 (k : Nat)) w' := by
  intro R'
  subst hk
  have hl : (Builtin.lenOf (.slice bp m bc)).run P w = .ok m w := by simp [Builtin.lenOf]
  unfold Builtin.copy_
  simp only [hT, List.getElem?_toArray, List.getElem?_cons_zero, List.getElem?_cons_succ, Sem.run_bind, run_underlying hu, Result.andThen_ok, hl, run_size hs]
  rw [show Nat.min m dl = min m dl from rfl, h1]
  simp only [Result.andThen_ok]
  cases p with
  | none =>
    simp only [Sem.run_pure, Result.ok.injEq, true_and] at h2
    subst h2
    rfl
  | some q =>
    simp only [Sem.run_bind]
    simp only at h2
    rw [h2]; rfl
theorem copyR_sound {T : TypeId} {s : St} {d x : AV} {Ts : Array TypeId} {κ : AV → St → R} (hT : Ts[0]? = some T) (hD : copyR P T s d x κ ∈ D) : ∃ v s', κ v s' ∈ D ∧ PcExt s.pc s'.pc ∧ ∀ {w0 φ w a b}, Holds ρ s'.pc → Gm P ρ w0 φ s w → conc φ ρ d = some a → conc φ ρ x = some b → ∃ y w', conc φ ρ v = some y ∧ Gm P ρ w0 φ s' w' ∧ ∀ R', (Builtin.copy_ Ts R' #[a, b]).run P w = .ok y w' := by
  obtain ⟨t, ht, h1⟩ := optK_inv hD
  split at h1
  rotate_left
  · cases h1
  rename_i e sz
  obtain ⟨hu, hs⟩ := ixOf_sli ht
  obtain ⟨hs1, h2⟩ := brec_inv h1
  rw [natBeq, decide_eq_true_eq] at hs1
  subst hs1
  obtain ⟨lx, h3, hlx⟩ := lenS_inv h2
  obtain ⟨ld, h4, hld⟩ := lenS_inv h3
  obtain ⟨b, pc1, h5, x1, hle⟩ := leD_inv h4
  generalize hn : (Bool.rec (motive := fun _ => SI) ld lx b : SI) = n at h5
  -- the number of bytes
  have hmin : ∀ {pc2 : PC}, PcExt pc1 pc2 → ∀ {φ : List Pl} {av bv : Value}, Holds ρ pc2 → conc φ ρ d = some av → conc φ ρ x = some bv → 0 ≤ n.ev ρ ∧ ∃ p dl c bp m bc, av = .slice p dl c ∧ bv = .slice bp m bc ∧ (n.ev ρ).toNat = min m dl ∧ m = (lx.ev ρ).toNat := by
    intro pc2 x2 φ av bv hρ ha hb
    have hr : RgOk ρ s.pc.rg := by
      have := hρ.rg
      rw [x2.rg, x1.rg] at this
      exact this
    obtain ⟨q1, bp, m, bc, rfl, hm⟩ := hlx hr hb
    obtain ⟨q2, p, dl, c, rfl, hdl⟩ := hld hr ha
    have q3 := hle ρ (hρ.of_ext x2)
    cases b with
    | true =>
      have hn : lx = n := hn
      subst hn
      have := q3.1 rfl
      exact ⟨q1, p, dl, c, bp, m, bc, rfl, rfl, by omega, hm⟩
    | false =>
      have hn : ld = n := hn
      subst hn
      have : ¬ lx.ev ρ ≤ ld.ev ρ := fun hh => by cases q3.2 hh
      exact ⟨q2, p, dl, c, bp, m, bc, rfl, rfl, by omega, hm⟩
  have h5 : copyN P s pc1 d x n κ ∈ D := h5
  rcases brec_cases h5 with ⟨hz, h6⟩ | ⟨_, h6⟩
  · refine ⟨_, _, h6, x1, fun {w0 φ w a b'} hρ hg ha hb => ?_⟩
    obtain ⟨q0, p, dl, c, bp, m, bc, rfl, rfl, q1, _⟩ := hmin (.refl _) hρ ha hb
    have hz0 := isZ_ev hz ρ
    refine ⟨.int .i64 0, w, rfl, hg.pc _, ?_⟩
    exact copy_run hT hu hs (k := 0) (by omega) (vs := []) first0 (by cases p <;> rfl)
  · obtain ⟨cs, pc2, h7, x2, hcs⟩ := readR_sound (P := P) (ρ := ρ) h6
    obtain ⟨cs', pc3, h8, x3, htk⟩ := takeR_inv h7
    have fin : ∀ {id : Nat} {off : SI} {κ' : St → R}, wrtR P s pc3 id off n cs' κ' ∈ D → (∀ {φ : List Pl} {a : Value}, conc φ ρ d = some a → 0 ≤ ρ 0 → True) → True := fun _ _ => trivial
    have go : ∀ {id : Nat} {off : SI} {s' : St}, PcExt pc3 s'.pc → (∀ {w0 φ w p}, Holds ρ s'.pc → Gm P ρ w0 φ s w → φ[id]? = some p → (ropeZ ρ cs').length = (n.ev ρ).toNat → ∃ w', (storeCells ⟨p.blk, p.sh + (off.ev ρ).toNat, none⟩ (bytV (ropeZ ρ cs'))).run P w = .ok () w' ∧ Gm P ρ w0 φ s' w') →
        (∀ {φ : List Pl} {a : Value}, conc φ ρ d = some a → ∃ p, φ[id]? = some p ∧ ((∃ dl c, a = .slice (some ⟨p.blk, p.sh + (off.ev ρ).toNat, none⟩) dl c) ∨ ∃ q c, a = .slice q 0 c)) →
        ∀ {w0 φ w a b'}, Holds ρ s'.pc → Gm P ρ w0 φ s w → conc φ ρ d = some a → conc φ ρ x = some b' → ∃ y w', conc φ ρ (.int .i64 n) = some y ∧ Gm P ρ w0 φ s' w' ∧ ∀ R', (Builtin.copy_ Ts R' #[a, b']).run P w = .ok y w' := by
      intro id off s' x4 hw hpl w0 φ w a b' hρ hg ha hb
      have hρ3 := hρ.of_ext x4
      obtain ⟨q0, p, dl, c, bp, m, bc, ea, rfl, q1, q2⟩ := hmin (x2.trans (x3.trans x4)) hρ ha hb
      obtain ⟨t1, t2, t3⟩ := htk ρ hρ3
      obtain ⟨a', m', c', e1, e2, e3⟩ := hcs (hρ3.of_ext x3) hg hb
      cases e1
      have hk : (n.ev ρ).toNat ≤ m := by omega
      have hfc := e3 _ hk w rfl
      have hlen : (ropeZ ρ cs').length = (n.ev ρ).toNat := by rw [t3, List.length_take]; omega
      rw [← t3] at hfc
      obtain ⟨pp, hp, hcase⟩ := hpl ha
      obtain ⟨w', r1, r2⟩ := hw hρ hg hp hlen
      have hval : conc φ ρ (.int .i64 n) = some (.int .i64 ((n.ev ρ).toNat : Int)) := by
        simp only [conc, Option.some.injEq]
        congr 1
        omega
      rcases hcase with ⟨dl', c', rfl⟩ | ⟨q, c', rfl⟩
      · cases ea
        exact ⟨_, w', hval, r2, copy_run hT hu hs q1 hfc r1⟩
      · cases ea
        have hz0 : (n.ev ρ).toNat = 0 := by omega
        have hnil : ropeZ ρ cs' = [] := List.length_eq_zero_iff.1 (by omega)
        rw [hnil] at r1 hfc
        have hww : w' = w := by
          have : (Result.ok () w : Result Unit) = .ok () w' := r1
          cases this; rfl
        subst hww
        exact ⟨_, w', hval, r2, copy_run hT hu hs q1 hfc (by first | (cases q <;> rfl) | (cases p <;> rfl))⟩
    split at h8
    · rename_i id off len cap _
      obtain ⟨s', h9, x4, hw⟩ := wrtL_sound (P := P) (ρ := ρ) h8
      refine ⟨_, s', h9, ((x1.trans x2).trans x3).trans x4, fun {w0 φ w a b'} => go (off := natS off) x4 hw fun {φ a} ha => ?_⟩
      obtain ⟨p, hp, rfl⟩ := conc_sl ha
      exact ⟨p, hp, .inl ⟨_, _, rfl⟩⟩
    · rename_i id o0 off len cap _
      obtain ⟨s', h9, x4, hw⟩ := wrtR_sound (P := P) (ρ := ρ) h8
      refine ⟨_, s', h9, ((x1.trans x2).trans x3).trans x4, fun {w0 φ w a b'} => go (off := off) x4 hw fun {φ a} ha => ?_⟩
      have hpl : ∃ p, φ[id]? = some p := by
        simp only [conc, Option.map_eq_some_iff] at ha
        obtain ⟨p, hp, _⟩ := ha
        exact ⟨p, hp⟩
      obtain ⟨p, hp⟩ := hpl
      refine ⟨p, hp, ?_⟩
      cases cap with
      | some c => rw [ssl_some hp] at ha; cases ha; exact .inl ⟨_, _, rfl⟩
      | none =>
        rw [ssl_none hp] at ha
        cases ha
        split
        · exact .inr ⟨_, _, rfl⟩
        · exact .inl ⟨_, _, rfl⟩
    · cases h8
theorem copyX_sound {T : TypeId} {s : St} {d x : AV} {Ts : Array TypeId} {κ : AV → St → R} (hT : Ts[0]? = some T) (hD : copyX P T s d x κ ∈ D) : ∃ v s', κ v s' ∈ D ∧ PcExt s.pc s'.pc ∧ ∀ {w0 φ w a b}, Holds ρ s'.pc → Gm P ρ w0 φ s w → conc φ ρ d = some a → conc φ ρ x = some b → ∃ y w', conc φ ρ v = some y ∧ Gm P ρ w0 φ s' w' ∧ ∀ R', (Builtin.copy_ Ts R' #[a, b]).run P w = .ok y w' := by
  rcases brec_cases hD with ⟨_, h1⟩ | ⟨_, h1⟩
  · exact copyR_sound hT h1
  · obtain ⟨v, s', h2, hpc, h3⟩ := copy_sound (P := P) (ρ := ρ) hT h1
    exact ⟨v, s', h2, by rw [hpc]; exact .refl _, fun _ hg ha hb => h3 hg ha hb⟩
theorem makeX_sound {T : TypeId} {x y : AV} {s : St} {κ : AV → St → R} (hD : makeX P T x y s κ ∈ D) : ∃ v s', κ v s' ∈ D ∧ s'.pc = s.pc ∧ ∀ {w0 φ w a b}, RgOk ρ s.pc.rg → Gm P ρ w0 φ s w → conc φ ρ x = some a → conc φ ρ y = some b → ∃ φ' z w', φ <+: φ' ∧ conc φ' ρ v = some z ∧ Gm P ρ w0 φ' s' w' ∧ (Instr.makeSlice T a b).run P w = .ok z w' := by
  rcases brec_cases hD with ⟨_, h1⟩ | ⟨_, h1⟩
  · obtain ⟨v, s', h2, hpc, h3⟩ := makeS_sound (P := P) (ρ := ρ) h1
    exact ⟨v, s', h2, hpc, fun _ hg ha hb => h3 hg ha hb⟩
  · exact makeR_sound h1
/-- cells are put into a block whose thing is given up -/
theorem store_into {s : St} {w : World} {w0 : Base} {φ : List Pl} (hg : Gm P ρ w0 φ s w) {id : Nat} {o : AObj} (hid : s.hp.get id = some o) (hl : live o = true) {p : Pl} (hp : φ[id]? = some p) {arr : Array Value} {T : TypeId} {fz : Nat × Nat} (hblk : w.heap[p.blk]? = some (.cells arr T fz)) (hsz : arr.size = p.sz) (hfr : ∀ i, i < p.sz → ¬ (fz.1 ≤ i ∧ i < fz.2)) {q : Nat} {xs : List Value} (h1 : ∀ v ∈ xs, v.oneCell' = true) (hle : q + xs.length ≤ p.sz) :
    ∃ w' arr', (storeCells ⟨p.blk, q, none⟩ xs).run P w = .ok () w' ∧ Gm P ρ w0 φ (killS s id) w' ∧ w'.heap[p.blk]? = some (.cells arr' T fz) ∧ arr'.size = p.sz ∧ (∀ j, arr'[j]? = if q ≤ j ∧ j < q + xs.length then xs[j - q]? else arr[j]?) ∧ p.blk < w'.heap.size := by
  obtain ⟨w', arr', r1, r2, r3, r4, r5, r6⟩ := storeCells_run (P := P) (g := p.blk) (o := q) xs 0 w arr hblk (by omega) (by rw [hsz]; exact hfr) h1
  have hlo := hg.lo id p hp
  refine ⟨w', arr', r1, (hg.kill hid).world ?_ (by rw [r6]; exact Nat.le_refl _) (fun i o' q' hi hl' hq => ?_) (fun x hx hlt hne => r5.block x.1 hlt (by simp only [List.mem_singleton]; exact fun e => hne id p hp e.symm)), r2, by rw [r3, hsz], fun j => by simpa using r4 j, by rw [r6]; exact hlo.2⟩
  · refine hg.kp.trans' r5 (fun _ h => .inl h) fun i hi => .inr ?_
    simp only [List.mem_singleton] at hi
    subst hi
    exact hlo.1
  · refine r5.block q'.blk (hg.lo i q' hq).2 ?_
    simp only [List.mem_singleton]
    exact hg.kill_free hid hl hp i o' q' hi hl' hq
/-- a grown row of bytes -/
theorem growR_sound {e : TypeId} (hs : sizeA P e = some 1) (hb1 : bytesA P e = some 1) (hz : zeroA P e = some (.int .u8 (.lit (.ofNat 0)))) {s : St} {m : SI} {cs : List Ch} {κ : AV → St → R} (hD : growR s e m cs κ ∈ D) : ∃ v s', κ v s' ∈ D ∧ s'.pc = s.pc ∧
    (∀ {w0 : Base} {φ : List Pl} {w : World} {Ts T sCap p y sLen n bp bm bc} {zx zy : List Int}, RgOk ρ s.pc.rg → Gm P ρ w0 φ s w → Ts[0]? = some T → notIntT P (Ts[1]?) = true → P.underlying T = some (.slice e) → y = .slice bp bm bc → bm = n → (m.ev ρ).toNat = sLen + n → sCap < sLen + n → ropeZ ρ cs = zx ++ zy → zx.length = sLen → zy.length = n →
      (∀ w' : World, w'.heap = w.heap → (Builtin.firstCells 1 sLen (.slice p sLen sCap)).run P w' = .ok (bytV zx).toArray w') → (∀ w' : World, w'.heap = w.heap → (Builtin.firstCells 1 n y).run P w' = .ok (bytV zy).toArray w') →
      ∃ φ' z w', φ <+: φ' ∧ conc φ' ρ v = some z ∧ Gm P ρ w0 φ' s' w' ∧ ∀ R', (Builtin.append_ Ts R' #[.slice p sLen sCap, y]).run P w = .ok z w') ∧
    (∀ {w0 : Base} {φ : List Pl} {w : World} {pl : Pl} {q : Nat} {arr : Array Value} {fz : Nat × Nat}, Gm P ρ w0 φ s w → pl.es = 1 → w0.w0.heap.size ≤ pl.blk → pl.blk < w.heap.size → (∀ i o' q, s.hp.get i = some o' → live o' = true → φ[i]? = some q → q.blk ≠ pl.blk) → w.heap[pl.blk]? = some (.cells arr e fz) → arr.size = pl.sz →
      0 < (m.ev ρ).toNat → (ropeZ ρ cs).length = (m.ev ρ).toNat → pl.sh + q + (m.ev ρ).toNat ≤ pl.sz → (∀ i, i < pl.sz → ¬ (fz.1 ≤ i ∧ i < fz.2)) → (∀ i z, (ropeZ ρ cs)[i]? = some z → arr[pl.sh + q + i]? = some (.int .u8 z)) → (∀ x ∈ w0.fr, pl.blk ≠ x.1) →
      ∃ φ', φ <+: φ' ∧ conc φ' ρ v = some (.slice (some ⟨pl.blk, pl.sh + q, none⟩) (m.ev ρ).toNat (pl.room q)) ∧ Gm P ρ w0 φ' s' w) := by
  obtain ⟨hlt, h1⟩ := brec_inv hD
  obtain ⟨s', h2, hpc, h3⟩ := newP_sound (P := P) (ρ := ρ) h1
  refine ⟨_, s', h2, hpc, fun {w0 φ w Ts T sCap p y sLen n bp bm bc zx zy} hr hg hT hn1 hu hy hbm hm hcap hcs hzx hzy ho hnw => ?_, fun {w0 φ w pl q arr fz} hg hes hlo hhi hfree hb hsz hpos hlen hle hfr hc hfo => ?_⟩
  · obtain ⟨l1, l2⟩ := ltB_ok hlt hr
    subst hy; subst hbm
    have hlenY : (Builtin.lenOf (.slice bp bm bc)).run P w = .ok bm w := by simp [Builtin.lenOf]
    have hok : growOk P e 1 (sLen + bm) = true := growOk_byte hb1 hz (by omega)
    obtain ⟨c, rest, q1, q2, q3⟩ := append_new hT hn1 hu hs hlenY rfl hcap hok (bytV zx).toArray (bytV zy).toArray ho hnw (by simp [bytV, hzx]) (by simp [bytV, hzy])
    let w1 : World := { w with drawn := w.drawn + 1 }
    have hg1 : Gm P ρ w0 φ s w1 := hg.world (hg.kp.drew) (Nat.le_refl _) (fun _ _ _ _ _ _ => rfl) (fun _ _ _ _ => rfl)
    have hro : RopeOk P ρ { w1 with heap := w1.heap.push (.cells ((bytV zx).toArray ++ (bytV zy).toArray ++ rest) e) } ⟨w.heap.size, 0, c * 1, 1⟩ ((bytV zx).toArray ++ (bytV zy).toArray ++ rest) (0, 0) cs e true := by
      refine ⟨by simp [w1], q2, ?_, (fun h => by cases h), fun _ => ⟨hs, Nat.one_pos⟩, rfl, (fun i _ h => by simp at h), fun i z hi => ?_⟩
      · rw [hcs, List.length_append]
        show 0 + (zx.length + zy.length) ≤ c * 1
        omega
      · rw [hcs] at hi
        have h7 : (bytV (zx ++ zy))[i]? = some (.int .u8 z) := bytV_get hi
        have h8 : i < (bytV (zx ++ zy)).length := (List.getElem?_eq_some_iff.1 h7).1
        rw [← Array.getElem?_toList, Array.toList_append, Array.toList_append]
        simp only [Nat.zero_add]
        rw [show (bytV zx).toArray.toList ++ (bytV zy).toArray.toList = bytV (zx ++ zy) by simp [bytV], List.getElem?_append_left h8]
        exact h7
    obtain ⟨r1, r2⟩ := h3 (hg1.push (.cells ((bytV zx).toArray ++ (bytV zy).toArray ++ rest) e)) (p := ⟨w.heap.size, 0, c * 1, 1⟩) hg.kp.size (by simp [w1]) (fun i o' q hi hl hq he => by have := (hg.lo i q hq).2; simp only at he; omega) (fun x hx => Nat.ne_of_gt (hg.fr x hx).1) hro
    refine ⟨_, _, _, pre_one _ _, ?_, r1, q3⟩
    have hnz : ¬ (isZ m = true ∧ (⟨w.heap.size, 0, c * 1, 1⟩ : Pl).room (zeroS.ev ρ).toNat = 0) := fun hh => by
      have := isZ_ev hh.1 ρ
      omega
    rw [ssl_none r2, if_neg hnz]
    have e0 : (zeroS.ev ρ).toNat = 0 := rfl
    simp only [e0, Pl.room, Nat.add_zero, Nat.sub_zero, hm, Nat.mul_one, Nat.div_one]
  · have hro : RopeOk P ρ w ⟨pl.blk, pl.sh + q, pl.sz, pl.es⟩ arr fz cs e true := by
      refine ⟨hb, hsz, by rw [hlen]; exact hle, (fun h => by cases h), fun _ => ⟨by rw [hes]; exact hs, by rw [hes]; exact Nat.one_pos⟩, hes, hfr, fun i z hi => hc i z hi⟩
    obtain ⟨r1, r2⟩ := h3 hg (p := ⟨pl.blk, pl.sh + q, pl.sz, pl.es⟩) hlo hhi hfree hfo hro
    refine ⟨_, pre_one _ _, ?_, r1⟩
    have hnz : ¬ (isZ m = true ∧ (⟨pl.blk, pl.sh + q, pl.sz, pl.es⟩ : Pl).room (zeroS.ev ρ).toNat = 0) := fun hh => by
      have := isZ_ev hh.1 ρ
      omega
    rw [ssl_none r2, if_neg hnz]
    have e0 : (zeroS.ev ρ).toNat = 0 := rfl
    simp only [e0, Pl.room, Nat.add_zero]
/-- .. told byte by byte -/
theorem growX_sound {e : TypeId} (hs : sizeA P e = some 1) (hb1 : bytesA P e = some 1) (hz : zeroA P e = some (.int .u8 (.lit (.ofNat 0)))) {s : St} {m : SI} {cs : List Ch} {κ : AV → St → R} (hD : growX P s e m cs κ ∈ D) : ∃ v s', κ v s' ∈ D ∧ s'.pc = s.pc ∧
    (∀ {w0 : Base} {φ : List Pl} {w : World} {Ts T sCap p y sLen n bp bm bc} {zx zy : List Int}, RgOk ρ s.pc.rg → Gm P ρ w0 φ s w → Ts[0]? = some T → notIntT P (Ts[1]?) = true → P.underlying T = some (.slice e) → y = .slice bp bm bc → bm = n → (m.ev ρ).toNat = sLen + n → sCap < sLen + n → ropeZ ρ cs = zx ++ zy → zx.length = sLen → zy.length = n →
      (∀ w' : World, w'.heap = w.heap → (Builtin.firstCells 1 sLen (.slice p sLen sCap)).run P w' = .ok (bytV zx).toArray w') → (∀ w' : World, w'.heap = w.heap → (Builtin.firstCells 1 n y).run P w' = .ok (bytV zy).toArray w') →
      ∃ φ' z w', φ <+: φ' ∧ conc φ' ρ v = some z ∧ Gm P ρ w0 φ' s' w' ∧ ∀ R', (Builtin.append_ Ts R' #[.slice p sLen sCap, y]).run P w = .ok z w') ∧
    (∀ {w0 : Base} {φ : List Pl} {w : World} {pl : Pl} {q : Nat} {arr : Array Value} {fz : Nat × Nat}, Gm P ρ w0 φ s w → pl.es = 1 → w0.w0.heap.size ≤ pl.blk → pl.blk < w.heap.size → (∀ i o' q, s.hp.get i = some o' → live o' = true → φ[i]? = some q → q.blk ≠ pl.blk) → w.heap[pl.blk]? = some (.cells arr e fz) → arr.size = pl.sz →
      0 < (m.ev ρ).toNat → (ropeZ ρ cs).length = (m.ev ρ).toNat → pl.sh + q + (m.ev ρ).toNat ≤ pl.sz → (∀ i, i < pl.sz → ¬ (fz.1 ≤ i ∧ i < fz.2)) → (∀ i z, (ropeZ ρ cs)[i]? = some z → arr[pl.sh + q + i]? = some (.int .u8 z)) → (∀ x ∈ w0.fr, pl.blk ≠ x.1) →
      ∃ φ', φ <+: φ' ∧ conc φ' ρ v = some (.slice (some ⟨pl.blk, pl.sh + q, none⟩) (m.ev ρ).toNat (pl.room q)) ∧ Gm P ρ w0 φ' s' w) := by
  rcases bsOf_inv hD with h | ⟨l, h1, hl⟩
  · exact growR_sound hs hb1 hz h
  rw [forceN_eq] at h1
  rcases brec_cases h1 with ⟨hm, h2⟩ | ⟨_, h2⟩
  rotate_left
  · exact growR_sound hs hb1 hz h2
  have hmn : m = natS (lenSI l) := SI.beq_eq _ _ hm
  have hlen : lenSI l = l.length := lenSI_eq l
  rw [hlen] at hmn h2
  have hme : (m.ev ρ).toNat = l.length := by rw [hmn]; rfl
  obtain ⟨hok, v0, s0, h3, hpc, _, hin⟩ := grow_new (P := P) (ρ := ρ) (sLen := 0) (n := l.length) h2 hs (by omega)
  -- what it is
  have hform : κ (.sl s.nx 0 l.length none) ⟨s.hp.set s.nx (.cells (lenL (avsB l)) (trOf (avsB l)) none e true), s.nx + 1, s.pc⟩ ∈ D := by
    have h4 : Bool.rec (motive := fun _ => R) (.fail 127) (newL s ([] ++ avsB l) e true fun id s => κ (.sl id (nat_lit 0) l.length none) s) (growOk P e 1 l.length) ∈ D := h2
    rw [hok] at h4
    have h5 : Bool.rec (motive := fun _ => R) (.fail 100) (forceN (lenL ([] ++ avsB l)) fun n => newK s n (trOf ([] ++ avsB l)) none e true fun id s => κ (.sl id (nat_lit 0) l.length none) s) (allOne ([] ++ avsB l)) ∈ D := h4
    obtain ⟨_, h6⟩ := brec_inv h5
    rw [forceN_eq] at h6
    unfold newK at h6
    simp only [forceN_eq] at h6
    exact h6
  have hone : allOne (avsB l) = true := allOne_of fun v hv => by
    rw [avsB_eq] at hv
    obtain ⟨x, _, rfl⟩ := List.mem_map.1 hv
    rfl
  have hmem : ∀ sLen, sLen ≤ l.length → growK P s e 1 l.length (avsB (l.take sLen)) (avsB (l.drop sLen)) R.done ∈ Dn.mk ρ (.sl s.nx 0 l.length none) ⟨s.hp.set s.nx (.cells (lenL (avsB l)) (trOf (avsB l)) none e true), s.nx + 1, s.pc⟩ := by
    intro sLen hle
    have hcat : avsB (l.take sLen) ++ avsB (l.drop sLen) = avsB l := by rw [avsB_eq, avsB_eq, avsB_eq, ← List.map_append, List.take_append_drop]
    show Bool.rec (motive := fun _ => R) (.fail 127) (newL s (avsB (l.take sLen) ++ avsB (l.drop sLen)) e true fun id s => R.done (.sl id (nat_lit 0) l.length none) s) (growOk P e 1 l.length) ∈ (_ : Dn)
    rw [hok, hcat]
    show Bool.rec (motive := fun _ => R) (.fail 100) (forceN (lenL (avsB l)) _) (allOne (avsB l)) ∈ (_ : Dn)
    rw [hone]
    show forceN (lenL (avsB l)) _ ∈ (_ : Dn)
    rw [forceN_eq]
    unfold newK
    simp only [forceN_eq]
    exact ⟨rfl, rfl⟩
  have hconc : ∀ {φ : List Pl} (k : List SI), concL φ ρ (avsB k) = some (bytV (k.map (SI.ev ρ))) := fun {φ} k => by rw [avsB_eq]; exact concL_bs k
  refine ⟨_, _, hform, rfl, fun {w0 φ w Ts T sCap p y sLen n bp bm bc zx zy} hr hg hT hn1 hu hy hbm hm' hcap hcs hzx hzy ho hnw => ?_, fun {w0 φ w pl q arr fz} hg hes hlo hhi hfree hb hsz hpos hlen' hle hfr hc hfo => ?_⟩
  · subst hy; subst hbm
    have hsum : l.length = sLen + bm := by omega
    obtain ⟨_, v1, s1, h7, hpc1, hnew, _⟩ := grow_new (P := P) (ρ := ρ) (sLen := sLen) (n := bm) (hmem sLen (by omega)) hs hsum
    obtain ⟨rfl, rfl⟩ := h7
    have hlenY : (Builtin.lenOf (.slice bp bm bc)).run P w = .ok bm w := by simp [Builtin.lenOf]
    have hx : zx = (l.take sLen).map (SI.ev ρ) := by
      rw [hl] at hcs
      have := congrArg (List.take sLen) hcs
      rw [← hzx, List.take_left, hzx, ← List.map_take] at this
      exact this.symm
    have hy : zy = (l.drop sLen).map (SI.ev ρ) := by
      rw [hl] at hcs
      have := congrArg (List.drop sLen) hcs
      rw [← hzx, List.drop_left, hzx, ← List.map_drop] at this
      exact this.symm
    refine hnew hg hT hn1 hu hlenY (by omega) _ _ ho hnw (by rw [hx]; exact hconc _) (by rw [hy]; exact hconc _) (by rw [avsB_eq, List.length_map, List.length_take]; omega) (by rw [avsB_eq, List.length_map, List.length_drop]; omega)
  · obtain ⟨_, v1, s1, h7, hpc1, _, hin1⟩ := grow_new (P := P) (ρ := ρ) (sLen := 0) (n := l.length) (hmem 0 (Nat.zero_le _)) hs (by omega)
    obtain ⟨rfl, rfl⟩ := h7
    have hcat : avsB (l.take 0) ++ avsB (l.drop 0) = avsB l := by rw [avsB_eq, avsB_eq, avsB_eq, ← List.map_append, List.take_append_drop]
    have hal : (avsB l).length = l.length := by rw [avsB_eq, List.length_map]
    rw [hme]
    refine hin1 (xs := bytV (l.map (SI.ev ρ))) hg (by rw [hcat]; exact hconc _) hes hlo hhi hfree hb hsz (by rw [hcat, hal]; omega) hfr (fun i hi => ?_) hfo
    rw [hcat, hal] at hi
    have hz2 : (ropeZ ρ cs)[i]? = some (l[i].ev ρ) := by rw [hl, List.getElem?_map, List.getElem?_eq_getElem hi]; rfl
    rw [hc i _ hz2]
    simp [bytV, hi]
/-- its end is the end of what is known of the row -/
theorem endK_inv {o : AObj} {e : TypeId} {pc : PC} {off len : SI} {κ : PC → R} (hs : sizeA P e = some 1) (hD : endK o e pc off len κ ∈ D) : ∃ pc', κ pc' ∈ D ∧ PcExt pc pc' ∧ ∀ {φ w id p}, Holds ρ pc' → ObjOk P φ ρ w id o → φ[id]? = some p → p.es = 1 ∧ ∃ arr fz, w.heap[p.blk]? = some (.cells arr e fz) ∧ arr.size = p.sz ∧ ∀ i, i < p.sz → ¬ (fz.1 ≤ i ∧ i < fz.2) := by
  unfold endK at hD
  split at hD
  · rename_i cs T r
    obtain ⟨hb, h1⟩ := brec_inv hD
    simp only [Bool.and_eq_true, natBeq, decide_eq_true_eq] at hb
    obtain ⟨rfl, rfl⟩ := hb
    obtain ⟨t, h2, _⟩ := totR_inv h1
    obtain ⟨q, h3, _⟩ := plE_inv h2
    obtain ⟨b, pc', h4, hx, _⟩ := leD_inv h3
    obtain ⟨_, h5⟩ := brec_inv h4
    refine ⟨pc', h5, hx, fun {φ w id p} _ ho hp => ?_⟩
    obtain ⟨p', arr, fz, hp', hc⟩ := ho
    rw [hp] at hp'; cases hp'
    exact ⟨hc.e1, arr, fz, hc.blk, hc.size, hc.fr⟩
  · rename_i n c d T r
    obtain ⟨hb, h1⟩ := brec_inv hD
    simp only [Bool.and_eq_true, natBeq, decide_eq_true_eq] at hb
    obtain ⟨rfl, rfl⟩ := hb
    obtain ⟨q, h3, _⟩ := plE_inv h1
    obtain ⟨b, pc', h4, hx, _⟩ := leD_inv h3
    obtain ⟨_, h5⟩ := brec_inv h4
    refine ⟨pc', h5, hx, fun {φ w id p} _ ho hp => ?_⟩
    obtain ⟨p', arr, fz, hp', hc⟩ := ho
    rw [hp] at hp'; cases hp'
    have h6 := (hc.es rfl).1
    exact ⟨(Option.some.inj (hs.symm.trans h6)).symm, arr, fz, hc.blk, hc.size, hc.fr⟩
  · cases hD
theorem appT_sound {Ts : Array TypeId} {T e : TypeId} (hT : Ts[0]? = some T) (hn1 : notIntT P (Ts[1]?) = true) (hu : P.underlying T = some (.slice e)) (hs : sizeA P e = some 1) (hb1 : bytesA P e = some 1) (hz : zeroA P e = some (.int .u8 (.lit (.ofNat 0)))) {s : St} {pc : PC} {id : Nat} {off len ny : SI} {cy : List Ch} {κ : AV → St → R} (hD : appT P e s pc id off len ny cy κ ∈ D) :
    ∃ v s', κ v s' ∈ D ∧ PcExt pc s'.pc ∧ ∀ {w0 φ w p bp bm bc}, Holds ρ s'.pc → Gm P ρ w0 φ s w → φ[id]? = some p → bm = (ny.ev ρ).toNat → 0 < bm → (ropeZ ρ cy).length = bm → (∀ w' : World, w'.heap = w.heap → (Builtin.firstCells 1 bm (.slice bp bm bc)).run P w' = .ok (bytV (ropeZ ρ cy)).toArray w') →
      ∃ φ' z w', φ <+: φ' ∧ conc φ' ρ v = some z ∧ Gm P ρ w0 φ' s' w' ∧ ∀ R', (Builtin.append_ Ts R' #[.slice (some ⟨p.blk, p.sh + (off.ev ρ).toNat, none⟩) (len.ev ρ).toNat (p.room (off.ev ρ).toNat), .slice bp bm bc]).run P w = .ok z w' := by
  obtain ⟨o, ho, h1⟩ := optK_inv hD
  obtain ⟨pc1, h2, x1, hend⟩ := endK_inv (P := P) (ρ := ρ) hs h1
  obtain ⟨cx, pc2, h3, x2, hl, hcx⟩ := readO_inv h2
  obtain ⟨m, h4, hm⟩ := plE_inv h3
  have h5 := appCh_inv h4
  obtain ⟨v, s', h6, hpc, hnew, hin⟩ := growX_sound (ρ := ρ) hs hb1 hz h5
  have hpc : s'.pc = pc2 := hpc
  refine ⟨v, s', h6, by rw [hpc]; exact x1.trans x2, fun {w0 φ w p bp bm bc} hρ hg hp hbm hpos hlen hfc => ?_⟩
  rw [hpc] at hρ
  obtain ⟨e1, arr0, fz0, b1, b2, b3⟩ := hend (hρ.of_ext x2) (hg.hp.obj _ _ ho) hp
  obtain ⟨a1, a2, a3, a4, a5⟩ := hcx (P := P) hρ (hg.hp.obj _ _ ho) hp
  obtain ⟨m1, m2, m3⟩ := hm ρ hρ.rg
  have hmn : (m.ev ρ).toNat = (len.ev ρ).toNat + bm := by omega
  have hroom := room1 e1 (off.ev ρ).toNat
  have hkill : Gm P ρ w0 φ (killS ⟨s.hp, s.nx, pc2⟩ id) w := (hg.kill ho).pc pc2
  rcases Nat.lt_or_ge (p.room (off.ev ρ).toNat) ((len.ev ρ).toNat + bm) with hc | hc
  · exact hnew hρ.rg hkill hT hn1 hu rfl rfl hmn hc (ropeZ_app cx cy) a4 hlen (fun w' he => by
      have := first_bytes (P := P) (a5.heap he) (m := (len.ev ρ).toNat) (c := p.room (off.ev ρ).toNat) (k := (len.ev ρ).toNat) (by omega)
      rwa [List.take_of_length_le (by omega)] at this) hfc
  · obtain ⟨w', arr', r1, r2, r3, r4, r5, r6⟩ := store_into hg ho hl hp b1 b2 b3 (q := p.sh + (off.ev ρ).toNat + (len.ev ρ).toNat) (bytV_one (ropeZ ρ cy)) (by rw [bytV_len, hlen]; omega)
    obtain ⟨φ', q1, q2, q3⟩ := hin (pl := p) (q := (off.ev ρ).toNat) (arr := arr') (fz := fz0) (r2.pc pc2) e1 (hg.lo id p hp).1 r6 (fun i o' q hi hl' hq => hg.kill_free ho hl hp i o' q hi hl' hq) r3 r4 (by omega) (by rw [ropeZ_app, List.length_append]; omega) (by omega) b3 (fun i z hi => by
      rw [r5, bytV_len, hlen]
      rw [ropeZ_app] at hi
      by_cases hlt : i < (len.ev ρ).toNat
      · rw [if_neg (by omega)]
        rw [List.getElem?_append_left (by omega)] at hi
        have := a5 i z hi
        simp only [World.cell?, b1] at this
        exact this
      · have hi2 := (List.getElem?_eq_some_iff.1 hi).1
        rw [List.length_append] at hi2
        rw [if_pos (by omega)]
        rw [List.getElem?_append_right (by omega)] at hi
        rw [show p.sh + (off.ev ρ).toNat + i - (p.sh + (off.ev ρ).toNat + (len.ev ρ).toNat) = i - (ropeZ ρ cx).length by omega]
        exact bytV_get hi) (fun x hx => (hg.fr x hx).2.2 id p hp)
    refine ⟨φ', _, w', q1, q2, q3, ?_⟩
    rw [hmn]
    have hlenY : (Builtin.lenOf (.slice bp bm bc)).run P w = .ok bm w := by simp [Builtin.lenOf]
    refine append_in hT hn1 hu hs hlenY hc (bytV (ropeZ ρ cy)).toArray (hfc w rfl) ?_
    show (storeCells ((⟨p.blk, p.sh + (off.ev ρ).toNat, none⟩ : Addr).add ((len.ev ρ).toNat * 1)) (bytV (ropeZ ρ cy))).run P w = _
    rw [add_plain, Nat.mul_one]
    exact r1
theorem appR_sound {Ts : Array TypeId} {s : St} {x y : AV} {κ : AV → St → R} (hD : appR P Ts s x y κ ∈ D) : ∃ v s', κ v s' ∈ D ∧ PcExt s.pc s'.pc ∧ ∀ {w0 φ w a b}, Holds ρ s'.pc → Gm P ρ w0 φ s w → conc φ ρ x = some a → conc φ ρ y = some b → ∃ φ' z w', φ <+: φ' ∧ conc φ' ρ v = some z ∧ Gm P ρ w0 φ' s' w' ∧ ∀ R', (Builtin.append_ Ts R' #[a, b]).run P w = .ok z w' := by
  obtain ⟨T, hT, h1⟩ := optK_inv hD
  obtain ⟨t, ht, h2⟩ := optK_inv h1
  split at h2
  rotate_left
  · cases h2
  rename_i e sz
  obtain ⟨hu, hs⟩ := ixOf_sli ht
  obtain ⟨hb, h3⟩ := brec_inv h2
  rw [Bool.and_eq_true] at hb
  obtain ⟨hn1, hby⟩ := hb
  obtain ⟨rfl, hb1, hz⟩ := byteT_ok hby
  obtain ⟨cy, pc1, h4, x1, hcy⟩ := readR_sound (P := P) (ρ := ρ) h3
  obtain ⟨ny, h5, hny⟩ := lenS_inv h4
  obtain ⟨b0, pc2, h6, x2, hle⟩ := leD_inv h5
  -- what is put behind it
  have hy : ∀ {pc3 : PC}, PcExt pc2 pc3 → ∀ {w0 φ w bv}, Holds ρ pc3 → Gm P ρ w0 φ s w → conc φ ρ y = some bv → ∃ bp bm bc, bv = .slice bp bm bc ∧ bm = (ny.ev ρ).toNat ∧ bm = (ropeZ ρ cy).length ∧ (b0 = true ↔ bm = 0) ∧ ∀ k, k ≤ bm → ∀ w' : World, w'.heap = w.heap → (Builtin.firstCells 1 k (.slice bp bm bc)).run P w' = .ok (bytV ((ropeZ ρ cy).take k)).toArray w' := by
    intro pc3 x3 w0 φ w bv hρ hg hb
    have hρ2 := hρ.of_ext x3
    obtain ⟨bp, bm, bc, rfl, q1, q2⟩ := hcy (hρ2.of_ext x2) hg hb
    obtain ⟨q3, bp', bm', bc', e1, q4⟩ := hny (by rw [← x2.rg]; exact hρ2.rg) hb
    cases e1
    have h7 := hle ρ hρ2
    have h8 : zeroS.ev ρ = 0 := rfl
    rw [h8] at h7
    exact ⟨bp, bm, bc, rfl, q4, q1, by constructor <;> intro hh <;> (first | (have := h7.1 hh; omega) | (exact h7.2 (by omega))), q2⟩
  rcases brec_cases h6 with ⟨rfl, h7⟩ | ⟨rfl, h7⟩
  · have span : ∀ {id : Nat} {o0 off len : SI} {κ' : PC → R}, spanK s.hp e pc2 id off len κ' ∈ D → ∃ pc', κ' pc' ∈ D ∧ PcExt pc2 pc' ∧ ∀ {w0 φ w a b}, Holds ρ pc' → Gm P ρ w0 φ s w → conc φ ρ (.ssl id o0 off len none) = some a → conc φ ρ y = some b → ∀ R', (Builtin.append_ Ts R' #[a, b]).run P w = .ok a w := by
      intro id o0 off len κ' hk
      obtain ⟨pc', h8, x3, h9⟩ := spanK_inv hs hk
      refine ⟨pc', h8, x3, fun {w0 φ w a b} hρ hg ha hb => ?_⟩
      obtain ⟨bp, bm, bc, rfl, q1, q2, q3, q4⟩ := hy x3 hρ hg hb
      obtain rfl : bm = 0 := q3.1 rfl
      have hlenY : (Builtin.lenOf (.slice bp 0 bc)).run P w = .ok 0 w := by simp [Builtin.lenOf]
      have hpl : ∃ p, φ[id]? = some p := by
        simp only [conc, Option.map_eq_some_iff] at ha
        obtain ⟨p, hp, _⟩ := ha
        exact ⟨p, hp⟩
      obtain ⟨p, hp⟩ := hpl
      obtain ⟨a1, a2, a3, a4⟩ := h9 hρ hg.hp hp
      rw [ssl_none hp] at ha
      split at ha
      · cases ha
        exact append_in hT hn1 hu hs hlenY (Nat.le_refl _) #[] first0 (by rfl)
      · cases ha
        exact append_in hT hn1 hu hs hlenY (by rw [room1 a3]; omega) #[] first0 (by rfl)
    unfold zeroX at h7
    split at h7
    · rename_i id o0 off len
      obtain ⟨pc', h8, x3, h9⟩ := span (o0 := o0) h7
      exact ⟨_, _, h8, (x1.trans x2).trans x3, fun {w0 φ w a b} hρ hg ha hb => ⟨φ, a, w, List.prefix_refl _, ha, hg.pc _, h9 hρ hg ha hb⟩⟩
    · rename_i id off len
      obtain ⟨pc', h8, x3, h9⟩ := span (o0 := natS off) h7
      exact ⟨_, _, h8, (x1.trans x2).trans x3, fun {w0 φ w a b} hρ hg ha hb => ⟨φ, a, w, List.prefix_refl _, ha, hg.pc _, h9 hρ hg (by rw [← sl_ssl]; exact ha) hb⟩⟩
    obtain ⟨hsl, h8⟩ := brec_inv h7
    refine ⟨_, _, h8, x1.trans x2, fun {w0 φ w a b} hρ hg ha hb => ?_⟩
    obtain ⟨bp, bm, bc, rfl, q1, q2, q3, q4⟩ := hy (.refl _) hρ hg hb
    obtain rfl : bm = 0 := q3.1 rfl
    have hlenY : (Builtin.lenOf (.slice bp 0 bc)).run P w = .ok 0 w := by simp [Builtin.lenOf]
    unfold isSlV at hsl
    split at hsl
    · rename_i id off len c
      rw [natBle] at hsl
      have hsl := of_decide_eq_true hsl
      have ha0 := ha
      obtain ⟨p, hp, rfl⟩ := conc_sl ha
      refine ⟨φ, _, w, List.prefix_refl _, ha0, hg.pc _, ?_⟩
      exact append_in hT hn1 hu hs hlenY (by simpa using hsl) #[] first0 (by rfl)
    · simp only [conc, Option.some.injEq] at ha
      subst ha
      refine ⟨φ, _, w, List.prefix_refl _, rfl, hg.pc _, ?_⟩
      exact append_in hT hn1 hu hs hlenY (Nat.le_refl _) #[] first0 (by rfl)
    · cases hsl
  · -- a new row, of nothing ahead
    have fresh : ∀ {κ' : AV → St → R}, growX P ⟨s.hp, s.nx, pc2⟩ e ny cy κ' ∈ D → ∃ v s', κ' v s' ∈ D ∧ PcExt s.pc s'.pc ∧ ∀ {w0 φ w b} {p : Option Addr}, Holds ρ s'.pc → Gm P ρ w0 φ s w → conc φ ρ y = some b → ∃ φ' z w', φ <+: φ' ∧ conc φ' ρ v = some z ∧ Gm P ρ w0 φ' s' w' ∧ ∀ R', (Builtin.append_ Ts R' #[.slice p 0 0, b]).run P w = .ok z w' := by
      intro κ' h8
      obtain ⟨v, s', h9, hpc, hnew, _⟩ := growX_sound (ρ := ρ) hs hb1 hz h8
      have hpc : s'.pc = pc2 := hpc
      refine ⟨v, s', h9, by rw [hpc]; exact x1.trans x2, fun {w0 φ w b p} hρ hg hb => ?_⟩
      rw [hpc] at hρ
      obtain ⟨bp, bm, bc, rfl, q1, q2, q3, q4⟩ := hy (.refl _) hρ hg hb
      have hpos : 0 < bm := by
        rcases Nat.eq_zero_or_pos bm with hh | hh
        · cases q3.2 hh
        · exact hh
      refine hnew (sLen := 0) (sCap := 0) (zx := []) (zy := ropeZ ρ cy) hρ.rg (hg.pc pc2) hT hn1 hu rfl rfl (by omega) (by omega) rfl rfl q2.symm (fun w' _ => by rw [first0]; rfl) (fun w' he => ?_)
      have := q4 bm (Nat.le_refl _) w' he
      rwa [List.take_of_length_le (by omega)] at this
    unfold appW at h7
    split at h7
    · obtain ⟨v, s', h8, hx, h9⟩ := fresh h7
      refine ⟨v, s', h8, hx, fun {w0 φ w a b} hρ hg ha hb => ?_⟩
      simp only [conc, Option.some.injEq] at ha
      subst ha
      exact h9 hρ hg hb
    · rename_i id off
      obtain ⟨v, s', h8, hx, h9⟩ := fresh h7
      refine ⟨v, s', h8, hx, fun {w0 φ w a b} hρ hg ha hb => ?_⟩
      obtain ⟨p, hp, rfl⟩ := conc_sl ha
      exact h9 hρ hg hb
    · rename_i id off len
      obtain ⟨v, s', h8, hx, h9⟩ := appT_sound (ρ := ρ) hT hn1 hu hs hb1 hz h7
      refine ⟨v, s', h8, (x1.trans x2).trans hx, fun {w0 φ w a b} hρ hg ha hb => ?_⟩
      obtain ⟨p, hp, rfl⟩ := conc_sl ha
      obtain ⟨bp, bm, bc, rfl, q1, q2, q3, q4⟩ := hy hx hρ hg hb
      have hpos : 0 < bm := by
        rcases Nat.eq_zero_or_pos bm with hh | hh
        · cases q3.2 hh
        · exact hh
      exact h9 hρ hg hp q1 hpos q2.symm fun w' he => by
        have := q4 bm (Nat.le_refl _) w' he
        rwa [List.take_of_length_le (by omega)] at this
    · rename_i id o0 off len
      rcases brec_cases h7 with ⟨_, h8⟩ | ⟨hnz, h8⟩
      · cases h8
      obtain ⟨v, s', h9, hx, h10⟩ := appT_sound (ρ := ρ) hT hn1 hu hs hb1 hz h8
      refine ⟨v, s', h9, (x1.trans x2).trans hx, fun {w0 φ w a b} hρ hg ha hb => ?_⟩
      have hpl : ∃ p, φ[id]? = some p := by
        simp only [conc, Option.map_eq_some_iff] at ha
        obtain ⟨p, hp, _⟩ := ha
        exact ⟨p, hp⟩
      obtain ⟨p, hp⟩ := hpl
      rw [ssl_none hp, if_neg (fun hh => by rw [hnz] at hh; cases hh.1)] at ha
      cases ha
      obtain ⟨bp, bm, bc, rfl, q1, q2, q3, q4⟩ := hy hx hρ hg hb
      have hpos : 0 < bm := by
        rcases Nat.eq_zero_or_pos bm with hh | hh
        · cases q3.2 hh
        · exact hh
      exact h10 hρ hg hp q1 hpos q2.symm fun w' he => by
        have := q4 bm (Nat.le_refl _) w' he
        rwa [List.take_of_length_le (by omega)] at this
    · cases h7
theorem app0_sound {Ts : Array TypeId} {s : St} {x : AV} {κ : AV → St → R} (hD : app0 P Ts s x κ ∈ D) : κ x s ∈ D ∧ ∀ {w0 φ w a} {q : Option Addr} {qc : Nat}, Gm P ρ w0 φ s w → conc φ ρ x = some a → ∀ R', (Builtin.append_ Ts R' #[a, .slice q 0 qc]).run P w = .ok a w := by
  obtain ⟨T, hT, h1⟩ := optK_inv hD
  obtain ⟨t, ht, h2⟩ := optK_inv h1
  split at h2
  rotate_left
  · cases h2
  rename_i e sz
  obtain ⟨hu, hs⟩ := ixOf_sli ht
  obtain ⟨hn1, h3⟩ := brec_inv h2
  have fst : ∀ {q : Option Addr} {qc : Nat} {w : World}, (Builtin.firstCells sz 0 (.slice q 0 qc)).run P w = .ok #[] w := by
    intro q qc w
    cases q with
    | none => rfl
    | some a =>
      show (loadCells a (0 * sz)).run P w = _
      rw [Nat.zero_mul]
      rfl
  have hlenY : ∀ {q : Option Addr} {qc : Nat} {w : World}, (Builtin.lenOf (.slice q 0 qc)).run P w = .ok 0 w := rfl
  unfold app0K at h3
  split at h3
  · rename_i id off len
    obtain ⟨k, c, d, T', r, hid, h4⟩ := objK_inv h3
    obtain ⟨hb, h5⟩ := brec_inv h4
    simp only [Bool.and_eq_true, natBeq, natBle, decide_eq_true_eq] at hb
    obtain ⟨rfl, rfl, hle⟩ := hb
    refine ⟨h5, fun {w0 φ w a q qc} hg ha => ?_⟩
    obtain ⟨p, hp, rfl⟩ := conc_sl ha
    obtain ⟨p', arr0, fz0, hp', hc⟩ := hg.hp.obj _ _ hid
    rw [hp] at hp'; cases hp'
    have hes := hc.es rfl
    rw [hs] at hes
    have hes1 : p.es = sz := (Option.some.inj hes.1).symm
    exact append_in hT hn1 hu hs hlenY (room_le hes1 (by rw [← hes1]; exact hes.2) (by rw [Nat.add_zero]; exact hle) hc.le) #[] fst (by rfl)
  · obtain ⟨hsl, h4⟩ := brec_inv h3
    refine ⟨h4, fun {w0 φ w a q qc} hg ha => ?_⟩
    unfold isSlV at hsl
    split at hsl
    · rename_i id off len c _
      rw [natBle] at hsl
      have hsl := of_decide_eq_true hsl
      obtain ⟨p, hp, rfl⟩ := conc_sl ha
      exact append_in hT hn1 hu hs hlenY (by simpa using hsl) #[] fst (by rfl)
    · simp only [conc, Option.some.injEq] at ha
      subst ha
      exact append_in hT hn1 hu hs hlenY (Nat.le_refl _) #[] fst (by rfl)
    · cases hsl
theorem appX_sound {Ts : Array TypeId} {s : St} {x y : AV} {κ : AV → St → R} (hD : appX P Ts s x y κ ∈ D) : ∃ v s', κ v s' ∈ D ∧ PcExt s.pc s'.pc ∧ ∀ {w0 φ w a b}, Holds ρ s'.pc → Gm P ρ w0 φ s w → conc φ ρ x = some a → conc φ ρ y = some b → ∃ φ' z w', φ <+: φ' ∧ conc φ' ρ v = some z ∧ Gm P ρ w0 φ' s' w' ∧ ∀ R', (Builtin.append_ Ts R' #[a, b]).run P w = .ok z w' := by
  rcases brec_cases hD with ⟨h0, h1⟩ | ⟨_, h1⟩
  · obtain ⟨h2, h3⟩ := app0_sound (P := P) (ρ := ρ) h1
    refine ⟨x, s, h2, .refl _, fun {w0 φ w a b} hρ hg ha hb => ?_⟩
    obtain ⟨p, k, c, e, h4⟩ := osl0_ev h0
    rw [h4 hρ.rg hb]
    exact ⟨φ, a, w, List.prefix_refl _, ha, hg, h3 hg ha⟩
  rcases brec_cases h1 with ⟨_, h1⟩ | ⟨_, h1⟩
  · exact appR_sound h1
  · obtain ⟨v, s', h2, hpc, h3⟩ := app_sound (P := P) (ρ := ρ) h1
    exact ⟨v, s', h2, by rw [hpc]; exact .refl _, fun _ hg ha hb => h3 hg ha hb⟩
end
end Go.Proofs.YticednpolhnneaaGreat
