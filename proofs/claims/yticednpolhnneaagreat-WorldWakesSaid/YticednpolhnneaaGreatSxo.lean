/-
  A run reckoned ahead: each operation does what was reckoned.
-/
import Derived.Test.YticednpolhnneaaGreatSxn
set_option linter.unusedVariables false
set_option linter.unusedSimpArgs false
namespace Go.Proofs.YticednpolhnneaaGreat
open Go

section
variable {P : Program} {ρ : Nat → Int} {w0 : Base} {D : Dn}

theorem str_sound {src T : TypeId} {x : AV} {s : St} {κ : AV → St → R} (hD : strBytes P src T x s κ ∈ D) : ∃ v s', κ v s' ∈ D ∧ s'.pc = s.pc ∧ ∀ {w0 φ w b}, Gm P ρ w0 φ s w → conc φ ρ x = some b → ∃ φ' z w', φ <+: φ' ∧ conc φ' ρ v = some z ∧ Gm P ρ w0 φ' s' w' ∧ (convert src T b).run P w = .ok z w' := by
  unfold strBytes at hD
  split at hD
  · rename_i hsrc
    obtain ⟨t, ht, h1⟩ := optK_inv hD
    split at h1
    · rename_i e sz
      obtain ⟨hb, h2⟩ := brec_inv h1
      obtain ⟨hu, hs⟩ := ixOf_sli ht
      simp only [Bool.and_eq_true, natBeq, decide_eq_true_eq] at hb
      obtain ⟨hk, rfl⟩ := hb
      have hk : intOfT P e = some .u8 := by
        split at hk
        · assumption
        · cases hk
      have hue := intOfT_und hk
      split at h2
      · rename_i b
        rw [forceN_eq] at h2
        obtain ⟨s', h3, hpc, h4⟩ := newL_sound (P := P) (ρ := ρ) h2
        refine ⟨_, s', h3, hpc, fun {w0 φ w y} hg hy => ?_⟩
        simp only [conc, Option.some.injEq] at hy
        subst hy
        have hx : concL φ ρ (bytesL b) = some (b.data.toList.map fun x => Value.int .u8 x.toNat) := bytes_conc b.data.toList
        let cap := b.size + (w.tape w.drawn (.appendCap b.size 0 e)) % (2 ^ 63 - b.size)
        let arr : Array Value := (b.data.map fun b => Value.int .u8 b.toNat) ++ Array.replicate (cap - b.size) (.int .u8 0)
        have hcap : b.size ≤ cap := by simp only [cap]; omega
        have hasz : arr.size = cap := by
          simp only [arr, Array.size_append, Array.size_map, Array.size_replicate]
          have : b.data.size = b.size := rfl
          omega
        let w1 : World := { w with drawn := w.drawn + 1 }
        let w2 : World := { w1 with heap := w1.heap.push (.cells arr e) }
        let w3 : World := w2.freeze ⟨w.heap.size, cap, none⟩ 1
        have hw2 : w2.heap[w.heap.size]? = some (.cells arr e (0, 0)) := by simp [w2, w1]
        have hw3 : w3.heap[w.heap.size]? = some (.cells arr e (cap, cap + 1)) := by
          simp only [w3, World.freeze]
          simp [Array.getElem?_modify, hw2]
        have hoth : ∀ k, k < w.heap.size → w3.heap[k]? = w.heap[k]? := fun k hk => by
          simp only [w3, World.freeze]
          rw [if_neg (by omega), Array.getElem?_modify, if_neg (by omega)]
          simp [w2, w1, Array.getElem?_push_lt hk, Array.getElem?_eq_getElem hk]
        have hsz3 : w3.heap.size = w.heap.size + 1 := by simp [w3, World.freeze, w2, w1]
        have hg3 : Gm P ρ w0 φ s w3 := hg.world ⟨by rw [← hg.kp.os]; simp [w3, World.freeze, w2, w1], by rw [← hg.kp.tape]; simp [w3, World.freeze, w2, w1], by rw [← hg.kp.output]; simp [w3, World.freeze, w2, w1], by rw [hsz3]; have := hg.kp.size; omega, fun k hk hn => by rw [hoth k (Nat.lt_of_lt_of_le hk hg.kp.size)]; exact hg.kp.block k hk hn⟩ (by omega) (fun i o q hi hl hq => hoth q.blk (hg.lo i q hq).2) (fun x _ hlt _ => hoth x.1 hlt)
        have hm := h4 (p := ⟨w.heap.size, 0, cap, 1⟩) (arr := arr) (fz := (cap, cap + 1)) hg3 hx hg.kp.size (by rw [hsz3]; simp) (fun i o' q hi hl hq he => by have := (hg.lo i q hq).2; simp only at he; omega) hw3 hasz
          (by simp [bytesL]; have : b.data.size = b.size := rfl; omega) (fun h => by cases h) (fun _ => ⟨hs, Nat.one_pos⟩) (fun i hi h => by simp only at hi h; omega) (fun i hi => by
            have hi' : i < b.data.size := by simpa [bytesL] using hi
            simp only [arr, Nat.zero_add]
            rw [Array.getElem?_append_left (by simpa using hi')]
            simp [hi']) (fun x hx => Nat.ne_of_gt (hg.fr x hx).1)
        refine ⟨_, .slice (some ⟨w.heap.size, 0, none⟩) b.size cap, w3, pre_one _ _, ?_, hm, ?_⟩
        · rw [show AV.sl s.nx (nat_lit 0) b.size none = AV.sl s.nx 0 b.size none from rfl]
          simp only [conc]
          rw [show (φ ++ [(⟨w.heap.size, 0, cap, 1⟩ : Pl)])[s.nx]? = some ⟨w.heap.size, 0, cap, 1⟩ by rw [← hg.len]; simp]
          simp [Pl.room]
        · have hch : (choose (.appendCap b.size 0 e)).run P w = .ok cap w1 := by simp [choose, Sem.run, Question.forced, Question.cut, cap, w1]
          have hsh : w2.shape? w.heap.size = some (e, cap) := by unfold World.shape?; rw [hw2]; simp [hasz]
          simp only [convert, Sem.run_bind, run_underlying hsrc, run_underlying hu, run_underlying hue, Result.andThen_ok, Conv.stringToBytes, hch, run_newRow]
          rw [show w1.heap.size = w.heap.size from rfl]
          simp only [markStringish, Sem.run_bind, run_shape]
          rw [show ({ w1 with heap := w1.heap.push (.cells ((b.data.map fun b => Value.int .u8 b.toNat) ++ Array.replicate (cap - b.size) (.int .u8 0)) e) } : World) = w2 from rfl, hsh]
          simp only [Result.andThen_ok]
          rfl
      · cases h2
    · cases h1
  · cases hD

theorem mark_sound {src T : TypeId} {id off len : Nat} {cap : Option Nat} {s : St} {κ : AV → St → R} (hD : markK P src T s κ id off len cap ∈ D) : ∃ v s', κ v s' ∈ D ∧ s'.pc = s.pc ∧ ∀ {w0 φ w b}, Gm P ρ w0 φ s w → conc φ ρ (.sl id off len cap) = some b → ∃ w', conc φ ρ v = some b ∧ Gm P ρ w0 φ s' w' ∧ (convert src T b).run P w = .ok b w' := by
  obtain ⟨t, ht, h1⟩ := optK_inv hD
  split at h1
  · rename_i e sz
    obtain ⟨hu, hs⟩ := ixOf_sli ht
    obtain ⟨ds, hds, h2⟩ := optK_inv h1
    obtain ⟨n, c, d, T', r, hid, h3⟩ := objK_inv h2
    obtain ⟨hb, h4⟩ := brec_inv h3
    simp only [Bool.and_eq_true, natBeq, decide_eq_true_eq, notF_eq, Bool.not_eq_true'] at hb
    obtain ⟨rfl, hk, rfl, hsz⟩ := hb
    have hk : intOfT P e = some .u8 := by
      split at hk
      · assumption
      · cases hk
    have hsz : sizeA P T' = some 1 := by
      split at hsz
      · rename_i m hm
        rw [hm, of_decide_eq_true hsz]
      · cases hsz
    have hue := intOfT_und hk
    refine ⟨_, _, h4, rfl, fun {w0 φ w b} hg hb => ?_⟩
    obtain ⟨p, arr, fz, hp, hc⟩ := hg.hp.obj _ _ hid
    have hb' := hb
    obtain ⟨p', hp', rfl⟩ := conc_sl hb
    rw [hp] at hp'; cases hp'
    obtain ⟨f1, f2, rfl, f3⟩ := hc.fix rfl
    let w' : World := w.freeze ⟨p.blk, arr.size, none⟩ 1
    have hlt := (hg.lo id p hp).2
    have hw' : w'.heap[p.blk]? = some (.cells arr T' (arr.size, arr.size + 1)) := by
      simp only [w', World.freeze]
      simp [Array.getElem?_modify, hc.blk]
    have hk : Kp [p.blk] w w' := by
      refine ⟨by simp [w', World.freeze], by simp [w', World.freeze], by simp [w', World.freeze], by simp [w', World.freeze], fun k hk hn => ?_⟩
      simp only [List.mem_singleton] at hn
      simp only [w', World.freeze]
      rw [if_neg (by omega), Array.getElem?_modify, if_neg (fun e => hn e.symm)]
    have hsize := hc.size
    refine ⟨w', hb', hg.upd hid rfl hp hk ⟨p, arr, _, hp, ⟨hw', hc.size, hc.le, (fun h => by cases h), (fun _ => ⟨by rw [f3]; exact hsz, by omega⟩), (fun i hi h => by simp only at h; omega), hc.cell⟩⟩, ?_⟩
    have hsh : w.shape? p.blk = some (T', arr.size) := by unfold World.shape?; rw [hc.blk]
    rw [hu] at hds
    simp only [convert, Sem.run_bind, run_underlying hu, run_underlying hue, Result.andThen_ok, beq_self_eq_true]
    simp only [markStringish, Sem.run_bind, run_shape, hsh, Result.andThen_ok]
    rfl
  · cases h1
theorem convE_sound {src T : TypeId} {x : AV} {s : St} {κ : AV → St → R} (hD : convE P src T x s κ ∈ D) : ∃ v s', κ v s' ∈ D ∧ s'.pc = s.pc ∧ ∀ {w0 φ w b}, Gm P ρ w0 φ s w → conc φ ρ x = some b → ∃ φ' z w', φ <+: φ' ∧ conc φ' ρ v = some z ∧ Gm P ρ w0 φ' s' w' ∧ (convert src T b).run P w = .ok z w' := by
  unfold convE at hD
  split at hD
  · obtain ⟨v, s', h1, hpc, h2⟩ := mark_sound (ρ := ρ) hD
    refine ⟨v, s', h1, hpc, fun {w0 φ w b} hg hb => ?_⟩
    obtain ⟨w', q1, q2, q3⟩ := h2 hg hb
    exact ⟨φ, b, w', List.prefix_refl _, q1, q2, q3⟩
  · exact str_sound hD

theorem mapNew_sound {T : TypeId} {s : St} {κ : AV → St → R} (hD : mapNew s κ ∈ D) : ∃ v s', κ v s' ∈ D ∧ s'.pc = s.pc ∧ ∀ {w0 φ a w}, Gm P ρ w0 φ s w → EffO P ρ w0 φ a w s' (.makeMap T none) v := by
  unfold mapNew at hD
  split at hD
  rename_i hp nx pc
  rw [forceN_eq] at hD
  refine ⟨_, _, hD, rfl, fun {w0 φ a w} hg => ?_⟩
  have hlen : φ.length = nx := hg.len
  let w1 : World := { w with heap := w.heap.push (.map #[] 0) }
  have hnx : (φ ++ [(⟨w.heap.size, 0, 0, 1⟩ : Pl)])[nx]? = some ⟨w.heap.size, 0, 0, 1⟩ := by rw [← hlen]; simp
  have ho : ObjOk P (φ ++ [⟨w.heap.size, 0, 0, 1⟩]) ρ w1 nx (.map [] 0) := ⟨_, #[], hnx, by simp [w1], .nil⟩
  have hm := (hg.push (.map #[] 0)).add (p := ⟨w.heap.size, 0, 0, 1⟩) hg.kp.size (by simp) (fun i o' q hi hl hq he => by have := (hg.lo i q hq).2; simp only at he; omega) ho pc (fun x hx => Nat.ne_of_gt (hg.fr x hx).1)
  refine .of (m := Instr.makeMap T none) (pre_one _ _) (x := .map (some w.heap.size)) ?_ hm ?_ (fun o ho => by unfold execOp; simp only [ho]; rfl)
  · simp only [conc]; rw [hnx]; rfl
  · simp [Instr.makeMap, Sem.run_bind, newObj, Sem.run]

theorem EntOk.modify {φ : List Pl} {es : List (AV × AV × Nat)} {ms : List MapEntry} (h : EntOk φ ρ es ms) {k v : AV} {x y : Value} (hv : conc φ ρ v = some y) : ∀ (i : Nat), (∀ e, es[i]? = some e → conc φ ρ e.1 = some x) → EntOk φ ρ (modL es i v) (ms.modify i fun e => { e with key := x, val := y }) := by
  unfold modL
  induction h with
  | nil => intro i _; simp; exact .nil
  | cons hk hv' h ih =>
    intro i hx
    cases i with
    | zero =>
      have := hx _ rfl
      simp only [List.modify_zero_cons]
      exact .cons this hv h
    | succ i =>
      simp only [List.modify_succ_cons]
      exact .cons hk hv' (ih i fun e he => hx e (by simpa using he))
theorem EntOk.push {φ : List Pl} {es : List (AV × AV × Nat)} {ms : List MapEntry} (h : EntOk φ ρ es ms) {k v : AV} {x y : Value} {b : Nat} (hk : conc φ ρ k = some x) (hv : conc φ ρ v = some y) : EntOk φ ρ (es ++ [(k, v, b)]) (ms ++ [⟨x, y, b⟩]) := by
  induction h with
  | nil => exact .cons hk hv .nil
  | cons hk' hv' _ ih => exact .cons hk' hv' ih
theorem EntOk.at {φ : List Pl} {es : List (AV × AV × Nat)} {ms : List MapEntry} (h : EntOk φ ρ es ms) : ∀ {j : Nat} {m : MapEntry}, ms[j]? = some m → ∃ e, es[j]? = some e ∧ conc φ ρ e.1 = some m.key ∧ conc φ ρ e.2.1 = some m.val ∧ e.2.2 = m.born := by
  induction h with
  | nil => intro j m h; simp at h
  | cons hk hv h ih =>
    intro j m h2
    cases j with
    | zero => simp at h2; subst h2; exact ⟨_, rfl, hk, hv, rfl⟩
    | succ j => simp at h2; simpa using ih h2
theorem setObj_any {w : World} {r : Nat} {o o' : Obj} (h : w.heap[r]? = some o) (hc : ∀ a b c, o ≠ .cells a b c) : (setObj r o').run P w = .ok () { w with heap := w.heap.setIfInBounds r o' } := by
  simp only [setObj, Sem.run, h]
  try rfl
/-- a thing that is no row turns -/
theorem Gm.setO {φ : List Pl} {s : St} {w : World} (hg : Gm P ρ w0 φ s w) {id : Nat} {o o' : AObj} {pl : Pl} {x : Obj} (hid : s.hp.get id = some o) (hl : live o = true) (hpl : φ[id]? = some pl) (ho : ObjOk P φ ρ { w with heap := w.heap.setIfInBounds pl.blk x } id o') (pc : PC) :
    Gm P ρ w0 φ ⟨s.hp.set id o', s.nx, pc⟩ { w with heap := w.heap.setIfInBounds pl.blk x } :=
  (hg.upd (w' := { w with heap := w.heap.setIfInBounds pl.blk x }) hid hl hpl ⟨rfl, rfl, rfl, by simp, fun k hk hn => by
    simp only [List.mem_singleton] at hn
    show (w.heap.setIfInBounds pl.blk x)[k]? = w.heap[k]?
    rw [Array.getElem?_setIfInBounds_ne (fun e => hn e.symm)]⟩ ho).pc pc
theorem Gm.setM {φ : List Pl} {s : St} {w : World} (hg : Gm P ρ w0 φ s w) {id : Nat} {es es' : List (AV × AV × Nat)} {clk clk' : Nat} {pl : Pl} (hid : s.hp.get id = some (.map es clk)) (hpl : φ[id]? = some pl) {xs xs' : Array MapEntry} {c0 : Nat} (hx : w.heap[pl.blk]? = some (.map xs c0)) (he : EntOk φ ρ es' xs'.toList) (pc : PC) :
    Gm P ρ w0 φ ⟨s.hp.set id (.map es' clk'), s.nx, pc⟩ { w with heap := w.heap.setIfInBounds pl.blk (.map xs' clk') } ∧ (setObj pl.blk (.map xs' clk')).run P w = .ok () { w with heap := w.heap.setIfInBounds pl.blk (.map xs' clk') } :=
  ⟨hg.setO (x := .map xs' clk') (o' := .map es' clk') hid rfl hpl ⟨pl, xs', hpl, by simp [(hg.lo id pl hpl).2], he⟩ pc, setObj_any hx (by simp)⟩
theorem setE_inv {id : Nat} {k v : AV} {es : List (AV × AV × Nat)} {c : Nat} {s : St} {κ : St → R} {r : Option (Nat × AV)} {pc : PC} (hD : setE id k v es c s κ r pc ∈ D) : ∃ es' c', κ ⟨s.hp.set id (.map es' c'), s.nx, pc⟩ ∈ D ∧ (∀ j u, r = some (j, u) → es' = modL es j v ∧ c' = c) ∧ (r = none → es' = es ++ [(k, v, c)] ∧ c' = c + 1) := by
  unfold setE at hD
  cases r with
  | some q => exact ⟨_, _, hD, (fun j u e => by cases e; exact ⟨rfl, rfl⟩), fun e => by cases e⟩
  | none => exact ⟨_, _, hD, (fun j u e => by cases e), fun _ => ⟨rfl, rfl⟩⟩
theorem mapSet_sound {T : TypeId} {s : St} {m k v : AV} {κ : St → R} (hD : mapSet P T s m k v κ ∈ D) : ∃ s', κ s' ∈ D ∧ PcExt s.pc s'.pc ∧ ∀ {w0 φ w a b c}, Holds ρ s'.pc → Gm P ρ w0 φ s w → conc φ ρ m = some a → conc φ ρ k = some b → conc φ ρ v = some c → ∃ w', Gm P ρ w0 φ s' w' ∧ (Instr.mapUpdate T a b c).run P w = .ok () w' := by
  obtain ⟨p, hp, h1⟩ := optK_inv hD
  obtain ⟨key, hu, hkey⟩ := mapTyA_und hp
  obtain ⟨h2, hkv⟩ := keyOk_inv h1
  split at h2
  · rename_i id
    obtain ⟨es, clk, hid, h3⟩ := mapK_inv h2
    obtain ⟨r, pc', h4, x1, h5⟩ := findK_inv h3
    obtain ⟨es', c', h6, hsome, hnone⟩ := setE_inv h4
    refine ⟨_, h6, x1, fun {w0 φ w a b c} hρ hg ha hb hc => ?_⟩
    obtain ⟨pl, xs, hpl, hx, he⟩ := hg.hp.obj _ _ hid
    simp only [conc, hpl, Option.map_some, Option.some.injEq] at ha
    subst ha
    obtain ⟨r', q1, q2⟩ := h5 hρ hb he
    have hf := find_run (w := w) hkey (hkv hb) q2
    cases r' with
    | some q =>
      obtain ⟨j, y⟩ := q
      cases r with
      | none => exact q1.elim
      | some q0 =>
        obtain ⟨j0, u⟩ := q0
        obtain ⟨rfl, hy⟩ : j0 = j ∧ conc φ ρ u = some y := q1
        obtain ⟨rfl, rfl⟩ := hsome _ _ rfl
        obtain ⟨_, me, e1, e2, e3⟩ := q2.at
        rw [Nat.sub_zero] at e1
        obtain ⟨e, he1, he2, _⟩ := he.at e1
        have hsame := e3.same
        have hmod := he.modify (k := k) (x := b) hc j0 (fun e' he' => by
          rw [he1] at he'; cases he'
          rw [he2, hsame])
        obtain ⟨r1, r2⟩ := hg.setM (es' := modL es j0 v) (xs' := (xs.toList.modify j0 fun e => { e with key := b, val := c }).toArray) (clk' := c') hid hpl hx (by simpa using hmod) pc'
        refine ⟨_, r1, ?_⟩
        rw [Array.getElem?_toList] at e1
        have hkey' : ((xs[j0]?).map (·.key)).getD b = me.key := by rw [e1]; rfl
        simp only [Instr.mapUpdate, Sem.run_bind, run_underlying hu, Result.andThen_ok, getObj_map hx, check_run hkey (hkv hb), hf, hkey', e3.stays]
        rw [← r2]
        congr 2
        rw [show xs.modify j0 (fun e => { e with key := b, val := c }) = (xs.toList.modify j0 fun e => { e with key := b, val := c }).toArray by apply Array.toList_inj.1; simp]
    | none =>
      cases r with
      | some q0 => exact q1.elim
      | none =>
        obtain ⟨rfl, rfl⟩ := hnone rfl
        have hpush := he.push (k := k) (x := b) (b := clk) hb hc
        obtain ⟨r1, r2⟩ := hg.setM (es' := es ++ [(k, v, clk)]) (xs' := xs.push ⟨b, c, clk⟩) (clk' := clk + 1) hid hpl hx (by simpa using hpush) pc'
        refine ⟨_, r1, ?_⟩
        simp only [Instr.mapUpdate, Sem.run_bind, run_underlying hu, Result.andThen_ok, getObj_map hx, check_run hkey (hkv hb), hf]
        exact r2
  · cases h2

/-! one is taken away -/
theorem cutL_eq : ∀ (es : List (AV × AV × Nat)) (i : Nat), cutL es i = es.eraseIdx i
  | [], i => by simp [cutL]
  | e :: es, 0 => rfl
  | e :: es, i + 1 => by
    show e :: cutL es i = e :: es.eraseIdx i
    rw [cutL_eq es i]
theorem EntOk.erase {φ : List Pl} {es : List (AV × AV × Nat)} {ms : List MapEntry} (h : EntOk φ ρ es ms) : ∀ (i : Nat), EntOk φ ρ (es.eraseIdx i) (ms.eraseIdx i) := by
  induction h with
  | nil => intro i; simp; exact .nil
  | cons hk hv h ih =>
    intro i
    cases i with
    | zero => simpa using h
    | succ i => simpa using .cons hk hv (ih i)
theorem delE_inv {id : Nat} {es : List (AV × AV × Nat)} {c : Nat} {s : St} {κ : St → R} {r : Option (Nat × AV)} {pc : PC} (hD : delE id es c s κ r pc ∈ D) : ∃ es', κ ⟨s.hp.set id (.map es' c), s.nx, pc⟩ ∈ D ∧ (∀ j u, r = some (j, u) → es' = es.eraseIdx j) ∧ (r = none → es' = es) := by
  unfold delE at hD
  cases r with
  | some q => exact ⟨_, hD, (fun j u e => by cases e; exact cutL_eq _ _), fun e => by cases e⟩
  | none => exact ⟨_, hD, (fun j u e => by cases e), fun _ => rfl⟩
theorem mapDel_sound {T : TypeId} {s : St} {m k : AV} {κ : AV → St → R} {Ts : Array TypeId} (hT : Ts[0]? = some T) (hD : mapDel P T s m k κ ∈ D) : ∃ s', κ (.tup []) s' ∈ D ∧ PcExt s.pc s'.pc ∧ ∀ {w0 φ w a b}, Holds ρ s'.pc → Gm P ρ w0 φ s w → conc φ ρ m = some a → conc φ ρ k = some b → ∃ w', Gm P ρ w0 φ s' w' ∧ ∀ R', (Builtin.delete_ Ts R' #[a, b]).run P w = .ok (.tuple #[]) w' := by
  obtain ⟨p, hp, h1⟩ := optK_inv hD
  obtain ⟨key, hu, hkey⟩ := mapTyA_und hp
  obtain ⟨h2, hkv⟩ := keyOk_inv h1
  split at h2
  · rename_i id
    obtain ⟨es, clk, hid, h3⟩ := mapK_inv h2
    obtain ⟨r, pc', h4, x1, h5⟩ := findK_inv h3
    obtain ⟨es', h6, hsome, hnone⟩ := delE_inv h4
    refine ⟨_, h6, x1, fun {w0 φ w a b} hρ hg ha hb => ?_⟩
    obtain ⟨pl, xs, hpl, hx, he⟩ := hg.hp.obj _ _ hid
    simp only [conc, hpl, Option.map_some, Option.some.injEq] at ha
    subst ha
    obtain ⟨r', q1, q2⟩ := h5 hρ hb he
    have hf := find_run (w := w) hkey (hkv hb) q2
    cases r' with
    | some q =>
      obtain ⟨j, y⟩ := q
      cases r with
      | none => exact q1.elim
      | some q0 =>
        obtain ⟨j0, u⟩ := q0
        obtain ⟨rfl, hy⟩ : j0 = j ∧ conc φ ρ u = some y := q1
        have := hsome _ _ rfl
        subst this
        obtain ⟨r1, r2⟩ := hg.setM (es' := es.eraseIdx j0) (xs' := xs.eraseIdxIfInBounds j0) (clk' := clk) hid hpl hx (by
          have := he.erase j0
          rw [Array.eraseIdxIfInBounds]
          split
          · simpa using this
          · rename_i hlt
            rw [List.eraseIdx_of_length_le (by rw [← he.length]; simpa using hlt)] at this ⊢
            rw [List.eraseIdx_of_length_le (by simpa using hlt)] at this
            exact this) pc'
        refine ⟨_, r1, fun R' => ?_⟩
        simp only [Builtin.delete_, hT, List.getElem?_toArray, List.getElem?_cons_zero, List.getElem?_cons_succ, Sem.run_bind, run_underlying hu, Result.andThen_ok, getObj_map hx, check_run hkey (hkv hb), hf, r2]
        rfl
    | none =>
      cases r with
      | some q0 => exact q1.elim
      | none =>
        have := hnone rfl
        subst this
        obtain ⟨r1, r2⟩ := hg.setM (es' := es') (xs' := xs) (clk' := clk) hid hpl hx he pc'
        refine ⟨_, r1, fun R' => ?_⟩
        simp only [Builtin.delete_, hT, List.getElem?_toArray, List.getElem?_cons_zero, List.getElem?_cons_succ, Sem.run_bind, run_underlying hu, Result.andThen_ok, getObj_map hx, check_run hkey (hkv hb), hf, r2]
        rfl
  · refine ⟨s, h2, .refl _, fun {w0 φ w a b} hρ hg ha hb => ⟨w, hg, fun R' => ?_⟩⟩
    simp only [conc, Option.some.injEq] at ha
    subst ha
    simp only [Builtin.delete_, hT, List.getElem?_toArray, List.getElem?_cons_zero, List.getElem?_cons_succ, Sem.run_bind, run_underlying hu, Result.andThen_ok, check_run hkey (hkv hb)]
    rfl
  · cases h2

/-! cells become what they were made as -/
theorem clear_sound {T : TypeId} {s : St} {x : AV} {κ : AV → St → R} {Ts : Array TypeId} (hT : Ts[0]? = some T) (hD : clearA P T s x κ ∈ D) : ∃ s', κ (.tup []) s' ∈ D ∧ s'.pc = s.pc ∧ ∀ {w0 φ w a}, Gm P ρ w0 φ s w → conc φ ρ x = some a → ∃ w', Gm P ρ w0 φ s' w' ∧ ∀ R', (Builtin.clear_ Ts R' #[a]).run P w = .ok (.tuple #[]) w' := by
  obtain ⟨d, hd, h1⟩ := optK_inv hD
  split at h1
  · rename_i e
    have zero : ∀ {p : Option Addr} {c : Nat} {w : World} (R' : TypeId), (Builtin.clear_ Ts R' #[.slice p 0 c]).run P w = .ok (.tuple #[]) w := by
      intro p c w R'
      cases p <;> simp [Builtin.clear_, hT, Sem.run_bind, run_underlying hd]
    split at h1
    · refine ⟨s, h1, rfl, fun {w0 φ w a} hg ha => ⟨w, hg, fun R' => ?_⟩⟩
      simp only [conc, Option.some.injEq] at ha
      subst ha
      simp [Builtin.clear_, hT, Sem.run_bind, run_underlying hd]
    · refine ⟨s, h1, rfl, fun {w0 φ w a} hg ha => ⟨w, hg, fun R' => ?_⟩⟩
      simp only [conc, Option.map_eq_some_iff] at ha
      obtain ⟨p, _, rfl⟩ := ha
      split
      · exact zero R'
      · exact zero R'
    · refine ⟨s, h1, rfl, fun {w0 φ w a} hg ha => ⟨w, hg, fun R' => ?_⟩⟩
      simp only [conc, Option.map_eq_some_iff] at ha
      obtain ⟨p, _, rfl⟩ := ha
      exact zero R'
    · rename_i id off len cap
      rcases brec_cases h1 with ⟨hl, h2⟩ | ⟨hl, h2⟩
      · rw [natBeq, decide_eq_true_eq] at hl
        have hl : len = 0 := hl
        subst hl
        refine ⟨s, h2, rfl, fun {w0 φ w a} hg ha => ⟨w, hg, fun R' => ?_⟩⟩
        obtain ⟨p, _, rfl⟩ := conc_sl ha
        exact zero R'
      · rw [natBeq, decide_eq_false_iff_not] at hl
        have hl : len ≠ 0 := hl
        obtain ⟨z, hz, h3⟩ := optK_inv h2
        obtain ⟨zl, h4, hzl⟩ := cellsK_inv h3
        obtain ⟨s', h5, hpc, h6⟩ := stP_sound (P := P) (ρ := ρ) h4
        refine ⟨s', h5, hpc, fun {w0 φ w a} hg ha => ?_⟩
        obtain ⟨p, hpl, rfl⟩ := conc_sl ha
        obtain ⟨zv, hzr, hzc⟩ := zero_conc hz (w := w) (φ := φ) (ρ := ρ)
        have hcells := hzl hzc
        obtain ⟨w', r1, r2⟩ := h6 hg hpl (by rw [repL_eq]; exact repG_conc hcells len)
        refine ⟨w', r2, fun R' => ?_⟩
        have hzc0 : 0 < zv.cells.size ∨ len = 0 ∨ zv.cells.size = 0 := by omega
        have hrep : (Builtin.zeroCells zv.cells len).toList = repG zv.cells.toList len := by
          unfold Builtin.zeroCells
          rcases hzc0 with h | h | h
          · rw [range_rep _ _ (.inl h)]
          · rw [range_rep _ _ (.inr h)]
          · have : zv.cells.toList = [] := by rw [← Array.length_toList] at h; exact List.length_eq_zero_iff.1 h
            rw [this, h]
            have : ∀ n, repG ([] : List Value) n = [] := fun n => by induction n with | zero => rfl | succ n ih => simp [repG, ih]
            simp [this]
        obtain ⟨len, rfl⟩ : ∃ m, len = m + 1 := ⟨len - 1, by omega⟩
        simp only [Builtin.clear_, hT, List.getElem?_toArray, List.getElem?_cons_zero, Sem.run_bind, run_underlying hd, Result.andThen_ok, hzr, hrep, r1]
        rfl
    · cases h1
  · cases h1

/-! going over a map -/
theorem newO_sound {s : St} {o : AObj} {κ : Nat → St → R} (hD : newO s o κ ∈ D) : ∃ s', κ s.nx s' ∈ D ∧ s'.pc = s.pc ∧ ∀ {w0 φ w x}, Gm P ρ w0 φ s w → (∀ φ' w', φ <+: φ' → φ'[s.nx]? = some ⟨w.heap.size, 0, 0, 1⟩ → w'.heap = w.heap.push x → ObjOk P φ' ρ w' s.nx o) →
    ∃ φ', φ <+: φ' ∧ φ'[s.nx]? = some ⟨w.heap.size, 0, 0, 1⟩ ∧ Gm P ρ w0 φ' s' { w with heap := w.heap.push x } := by
  obtain ⟨hp, nx, pc⟩ := s
  have hD : forceN nx (fun nx => κ nx ⟨hp.set nx o, Nat.succ nx, pc⟩) ∈ D := hD
  rw [forceN_eq] at hD
  refine ⟨_, hD, rfl, fun {w0 φ w x} hg ho => ?_⟩
  have hlen : φ.length = nx := hg.len
  have hnx : (φ ++ [(⟨w.heap.size, 0, 0, 1⟩ : Pl)])[nx]? = some ⟨w.heap.size, 0, 0, 1⟩ := by rw [← hlen]; simp
  refine ⟨_, pre_one _ _, hnx, (hg.push x).add (p := ⟨w.heap.size, 0, 0, 1⟩) hg.kp.size (by simp) (fun i o' q hi hl hq he => by have := (hg.lo i q hq).2; simp only at he; omega) (ho _ _ (pre_one _ _) hnx rfl) pc (fun x hx => Nat.ne_of_gt (hg.fr x hx).1)⟩
theorem range_sound {T : TypeId} {s : St} {x : AV} {κ : AV → St → R} (hD : rangeA P T s x κ ∈ D) : ∃ v s', κ v s' ∈ D ∧ s'.pc = s.pc ∧ ∀ {w0 φ w a}, Gm P ρ w0 φ s w → conc φ ρ x = some a → ∃ φ' y w', φ <+: φ' ∧ conc φ' ρ v = some y ∧ Gm P ρ w0 φ' s' w' ∧ (Instr.range T a).run P w = .ok y w' := by
  obtain ⟨d, hd, h1⟩ := optK_inv hD
  split at h1
  · rename_i K E
    split at h1
    · rename_i id
      obtain ⟨es, c, hid, h2⟩ := mapK_inv h1
      obtain ⟨s', h3, hpc, h4⟩ := newO_sound (P := P) (ρ := ρ) h2
      refine ⟨_, s', h3, hpc, fun {w0 φ w a} hg ha => ?_⟩
      obtain ⟨pl, xs, hpl, hx, he⟩ := hg.hp.obj _ _ hid
      simp only [conc, hpl, Option.map_some, Option.some.injEq] at ha
      subst ha
      obtain ⟨φ', q1, q2, q3⟩ := h4 (x := .mapIter (some pl.blk) c #[] c) hg (fun φ' w' p1 p2 p3 => ⟨_, some pl.blk, p2, rfl, ⟨pl, pl_mono p1 hpl, rfl⟩, by rw [p3]; simp⟩)
      refine ⟨φ', .pointer (some ⟨w.heap.size, 0, none⟩), _, q1, by simp [conc, q2], q3, ?_⟩
      simp only [Instr.range, Sem.run_bind, run_underlying hd, Result.andThen_ok, getObj_map hx]
      simp [newObj, Sem.run]
    · obtain ⟨s', h3, hpc, h4⟩ := newO_sound (P := P) (ρ := ρ) h1
      refine ⟨_, s', h3, hpc, fun {w0 φ w a} hg ha => ?_⟩
      simp only [conc, Option.some.injEq] at ha
      subst ha
      obtain ⟨φ', q1, q2, q3⟩ := h4 (x := .mapIter none 0 #[] 0) hg (fun φ' w' p1 p2 p3 => ⟨_, none, p2, rfl, trivial, by rw [p3]; simp⟩)
      refine ⟨φ', .pointer (some ⟨w.heap.size, 0, none⟩), _, q1, by simp [conc, q2], q3, ?_⟩
      simp only [Instr.range, Sem.run_bind, run_underlying hd, Result.andThen_ok]
      simp [newObj, Sem.run]
    · cases h1
  · cases h1
theorem memN_eq (n : Nat) : ∀ (l : List Nat), memN n l = l.contains n
  | [] => rfl
  | m :: l => by
    show Bool.rec (motive := fun _ => Bool) (memN n l) true (Nat.beq m n) = _
    rw [natBeq, memN_eq n l]
    by_cases h : m = n
    · simp [h]
    · have h' : (n == m) = false := by simpa using fun e => h e.symm
      simp only [h, decide_false]
      rw [List.contains_cons, h', Bool.false_or]
theorem EntOk.left {φ : List Pl} {seen : List Nat} {es : List (AV × AV × Nat)} {ms : List MapEntry} (h : EntOk φ ρ es ms) : EntOk φ ρ (leftL seen es) (ms.filter fun e => !seen.contains e.born) := by
  induction h with
  | nil => exact .nil
  | @cons k v b l x y m hk hv h ih =>
    show EntOk φ ρ (Bool.rec (motive := fun _ => List (AV × AV × Nat)) ((k, v, b) :: leftL seen l) (leftL seen l) (memN b seen)) _
    rw [memN_eq]
    cases hc : seen.contains b with
    | true => simp only [List.filter_cons, hc, Bool.not_true, Bool.false_eq_true, if_false]; exact ih
    | false => simp only [List.filter_cons, hc, Bool.not_false, if_true]; exact .cons hk hv ih
theorem EntOk.late {φ : List Pl} {last : Nat} {es : List (AV × AV × Nat)} {ms : List MapEntry} (h : EntOk φ ρ es ms) : allLate last es = ms.all fun e => decide (e.born ≥ last) := by
  induction h with
  | nil => rfl
  | @cons k v b l x y m hk hv h ih =>
    show (Nat.ble last b && allLate last l) = _
    rw [natBle, ih]
    rfl
theorem EntOk.gone {φ : List Pl} {seen : List Nat} {last : Nat} {es : List (AV × AV × Nat)} {xs : Array MapEntry} (h : EntOk φ ρ es xs.toList) : (!seen.toArray.isEmpty && !xs.isEmpty && xs.all fun e => decide (e.born ≥ last)) = goneB seen last es := by
  rw [← Array.all_toList, ← h.late]
  have hx : xs.isEmpty = es.isEmpty := by
    have := h.length
    cases es <;> cases hh : xs.toList <;> simp [hh] at this
    · have : xs = #[] := by apply Array.toList_inj.1; simpa using hh
      simp [this]
    · have : xs ≠ #[] := by intro e; rw [e] at hh; simp at hh
      simpa using this
  rw [hx]
  cases seen <;> cases es <;> simp [goneB, allLate]
theorem run_choose_one {w : World} : (choose (.mapNext 1)).run P w = .ok 0 w := by
  simp [choose, Sem.run, Question.forced]
theorem nextI_sound {id : Nat} {s : St} {κ : AV → St → R} {o : AObj} (hid : s.hp.get id = some o) (hD : nextI id s κ o ∈ D) : ∃ v s', κ v s' ∈ D ∧ s'.pc = s.pc ∧ ∀ {w0 φ w p}, Gm P ρ w0 φ s w → φ[id]? = some p → ∃ y w', conc φ ρ v = some y ∧ Gm P ρ w0 φ s' w' ∧ ∀ T, (Instr.next (.pointer (some ⟨p.blk, p.sh, none⟩)) false T).run P w = .ok y w' := by
  unfold nextI at hD
  split at hD
  · rename_i m since seen last
    split at hD
    · refine ⟨_, s, hD, rfl, fun {w0 φ w p} hg hp => ⟨.tuple #[.bool false], w, by simp [conc, concL, SB.ev], hg, fun T => ?_⟩⟩
      obtain ⟨p', m', h1, h2, h3, h4⟩ := hg.hp.obj _ _ hid
      rw [hp] at h1; cases h1
      cases m' with
      | some b => exact h3.elim
      | none => simp [Instr.next, h2, Sem.run_bind, getObj, Sem.run, h4]
    · rename_i i
      obtain ⟨es, c, hi, h1⟩ := mapK_inv hD
      rcases brec_cases h1 with ⟨_, h2⟩ | ⟨hgone, h2⟩
      · cases h2
      have facts : ∀ {w0 φ w p}, Gm P ρ w0 φ s w → φ[id]? = some p → p.sh = 0 ∧ ∃ q xs, φ[i]? = some q ∧ w.heap[p.blk]? = some (.mapIter (some q.blk) since seen.toArray last) ∧ w.heap[q.blk]? = some (.map xs c) ∧ EntOk φ ρ es xs.toList := by
        intro w0 φ w p hg hp
        obtain ⟨p', m', k1, k2, k3, k4⟩ := hg.hp.obj _ _ hid
        rw [hp] at k1; cases k1
        cases m' with
        | none => exact k3.elim
        | some b =>
          obtain ⟨q, hq, rfl⟩ := k3
          obtain ⟨q', xs, j1, j2, j3⟩ := hg.hp.obj _ _ hi
          rw [hq] at j1; cases j1
          exact ⟨k2, q, xs, hq, k4, j2, j3⟩
      unfold nextE at h2
      split at h2
      · rename_i hl
        refine ⟨_, s, h2, rfl, fun {w0 φ w p} hg hp => ⟨.tuple #[.bool false], w, by simp [conc, concL, SB.ev], hg, fun T => ?_⟩⟩
        obtain ⟨hs0, q, xs, hq, k4, j2, he⟩ := facts hg hp
        have hleft := he.left (seen := seen)
        rw [hl] at hleft
        have hf : (xs.filter fun e => !seen.toArray.contains e.born) = #[] := by
          apply Array.toList_inj.1
          rw [Array.toList_filter]
          generalize hm : xs.toList.filter (fun e => !seen.contains e.born) = ms at hleft
          cases hleft
          simpa using hm
        have hgo := he.gone (seen := seen) (last := last)
        rw [hgone] at hgo
        simp only [Instr.next, hs0, Sem.run_bind, getObj, Sem.run, k4, j2, Result.andThen_ok, hgo, hf]
        simp [run_choose_one, Sem.run_bind, Question.forced]
      · rename_i e hl
        obtain ⟨hb, h3⟩ := brec_inv h2
        rw [natBlt, decide_eq_true_eq] at hb
        refine ⟨_, _, h3, rfl, fun {w0 φ w p} hg hp => ?_⟩
        obtain ⟨hs0, q, xs, hq, k4, j2, he⟩ := facts hg hp
        have hleft := he.left (seen := seen)
        rw [hl] at hleft
        obtain ⟨ek, evv, eb⟩ := e
        generalize hm : xs.toList.filter (fun e => !seen.contains e.born) = ms at hleft
        cases hleft with
        | @cons _ _ _ _ x y ms hk hv ht =>
        cases ht
        have hf : (xs.filter fun e => !seen.toArray.contains e.born) = #[⟨x, y, eb⟩] := by
          apply Array.toList_inj.1
          rw [Array.toList_filter]
          simpa using hm
        have hgo := he.gone (seen := seen) (last := last)
        rw [hgone] at hgo
        have hb : eb < since := hb
        have hset : (setObj p.blk (.mapIter (some q.blk) since (seen.toArray.push eb) c)).run P w = .ok () { w with heap := w.heap.setIfInBounds p.blk (.mapIter (some q.blk) since (seen.toArray.push eb) c) } := setObj_any k4 (by simp)
        refine ⟨.tuple #[.bool true, x, y], { w with heap := w.heap.setIfInBounds p.blk (.mapIter (some q.blk) since (seen.toArray.push eb) c) }, by simp [conc, concL, SB.ev, hk, hv], hg.setO (x := .mapIter (some q.blk) since (seen.toArray.push eb) c) (o' := .iter (some i) since (seen ++ [eb]) c) hid rfl hp ⟨p, some q.blk, hp, hs0, ⟨q, hq, rfl⟩, by simp [(hg.lo id p hp).2]⟩ s.pc, fun T => ?_⟩
        simp only [Instr.next, hs0, Sem.run_bind, getObj, Sem.run, k4, j2, Result.andThen_ok, hgo, hf]
        have f1 : (#[(⟨x, y, eb⟩ : MapEntry)].filter fun e => decide (e.born < since)) = #[⟨x, y, eb⟩] := by simp [hb]
        have f2 : (#[(⟨x, y, eb⟩ : MapEntry)].filter fun e => decide (e.born ≥ since)) = #[] := by simp; omega
        simp only [f1, f2]
        simp only [List.push_toArray] at hset ⊢
        simp [run_choose_one, Sem.run_bind, Question.forced, hset]
      · cases h2
  · cases hD
theorem next_sound {str : Bool} {s : St} {x : AV} {κ : AV → St → R} (hD : nextA str s x κ ∈ D) : ∃ v s', κ v s' ∈ D ∧ s'.pc = s.pc ∧ ∀ {w0 φ w a}, Gm P ρ w0 φ s w → conc φ ρ x = some a → ∃ y w', conc φ ρ v = some y ∧ Gm P ρ w0 φ s' w' ∧ ∀ T, (Instr.next a str T).run P w = .ok y w' := by
  obtain ⟨id, off, rfl, h1⟩ := ptrV_inv hD
  obtain ⟨hb, h2⟩ := brec_inv h1
  simp only [Bool.and_eq_true, notF_eq, Bool.not_eq_true', natBeq, decide_eq_true_eq] at hb
  obtain ⟨rfl, hoff⟩ := hb
  have hoff : off = 0 := hoff
  subst hoff
  obtain ⟨o, ho, h3⟩ := optK_inv h2
  obtain ⟨v, s', h4, hpc, h5⟩ := nextI_sound (P := P) (ρ := ρ) ho h3
  refine ⟨v, s', h4, hpc, fun {w0 φ w a} hg ha => ?_⟩
  obtain ⟨p, hp, rfl⟩ := conc_ptr ha
  exact h5 hg hp
end

end Go.Proofs.YticednpolhnneaaGreat
