/-
  A run reckoned ahead: each operation does what was reckoned.
-/
import Derived.Test.YtdklpcjipkhenaaSxn
set_option linter.unusedVariables false
set_option linter.unusedSimpArgs false
namespace Go.Proofs.Ytdklpcjipkhenaa
open Go

section
variable {P : Program} {ρ : Nat → Int} {w0 : World} {D : Dn}

theorem str_sound {src T : TypeId} {x : AV} {s : St} {κ : AV → St → R} (hD : strBytes P src T x s κ ∈ D) : ∃ v s', κ v s' ∈ D ∧ s'.pc = s.pc ∧ ∀ {φ w b}, Gm P ρ w0 φ s w → conc φ ρ x = some b → ∃ φ' z w', φ <+: φ' ∧ conc φ' ρ v = some z ∧ Gm P ρ w0 φ' s' w' ∧ (convert src T b).run P w = .ok z w' := by
  unfold strBytes at hD
  split at hD
  · rename_i hsrc
    obtain ⟨t, ht, h1⟩ := optK_inv hD
    split at h1
    · rename_i e sz
      obtain ⟨hb, h2⟩ := brec_inv h1
      obtain ⟨hu, hs⟩ := ixOf_sli ht
      simp only [Bool.and_eq_true, natBeq, decide_eq_true_eq] at hb
      obtain ⟨hk, rfl⟩ := hb
      have hk : intOfT P e = some .u8 := by
        split at hk
        · assumption
        · cases hk
      have hue := intOfT_und hk
      split at h2
      · rename_i b
        rw [forceN_eq] at h2
        obtain ⟨s', h3, hpc, h4⟩ := newL_sound (P := P) (ρ := ρ) (w0 := w0) h2
        refine ⟨_, s', h3, hpc, fun {φ w y} hg hy => ?_⟩
        simp only [conc, Option.some.injEq] at hy
        subst hy
        have hx : concL φ ρ (bytesL b) = some (b.data.toList.map fun x => Value.int .u8 x.toNat) := bytes_conc b.data.toList
        let cap := b.size + (w.tape w.drawn (.appendCap b.size 0 e)) % (2 ^ 63 - b.size)
        let arr : Array Value := (b.data.map fun b => Value.int .u8 b.toNat) ++ Array.replicate (cap - b.size) (.int .u8 0)
        have hcap : b.size ≤ cap := by simp only [cap]; omega
        have hasz : arr.size = cap := by
          simp only [arr, Array.size_append, Array.size_map, Array.size_replicate]
          have : b.data.size = b.size := rfl
          omega
        let w1 : World := { w with drawn := w.drawn + 1 }
        let w2 : World := { w1 with heap := w1.heap.push (.cells arr e) }
        let w3 : World := w2.freeze ⟨w.heap.size, cap, none⟩ 1
        have hw2 : w2.heap[w.heap.size]? = some (.cells arr e (0, 0)) := by simp [w2, w1]
        have hw3 : w3.heap[w.heap.size]? = some (.cells arr e (cap, cap + 1)) := by
          simp only [w3, World.freeze]
          simp [Array.getElem?_modify, hw2]
        have hoth : ∀ k, k < w.heap.size → w3.heap[k]? = w.heap[k]? := fun k hk => by
          simp only [w3, World.freeze]
          rw [if_neg (by omega), Array.getElem?_modify, if_neg (by omega)]
          simp [w2, w1, Array.getElem?_push_lt hk, Array.getElem?_eq_getElem hk]
        have hsz3 : w3.heap.size = w.heap.size + 1 := by simp [w3, World.freeze, w2, w1]
        have hg3 : Gm P ρ w0 φ s w3 := hg.world ⟨by rw [← hg.kp.os]; simp [w3, World.freeze, w2, w1], by rw [← hg.kp.tape]; simp [w3, World.freeze, w2, w1], by rw [← hg.kp.output]; simp [w3, World.freeze, w2, w1], by rw [hsz3]; have := hg.kp.size; omega, fun k hk hn => by rw [hoth k (Nat.lt_of_lt_of_le hk hg.kp.size)]; exact hg.kp.block k hk hn⟩ (by omega) fun i o q hi hl hq => hoth q.blk (hg.lo i q hq).2
        have hm := h4 (p := ⟨w.heap.size, 0, cap, 1⟩) (arr := arr) (fz := (cap, cap + 1)) hg3 hx hg.kp.size (by rw [hsz3]; simp) (fun i o' q hi hl hq he => by have := (hg.lo i q hq).2; simp only at he; omega) hw3 hasz
          (by simp [bytesL]; have : b.data.size = b.size := rfl; omega) (fun h => by cases h) (fun _ => ⟨hs, Nat.one_pos⟩) (fun i hi h => by simp only at hi h; omega) (fun i hi => by
            have hi' : i < b.data.size := by simpa [bytesL] using hi
            simp only [arr, Nat.zero_add]
            rw [Array.getElem?_append_left (by simpa using hi')]
            simp [hi'])
        refine ⟨_, .slice (some ⟨w.heap.size, 0, none⟩) b.size cap, w3, pre_one _ _, ?_, hm, ?_⟩
        · rw [show AV.sl s.nx (nat_lit 0) b.size none = AV.sl s.nx 0 b.size none from rfl]
          simp only [conc]
          rw [show (φ ++ [(⟨w.heap.size, 0, cap, 1⟩ : Pl)])[s.nx]? = some ⟨w.heap.size, 0, cap, 1⟩ by rw [← hg.len]; simp]
          simp [Pl.room]
        · have hch : (choose (.appendCap b.size 0 e)).run P w = .ok cap w1 := by simp [choose, Sem.run, Question.forced, Question.cut, cap, w1]
          have hsh : w2.shape? w.heap.size = some (e, cap) := by unfold World.shape?; rw [hw2]; simp [hasz]
          simp only [convert, Sem.run_bind, run_underlying hsrc, run_underlying hu, run_underlying hue, Result.andThen_ok, Conv.stringToBytes, hch, run_newRow]
          rw [show w1.heap.size = w.heap.size from rfl]
          simp only [markStringish, Sem.run_bind, run_shape]
          rw [show ({ w1 with heap := w1.heap.push (.cells ((b.data.map fun b => Value.int .u8 b.toNat) ++ Array.replicate (cap - b.size) (.int .u8 0)) e) } : World) = w2 from rfl, hsh]
          simp only [Result.andThen_ok]
          rfl
      · cases h2
    · cases h1
  · cases hD

theorem mark_sound {src T : TypeId} {id off len : Nat} {cap : Option Nat} {s : St} {κ : AV → St → R} (hD : markK P src T s κ id off len cap ∈ D) : ∃ v s', κ v s' ∈ D ∧ s'.pc = s.pc ∧ ∀ {φ w b}, Gm P ρ w0 φ s w → conc φ ρ (.sl id off len cap) = some b → ∃ w', conc φ ρ v = some b ∧ Gm P ρ w0 φ s' w' ∧ (convert src T b).run P w = .ok b w' := by
  obtain ⟨t, ht, h1⟩ := optK_inv hD
  split at h1
  · rename_i e sz
    obtain ⟨hu, hs⟩ := ixOf_sli ht
    obtain ⟨ds, hds, h2⟩ := optK_inv h1
    obtain ⟨n, c, d, T', r, hid, h3⟩ := objK_inv h2
    obtain ⟨hb, h4⟩ := brec_inv h3
    simp only [Bool.and_eq_true, natBeq, decide_eq_true_eq, notF_eq, Bool.not_eq_true'] at hb
    obtain ⟨rfl, hk, rfl, hsz⟩ := hb
    have hk : intOfT P e = some .u8 := by
      split at hk
      · assumption
      · cases hk
    have hsz : sizeA P T' = some 1 := by
      split at hsz
      · rename_i m hm
        rw [hm, of_decide_eq_true hsz]
      · cases hsz
    have hue := intOfT_und hk
    refine ⟨_, _, h4, rfl, fun {φ w b} hg hb => ?_⟩
    obtain ⟨p, arr, fz, hp, hc⟩ := hg.hp.obj _ _ hid
    have hb' := hb
    obtain ⟨p', hp', rfl⟩ := conc_sl hb
    rw [hp] at hp'; cases hp'
    obtain ⟨f1, f2, rfl, f3⟩ := hc.fix rfl
    let w' : World := w.freeze ⟨p.blk, arr.size, none⟩ 1
    have hlt := (hg.lo id p hp).2
    have hw' : w'.heap[p.blk]? = some (.cells arr T' (arr.size, arr.size + 1)) := by
      simp only [w', World.freeze]
      simp [Array.getElem?_modify, hc.blk]
    have hk : Kp [p.blk] w w' := by
      refine ⟨by simp [w', World.freeze], by simp [w', World.freeze], by simp [w', World.freeze], by simp [w', World.freeze], fun k hk hn => ?_⟩
      simp only [List.mem_singleton] at hn
      simp only [w', World.freeze]
      rw [if_neg (by omega), Array.getElem?_modify, if_neg (fun e => hn e.symm)]
    have hsize := hc.size
    refine ⟨w', hb', hg.upd hid rfl hp hk ⟨p, arr, _, hp, ⟨hw', hc.size, hc.le, (fun h => by cases h), (fun _ => ⟨by rw [f3]; exact hsz, by omega⟩), (fun i hi h => by simp only at h; omega), hc.cell⟩⟩, ?_⟩
    have hsh : w.shape? p.blk = some (T', arr.size) := by unfold World.shape?; rw [hc.blk]
    rw [hu] at hds
    simp only [convert, Sem.run_bind, run_underlying hu, run_underlying hue, Result.andThen_ok, beq_self_eq_true]
    simp only [markStringish, Sem.run_bind, run_shape, hsh, Result.andThen_ok]
    rfl
  · cases h1
theorem convE_sound {src T : TypeId} {x : AV} {s : St} {κ : AV → St → R} (hD : convE P src T x s κ ∈ D) : ∃ v s', κ v s' ∈ D ∧ s'.pc = s.pc ∧ ∀ {φ w b}, Gm P ρ w0 φ s w → conc φ ρ x = some b → ∃ φ' z w', φ <+: φ' ∧ conc φ' ρ v = some z ∧ Gm P ρ w0 φ' s' w' ∧ (convert src T b).run P w = .ok z w' := by
  unfold convE at hD
  split at hD
  · obtain ⟨v, s', h1, hpc, h2⟩ := mark_sound (ρ := ρ) (w0 := w0) hD
    refine ⟨v, s', h1, hpc, fun {φ w b} hg hb => ?_⟩
    obtain ⟨w', q1, q2, q3⟩ := h2 hg hb
    exact ⟨φ, b, w', List.prefix_refl _, q1, q2, q3⟩
  · exact str_sound hD

theorem mapNew_sound {T : TypeId} {s : St} {κ : AV → St → R} (hD : mapNew s κ ∈ D) : ∃ v s', κ v s' ∈ D ∧ s'.pc = s.pc ∧ ∀ {φ a w}, Gm P ρ w0 φ s w → EffO P ρ w0 φ a w s' (.makeMap T none) v := by
  unfold mapNew at hD
  split at hD
  rename_i hp nx pc
  rw [forceN_eq] at hD
  refine ⟨_, _, hD, rfl, fun {φ a w} hg => ?_⟩
  have hlen : φ.length = nx := hg.len
  let w1 : World := { w with heap := w.heap.push (.map #[] 0) }
  have hnx : (φ ++ [(⟨w.heap.size, 0, 0, 1⟩ : Pl)])[nx]? = some ⟨w.heap.size, 0, 0, 1⟩ := by rw [← hlen]; simp
  have ho : ObjOk P (φ ++ [⟨w.heap.size, 0, 0, 1⟩]) ρ w1 nx (.map [] 0) := ⟨_, #[], hnx, by simp [w1], .nil⟩
  have hm := (hg.push (.map #[] 0)).add (p := ⟨w.heap.size, 0, 0, 1⟩) hg.kp.size (by simp) (fun i o' q hi hl hq he => by have := (hg.lo i q hq).2; simp only at he; omega) ho pc
  refine .of (m := Instr.makeMap T none) (pre_one _ _) (x := .map (some w.heap.size)) ?_ hm ?_ (fun o ho => by unfold execOp; simp only [ho]; rfl)
  · simp only [conc]; rw [hnx]; rfl
  · simp [Instr.makeMap, Sem.run_bind, newObj, Sem.run]

theorem EntOk.length {φ : List Pl} {es : List (AV × AV × Nat)} {ms : List MapEntry} (h : EntOk φ ρ es ms) : ms.length = es.length := by
  induction h with
  | nil => rfl
  | cons _ _ _ ih => simp [ih]
theorem EntOk.modify {φ : List Pl} {es : List (AV × AV × Nat)} {ms : List MapEntry} (h : EntOk φ ρ es ms) {k v : AV} {x y : Value} (hv : conc φ ρ v = some y) : ∀ (i : Nat), (∀ e, es[i]? = some e → conc φ ρ e.1 = some x) → EntOk φ ρ (modL es i v) (ms.modify i fun e => { e with key := x, val := y }) := by
  unfold modL
  induction h with
  | nil => intro i _; simp; exact .nil
  | cons hk hv' h ih =>
    intro i hx
    cases i with
    | zero =>
      have := hx _ rfl
      simp only [List.modify_zero_cons]
      exact .cons this hv h
    | succ i =>
      simp only [List.modify_succ_cons]
      exact .cons hk hv' (ih i fun e he => hx e (by simpa using he))
theorem EntOk.push {φ : List Pl} {es : List (AV × AV × Nat)} {ms : List MapEntry} (h : EntOk φ ρ es ms) {k v : AV} {x y : Value} {b : Nat} (hk : conc φ ρ k = some x) (hv : conc φ ρ v = some y) : EntOk φ ρ (es ++ [(k, v, b)]) (ms ++ [⟨x, y, b⟩]) := by
  induction h with
  | nil => exact .cons hk hv .nil
  | cons hk' hv' _ ih => exact .cons hk' hv' ih
theorem findA_idx {kd : IntKind} {n : Int} : ∀ {es : List (AV × AV × Nat)} {i : Nat} {κ : Option (Nat × AV) → R}, findA n es i κ ∈ D → kindsOk kd es = true → ∃ r, κ r ∈ D ∧ (∀ j v, r = some (j, v) → i ≤ j ∧ ∃ e, es[j - i]? = some e ∧ e.1 = .int kd (.lit n)) ∧ ∀ {φ ms}, EntOk φ ρ es ms →
    match r with
    | none => Instr.findNow (.int kd) (.int kd n) ms i = some none
    | some (j, v) => ∃ y, conc φ ρ v = some y ∧ Instr.findNow (.int kd) (.int kd n) ms i = some (some (j, y))
  | [], i, κ, hD, _ => ⟨none, hD, (fun j v h => by cases h), fun {φ ms} he => by cases he; rfl⟩
  | e :: es, i, κ, hD, hk => by
    obtain ⟨k, v, b⟩ := e
    unfold kindsOk at hk
    unfold findA at hD
    cases k with
    | int kd' x =>
      cases x with
      | lit x =>
        simp only [Bool.and_eq_true, kindEq_eq, decide_eq_true_eq] at hk hD
        obtain ⟨rfl, hk⟩ := hk
        rcases brec_cases hD with ⟨hb, h1⟩ | ⟨hb, h1⟩
        · rw [beqF_eq] at hb
          have hb := of_decide_eq_true hb
          subst hb
          refine ⟨_, h1, (fun j v' h => by cases h; exact ⟨Nat.le_refl _, _, by rw [Nat.sub_self]; rfl, rfl⟩), fun {φ ms} he => ?_⟩
          cases he with
          | cons hk hv he =>
            simp only [conc, SI.ev, Option.some.injEq] at hk
            subst hk
            exact ⟨_, hv, by simp [Instr.findNow, Instr.sameNow]⟩
        · rw [beqF_eq] at hb
          have hb := of_decide_eq_false hb
          obtain ⟨r, h2, hi, hr⟩ := findA_idx h1 hk
          refine ⟨r, h2, (fun j v' h => by
            obtain ⟨q1, e, q2, q3⟩ := hi j v' h
            exact ⟨by omega, e, by rw [show j - i = (j - (i + 1)) + 1 by omega]; simpa using q2, q3⟩), fun {φ ms} he => ?_⟩
          cases he with
          | cons hk hv he =>
            simp only [conc, SI.ev, Option.some.injEq] at hk
            subst hk
            have := hr he
            have hne : (n == x) = false := by simpa using hb
            cases r with
            | none => simp only [Instr.findNow, Instr.sameNow, if_true, hne]; exact this
            | some p =>
              obtain ⟨y, h3, h4⟩ := this
              exact ⟨y, h3, by simp only [Instr.findNow, Instr.sameNow, if_true, hne]; exact h4⟩
      | _ => cases hk
    | _ => cases hk
theorem mapSet_sound {T : TypeId} {s : St} {m k v : AV} {κ : St → R} (hD : mapSet P T s m k v κ ∈ D) : ∃ s', κ s' ∈ D ∧ s'.pc = s.pc ∧ ∀ {φ w a b c}, Gm P ρ w0 φ s w → conc φ ρ m = some a → conc φ ρ k = some b → conc φ ρ v = some c → ∃ w', Gm P ρ w0 φ s' w' ∧ (Instr.mapUpdate T a b c).run P w = .ok () w' := by
  obtain ⟨p, hp, h1⟩ := optK_inv hD
  obtain ⟨key, hu, hkey⟩ := mapTyA_und hp
  obtain ⟨n, rfl, h2⟩ := litK_inv h1
  split at h2
  · rename_i id
    obtain ⟨es, clk, hid, h3⟩ := mapK_inv h2
    obtain ⟨hko, h4⟩ := brec_inv h3
    obtain ⟨r, h5, hi, hr⟩ := findA_idx (ρ := ρ) h4 hko
    have set_run : ∀ {φ : List Pl} {w : World} {pl : Pl} {es' : List (AV × AV × Nat)} {xs' : Array MapEntry} {clk' : Nat}, Gm P ρ w0 φ s w → φ[id]? = some pl → (∃ xs c0, w.heap[pl.blk]? = some (.map xs c0)) → EntOk φ ρ es' xs'.toList →
        Gm P ρ w0 φ ⟨s.hp.set id (.map es' clk'), s.nx, s.pc⟩ { w with heap := w.heap.setIfInBounds pl.blk (.map xs' clk') } ∧ (setObj pl.blk (.map xs' clk')).run P w = .ok () { w with heap := w.heap.setIfInBounds pl.blk (.map xs' clk') } := by
      intro φ w pl es' xs' clk' hg hpl ⟨xs, c0, hx⟩ he
      have hlt : pl.blk < w.heap.size := (hg.lo id pl hpl).2
      refine ⟨hg.upd hid rfl hpl ⟨rfl, rfl, rfl, by simp, fun k hk hn => ?_⟩ ⟨pl, xs', hpl, by simp [hlt], he⟩, by simp [setObj, Sem.run, hx]⟩
      simp only [List.mem_singleton] at hn
      rw [Array.getElem?_setIfInBounds_ne (fun e => hn e.symm)]
    cases r with
    | some q =>
      obtain ⟨j, u⟩ := q
      refine ⟨_, h5, rfl, fun {φ w a b c} hg ha hb hc => ?_⟩
      obtain ⟨pl, xs, hpl, hx, he⟩ := hg.hp.obj _ _ hid
      simp only [conc, hpl, Option.map_some, Option.some.injEq, SI.ev] at ha hb
      subst ha; subst hb
      obtain ⟨y, hy, hf⟩ := hr he
      obtain ⟨_, e, he1, he2⟩ := hi j u rfl
      rw [Nat.sub_zero] at he1
      have hmod := he.modify (k := .int p.1 (.lit n)) (x := .int p.1 n) hc j (fun e' he' => by
        rw [he1] at he'; cases he'
        rw [he2]; rfl)
      obtain ⟨r1, r2⟩ := set_run (es' := modL es j v) (xs' := (xs.toList.modify j fun e => { e with key := .int p.1 n, val := c }).toArray) (clk' := clk) hg hpl ⟨xs, clk, hx⟩ (by simpa using hmod)
      refine ⟨_, r1, ?_⟩
      have hkey' : (((xs[j]?).map (·.key)).getD (.int p.1 n)) = .int p.1 n := by
        have hjl : j < xs.size := by
          have := (List.getElem?_eq_some_iff.1 he1).1
          rw [← he.length, Array.length_toList] at this; exact this
        have : ∀ {es : List (AV × AV × Nat)} {ms : List MapEntry} {j : Nat} {e : AV × AV × Nat}, EntOk φ ρ es ms → es[j]? = some e → ∃ m, ms[j]? = some m ∧ conc φ ρ e.1 = some m.key := by
          intro es ms j e h
          induction h generalizing j with
          | nil => intro h; simp at h
          | cons hk hv h ih =>
            intro h2
            cases j with
            | zero => simp at h2; subst h2; exact ⟨_, rfl, hk⟩
            | succ j => simp at h2; simpa using ih h2
        obtain ⟨me, e1, e2⟩ := this he he1
        rw [he2] at e2
        simp only [conc, SI.ev, Option.some.injEq] at e2
        rw [Array.getElem?_toList] at e1
        rw [e1]
        simp [e2]
      have hstay : (Instr.keyThatStays (.int p.1 n) (.int p.1 n)).run P w = .ok (.int p.1 n) w := by
        simp [Instr.keyThatStays, Instr.sameBits]
      simp only [Instr.mapUpdate, Sem.run_bind, run_underlying hu, Result.andThen_ok, getObj_map hx, checkKey_int hkey, findKey_run hkey hf, hkey', hstay]
      rw [← r2]
      congr 2
      rw [show xs.modify j (fun e => { e with key := .int p.1 n, val := c }) = (xs.toList.modify j fun e => { e with key := .int p.1 n, val := c }).toArray by apply Array.toList_inj.1; simp]
    | none =>
      refine ⟨_, h5, rfl, fun {φ w a b c} hg ha hb hc => ?_⟩
      obtain ⟨pl, xs, hpl, hx, he⟩ := hg.hp.obj _ _ hid
      simp only [conc, hpl, Option.map_some, Option.some.injEq, SI.ev] at ha hb
      subst ha; subst hb
      have hf := hr he
      have hpush := he.push (k := .int p.1 (.lit n)) (x := .int p.1 n) (b := clk) rfl hc
      obtain ⟨r1, r2⟩ := set_run (es' := es ++ [(.int p.1 (.lit n), v, clk)]) (xs' := xs.push ⟨.int p.1 n, c, clk⟩) (clk' := clk + 1) hg hpl ⟨xs, clk, hx⟩ (by simpa using hpush)
      refine ⟨_, r1, ?_⟩
      simp only [Instr.mapUpdate, Sem.run_bind, run_underlying hu, Result.andThen_ok, getObj_map hx, checkKey_int hkey, findKey_run hkey hf]
      exact r2
  · cases h2
end

end Go.Proofs.Ytdklpcjipkhenaa
