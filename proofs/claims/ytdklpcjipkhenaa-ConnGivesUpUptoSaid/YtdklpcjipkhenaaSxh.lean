/-
  A run reckoned ahead: quiet operations do what was reckoned (5): maps looked up, parts built; all together.
-/
import Derived.Test.YtdklpcjipkhenaaSxg
set_option linter.unusedVariables false
set_option linter.unusedSimpArgs false
namespace Go.Proofs.Ytdklpcjipkhenaa
open Go

section
variable {P : Program} {D : Dn} {h : Tr AObj}

/-! maps -/
theorem checkKey_int {w : World} {e : Bool} {T : TypeId} {k k' : IntKind} {n : Int} (hu : P.underlying T = some (.int k)) : (Instr.checkKey e 10000 T (.int k' n)).run P w = .ok () w := by
  rw [show (10000 : Nat) = 9999 + 1 from rfl, Instr.checkKey, Sem.run_bind, run_underlying hu]
  rfl
theorem findA_inv {kd : IntKind} {n : Int} : ∀ {es : List (AV × AV × Nat)} {i : Nat} {κ : Option (Nat × AV) → R}, findA n es i κ ∈ D → kindsOk kd es = true → ∃ r, κ r ∈ D ∧ ∀ {φ ρ ms}, EntOk φ ρ es ms →
    match r with
    | none => Instr.findNow (.int kd) (.int kd n) ms i = some none
    | some (j, v) => ∃ y, conc φ ρ v = some y ∧ Instr.findNow (.int kd) (.int kd n) ms i = some (some (j, y))
  | [], i, κ, hD, _ => ⟨none, hD, fun {φ ρ ms} he => by cases he; rfl⟩
  | e :: es, i, κ, hD, hk => by
    obtain ⟨k, v, b⟩ := e
    unfold kindsOk at hk
    unfold findA at hD
    cases k with
    | int kd' x =>
      cases x with
      | lit x =>
        simp only [Bool.and_eq_true, kindEq_eq, decide_eq_true_eq] at hk hD
        obtain ⟨rfl, hk⟩ := hk
        rcases brec_cases hD with ⟨hb, h1⟩ | ⟨hb, h1⟩
        · rw [beqF_eq] at hb
          have hb := of_decide_eq_true hb
          subst hb
          refine ⟨_, h1, fun {φ ρ ms} he => ?_⟩
          cases he with
          | cons hk hv he =>
            simp only [conc, SI.ev, Option.some.injEq] at hk
            subst hk
            exact ⟨_, hv, by simp [Instr.findNow, Instr.sameNow]⟩
        · rw [beqF_eq] at hb
          have hb := of_decide_eq_false hb
          obtain ⟨r, h2, hr⟩ := findA_inv h1 hk
          refine ⟨r, h2, fun {φ ρ ms} he => ?_⟩
          cases he with
          | cons hk hv he =>
            simp only [conc, SI.ev, Option.some.injEq] at hk
            subst hk
            have := hr he
            have hne : (n == x) = false := by simpa using hb
            cases r with
            | none => simp only [Instr.findNow, Instr.sameNow, if_true, hne]; exact this
            | some p =>
              obtain ⟨y, h3, h4⟩ := this
              exact ⟨y, h3, by simp only [Instr.findNow, Instr.sameNow, if_true, hne]; exact h4⟩
      | _ => cases hk
    | _ => cases hk
theorem mapTyA_und {T : TypeId} {p : IntKind × TypeId} (hm : mapTyA P T = some p) : ∃ k, P.underlying T = some (.map k p.2) ∧ P.underlying k = some (.int p.1) := by
  unfold mapTyA at hm
  split at hm
  · rename_i k e hu
    simp only [Option.map_eq_some_iff] at hm
    obtain ⟨kd, h1, rfl⟩ := hm
    exact ⟨k, hu, intOfT_und h1⟩
  · cases hm
theorem litK_inv {v : AV} {k : IntKind} {κ : Int → R} (hD : litK v k κ ∈ D) : ∃ n, v = .int k (.lit n) ∧ κ n ∈ D := by
  unfold litK at hD
  split at hD
  · obtain ⟨hk, h1⟩ := brec_inv hD
    have := kindEq_of hk
    subst this
    exact ⟨_, rfl, h1⟩
  · cases hD
theorem mapK_inv {id : Nat} {κ : List (AV × AV × Nat) → Nat → R} (hD : mapK h id κ ∈ D) : ∃ es c, h.get id = some (.map es c) ∧ κ es c ∈ D := by
  obtain ⟨o, ho, h1⟩ := optK_inv hD
  split at h1
  · exact ⟨_, _, ho, h1⟩
  · cases h1
theorem zero_conc {T : TypeId} {z : AV} (hz : zeroA P T = some z) {w : World} {φ : List Pl} {ρ : Nat → Int} : ∃ v, (zeroValue T).run P w = .ok v w ∧ conc φ ρ z = some v := by
  obtain ⟨v, h1, rfl⟩ := run_zero hz
  exact ⟨v, h1, conc_ofValue v⟩
theorem getObj_map {w : World} {r : Nat} {xs : Array MapEntry} {c : Nat} (h : w.heap[r]? = some (.map xs c)) : (getObj r).run P w = .ok (.map xs c) w := by
  simp [getObj, Sem.run, h]
theorem findKey_run {w : World} {key : TypeId} {k : IntKind} {n : Int} {ms : List MapEntry} {r : Option (Nat × Value)} (hu : P.underlying key = some (.int k)) (hf : Instr.findNow (.int k) (.int k n) ms 0 = some r) : (Instr.findKey key (.int k n) ms).run P w = .ok r w := by
  unfold Instr.findKey
  rw [Sem.run_bind, run_underlying hu, Result.andThen_ok, hf]
  rfl
theorem look_sound {T : TypeId} {x i : AV} {ok : Bool} {κ : AV → R} (hD : lookA P T h x i ok κ ∈ D) : ∃ u, κ u ∈ D ∧ ∀ {φ ρ w a b}, Hp P φ ρ h w → conc φ ρ x = some a → conc φ ρ i = some b → RunV P φ ρ w (Instr.lookup T a b ok) u := by
  obtain ⟨p, hp, h1⟩ := optK_inv hD
  obtain ⟨key, hu, hk⟩ := mapTyA_und hp
  obtain ⟨n, rfl, h2⟩ := litK_inv h1
  split at h2
  · rename_i id
    obtain ⟨es, c, hg, h3⟩ := mapK_inv h2
    obtain ⟨hko, h4⟩ := brec_inv h3
    obtain ⟨r, h5, hr⟩ := findA_inv h4 hko
    cases r with
    | some q =>
      obtain ⟨j, v⟩ := q
      have h5 : κ (Bool.rec (motive := fun _ => AV) v (.tup [v, .bool (.lit true)]) ok) ∈ D := h5
      refine ⟨_, h5, fun {φ ρ w a b} hH ha hb => ?_⟩
      obtain ⟨pl, xs, hpl, hx, he⟩ := hH.obj _ _ hg
      simp only [conc, hpl, Option.map_some, Option.some.injEq, SI.ev] at ha hb
      subst ha; subst hb
      obtain ⟨y, hy, hf⟩ := hr he
      cases ok
      · exact ⟨y, hy, by simp [Instr.lookup, Sem.run_bind, run_underlying hu, getObj_map hx, checkKey_int hk, findKey_run hk hf]⟩
      · exact ⟨.tuple #[y, .bool true], by simp [conc, concL, hy, SB.ev], by simp [Instr.lookup, Sem.run_bind, run_underlying hu, getObj_map hx, checkKey_int hk, findKey_run hk hf]⟩
    | none =>
      obtain ⟨z, hz, h6⟩ := optK_inv (show optK (zeroA P p.2) 95 (fun z => κ (Bool.rec (motive := fun _ => AV) z (.tup [z, .bool (.lit false)]) ok)) ∈ D from h5)
      refine ⟨_, h6, fun {φ ρ w a b} hH ha hb => ?_⟩
      obtain ⟨pl, xs, hpl, hx, he⟩ := hH.obj _ _ hg
      simp only [conc, hpl, Option.map_some, Option.some.injEq, SI.ev] at ha hb
      subst ha; subst hb
      obtain ⟨zv, hzr, hzc⟩ := zero_conc hz (w := w) (φ := φ) (ρ := ρ)
      have hf := hr he
      cases ok
      · exact ⟨zv, hzc, by simp [Instr.lookup, Sem.run_bind, run_underlying hu, getObj_map hx, checkKey_int hk, findKey_run hk hf, hzr]⟩
      · exact ⟨.tuple #[zv, .bool false], by simp [conc, concL, hzc, SB.ev], by simp [Instr.lookup, Sem.run_bind, run_underlying hu, getObj_map hx, checkKey_int hk, findKey_run hk hf, hzr]⟩
  · obtain ⟨z, hz, h6⟩ := optK_inv (show optK (zeroA P p.2) 95 (fun z => κ (Bool.rec (motive := fun _ => AV) z (.tup [z, .bool (.lit false)]) ok)) ∈ D from h2)
    refine ⟨_, h6, fun {φ ρ w a b} hH ha hb => ?_⟩
    simp only [conc, Option.some.injEq, SI.ev] at ha hb
    subst ha; subst hb
    obtain ⟨zv, hzr, hzc⟩ := zero_conc hz (w := w) (φ := φ) (ρ := ρ)
    have hf : Instr.findNow (.int p.1) (.int p.1 n) [] 0 = some none := rfl
    cases ok
    · exact ⟨zv, hzc, by simp [Instr.lookup, Sem.run_bind, run_underlying hu, checkKey_int hk, findKey_run hk hf, hzr]⟩
    · exact ⟨.tuple #[zv, .bool false], by simp [conc, concL, hzc, SB.ev], by simp [Instr.lookup, Sem.run_bind, run_underlying hu, checkKey_int hk, findKey_run hk hf, hzr]⟩
  · cases h2

/-! parts -/
theorem rawOk_cells {v : Value} (hr : rawOk v = true) : v.cells = #[v] := by cases v <;> first | rfl | (cases hr; done)
theorem cells_one {v : AV} (h : match v with | .agg _ | .tup _ | .opq _ | .raw _ => False | _ => True) {φ : List Pl} {ρ : Nat → Int} {x : Value} (hx : conc φ ρ v = some x) : concL φ ρ [v] = some x.cells.toList := by
  have hc : x.cells = #[x] := by
    cases v <;> simp only [conc, Option.map_eq_some_iff, Option.bind_eq_some_iff, Option.some.injEq] at hx
    case int => subst hx; rfl
    case bool => subst hx; rfl
    case ptr => obtain ⟨p, _, rfl⟩ := hx; rfl
    case sl => obtain ⟨p, _, rfl⟩ := hx; rfl
    case emp => obtain ⟨p, _, rfl⟩ := hx; split <;> rfl
    case map => obtain ⟨p, _, rfl⟩ := hx; rfl
    case fn => obtain ⟨p, _, q, _, rfl⟩ := hx; rfl
    case iface => obtain ⟨p, _, rfl⟩ := hx; rfl
    case agg => exact h.elim
    case tup => exact h.elim
    case raw => exact h.elim
    case opq => exact h.elim
    case osl => subst hx; rfl
  rw [hc]
  exact concL_cons.2 ⟨x, [], hx, rfl, rfl⟩
theorem cellsK_inv {n : Nat} {v : AV} {κ : List AV → R} (hD : cellsK (.fail n) v κ ∈ D) : ∃ l, κ l ∈ D ∧ ∀ {φ ρ x}, conc φ ρ v = some x → concL φ ρ l = some x.cells.toList := by
  cases v
  case agg l =>
    refine ⟨_, hD, fun {φ ρ x} hx => ?_⟩
    obtain ⟨xs, hxs, rfl⟩ := conc_agg hx
    simpa [Value.cells] using hxs
  case tup => cases hD
  case opq => cases hD
  case raw v =>
    obtain ⟨hr, h1⟩ := brec_inv (show Bool.rec (motive := fun _ => R) (.fail n) (κ [.raw v]) (rawOk v) ∈ D from hD)
    refine ⟨_, h1, fun {φ ρ x} hx => ?_⟩
    simp only [conc, Option.some.injEq] at hx
    subst hx
    rw [rawOk_cells hr]; rfl
  all_goals exact ⟨_, hD, fun hx => cells_one trivial hx⟩

inductive PartsOk (φ : List Pl) (ρ : Nat → Int) : List (Nat × AV) → List (Nat × Value) → Prop
  | nil : PartsOk φ ρ [] []
  | cons {i : Nat} {v : AV} {x : Value} {l : List (Nat × AV)} {m : List (Nat × Value)} (hx : conc φ ρ v = some x) (h : PartsOk φ ρ l m) : PartsOk φ ρ ((i, v) :: l) ((i, x) :: m)
theorem opdParts_inv {t : Ts} : ∀ {l : List (Nat × Operand)} {κ : List (Nat × AV) → R}, opdParts t l κ ∈ D → ∃ ps, κ ps ∈ D ∧ ∀ {φ ρ sz a}, GA φ ρ t sz a → PartsOk φ ρ ps (l.map fun x => (x.1, a.eval x.2))
  | [], κ, hD => ⟨[], hD, fun _ => .nil⟩
  | (i, o) :: l, κ, hD => by
    obtain ⟨v, h1, hv⟩ := opd_inv (show opd t o (fun v => opdParts t l fun r => κ ((i, v) :: r)) ∈ D from hD)
    obtain ⟨ps, h2, hps⟩ := opdParts_inv h1
    exact ⟨_, h2, fun hg => .cons (hv hg) (hps hg)⟩

theorem splice_eq (cs : Array Value) : ∀ (l : List Value) (off k : Nat) (xs : List Value), off + k + l.length ≤ xs.length →
    ((l.zipIdx k).foldl (fun cs (c, j) => cs.setIfInBounds (off + j) c) xs.toArray).toList = xs.take (off + k) ++ (l ++ xs.drop (off + k + l.length))
  | [], off, k, xs, h => by simp
  | v :: l, off, k, xs, h => by
    simp only [List.length_cons] at h
    rw [List.zipIdx_cons, List.foldl_cons]
    simp only [List.setIfInBounds_toArray]
    rw [splice_eq cs l off (k + 1) _ (by simp; omega)]
    have hm : (xs.take (off + k)).length = off + k := by rw [List.length_take]; omega
    have e : xs.set (off + k) v = xs.take (off + k) ++ v :: xs.drop (off + k + 1) := by
      rw [List.set_eq_take_append_cons_drop, if_pos (by omega)]
    rw [e]
    have e1 : (xs.take (off + k) ++ v :: xs.drop (off + k + 1)).take (off + (k + 1)) = xs.take (off + k) ++ [v] := by
      rw [show off + (k + 1) = (xs.take (off + k)).length + 1 by omega, List.take_length_add_append]
      rfl
    have e2 : (xs.take (off + k) ++ v :: xs.drop (off + k + 1)).drop (off + (k + 1) + l.length) = xs.drop (off + k + (l.length + 1)) := by
      rw [show off + (k + 1) + l.length = (xs.take (off + k)).length + (l.length + 1) by omega, List.drop_length_add_append, List.drop_succ_cons, List.drop_drop]
      congr 1; omega
    rw [e1, e2, List.length_cons]
    simp
theorem dropN_inv : ∀ {n : Nat} {l : List AV} {κ : List AV → R}, dropN n l κ ∈ D → κ (l.drop n) ∈ D ∧ n ≤ l.length
  | 0, l, κ, h => ⟨h, Nat.zero_le _⟩
  | n + 1, [], κ, h => by cases h
  | n + 1, x :: l, κ, h => by
    obtain ⟨h1, h2⟩ := dropN_inv (show dropN n l κ ∈ D from h)
    exact ⟨h1, by simp; omega⟩
theorem appL_inv {r : List AV} : ∀ {c : List AV} {κ : List AV → R}, appL c r κ ∈ D → κ (c ++ r) ∈ D
  | [], κ, h => h
  | x :: c, κ, h => appL_inv (c := c) (κ := fun l => κ (x :: l)) h
theorem putL_inv {c : List AV} {n : Nat} : ∀ {i : Nat} {l : List AV} {κ : List AV → R}, putL c n i l κ ∈ D → κ (l.take i ++ (c ++ l.drop (i + n))) ∈ D ∧ i + n ≤ l.length
  | 0, l, κ, h => by
    obtain ⟨h1, h2⟩ := dropN_inv (show dropN n l (fun r => appL c r κ) ∈ D from h)
    have h3 := appL_inv h1
    exact ⟨by simpa using h3, by omega⟩
  | i + 1, [], κ, h => by cases h
  | i + 1, x :: l, κ, h => by
    obtain ⟨h1, h2⟩ := putL_inv (show putL c n i l (fun r => κ (x :: r)) ∈ D from h)
    refine ⟨?_, by simp; omega⟩
    rw [show i + 1 + n = (i + n) + 1 by omega]
    exact h1
theorem fillA_inv {places : Nat → Option (Nat × Nat)} : ∀ {ps : List (Nat × AV)} {l : List AV} {κ : List AV → R}, fillA places ps l κ ∈ D → ∃ r, κ r ∈ D ∧ ∀ {φ ρ xs vs}, concL φ ρ l = some xs → PartsOk φ ρ ps vs → ∃ ys, concL φ ρ r = some ys ∧ Instr.fill places xs.toArray vs = some ys.toArray
  | [], l, κ, hD => ⟨l, hD, fun {φ ρ xs vs} hx hp => by cases hp; exact ⟨xs, hx, rfl⟩⟩
  | (i, v) :: ps, l, κ, hD => by
    unfold fillA at hD
    obtain ⟨p, hp, h1⟩ := optK_inv hD
    obtain ⟨c, h2, hc⟩ := cellsK_inv h1
    obtain ⟨hb, h3⟩ := brec_inv h2
    rw [natBeq] at hb
    have hb := of_decide_eq_true hb
    obtain ⟨h3, q2⟩ := putL_inv h3
    obtain ⟨r, h4, hr⟩ := fillA_inv h3
    refine ⟨r, h4, fun {φ ρ xs vs} hx hps => ?_⟩
    cases hps with
    | cons hv hps =>
      rename_i x m
      have hcx := hc hv
      have hl := concL_length hx
      have hcl := concL_length hcx
      have q1 := hb
      have e1 : x.cells.size = p.2 := by rw [← Array.length_toList, hcl, q1]
      have hspl : concL φ ρ (l.take p.1 ++ (c ++ l.drop (p.1 + p.2))) = some (xs.take p.1 ++ (x.cells.toList ++ xs.drop (p.1 + p.2))) :=
        concL_append.2 ⟨_, _, concL_take _ hx, concL_append.2 ⟨_, _, hcx, concL_drop _ hx, rfl⟩, rfl⟩
      obtain ⟨ys, hy, hf⟩ := hr hspl hps
      refine ⟨ys, hy, ?_⟩
      rw [Instr.fill, hp]
      simp only [e1, ne_eq, not_true_eq_false, decide_false, Bool.false_or, List.size_toArray, decide_eq_true_eq]
      rw [if_neg (by rw [hl]; simp; omega)]
      rw [← hf]
      congr 1
      apply Array.toList_inj.1
      have hz : x.cells.zipIdx = (x.cells.toList.zipIdx 0).toArray := by
        apply Array.toList_inj.1; simp
      rw [hz, List.foldl_toArray]
      have := splice_eq #[] x.cells.toList p.1 0 xs (by rw [Array.length_toList, e1, hl]; omega)
      rw [this]
      simp [e1]
theorem build_sound {T : TypeId} {t : Ts} {parts : Array (Nat × Operand)} {κ : AV → R} (hD : buildA P T t parts κ ∈ D) : ∃ u, κ u ∈ D ∧ ∀ {φ ρ w sz a}, GA φ ρ t sz a → RunV P φ ρ w (Instr.build T (parts.map fun (i, x) => (i, a.eval x))) u := by
  obtain ⟨z, hz, h1⟩ := optK_inv hD
  obtain ⟨zl, h2, hzl⟩ := cellsK_inv h1
  obtain ⟨ps, h3, hps⟩ := opdParts_inv h2
  have hz' : ∃ it zv, P.info? T = some it ∧ it.zero = some zv ∧ ofValue zv = z := by
    unfold zeroA at hz
    split at hz
    · rename_i it hit
      simp only [Option.map_eq_some_iff] at hz
      obtain ⟨zv, h1, h2⟩ := hz
      exact ⟨it, zv, hit, h1, h2⟩
    · cases hz
  obtain ⟨it, zv, hit, hzero, rfl⟩ := hz'
  split at h3
  · rename_i fs hu
    obtain ⟨pl, hpl, h4⟩ := optK_inv h3
    obtain ⟨r, h5, hr⟩ := fillA_inv h4
    refine ⟨_, h5, fun {φ ρ w sz a} hg => ?_⟩
    obtain ⟨ys, hy, hf⟩ := hr (hzl (conc_ofValue (φ := φ) (ρ := ρ) zv)) (hps hg)
    refine ⟨.agg ys.toArray, by simp [conc, hy], run_build w T _ _ ?_⟩
    unfold placesA at hpl
    simp only [hu] at hpl
    simp only [Program.built, hit, hu, hzero, hpl]
    rw [show (fun (x : Nat) => pl.toArray[x]?) = (fun i => pl[i]?) by funext i; simp]
    simpa using hf
  · rename_i n e hu
    obtain ⟨s, hs, h4⟩ := optK_inv h3
    obtain ⟨r, h5, hr⟩ := fillA_inv h4
    refine ⟨_, h5, fun {φ ρ w sz a} hg => ?_⟩
    obtain ⟨ys, hy, hf⟩ := hr (hzl (conc_ofValue (φ := φ) (ρ := ρ) zv)) (hps hg)
    refine ⟨.agg ys.toArray, by simp [conc, hy], run_build w T _ _ ?_⟩
    simp only [sizeA, Option.map_eq_some_iff] at hs
    obtain ⟨ie, hie, rfl⟩ := hs
    simp only [Program.built, hit, hu, hzero, hie]
    simpa using hf
  · cases h3
end

end Go.Proofs.Ytdklpcjipkhenaa
