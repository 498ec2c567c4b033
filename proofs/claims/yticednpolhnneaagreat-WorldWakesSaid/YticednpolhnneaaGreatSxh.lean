/-
  A run reckoned ahead: quiet operations do what was reckoned (5): maps looked up, parts built; all together.
-/
import Derived.Test.YticednpolhnneaaGreatSxg
set_option linter.unusedVariables false
set_option linter.unusedSimpArgs false
namespace Go.Proofs.YticednpolhnneaaGreat
open Go

section
variable {P : Program} {D : Dn} {h : Tr AObj}

/-! maps -/
/-- what a key is -/
def KeyVal (d : KeyD) (a : Value) : Prop := match d with
  | .int => ∃ k n, a = .int k n
  | .str => ∃ s, a = .string s
  | .flat n => ∃ xs : List Value, a = .agg xs.toArray ∧ xs.length = n
/-- two keys, held against one another -/
def KeyCmp (d : KeyD) (a b : Value) (r : Bool) : Prop := match d with
  | .int => RowCmp [a] [b] r
  | .str => ∃ s t : ByteArray, a = .string s ∧ b = .string t ∧ r = (s.toList == t.toList)
  | .flat _ => ∃ xs ys : List Value, a = .agg xs.toArray ∧ b = .agg ys.toArray ∧ RowCmp xs ys r
theorem KeyCmp.same {d : KeyD} {a b : Value} (h : KeyCmp d a b true) : a = b := by
  cases d with
  | int => have := (show RowCmp [a] [b] true from h).same.1; simpa using this
  | str =>
    obtain ⟨s, t, rfl, rfl, e⟩ := h
    have e : s.toList = t.toList := by simpa using e.symm
    rw [ByteArray.toList_eq, ByteArray.toList_eq] at e
    obtain ⟨⟨x⟩⟩ := s
    obtain ⟨⟨y⟩⟩ := t
    simp only at e
    rw [e]
  | flat n =>
    obtain ⟨xs, ys, rfl, rfl, h⟩ := h
    rw [h.same.1]
theorem RowCmp.bits {xs : List Value} (h : ∀ v ∈ xs, ∃ k n, v = Value.int k n) (n : Nat) : ((xs.zip xs).all fun (x, y) => Instr.sameBits (n + 1) x y) = true := by
  induction xs with
  | nil => rfl
  | cons x xs ih =>
    obtain ⟨k, m, rfl⟩ := h x (by simp)
    simp only [List.zip_cons_cons, List.all_cons, Bool.and_eq_true]
    exact ⟨by simp [Instr.sameBits], ih fun v hv => h v (by simp [hv])⟩
theorem KeyCmp.stays {d : KeyD} {a b : Value} (h : KeyCmp d a b true) {w : World} : (Instr.keyThatStays b a).run P w = .ok a w := by
  have hs := h.same
  subst hs
  have : Instr.sameBits 10000 a a = true := by
    cases d with
    | int =>
      obtain ⟨k, n, e⟩ := (show RowCmp [a] [a] true from h).same.2 a (by simp)
      rw [e]
      simp [Instr.sameBits]
    | str =>
      obtain ⟨s, t, rfl, _, _⟩ := h
      rw [show (10000 : Nat) = 9999 + 1 from rfl]
      simp only [Instr.sameBits]
      obtain ⟨⟨x⟩⟩ := s
      show ((⟨x⟩ : Array UInt8) == ⟨x⟩) = true
      simp
    | flat n =>
      obtain ⟨xs, ys, rfl, _, h⟩ := h
      have := RowCmp.bits h.same.2 9998
      rw [show (10000 : Nat) = 9999 + 1 from rfl, Instr.sameBits]
      simp only [beq_self_eq_true, Bool.true_and]
      exact this
  simp [Instr.keyThatStays, this]
theorem keyD_cases {K : TypeId} {d : KeyD} (h : keyD P K = some d) : (d = .int ∧ plainInt P K = true) ∨ (d = .str ∧ P.underlying K = some .string) ∨ ∃ n, d = .flat n ∧ flatT P K = some n := by
  unfold keyD at h
  split at h
  · rename_i k hu
    cases h
    exact .inl ⟨rfl, by simp [plainInt, hu]⟩
  · rename_i hu
    cases h
    exact .inr (.inl ⟨rfl, hu⟩)
  · split at h
    · rename_i n hn
      cases h
      exact .inr (.inr ⟨n, rfl, hn⟩)
    · cases h
theorem check_run {K : TypeId} {d : KeyD} (hK : keyD P K = some d) {a : Value} (ha : KeyVal d a) {e : Bool} {w : World} : (Instr.checkKey e 10000 K a).run P w = .ok () w := by
  rcases keyD_cases hK with ⟨rfl, h⟩ | ⟨rfl, h⟩ | ⟨n, rfl, h⟩
  · exact checkKey_int h
  · rw [show (10000 : Nat) = 9999 + 1 from rfl, Instr.checkKey, Sem.run_bind, run_underlying h]
    rfl
  · obtain ⟨xs, rfl, hx⟩ := ha
    exact checkKey_flat h hx
theorem run_findKey_wide {k : TypeId} (hwide : (match P.underlying k with | some (.array _ _) | some (.struct _) => true | _ => false) = true) (x : Value) (es : List MapEntry) {w : World} :
    (Instr.findKey k x es).run P w = (Instr.findAsking k x es).run P w := by
  cases hu : P.underlying k with
  | none => simp [hu] at hwide
  | some kd =>
    cases es with
    | nil => simp [Instr.findKey, run_underlying hu, Instr.findNow, Instr.findAsking]
    | cons e es => cases kd <;> simp [hu] at hwide <;> simp [Instr.findKey, run_underlying hu, Instr.findNow, Instr.sameNow]
/-- a key is looked for -/
inductive Scan (d : KeyD) (a : Value) : List MapEntry → Nat → Option (Nat × Value) → Prop
  | nil {i : Nat} : Scan d a [] i none
  | hit {e : MapEntry} {es : List MapEntry} {i : Nat} (h : KeyCmp d a e.key true) : Scan d a (e :: es) i (some (i, e.val))
  | miss {e : MapEntry} {es : List MapEntry} {i : Nat} {r : Option (Nat × Value)} (h : KeyCmp d a e.key false) (hs : Scan d a es (i + 1) r) : Scan d a (e :: es) i r
theorem Scan.at {d : KeyD} {a : Value} : ∀ {es : List MapEntry} {i j : Nat} {v : Value}, Scan d a es i (some (j, v)) → i ≤ j ∧ ∃ e, es[j - i]? = some e ∧ e.val = v ∧ KeyCmp d a e.key true
  | _, i, _, _, .hit (e := e) h => ⟨Nat.le_refl _, e, by simp, rfl, h⟩
  | _, i, j, _, .miss h hs => by
    obtain ⟨h1, e, h2, h3, h4⟩ := hs.at
    exact ⟨by omega, e, by rw [show j - i = (j - (i + 1)) + 1 by omega]; simpa using h2, h3, h4⟩
theorem Scan.now {kd : TypeDesc} {d : KeyD} {a : Value} (hs : ∀ b r, KeyCmp d a b r → Instr.sameNow kd a b = some r) : ∀ {es : List MapEntry} {i : Nat} {r : Option (Nat × Value)}, Scan d a es i r → Instr.findNow kd a es i = some r
  | _, _, _, .nil => rfl
  | _, _, _, .hit h => by simp [Instr.findNow, hs _ _ h]
  | _, _, _, .miss h h2 => by simp only [Instr.findNow, hs _ _ h]; exact Scan.now hs h2
theorem Scan.asks {K : TypeId} {d : KeyD} {a : Value} {w : World} (hs : ∀ b r, KeyCmp d a b r → (Op.equal K a b).run P w = .ok r w) : ∀ {es : List MapEntry} {i : Nat} {r : Option (Nat × Value)}, Scan d a es i r → (Instr.findAsking K a es i).run P w = .ok r w
  | _, _, _, .nil => rfl
  | _, _, _, .hit h => by simp [Instr.findAsking, Sem.run_bind, hs _ _ h]
  | _, _, _, .miss h h2 => by simp [Instr.findAsking, Sem.run_bind, hs _ _ h, Scan.asks hs h2]
theorem find_run {K : TypeId} {d : KeyD} (hK : keyD P K = some d) {a : Value} (ha : KeyVal d a) {es : List MapEntry} {r : Option (Nat × Value)} (hs : Scan d a es 0 r) {w : World} : (Instr.findKey K a es).run P w = .ok r w := by
  rcases keyD_cases hK with ⟨rfl, h⟩ | ⟨rfl, h⟩ | ⟨n, rfl, h⟩
  · obtain ⟨k, hk⟩ := plainInt_und h
    have := hs.now (kd := .int k) fun b r hc => by
      cases hc with
      | ne h => simp [Instr.sameNow, h]
      | eq h => cases h; simp [Instr.sameNow]
    simp [Instr.findKey, Sem.run_bind, run_underlying hk, this]
  · have := hs.now (kd := .string) fun b r hc => by
      obtain ⟨s, t, rfl, rfl, rfl⟩ := hc
      simp [Instr.sameNow, beq_toListBytes]
    simp [Instr.findKey, Sem.run_bind, run_underlying h, this]
  · have hwide : (match P.underlying K with | some (.array _ _) | some (.struct _) => true | _ => false) = true := by
      rcases flatT_cases h with ⟨fs, hu, _⟩ | ⟨e, hu, _⟩ <;> rw [hu]
    obtain ⟨xs, rfl, hx⟩ := ha
    rw [run_findKey_wide hwide]
    refine hs.asks fun b r hc => ?_
    obtain ⟨us, vs, e1, rfl, hc⟩ := hc
    have e1 : xs = us := by
      have := Value.agg.inj e1
      exact List.toArray_inj this
    subst e1
    exact equal_flat h hx hc
theorem rawV_inv {v : AV} {n : Nat} {κ : Value → R} (h : rawV v n κ ∈ D) : ∃ x, v = .raw x ∧ κ x ∈ D := by
  unfold rawV at h
  split at h
  · exact ⟨_, rfl, h⟩
  · cases h
theorem keyOk_inv {d : KeyD} {k : AV} {κ : R} (hD : keyOk d k κ ∈ D) : κ ∈ D ∧ ∀ {φ ρ a}, conc φ ρ k = some a → KeyVal d a := by
  cases d with
  | int =>
    obtain ⟨kd, e, rfl, h1⟩ := intV_inv (show intV k (nat_lit 91) (fun _ _ => κ) ∈ D from hD)
    exact ⟨h1, fun {φ ρ a} h => by simp only [conc, Option.some.injEq] at h; exact ⟨_, _, h.symm⟩⟩
  | str =>
    obtain ⟨x, rfl, h1⟩ := rawV_inv (show rawV k (nat_lit 92) (fun v => strV v (nat_lit 92) κ) ∈ D from hD)
    unfold strV at h1
    split at h1
    · exact ⟨h1, fun {φ ρ a} h => by simp only [conc, Option.some.injEq] at h; exact ⟨_, h.symm⟩⟩
    · cases h1
  | flat n =>
    obtain ⟨l, rfl, h1⟩ := aggV_inv (show aggV k (nat_lit 93) (fun l => Bool.rec (motive := fun _ => R) (.fail 94) κ (Nat.beq (lenC l) n)) ∈ D from hD)
    obtain ⟨hb, h2⟩ := brec_inv h1
    rw [natBeq, decide_eq_true_eq, lenC_eq] at hb
    refine ⟨h2, fun {φ ρ a} h => ?_⟩
    obtain ⟨xs, hx, rfl⟩ := conc_agg' h
    exact ⟨xs, rfl, (concL_length hx).trans hb⟩
theorem keyEq_inv {d : KeyD} {x y : AV} {pc : PC} {κ : Bool → PC → R} (hD : keyEq d x y pc κ ∈ D) : ∃ b pc', κ b pc' ∈ D ∧ PcExt pc pc' ∧ ∀ {φ ρ a c}, Holds ρ pc' → conc φ ρ x = some a → conc φ ρ y = some c → KeyCmp d a c b := by
  cases d with
  | int =>
    obtain ⟨b, pc', h1, h2, h3⟩ := eqCells_inv (show eqCells [x] [y] pc κ ∈ D from hD)
    exact ⟨b, pc', h1, h2, fun {φ ρ a c} hρ hx hy => h3 hρ (concL_cons.2 ⟨a, [], hx, rfl, rfl⟩) (concL_cons.2 ⟨c, [], hy, rfl, rfl⟩)⟩
  | str =>
    obtain ⟨v, rfl, h1⟩ := rawV_inv (show rawV x (nat_lit 92) (fun v => rawV y (nat_lit 92) fun w => strEq v w fun b => forceB b fun b => κ b pc) ∈ D from hD)
    obtain ⟨u, rfl, h2⟩ := rawV_inv h1
    unfold strEq at h2
    split at h2
    · split at h2
      · simp only [forceB_eq] at h2
        refine ⟨_, pc, h2, .refl _, fun {φ ρ a c} _ hx hy => ?_⟩
        simp only [conc, Option.some.injEq] at hx hy
        exact ⟨_, _, hx.symm, hy.symm, by rw [ByteArray.toList_eq, ByteArray.toList_eq]⟩
      · cases h2
    · cases h2
  | flat n =>
    obtain ⟨l, rfl, h1⟩ := aggV_inv (show aggV x (nat_lit 93) (fun l => aggV y (nat_lit 93) fun m => eqCells l m pc κ) ∈ D from hD)
    obtain ⟨m, rfl, h2⟩ := aggV_inv h1
    obtain ⟨b, pc', h3, h4, h5⟩ := eqCells_inv h2
    refine ⟨b, pc', h3, h4, fun {φ ρ a c} hρ hx hy => ?_⟩
    obtain ⟨xs, hx', rfl⟩ := conc_agg' hx
    obtain ⟨ys, hy', rfl⟩ := conc_agg' hy
    exact ⟨xs, ys, rfl, rfl, h5 hρ hx' hy'⟩
/-- what was found, abstract and real -/
def FoundOk (φ : List Pl) (ρ : Nat → Int) : Option (Nat × AV) → Option (Nat × Value) → Prop
  | none, none => True
  | some (i, v), some (j, x) => i = j ∧ conc φ ρ v = some x
  | _, _ => False
theorem findK_inv {d : KeyD} {k : AV} : ∀ {es : List (AV × AV × Nat)} {i : Nat} {pc : PC} {κ : Option (Nat × AV) → PC → R}, findK d k es i pc κ ∈ D → ∃ r pc', κ r pc' ∈ D ∧ PcExt pc pc' ∧ ∀ {φ ρ a ms}, Holds ρ pc' → conc φ ρ k = some a → EntOk φ ρ es ms → ∃ r', FoundOk φ ρ r r' ∧ Scan d a ms i r'
  | [], i, pc, κ, hD => ⟨none, pc, hD, .refl _, fun {φ ρ a ms} _ _ he => by cases he; exact ⟨none, trivial, .nil⟩⟩
  | e :: es, i, pc, κ, hD => by
    obtain ⟨b, pc1, h1, x1, h2⟩ := keyEq_inv (show keyEq d k e.1 pc (fun b pc => Bool.rec (motive := fun _ => R) (findK d k es (Nat.succ i) pc κ) (κ (some (i, e.2.1)) pc) b) ∈ D from hD)
    rcases brec_cases h1 with ⟨rfl, h3⟩ | ⟨rfl, h3⟩
    · refine ⟨_, pc1, h3, x1, fun {φ ρ a ms} hρ ha he => ?_⟩
      cases he with
      | cons hk hv he => exact ⟨some (i, _), ⟨rfl, hv⟩, .hit (h2 hρ ha hk)⟩
    · obtain ⟨r, pc2, h4, x2, h5⟩ := findK_inv h3
      refine ⟨r, pc2, h4, x1.trans x2, fun {φ ρ a ms} hρ ha he => ?_⟩
      cases he with
      | cons hk hv he =>
        obtain ⟨r', q1, q2⟩ := h5 hρ ha he
        exact ⟨r', q1, .miss (h2 (hρ.of_ext x2) ha hk) q2⟩
theorem mapTyA_und {T : TypeId} {p : KeyD × TypeId} (hm : mapTyA P T = some p) : ∃ k, P.underlying T = some (.map k p.2) ∧ keyD P k = some p.1 := by
  unfold mapTyA at hm
  split at hm
  · rename_i k e hu
    simp only [Option.map_eq_some_iff] at hm
    obtain ⟨kd, h1, rfl⟩ := hm
    exact ⟨k, hu, h1⟩
  · cases hm
theorem zero_conc {T : TypeId} {z : AV} (hz : zeroA P T = some z) {w : World} {φ : List Pl} {ρ : Nat → Int} : ∃ v, (zeroValue T).run P w = .ok v w ∧ conc φ ρ z = some v := by
  obtain ⟨v, h1, rfl⟩ := run_zero hz
  exact ⟨v, h1, conc_ofValue v⟩
theorem lkE_inv {ok : Bool} {e : TypeId} {κ : AV → PC → R} {r : Option (Nat × AV)} {pc : PC} (hD : lkE P ok e κ r pc ∈ D) : ∃ u, κ u pc ∈ D ∧ ∀ {φ ρ w r'}, FoundOk φ ρ r r' → ∃ x, conc φ ρ u = some x ∧
    (do let (v, ok') ← (match r' with | some (_, v) => pure (v, true) | none => do pure (← zeroValue e, false) : Sem (Value × Bool)); pure (if ok then .tuple #[v, .bool ok'] else v) : Sem Value).run P w = .ok x w := by
  unfold lkE at hD
  cases r with
  | some q =>
    obtain ⟨j, v⟩ := q
    refine ⟨_, hD, fun {φ ρ w r'} hr => ?_⟩
    cases r' with
    | none => exact hr.elim
    | some q' =>
      obtain ⟨j', y⟩ := q'
      have hy : conc φ ρ v = some y := hr.2
      cases ok
      · exact ⟨y, hy, by simp [Sem.run_bind]⟩
      · exact ⟨.tuple #[y, .bool true], by simp [conc, concL, hy, SB.ev], by simp [Sem.run_bind]⟩
  | none =>
    obtain ⟨z, hz, h1⟩ := optK_inv hD
    refine ⟨_, h1, fun {φ ρ w r'} hr => ?_⟩
    cases r' with
    | some q' => exact hr.elim
    | none =>
      obtain ⟨zv, hzr, hzc⟩ := zero_conc hz (w := w) (φ := φ) (ρ := ρ)
      cases ok
      · exact ⟨zv, hzc, by simp [Sem.run_bind, hzr]⟩
      · exact ⟨.tuple #[zv, .bool false], by simp [conc, concL, hzc, SB.ev], by simp [Sem.run_bind, hzr]⟩
theorem look_sound {T : TypeId} {x i : AV} {ok : Bool} {pc : PC} {κ : AV → PC → R} (hD : lookA P T h x i ok pc κ ∈ D) : ∃ u pc', κ u pc' ∈ D ∧ PcExt pc pc' ∧ ∀ {φ ρ w a b}, Holds ρ pc' → Hp P φ ρ h w → conc φ ρ x = some a → conc φ ρ i = some b → RunV P φ ρ w (Instr.lookup T a b ok) u := by
  obtain ⟨p, hp, h1⟩ := optK_inv hD
  obtain ⟨key, hu, hk⟩ := mapTyA_und hp
  obtain ⟨h2, hkv⟩ := keyOk_inv h1
  split at h2
  · rename_i id
    obtain ⟨es, c, hg, h3⟩ := mapK_inv h2
    obtain ⟨r, pc', h4, x1, h5⟩ := findK_inv h3
    obtain ⟨u, h6, h7⟩ := lkE_inv h4
    refine ⟨u, pc', h6, x1, fun {φ ρ w a b} hρ hH ha hb => ?_⟩
    obtain ⟨pl, xs, hpl, hx, he⟩ := hH.obj _ _ hg
    simp only [conc, hpl, Option.map_some, Option.some.injEq] at ha
    subst ha
    obtain ⟨r', q1, q2⟩ := h5 hρ hb he
    obtain ⟨y, hy, hrun⟩ := h7 (w := w) q1
    refine ⟨y, hy, ?_⟩
    rw [← hrun]
    simp [Instr.lookup, Sem.run_bind, run_underlying hu, getObj_map hx, check_run hk (hkv hb), find_run hk (hkv hb) q2]
    cases r' with
    | none => simp [Sem.run_bind]; cases (zeroValue p.2).run P w <;> rfl
    | some q => simp [Sem.run_bind]
  · obtain ⟨u, h6, h7⟩ := lkE_inv h2
    refine ⟨u, pc, h6, .refl _, fun {φ ρ w a b} hρ hH ha hb => ?_⟩
    simp only [conc, Option.some.injEq] at ha
    subst ha
    obtain ⟨y, hy, hrun⟩ := h7 (w := w) (r' := none) trivial
    refine ⟨y, hy, ?_⟩
    rw [← hrun]
    simp [Instr.lookup, Sem.run_bind, run_underlying hu, check_run hk (hkv hb), find_run hk (hkv hb) (.nil : Scan p.1 b [] 0 none)]
  · cases h2

/-! parts -/
theorem rawOk_cells {v : Value} (hr : rawOk v = true) : v.cells = #[v] := by cases v <;> first | rfl | (cases hr; done)
theorem cells_one {v : AV} (h : match v with | .agg _ | .tup _ | .opq _ | .raw _ | .dfr _ _ _ => False | _ => True) {φ : List Pl} {ρ : Nat → Int} {x : Value} (hx : conc φ ρ v = some x) : concL φ ρ [v] = some x.cells.toList := by
  have hc : x.cells = #[x] := by
    cases v <;> simp only [conc, Option.map_eq_some_iff, Option.bind_eq_some_iff, Option.some.injEq] at hx
    case int => subst hx; rfl
    case bool => subst hx; rfl
    case ptr => obtain ⟨p, _, rfl⟩ := hx; rfl
    case sl => obtain ⟨p, _, rfl⟩ := hx; rfl
    case emp => obtain ⟨p, _, rfl⟩ := hx; split <;> rfl
    case em0 => obtain ⟨p, _, rfl⟩ := hx; rfl
    case map => obtain ⟨p, _, rfl⟩ := hx; rfl
    case fn => obtain ⟨p, _, q, _, rfl⟩ := hx; rfl
    case iface => obtain ⟨p, _, rfl⟩ := hx; rfl
    case agg => exact h.elim
    case tup => exact h.elim
    case raw => exact h.elim
    case opq => exact h.elim
    case osl => subst hx; rfl
    case dfr => exact h.elim
    case ssl cap => obtain ⟨p, _, rfl⟩ := hx; cases cap with | some c => rfl | none => dsimp only; split <;> rfl
    case fsl => split at hx <;> cases hx; rfl
  rw [hc]
  exact concL_cons.2 ⟨x, [], hx, rfl, rfl⟩
theorem cellsK_inv {n : Nat} {v : AV} {κ : List AV → R} (hD : cellsK (.fail n) v κ ∈ D) : ∃ l, κ l ∈ D ∧ ∀ {φ ρ x}, conc φ ρ v = some x → concL φ ρ l = some x.cells.toList := by
  cases v
  case agg l =>
    refine ⟨_, hD, fun {φ ρ x} hx => ?_⟩
    obtain ⟨xs, hxs, rfl⟩ := conc_agg hx
    simpa [Value.cells] using hxs
  case tup => cases hD
  case opq => cases hD
  case dfr => cases hD
  case raw v =>
    obtain ⟨hr, h1⟩ := brec_inv (show Bool.rec (motive := fun _ => R) (.fail n) (κ [.raw v]) (rawOk v) ∈ D from hD)
    refine ⟨_, h1, fun {φ ρ x} hx => ?_⟩
    simp only [conc, Option.some.injEq] at hx
    subst hx
    rw [rawOk_cells hr]; rfl
  all_goals exact ⟨_, hD, fun hx => cells_one trivial hx⟩

inductive PartsOk (φ : List Pl) (ρ : Nat → Int) : List (Nat × AV) → List (Nat × Value) → Prop
  | nil : PartsOk φ ρ [] []
  | cons {i : Nat} {v : AV} {x : Value} {l : List (Nat × AV)} {m : List (Nat × Value)} (hx : conc φ ρ v = some x) (h : PartsOk φ ρ l m) : PartsOk φ ρ ((i, v) :: l) ((i, x) :: m)
theorem opdParts_inv {t : Ts} : ∀ {l : List (Nat × Operand)} {κ : List (Nat × AV) → R}, opdParts t l κ ∈ D → ∃ ps, κ ps ∈ D ∧ ∀ {φ ρ sz a}, GA φ ρ t sz a → PartsOk φ ρ ps (l.map fun x => (x.1, a.eval x.2))
  | [], κ, hD => ⟨[], hD, fun _ => .nil⟩
  | (i, o) :: l, κ, hD => by
    obtain ⟨v, h1, hv⟩ := opd_inv (show opd t o (fun v => opdParts t l fun r => κ ((i, v) :: r)) ∈ D from hD)
    obtain ⟨ps, h2, hps⟩ := opdParts_inv h1
    exact ⟨_, h2, fun hg => .cons (hv hg) (hps hg)⟩

theorem splice_eq (cs : Array Value) : ∀ (l : List Value) (off k : Nat) (xs : List Value), off + k + l.length ≤ xs.length →
    ((l.zipIdx k).foldl (fun cs (c, j) => cs.setIfInBounds (off + j) c) xs.toArray).toList = xs.take (off + k) ++ (l ++ xs.drop (off + k + l.length))
  | [], off, k, xs, h => by simp
  | v :: l, off, k, xs, h => by
    simp only [List.length_cons] at h
    rw [List.zipIdx_cons, List.foldl_cons]
    simp only [List.setIfInBounds_toArray]
    rw [splice_eq cs l off (k + 1) _ (by simp; omega)]
    have hm : (xs.take (off + k)).length = off + k := by rw [List.length_take]; omega
    have e : xs.set (off + k) v = xs.take (off + k) ++ v :: xs.drop (off + k + 1) := by
      rw [List.set_eq_take_append_cons_drop, if_pos (by omega)]
    rw [e]
    have e1 : (xs.take (off + k) ++ v :: xs.drop (off + k + 1)).take (off + (k + 1)) = xs.take (off + k) ++ [v] := by
      rw [show off + (k + 1) = (xs.take (off + k)).length + 1 by omega, List.take_length_add_append]
      rfl
    have e2 : (xs.take (off + k) ++ v :: xs.drop (off + k + 1)).drop (off + (k + 1) + l.length) = xs.drop (off + k + (l.length + 1)) := by
      rw [show off + (k + 1) + l.length = (xs.take (off + k)).length + (l.length + 1) by omega, List.drop_length_add_append, List.drop_succ_cons, List.drop_drop]
      congr 1; omega
    rw [e1, e2, List.length_cons]
    simp
theorem dropN_inv : ∀ {n : Nat} {l : List AV} {κ : List AV → R}, dropN n l κ ∈ D → κ (l.drop n) ∈ D ∧ n ≤ l.length
  | 0, l, κ, h => ⟨h, Nat.zero_le _⟩
  | n + 1, [], κ, h => by cases h
  | n + 1, x :: l, κ, h => by
    obtain ⟨h1, h2⟩ := dropN_inv (show dropN n l κ ∈ D from h)
    exact ⟨h1, by simp; omega⟩
theorem appL_inv {r : List AV} : ∀ {c : List AV} {κ : List AV → R}, appL c r κ ∈ D → κ (c ++ r) ∈ D
  | [], κ, h => h
  | x :: c, κ, h => appL_inv (c := c) (κ := fun l => κ (x :: l)) h
theorem putL_inv {c : List AV} {n : Nat} : ∀ {i : Nat} {l : List AV} {κ : List AV → R}, putL c n i l κ ∈ D → κ (l.take i ++ (c ++ l.drop (i + n))) ∈ D ∧ i + n ≤ l.length
  | 0, l, κ, h => by
    obtain ⟨h1, h2⟩ := dropN_inv (show dropN n l (fun r => appL c r κ) ∈ D from h)
    have h3 := appL_inv h1
    exact ⟨by simpa using h3, by omega⟩
  | i + 1, [], κ, h => by cases h
  | i + 1, x :: l, κ, h => by
    obtain ⟨h1, h2⟩ := putL_inv (show putL c n i l (fun r => κ (x :: r)) ∈ D from h)
    refine ⟨?_, by simp; omega⟩
    rw [show i + 1 + n = (i + n) + 1 by omega]
    exact h1
theorem fillA_inv {places : Nat → Option (Nat × Nat)} : ∀ {ps : List (Nat × AV)} {l : List AV} {κ : List AV → R}, fillA places ps l κ ∈ D → ∃ r, κ r ∈ D ∧ ∀ {φ ρ xs vs}, concL φ ρ l = some xs → PartsOk φ ρ ps vs → ∃ ys, concL φ ρ r = some ys ∧ Instr.fill places xs.toArray vs = some ys.toArray
  | [], l, κ, hD => ⟨l, hD, fun {φ ρ xs vs} hx hp => by cases hp; exact ⟨xs, hx, rfl⟩⟩
  | (i, v) :: ps, l, κ, hD => by
    unfold fillA at hD
    obtain ⟨p, hp, h1⟩ := optK_inv hD
    obtain ⟨c, h2, hc⟩ := cellsK_inv h1
    obtain ⟨hb, h3⟩ := brec_inv h2
    rw [natBeq] at hb
    have hb := of_decide_eq_true hb
    obtain ⟨h3, q2⟩ := putL_inv h3
    obtain ⟨r, h4, hr⟩ := fillA_inv h3
    refine ⟨r, h4, fun {φ ρ xs vs} hx hps => ?_⟩
    cases hps with
    | cons hv hps =>
      rename_i x m
      have hcx := hc hv
      have hl := concL_length hx
      have hcl := concL_length hcx
      have q1 := hb
      have e1 : x.cells.size = p.2 := by rw [← Array.length_toList, hcl, q1]
      have hspl : concL φ ρ (l.take p.1 ++ (c ++ l.drop (p.1 + p.2))) = some (xs.take p.1 ++ (x.cells.toList ++ xs.drop (p.1 + p.2))) :=
        concL_append.2 ⟨_, _, concL_take _ hx, concL_append.2 ⟨_, _, hcx, concL_drop _ hx, rfl⟩, rfl⟩
      obtain ⟨ys, hy, hf⟩ := hr hspl hps
      refine ⟨ys, hy, ?_⟩
      rw [Instr.fill, hp]
      simp only [e1, ne_eq, not_true_eq_false, decide_false, Bool.false_or, List.size_toArray, decide_eq_true_eq]
      rw [if_neg (by rw [hl]; simp; omega)]
      rw [← hf]
      congr 1
      apply Array.toList_inj.1
      have hz : x.cells.zipIdx = (x.cells.toList.zipIdx 0).toArray := by
        apply Array.toList_inj.1; simp
      rw [hz, List.foldl_toArray]
      have := splice_eq #[] x.cells.toList p.1 0 xs (by rw [Array.length_toList, e1, hl]; omega)
      rw [this]
      simp [e1]
theorem build_sound {T : TypeId} {t : Ts} {parts : Array (Nat × Operand)} {κ : AV → R} (hD : buildA P T t parts κ ∈ D) : ∃ u, κ u ∈ D ∧ ∀ {φ ρ w sz a}, GA φ ρ t sz a → RunV P φ ρ w (Instr.build T (parts.map fun (i, x) => (i, a.eval x))) u := by
  obtain ⟨z, hz, h1⟩ := optK_inv hD
  obtain ⟨zl, h2, hzl⟩ := cellsK_inv h1
  obtain ⟨ps, h3, hps⟩ := opdParts_inv h2
  have hz' : ∃ it zv, P.info? T = some it ∧ it.zero = some zv ∧ ofValue zv = z := by
    unfold zeroA at hz
    split at hz
    · rename_i it hit
      simp only [Option.map_eq_some_iff] at hz
      obtain ⟨zv, h1, h2⟩ := hz
      exact ⟨it, zv, hit, h1, h2⟩
    · cases hz
  obtain ⟨it, zv, hit, hzero, rfl⟩ := hz'
  split at h3
  · rename_i fs hu
    obtain ⟨pl, hpl, h4⟩ := optK_inv h3
    obtain ⟨r, h5, hr⟩ := fillA_inv h4
    refine ⟨_, h5, fun {φ ρ w sz a} hg => ?_⟩
    obtain ⟨ys, hy, hf⟩ := hr (hzl (conc_ofValue (φ := φ) (ρ := ρ) zv)) (hps hg)
    refine ⟨.agg ys.toArray, by simp [conc, hy], run_build w T _ _ ?_⟩
    unfold placesA at hpl
    simp only [hu] at hpl
    simp only [Program.built, hit, hu, hzero, hpl]
    rw [show (fun (x : Nat) => pl.toArray[x]?) = (fun i => pl[i]?) by funext i; simp]
    simpa using hf
  · rename_i n e hu
    obtain ⟨s, hs, h4⟩ := optK_inv h3
    obtain ⟨r, h5, hr⟩ := fillA_inv h4
    refine ⟨_, h5, fun {φ ρ w sz a} hg => ?_⟩
    obtain ⟨ys, hy, hf⟩ := hr (hzl (conc_ofValue (φ := φ) (ρ := ρ) zv)) (hps hg)
    refine ⟨.agg ys.toArray, by simp [conc, hy], run_build w T _ _ ?_⟩
    simp only [sizeA, Option.map_eq_some_iff] at hs
    obtain ⟨ie, hie, rfl⟩ := hs
    simp only [Program.built, hit, hu, hzero, hie]
    simpa using hf
  · cases h3
end

end Go.Proofs.YticednpolhnneaaGreat
