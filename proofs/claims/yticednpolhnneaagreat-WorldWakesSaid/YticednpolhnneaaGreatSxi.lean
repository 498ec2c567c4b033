/-
  A run reckoned ahead: each quiet operation does what was reckoned.
-/
import Derived.Test.YticednpolhnneaaGreatSrq
import Derived.Test.YticednpolhnneaaGreatSxh
set_option linter.unusedVariables false
set_option linter.unusedSimpArgs false
namespace Go.Proofs.YticednpolhnneaaGreat
open Go

section
variable {P : Program} {D : Dn} {h : Tr AObj}

theorem nilA_sound {v : AV} {κ : AV → R} (hD : nilA κ v ∈ D) : κ v ∈ D ∧ ∀ {φ ρ x}, conc φ ρ v = some x → (∃ p, x = .pointer (some p)) ∨ (∃ p n c, x = .slice p n c) ∨ (∃ r, x = .map r) ∨ (∃ f a b, x = .func (.func f) a b) ∨ (∃ t y, x = .iface t y) := by
  unfold nilA at hD
  obtain ⟨hb, h1⟩ := brec_inv hD
  refine ⟨h1, fun {φ ρ x} hx => ?_⟩
  cases v
  case ptr =>
    obtain ⟨p, _, rfl⟩ := conc_ptr hx
    exact .inl ⟨_, rfl⟩
  case map =>
    simp only [conc, Option.map_eq_some_iff] at hx
    obtain ⟨p, _, rfl⟩ := hx
    exact .inr (.inr (.inl ⟨_, rfl⟩))
  case sl =>
    obtain ⟨p, _, rfl⟩ := conc_sl hx
    exact .inr (.inl ⟨_, _, _, rfl⟩)
  case emp =>
    simp only [conc, Option.map_eq_some_iff] at hx
    obtain ⟨p, _, rfl⟩ := hx
    split
    · exact .inr (.inl ⟨_, _, _, rfl⟩)
    · exact .inr (.inl ⟨_, _, _, rfl⟩)
  case em0 =>
    simp only [conc, Option.map_eq_some_iff] at hx
    obtain ⟨p, _, rfl⟩ := hx
    exact .inr (.inl ⟨_, _, _, rfl⟩)
  case fn f a b =>
    cases f with
    | func g =>
      simp only [conc, Option.bind_eq_some_iff, Option.map_eq_some_iff] at hx
      obtain ⟨p, _, q, _, rfl⟩ := hx
      exact .inr (.inr (.inr (.inl ⟨_, _, _, rfl⟩)))
    | _ => cases hb
  case iface =>
    simp only [conc, Option.map_eq_some_iff] at hx
    obtain ⟨p, _, rfl⟩ := hx
    exact .inr (.inr (.inr (.inr ⟨_, _, rfl⟩)))
  case ssl =>
    obtain ⟨p, n, c, rfl⟩ := ssl_conc hx
    exact .inr (.inl ⟨_, _, _, rfl⟩)
  case fsl =>
    obtain ⟨p, n, c, rfl⟩ := fsl_conc hx
    exact .inr (.inl ⟨_, _, _, rfl⟩)
  all_goals cases hb

theorem OptOk.of_opds {φ : List Pl} {ρ : Nat → Int} {a : Act} {o : Option Operand} {vs : List AV} (hl : vs.length = o.toList.length) (hc : concL φ ρ vs = some (o.toList.map a.eval)) : OptOk φ ρ vs.head? (o.map a.eval) := by
  cases o with
  | none =>
    have : vs = [] := by simpa using hl
    subst this
    exact .no
  | some o =>
    cases vs with
    | nil => simp at hl
    | cons v vs =>
      obtain ⟨x, ys, h1, h2, h3⟩ := concL_cons.1 hc
      simp at h3
      obtain ⟨rfl, rfl⟩ := h3
      exact .yes h1

/-! the entry at which one stands -/
theorem lastN_back : ∀ {l : List Nat} {n : Nat}, lastN l = some n → l.toArray.back? = some n
  | [], n, h => by cases h
  | [m], n, h => by cases h; rfl
  | m :: k :: l, n, h => by
    have h : lastN (k :: l) = some n := h
    have := lastN_back h
    simp only [List.back?_toArray] at this ⊢
    rw [List.getLast?_cons_cons]
    exact this
theorem bornK_inv {n : Nat} : ∀ {es : List (AV × AV × Nat)} {κ : AV → R}, bornK n es κ ∈ D → ∃ k v, κ (.tup [k, v]) ∈ D ∧ ∀ {φ ρ ms}, EntOk φ ρ es ms → ∃ m, ms.find? (fun e => e.born == n) = some m ∧ conc φ ρ k = some m.key ∧ conc φ ρ v = some m.val
  | [], κ, h => by cases h
  | e :: es, κ, h => by
    rcases brec_cases (show Bool.rec (motive := fun _ => R) (bornK n es κ) (κ (.tup [e.1, e.2.1])) (Nat.beq e.2.2 n) ∈ D from h) with ⟨hb, h1⟩ | ⟨hb, h1⟩
    · rw [natBeq, decide_eq_true_eq] at hb
      refine ⟨_, _, h1, fun {φ ρ ms} he => ?_⟩
      cases he with
      | cons hk hv he => exact ⟨_, by simp only [List.find?_cons]; rw [show (_ == n) = true from by simpa using hb], hk, hv⟩
    · rw [natBeq, decide_eq_false_iff_not] at hb
      obtain ⟨k, v, h2, h3⟩ := bornK_inv h1
      refine ⟨k, v, h2, fun {φ ρ ms} he => ?_⟩
      cases he with
      | cons hk hv he =>
        obtain ⟨m, q1, q2, q3⟩ := h3 he
        exact ⟨m, by simp only [List.find?_cons]; rw [show (_ == n) = false from by simpa using hb]; exact q1, q2, q3⟩
theorem ent_sound {x : AV} {κ : AV → R} (hD : entA h x κ ∈ D) : ∃ u, κ u ∈ D ∧ ∀ {φ ρ w a}, Hp P φ ρ h w → conc φ ρ x = some a → RunV P φ ρ w (Instr.entry a) u := by
  obtain ⟨id, off, rfl, h1⟩ := ptrV_inv hD
  obtain ⟨hb, h2⟩ := brec_inv h1
  rw [natBeq, decide_eq_true_eq] at hb
  have hb : off = 0 := hb
  subst hb
  obtain ⟨o, ho, h3⟩ := optK_inv h2
  unfold entI at h3
  split at h3
  · rename_i m since seen last
    obtain ⟨i, rfl, h4⟩ := optK_inv h3
    obtain ⟨n, hn, h5⟩ := optK_inv h4
    obtain ⟨es, c, hi, h6⟩ := mapK_inv h5
    obtain ⟨hc, h7⟩ := brec_inv h6
    rw [natBeq, decide_eq_true_eq] at hc
    subst hc
    obtain ⟨k, v, h8, h9⟩ := bornK_inv h7
    refine ⟨_, h8, fun {φ ρ w a} hp ha => ?_⟩
    obtain ⟨p, hpl, rfl⟩ := conc_ptr ha
    obtain ⟨p', m', k1, k2, k3, k4⟩ := hp.obj _ _ ho
    rw [hpl] at k1; cases k1
    cases m' with
    | none => exact k3.elim
    | some b =>
      obtain ⟨q, hq, rfl⟩ := k3
      obtain ⟨q', xs, j1, j2, j3⟩ := hp.obj _ _ hi
      rw [hq] at j1; cases j1
      obtain ⟨me, e1, e2, e3⟩ := h9 j3
      refine ⟨.tuple #[me.key, me.val], by simp [conc, concL, e2, e3], ?_⟩
      have e1' : xs.find? (fun e => e.born == n) = some me := by rw [← Array.find?_toList]; exact e1
      simp only [Instr.entry, k2, Sem.run_bind, getObj, Sem.run, k4, j2, Result.andThen_ok, lastN_back hn, e1']
      simp
  · cases h3
/-! interfaces -/
theorem isNilC_eq {o : Operand} (h : isNilC o = true) : o = .const .nilIface := by
  unfold isNilC at h
  split at h
  · rfl
  · cases h
theorem eqNil_sound {op : BinOp} {T : TypeId} {x : AV} {κ : AV → R} (hD : eqNil P op T x κ ∈ D) : ∃ u, κ u ∈ D ∧ ∀ {φ ρ w a o1}, conc φ ρ x = some a → RunV P φ ρ w (do eqGuard op T o1 (.const .nilIface) a .nilIface; binOp op T a .nilIface) u := by
  obtain ⟨d, hd, h1⟩ := optK_inv hD
  split at h1
  · rename_i ms
    obtain ⟨b, hb, h2⟩ := optK_inv h1
    have key : ∀ {φ ρ a}, conc φ ρ x = some a → (∀ {w o1}, op = .eql ∨ op = .neq → (eqGuard op T o1 (.const .nilIface) a .nilIface).run P w = .ok () w) ∧ ∀ {w}, (Op.equal T a .nilIface).run P w = .ok b w ∧ binOp .eql T a .nilIface = (do pure (.bool (← Op.equal T a .nilIface))) ∧ binOp .neq T a .nilIface = (do pure (.bool (!(← Op.equal T a .nilIface)))) := by
      intro φ ρ a ha
      unfold nilI at hb
      split at hb
      · cases hb
        simp only [conc, Option.map_eq_some_iff] at ha
        obtain ⟨y, _, rfl⟩ := ha
        refine ⟨fun {w o1} ho => by rcases ho with rfl | rfl <;> rfl, fun {w} => ⟨?_, rfl, rfl⟩⟩
        rw [equal_eq, Op.equalIn, Sem.run_bind, run_underlying hd]
        rfl
      · cases hb
        simp only [conc, Option.some.injEq] at ha
        subst ha
        refine ⟨fun {w o1} ho => by rcases ho with rfl | rfl <;> (unfold eqGuard; cases o1 <;> rfl), fun {w} => ⟨?_, rfl, rfl⟩⟩
        rw [equal_eq, Op.equalIn, Sem.run_bind, run_underlying hd]
        rfl
      · cases hb
    split at h2
    · refine ⟨_, h2, fun {φ ρ w a o1} ha => ⟨.bool b, rfl, ?_⟩⟩
      obtain ⟨k1, k2⟩ := key ha
      obtain ⟨r1, r2, r3⟩ := k2 (w := w)
      rw [Sem.run_bind, k1 (.inl rfl), Result.andThen_ok, r2, Sem.run_bind, r1]
      rfl
    · refine ⟨_, h2, fun {φ ρ w a o1} ha => ⟨.bool (!b), by simp [conc, SB.ev, notF_eq], ?_⟩⟩
      obtain ⟨k1, k2⟩ := key ha
      obtain ⟨r1, r2, r3⟩ := k2 (w := w)
      rw [Sem.run_bind, k1 (.inr rfl), Result.andThen_ok, r3, Sem.run_bind, r1]
      rfl
    · cases h2
  · cases h1
theorem iface_sound {T : TypeId} {x : AV} {κ : AV → R} (hD : ifaceA P T x κ ∈ D) : ∃ u, κ u ∈ D ∧ ∀ {φ ρ w a}, conc φ ρ x = some a → RunV P φ ρ w (Instr.makeInterface T a) u := by
  obtain ⟨d, hd, h1⟩ := optK_inv hD
  split at h1
  · cases h1
  · rename_i hne
    refine ⟨_, h1, fun {φ ρ w a} ha => ⟨.iface T a, by simp [conc, ha], ?_⟩⟩
    simp only [Instr.makeInterface, Sem.run_bind, run_underlying hd, Result.andThen_ok]
    rfl
theorem asMiss_inv {T : TypeId} {ok : Bool} {κ : AV → R} (hD : asMiss P T ok κ ∈ D) : ok = true ∧ ∃ z, zeroA P T = some z ∧ κ (.tup [z, .bool (.lit false)]) ∈ D := by
  obtain ⟨h1, h2⟩ := brec_inv hD
  obtain ⟨z, h3, h4⟩ := optK_inv h2
  exact ⟨h1, z, h3, h4⟩
theorem asHit_conc {ok : Bool} {v : AV} {φ : List Pl} {ρ : Nat → Int} {x : Value} (h : conc φ ρ v = some x) : conc φ ρ (Bool.rec (motive := fun _ => AV) v (.tup [v, .bool (.lit true)]) ok) = some (if ok then .tuple #[x, .bool true] else x) := by
  cases ok
  · exact h
  · simp [conc, concL, h, SB.ev]
theorem assert_sound {x : AV} {X T : TypeId} {ok : Bool} {κ : AV → R} (hD : assertA P x T ok κ ∈ D) : ∃ u, κ u ∈ D ∧ ∀ {φ ρ w a}, conc φ ρ x = some a → RunV P φ ρ w (Instr.typeAssert a X T ok) u := by
  obtain ⟨d, hd, h1⟩ := optK_inv hD
  split at h1
  · rename_i t v
    unfold asTo at h1
    split at h1
    · rename_i want
      obtain ⟨i, hi, h2⟩ := optK_inv h1
      rcases brec_cases h2 with ⟨hm, h3⟩ | ⟨hm, h3⟩
      · obtain ⟨rfl, z, hz, h4⟩ := asMiss_inv h3
        refine ⟨_, h4, fun {φ ρ w a} ha => ?_⟩
        simp only [conc, Option.map_eq_some_iff] at ha
        obtain ⟨y, hy, rfl⟩ := ha
        obtain ⟨zv, hzr, hzc⟩ := zero_conc hz (w := w) (φ := φ) (ρ := ρ)
        refine ⟨.tuple #[zv, .bool false], by simp [conc, concL, hzc, SB.ev], ?_⟩
        simp only [Instr.typeAssert, Sem.run_bind, run_underlying hd, Result.andThen_ok, run_typeInfo w hi]
        cases e : Instr.missingMethod want i.methods with
        | none => rw [e] at hm; cases hm
        | some m => simp [Sem.run_bind, hzr]
      · refine ⟨_, h3, fun {φ ρ w a} ha => ?_⟩
        refine ⟨_, asHit_conc ha, ?_⟩
        simp only [conc, Option.map_eq_some_iff] at ha
        obtain ⟨y, hy, rfl⟩ := ha
        simp only [Instr.typeAssert, Sem.run_bind, run_underlying hd, Result.andThen_ok, run_typeInfo w hi]
        cases e : Instr.missingMethod want i.methods with
        | none => rfl
        | some m => rw [e] at hm; cases hm
    · rename_i hni
      rcases brec_cases h1 with ⟨hm, h3⟩ | ⟨hm, h3⟩
      · rw [natBeq, decide_eq_true_eq] at hm
        subst hm
        refine ⟨_, h3, fun {φ ρ w a} ha => ?_⟩
        simp only [conc, Option.map_eq_some_iff] at ha
        obtain ⟨y, hy, rfl⟩ := ha
        refine ⟨_, asHit_conc hy, ?_⟩
        simp only [Instr.typeAssert, Sem.run_bind, run_underlying hd, Result.andThen_ok]
        cases d <;> first | exact absurd rfl (hni _) | (simp; done) | (simp; split <;> rfl)
      · rw [natBeq, decide_eq_false_iff_not] at hm
        obtain ⟨rfl, z, hz, h4⟩ := asMiss_inv h3
        refine ⟨_, h4, fun {φ ρ w a} ha => ?_⟩
        simp only [conc, Option.map_eq_some_iff] at ha
        obtain ⟨y, hy, rfl⟩ := ha
        obtain ⟨zv, hzr, hzc⟩ := zero_conc hz (w := w) (φ := φ) (ρ := ρ)
        refine ⟨.tuple #[zv, .bool false], by simp [conc, concL, hzc, SB.ev], ?_⟩
        simp only [Instr.typeAssert, Sem.run_bind, run_underlying hd, Result.andThen_ok]
        cases d <;> first | exact absurd rfl (hni _) | (simp [hm, hzr]; done)
  · obtain ⟨rfl, z, hz, h4⟩ := asMiss_inv h1
    refine ⟨_, h4, fun {φ ρ w a} ha => ?_⟩
    simp only [conc, Option.some.injEq] at ha
    subst ha
    obtain ⟨zv, hzr, hzc⟩ := zero_conc hz (w := w) (φ := φ) (ρ := ρ)
    refine ⟨.tuple #[zv, .bool false], by simp [conc, concL, hzc, SB.ev], ?_⟩
    simp only [Instr.typeAssert, Sem.run_bind, run_underlying hd, Result.andThen_ok]
    cases d <;> simp [Sem.run_bind, hzr]
  · cases h1

/-- what the model's side owes -/
def RunO (P : Program) (φ : List Pl) (ρ : Nat → Int) (a : Act) (w : World) (op : Op) (v : AV) : Prop := ∃ x, conc φ ρ v = some x ∧ ∀ o : Oper, o.op = op → (execOp a.eval o).run P w = .ok (.value x) w
theorem RunO.of {φ : List Pl} {ρ : Nat → Int} {a : Act} {w : World} {op : Op} {v : AV} {m : Sem Value} (hr : RunV P φ ρ w m v) (he : ∀ o : Oper, o.op = op → execOp a.eval o = (do pure (.value (← m)))) : RunO P φ ρ a w op v := by
  obtain ⟨x, hx, h1⟩ := hr.value
  exact ⟨x, hx, fun o ho => by rw [he o ho]; exact h1⟩

theorem evQ_sound {t : Ts} {pc : PC} {op : Op} {κ : AV → PC → R} (hD : evQ P h t pc op κ ∈ D) : ∃ v pc', κ v pc' ∈ D ∧ PcExt pc pc' ∧ ∀ {φ ρ sz a w}, Holds ρ pc' → GA φ ρ t sz a → Hp P φ ρ h w → RunO P φ ρ a w op v := by
  cases op
  case move x =>
    obtain ⟨v, h1, hv⟩ := opd_inv (show opd t x (fun v => κ v pc) ∈ D from hD)
    exact ⟨v, pc, h1, .refl _, fun {φ ρ sz a w} _ hg _ => ⟨_, hv hg, fun o ho => by simp [execOp, ho]⟩⟩
  case assign x =>
    obtain ⟨v, h1, hv⟩ := opd_inv (show opd t x (fun v => κ v pc) ∈ D from hD)
    exact ⟨v, pc, h1, .refl _, fun {φ ρ sz a w} _ hg _ => ⟨_, hv hg, fun o ho => by simp [execOp, ho]⟩⟩
  case pick c x y =>
    obtain ⟨v, h1, hv⟩ := opd_inv (show opd t c (fun c => opd t x fun a => opd t y fun b => asBoolA c fun c => decK pc c fun c pc => κ (Bool.rec (motive := fun _ => AV) b a c) pc) ∈ D from hD)
    obtain ⟨u1, h1, hu1⟩ := opd_inv h1
    obtain ⟨u2, h1, hu2⟩ := opd_inv h1
    obtain ⟨b, rfl, h2⟩ := asBoolA_inv h1
    obtain ⟨d, pc', h3, hx, hd⟩ := decK_inv h2
    refine ⟨_, pc', h3, hx, fun {φ ρ sz a w} hρ hg _ => ?_⟩
    have hc := hv hg
    simp only [conc, Option.some.injEq, hd ρ hρ] at hc
    cases d with
    | false => exact ⟨_, hu2 hg, fun o ho => by simp [execOp, ho, Sem.run_bind, ← hc, asBool]⟩
    | true => exact ⟨_, hu1 hg, fun o ho => by simp [execOp, ho, Sem.run_bind, ← hc, asBool]⟩
  case load T x =>
    obtain ⟨v, h1, hv⟩ := opd_inv (show opd t x (fun v => loadA P h T v fun v => κ v pc) ∈ D from hD)
    obtain ⟨u, h2, hu⟩ := load_sound h1
    exact ⟨u, pc, h2, .refl _, fun {φ ρ sz a w} _ hg hp => .of (hu hp (hv hg)) fun o ho => by unfold execOp; simp only [ho]⟩
  case nilCheck x =>
    obtain ⟨v, h1, hv⟩ := opd_inv (show opd t x (fun v => nilA (fun v => κ v pc) v) ∈ D from hD)
    obtain ⟨h2, hn⟩ := nilA_sound h1
    refine ⟨v, pc, h2, .refl _, fun {φ ρ sz a w} _ hg _ => ⟨_, hv hg, fun o ho => ?_⟩⟩
    unfold execOp
    simp only [ho]
    rcases hn (hv hg) with ⟨p, e⟩ | ⟨p, n, c, e⟩ | ⟨r, e⟩ | ⟨f, b, c, e⟩ | ⟨T, y, e⟩ <;> rw [e] <;> rfl
  case binOp op T x y yT =>
    obtain ⟨v, h1, hv⟩ := opd_inv (show opd t x (fun x => opd t y fun y' => bopQ P op T h (isNilC y) x y' pc κ) ∈ D from hD)
    obtain ⟨v', h2, hv'⟩ := opd_inv h1
    unfold bopQ at h2
    rcases brec_cases h2 with ⟨ha, h2⟩ | ⟨_, h2⟩
    · simp only [Bool.and_eq_true] at ha
      obtain ⟨u, pc', h3, hx, hu⟩ := eqP_sound ha.1 h2
      exact ⟨u, pc', h3, hx, fun {φ ρ sz a w} hρ hg hp => .of (hu (o1 := x) (o2 := y) hρ (hv hg) (hv' hg)) fun o ho => by unfold execOp; simp only [ho]⟩
    obtain ⟨y1, h2, hl⟩ : ∃ u, binM P op T h (isNilC y) v pc κ u ∈ D ∧ ∀ {φ ρ a}, RgOk ρ pc.rg → conc φ ρ v' = some a → conc φ ρ u = some a := by
      rcases brec_cases h2 with ⟨_, h2⟩ | ⟨_, h2⟩
      · exact litR_inv h2
      · exact ⟨v', h2, fun _ ha => ha⟩
    rcases brec_cases h2 with ⟨hn, h2⟩ | ⟨_, h2⟩
    · obtain ⟨u, h3, hu⟩ := eqNil_sound h2
      obtain ⟨u', h4, hf⟩ := fitV_inv h3
      obtain rfl := isNilC_eq hn
      exact ⟨u', pc, h4, .refl _, fun {φ ρ sz a w} hρ hg hp => .of ((hu (o1 := x) (hv hg)).fit fun h => hf hρ.rg h) fun o ho => by unfold execOp; simp only [ho]; rfl⟩
    obtain ⟨u, h3, hu⟩ := bin_sound h2
    obtain ⟨u', h4, hf⟩ := fitV_inv h3
    exact ⟨u', pc, h4, .refl _, fun {φ ρ sz a w} hρ hg hp => .of ((hu (o1 := x) (o2 := y) hp (hv hg) (hl hρ.rg (hv' hg))).fit fun h => hf hρ.rg h) fun o ho => by unfold execOp; simp only [ho]⟩
  case unOp op T x =>
    obtain ⟨v, h1, hv⟩ := opd_inv (show opd t x (fun x => unA op x fun v => κ v pc) ∈ D from hD)
    obtain ⟨u, h3, hu⟩ := un_sound (P := P) h1
    exact ⟨u, pc, h3, .refl _, fun {φ ρ sz a w} _ hg hp => .of (hu (hv hg)) fun o ho => by unfold execOp; simp only [ho]⟩
  case convert src dst x =>
    obtain ⟨v, h1, hv⟩ := opd_inv (show opd t x (fun x => convQ P src dst h x fun v => fitV pc.rg v fun v => κ v pc) ∈ D from hD)
    obtain ⟨u, h3, hu⟩ := convQ_sound h1
    obtain ⟨u', h4, hf⟩ := fitV_inv h3
    exact ⟨u', pc, h4, .refl _, fun {φ ρ sz a w} hρ hg hp => .of ((hu hp (hv hg)).fit fun h => hf hρ.rg h) fun o ho => by unfold execOp; simp only [ho]⟩
  case fieldAddr T x f =>
    obtain ⟨v, h1, hv⟩ := opd_inv (show opd t x (fun x => fldAddr P T f x fun v => κ v pc) ∈ D from hD)
    obtain ⟨u, h3, hu⟩ := fldAddr_sound h1
    exact ⟨u, pc, h3, .refl _, fun {φ ρ sz a w} _ hg hp => .of (hu (hv hg)) fun o ho => by unfold execOp; simp only [ho]⟩
  case field T x f =>
    obtain ⟨v, h1, hv⟩ := opd_inv (show opd t x (fun x => fldA P T f x fun v => κ v pc) ∈ D from hD)
    obtain ⟨u, h3, hu⟩ := fld_sound h1
    exact ⟨u, pc, h3, .refl _, fun {φ ρ sz a w} _ hg hp => .of (hu (hv hg)) fun o ho => by unfold execOp; simp only [ho]⟩
  case indexAddr T x i =>
    obtain ⟨v, h1, hv⟩ := opd_inv (show opd t x (fun x => opd t i fun i => litR pc.rg i fun i => ixX P T pc x i κ) ∈ D from hD)
    obtain ⟨v', h2, hv'⟩ := opd_inv h1
    obtain ⟨v2, h2, hl⟩ := litR_inv h2
    obtain ⟨u, pc', h3, x1, hu⟩ := ixX_sound h2
    exact ⟨u, pc', h3, x1, fun {φ ρ sz a w} hρ hg hp => .of (hu hρ (hv hg) (hl (by rw [← x1.rg]; exact hρ.rg) (hv' hg))) fun o ho => by unfold execOp; simp only [ho]⟩
  case index T x i =>
    obtain ⟨v, h1, hv⟩ := opd_inv (show opd t x (fun x => opd t i fun i => litR pc.rg i fun i => ixA P T x i fun v => κ v pc) ∈ D from hD)
    obtain ⟨v', h2, hv'⟩ := opd_inv h1
    obtain ⟨v2, h2, hl⟩ := litR_inv h2
    obtain ⟨u, h3, hu⟩ := ix_sound h2
    exact ⟨u, pc, h3, .refl _, fun {φ ρ sz a w} hρ hg hp => .of (hu (hv hg) (hl hρ.rg (hv' hg))) fun o ho => by unfold execOp; simp only [ho]⟩
  case slice T x lo hi mx =>
    obtain ⟨v, h1, hv⟩ := opd_inv (show opd t x (fun x => opds t lo.toList fun lo' => opds t hi.toList fun hi' => opds t mx.toList fun mx' => sliceX P T h pc x lo'.head? hi'.head? mx'.head? κ) ∈ D from hD)
    obtain ⟨v1, h2, l1, hv1⟩ := opds_inv h1
    obtain ⟨v2, h3, l2, hv2⟩ := opds_inv h2
    obtain ⟨v3, h4, l3, hv3⟩ := opds_inv h3
    obtain ⟨u, pc', h5, x1, hu⟩ := sliceX_sound h4
    exact ⟨u, pc', h5, x1, fun {φ ρ sz a w} hρ hg hp => .of (hu hρ hp (hv hg) (.of_opds l1 (hv1 hg)) (.of_opds l2 (hv2 hg)) (.of_opds l3 (hv3 hg))) fun o ho => by unfold execOp; simp only [ho]⟩
  case lookup T x i ok =>
    obtain ⟨v, h1, hv⟩ := opd_inv (show opd t x (fun x => opd t i fun i => lookA P T h x i ok pc κ) ∈ D from hD)
    obtain ⟨v', h2, hv'⟩ := opd_inv h1
    obtain ⟨u, pc', h3, x1, hu⟩ := look_sound h2
    exact ⟨u, pc', h3, x1, fun {φ ρ sz a w} hρ hg hp => .of (hu hρ hp (hv hg) (hv' hg)) fun o ho => by unfold execOp; simp only [ho]⟩
  case entry x =>
    obtain ⟨v, h1, hv⟩ := opd_inv (show opd t x (fun x => entA h x fun v => κ v pc) ∈ D from hD)
    obtain ⟨u, h2, hu⟩ := ent_sound (P := P) h1
    exact ⟨u, pc, h2, .refl _, fun {φ ρ sz a w} _ hg hp => .of (hu hp (hv hg)) fun o ho => by unfold execOp; simp only [ho]⟩
  case makeInterface T x =>
    obtain ⟨v, h1, hv⟩ := opd_inv (show opd t x (fun x => ifaceA P T x fun v => κ v pc) ∈ D from hD)
    obtain ⟨u, h2, hu⟩ := iface_sound h1
    exact ⟨u, pc, h2, .refl _, fun {φ ρ sz a w} _ hg hp => .of (hu (hv hg)) fun o ho => by unfold execOp; simp only [ho]⟩
  case typeAssert x X T ok =>
    obtain ⟨v, h1, hv⟩ := opd_inv (show opd t x (fun x => assertA P x T ok fun v => κ v pc) ∈ D from hD)
    obtain ⟨u, h2, hu⟩ := assert_sound (X := X) h1
    exact ⟨u, pc, h2, .refl _, fun {φ ρ sz a w} _ hg hp => .of (hu (hv hg)) fun o ho => by unfold execOp; simp only [ho]⟩
  case extract x n =>
    obtain ⟨v, h1, hv⟩ := opd_inv (show opd t x (fun x => extA x n fun v => κ v pc) ∈ D from hD)
    obtain ⟨u, h3, hu⟩ := ext_sound (P := P) h1
    exact ⟨u, pc, h3, .refl _, fun {φ ρ sz a w} _ hg hp => .of (hu (hv hg)) fun o ho => by unfold execOp; simp only [ho]⟩
  case makeFunc fn first captured =>
    obtain ⟨v1, h1, l1, hv1⟩ := opds_inv (show opds t first.toList (fun a => opds t captured.toList fun b => κ (.fn fn a b) pc) ∈ D from hD)
    obtain ⟨v2, h2, l2, hv2⟩ := opds_inv h1
    refine ⟨_, pc, h2, .refl _, fun {φ ρ sz a w} _ hg hp => .of (m := Instr.makeFunc fn (first.map a.eval) (captured.map a.eval)) ⟨.func fn (first.map a.eval) (captured.map a.eval), ?_, rfl⟩ fun o ho => by unfold execOp; simp only [ho]⟩
    simp [conc, hv1 hg, hv2 hg, ← Array.toList_map]
  case build T parts =>
    obtain ⟨u, h3, hu⟩ := build_sound (show buildA P T t parts (fun v => κ v pc) ∈ D from hD)
    exact ⟨u, pc, h3, .refl _, fun {φ ρ sz a w} _ hg hp => .of (hu hg) fun o ho => by unfold execOp; simp only [ho]⟩
  case call c =>
    have hD : qCall P h t pc κ c ∈ D := hD
    unfold qCall at hD
    split at hD
    · rename_i b hb
      obtain ⟨vs, h1, _, hvs⟩ := opds_inv hD
      obtain ⟨u, pc', h2, hx, hu⟩ := bltQ_sound h1
      refine ⟨u, pc', h2, hx, fun {φ ρ sz a w} hρ hg hp => ?_⟩
      have key : ∀ (T : TypeId) (cs : Array Bool), ∃ x, conc φ ρ u = some x ∧ (builtin b c.argTypes T cs (c.args.map a.eval)).run P w = .ok (.value x) w := fun T cs => by
        obtain ⟨x, hx1, hx2⟩ := hu (w := w) (T := T) (cs := cs) hρ hp (hvs hg)
        exact ⟨x, hx1, by rw [← hx2]; congr 1; congr 1; apply Array.toList_inj.1; simp⟩
      obtain ⟨x, hx1, _⟩ := key 0 #[]
      refine ⟨x, hx1, fun o ho => ?_⟩
      unfold execOp
      simp only [ho, Sem.run_bind, resolve, hb, Sem.run_pure, Result.andThen_ok, invoke]
      obtain ⟨y, hy1, hy2⟩ := key o.type (c.args.map fun | .const _ => true | _ => false)
      rw [hx1] at hy1
      cases hy1
      exact hy2
    · cases hD
  all_goals cases hD
end

end Go.Proofs.YticednpolhnneaaGreat
