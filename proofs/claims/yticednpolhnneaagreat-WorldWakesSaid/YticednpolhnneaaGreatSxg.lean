/-
  A run reckoned ahead: quiet operations do what was reckoned (4): slices, maps, parts built, least and greatest; all together.
-/
import Derived.Test.YticednpolhnneaaGreatSrp
import Derived.Test.YticednpolhnneaaGreatSxf
set_option linter.unusedVariables false
set_option linter.unusedSimpArgs false
namespace Go.Proofs.YticednpolhnneaaGreat
open Go

section
variable {P : Program} {D : Dn} {h : Tr AObj}

/-! slices -/
theorem sliceBound_run {w : World} {k : IntKind} {n y : Nat} {c : BoundsCode} (h : n ≤ y) : (Instr.sliceBound (.int k n) y c).run P w = .ok n w := by
  have : (n : Int) ≤ (y : Int) := by omega
  simp [Instr.sliceBound, Sem.run_bind, asIntOf, this]
theorem sliceBounds_run {w : World} {isS : Bool} {len cap l hi : Nat} {lo h' : Option Value} (h1 : (lo = none ∧ l = 0) ∨ ∃ k, lo = some (.int k l)) (h2 : (h' = none ∧ hi = len) ∨ ∃ k, h' = some (.int k hi)) (hl : l ≤ hi) (hh : hi ≤ cap) :
    (Instr.sliceBounds isS len cap lo h' none).run P w = .ok (l, hi, cap) w := by
  unfold Instr.sliceBounds
  rcases h1 with ⟨rfl, rfl⟩ | ⟨k, rfl⟩ <;> rcases h2 with ⟨rfl, rfl⟩ | ⟨k', rfl⟩ <;> simp [Sem.run_bind, sliceBound_run, hl, hh]
theorem sliceBounds_run3 {w : World} {len cap l hi m : Nat} {k k' : IntKind} {lo : Option Value} (h1 : (lo = none ∧ l = 0) ∨ ∃ k, lo = some (.int k l)) (hl : l ≤ hi) (hh : hi ≤ m) (hm : m ≤ cap) :
    (Instr.sliceBounds true len cap lo (some (.int k hi)) (some (.int k' m))).run P w = .ok (l, hi, m) w := by
  unfold Instr.sliceBounds
  rcases h1 with ⟨rfl, rfl⟩ | ⟨k, rfl⟩ <;> simp [Sem.run_bind, sliceBound_run, hl, hh, hm]
theorem optNat_inv {v : Option AV} {d : Nat} {κ : Nat → R} (hD : optNat v d κ ∈ D) : ∃ n, κ n ∈ D ∧ ((v = none ∧ n = d) ∨ ∃ k, v = some (.int k (.lit (Int.ofNat n)))) := by
  unfold optNat at hD
  split at hD
  · obtain ⟨k, n, rfl, h1⟩ := asNat_inv hD
    exact ⟨n, h1, .inr ⟨k, rfl⟩⟩
  · exact ⟨_, hD, .inl ⟨rfl, rfl⟩⟩
/-- a value that may be there -/
inductive OptOk (φ : List Pl) (ρ : Nat → Int) : Option AV → Option Value → Prop
  | no : OptOk φ ρ none none
  | yes {v : AV} {x : Value} (h : conc φ ρ v = some x) : OptOk φ ρ (some v) (some x)
theorem OptOk.bound {φ : List Pl} {ρ : Nat → Int} {v : Option AV} {x : Option Value} {n d : Nat} (ho : OptOk φ ρ v x) (hn : (v = none ∧ n = d) ∨ ∃ k, v = some (.int k (.lit (Int.ofNat n)))) : (x = none ∧ n = d) ∨ ∃ k, x = some (.int k n) := by
  cases ho with
  | no =>
    rcases hn with ⟨_, rfl⟩ | ⟨k, h⟩
    · exact .inl ⟨rfl, rfl⟩
    · cases h
  | yes h =>
    rcases hn with ⟨h', _⟩ | ⟨k, h'⟩
    · cases h'
    · cases h'
      simp only [conc, SI.ev, Option.some.injEq] at h
      exact .inr ⟨k, by rw [← h]; rfl⟩

theorem room_sub {p : Pl} {off l : Nat} : p.room (off + l * p.es) = p.room off - l := by
  unfold Pl.room
  rw [show p.sz - (p.sh + (off + l * p.es)) = (p.sz - (p.sh + off)) - p.es * l by rw [Nat.mul_comm]; omega]
  rcases Nat.lt_or_ge (p.sz - (p.sh + off)) (p.es * l) with h | h
  · have h1 : (p.sz - (p.sh + off)) / p.es ≤ l := Nat.div_le_of_le_mul (by omega)
    rw [show p.sz - (p.sh + off) - p.es * l = 0 by omega, Nat.zero_div]; omega
  · exact Nat.sub_mul_div _ _ _ 
theorem roomK_inv {e s id off : Nat} {cap : Option Nat} {κ : Nat → Bool → R} (hs : sizeA P e = some s) (hD : roomK h e s id off cap κ ∈ D) :
    ∃ c known, κ c known ∈ D ∧ ((known = true ∧ cap = some c) ∨ (known = false ∧ cap = none ∧ ∀ {φ ρ w p}, Hp P φ ρ h w → φ[id]? = some p → p.es = s ∧ c ≤ p.room off)) := by
  unfold roomK at hD
  split at hD
  · exact ⟨_, _, hD, .inl ⟨rfl, rfl⟩⟩
  · obtain ⟨n, c, d, T, r, hg, h1⟩ := objK_inv hD
    obtain ⟨hb, h2⟩ := brec_inv h1
    simp only [Bool.and_eq_true, natBeq, decide_eq_true_eq] at hb
    obtain ⟨rfl, rfl⟩ := hb
    refine ⟨_, _, h2, .inr ⟨rfl, rfl, fun {φ ρ w p} hp hpl => ?_⟩⟩
    obtain ⟨p', arr, fz, hp', hc⟩ := hp.obj _ _ hg
    rw [hpl] at hp'
    cases hp'
    obtain ⟨he, he0⟩ := hc.es rfl
    rw [hs] at he
    cases he
    refine ⟨rfl, ?_⟩
    unfold Pl.room
    exact Nat.div_le_div_right (by have := hc.le; show n - off ≤ _; omega)

/-- the slice that comes out -/
theorem sliceK_sound {id off s l hi c : Nat} {known : Bool} {κ : AV → R} (hD : sliceK κ id off s l hi c known ∈ D) :
    l ≤ hi ∧ hi ≤ c ∧ ∃ u, κ u ∈ D ∧ ∀ {φ : List Pl} {ρ p cap}, φ[id]? = some p → ((known = true ∧ cap = c) ∨ (known = false ∧ p.es = s ∧ c ≤ p.room off ∧ cap = p.room off)) →
      conc φ ρ u = some (.slice (some (if cap = l then ⟨p.blk, p.sh + off, none⟩ else (⟨p.blk, p.sh + off, none⟩ : Addr).add (l * s))) (hi - l) (cap - l)) := by
  obtain ⟨hb, h1⟩ := brec_inv hD
  simp only [Bool.and_eq_true, natBle, decide_eq_true_eq] at hb
  refine ⟨hb.1, hb.2, ?_⟩
  rcases brec_cases h1 with ⟨rfl, h2⟩ | ⟨rfl, h2⟩
  · unfold slK at h2
    simp only [forceN_eq] at h2
    refine ⟨_, h2, fun {φ ρ p cap} hp hc => ?_⟩
    rcases hc with ⟨_, rfl⟩ | ⟨h, _⟩
    · simp only [conc, hp, Option.map_some, Option.getD_some, Option.some.injEq, Value.slice.injEq]
      refine ⟨?_, rfl, rfl⟩
      unfold atF
      rw [natBeq]
      by_cases e : cap = l
      · simp [e]
      · simp [e, add_plain, Nat.add_assoc]
    · cases h
  · rcases brec_cases h2 with ⟨e, h3⟩ | ⟨e, h3⟩
    · rw [natBeq] at e
      have e := of_decide_eq_true e
      subst e
      simp only [forceN_eq] at h3
      refine ⟨_, h3, fun {φ ρ p cap} hp hc => ?_⟩
      rcases hc with ⟨h, _⟩ | ⟨_, rfl, hle, rfl⟩
      · cases h
      · have h0 : hi - l = 0 := by omega
        simp only [conc, hp, Option.map_some]
        rw [show off.add (l.mul p.es) = off + l * p.es from rfl, room_sub, h0]
        by_cases e2 : p.room off = l
        · simp [e2]
        · rw [if_neg (by omega), if_neg e2, add_plain, Nat.add_assoc]
    · rw [natBeq] at e
      have e := of_decide_eq_false e
      unfold slK at h3
      simp only [forceN_eq] at h3
      refine ⟨_, h3, fun {φ ρ p cap} hp hc => ?_⟩
      rcases hc with ⟨h, _⟩ | ⟨_, rfl, hle, rfl⟩
      · cases h
      · simp only [conc, hp, Option.map_some, Option.getD_none]
        rw [show off.add (l.mul p.es) = off + l * p.es from rfl, room_sub, if_neg (by omega), add_plain, Nat.add_assoc]
        rfl

theorem slice_sound {T : TypeId} {x : AV} {lo hi mx : Option AV} {κ : AV → R} (hD : sliceA P T h x lo hi mx κ ∈ D) :
    ∃ u, κ u ∈ D ∧ ∀ {φ ρ w a lo' hi' mx'}, Hp P φ ρ h w → conc φ ρ x = some a → OptOk φ ρ lo lo' → OptOk φ ρ hi hi' → OptOk φ ρ mx mx' → RunV P φ ρ w (Instr.sliceAt T a lo' hi' mx') u := by
  obtain ⟨d, hd, h1⟩ := optK_inv hD
  split at h1
  · rename_i mv
    split at h1
    · rename_i e s
      split at h1
      · rename_i id off len cap
        obtain ⟨hu, hs⟩ := ixOf_sli hd
        obtain ⟨l, h2, hl⟩ := optNat_inv h1
        obtain ⟨hv, rfl, h3⟩ := optK_inv h2
        obtain ⟨kh, hi0, rfl, h4⟩ := asNat_inv h3
        obtain ⟨km, m, rfl, h5⟩ := asNat_inv h4
        obtain ⟨c, known, h6, hc⟩ := roomK_inv hs h5
        obtain ⟨hb, h7⟩ := brec_inv h6
        rw [natBle, decide_eq_true_eq] at hb
        obtain ⟨q1, q2, u, h8, hu8⟩ := sliceK_sound h7
        refine ⟨u, h8, fun {φ ρ w a lo' hi' mx'} hp ha ho1 ho2 ho3 => ?_⟩
        obtain ⟨p, hpl, rfl⟩ := conc_sl ha
        cases ho2 with
        | yes e2 =>
        cases ho3 with
        | yes e3 =>
        simp only [conc, SI.ev, Option.some.injEq] at e2 e3
        subst e2; subst e3
        have hm : m ≤ cap.getD (p.room off) := by
          rcases hc with ⟨rfl, rfl⟩ | ⟨rfl, rfl, hroom⟩
          · exact hb
          · exact Nat.le_trans hb (hroom hp hpl).2
        refine ⟨_, hu8 hpl (.inl ⟨rfl, rfl⟩), ?_⟩
        have hbs := sliceBounds_run3 (P := P) (w := w) (len := len) (k := kh) (k' := km) (ho1.bound hl) q1 q2 hm
        simp only [Instr.sliceAt, Sem.run_bind, run_underlying hu, Result.andThen_ok, Instr.slice, Int.ofNat_eq_natCast, hbs, run_size hs, Sem.run_pure]
        by_cases em : m = l <;> simp [em]
      · rename_i id off0 off
        obtain ⟨hu, hs⟩ := ixOf_sli hd
        obtain ⟨l, h2, hl⟩ := optNat_inv h1
        obtain ⟨hv, rfl, h3⟩ := optK_inv h2
        obtain ⟨kh, hi0, rfl, h4⟩ := asNat_inv h3
        obtain ⟨km, m, rfl, h5⟩ := asNat_inv h4
        obtain ⟨hb, h6⟩ := brec_inv h5
        simp only [Bool.and_eq_true, natBeq, decide_eq_true_eq] at hb
        obtain ⟨rfl, rfl, rfl⟩ := hb
        refine ⟨_, h6, fun {φ ρ w a lo' hi' mx'} hp ha ho1 ho2 ho3 => ?_⟩
        cases ho2 with
        | yes e2 =>
        cases ho3 with
        | yes e3 =>
        simp only [conc, SI.ev, Option.some.injEq] at e2 e3
        subst e2; subst e3
        simp only [conc, Option.map_eq_some_iff] at ha
        obtain ⟨p, hpl, rfl⟩ := ha
        refine ⟨_, by simp only [conc, hpl, Option.map_some]; rfl, ?_⟩
        by_cases hr : p.room off = 0
        · simp only [hr, if_true]
          have hbs := sliceBounds_run3 (P := P) (w := w) (len := 0) (cap := 0) (k := kh) (k' := km) (ho1.bound hl) (Nat.le_refl 0) (Nat.le_refl 0) (Nat.zero_le _)
          simp only [Instr.sliceAt, Sem.run_bind, run_underlying hu, Result.andThen_ok, Instr.slice, Int.ofNat_eq_natCast, hbs, run_size hs, Sem.run_pure]
          simp
        · simp only [if_neg hr]
          have hbs := sliceBounds_run3 (P := P) (w := w) (len := 0) (cap := p.room off) (k := kh) (k' := km) (ho1.bound hl) (Nat.le_refl 0) (Nat.le_refl 0) (Nat.zero_le _)
          simp only [Instr.sliceAt, Sem.run_bind, run_underlying hu, Result.andThen_ok, Instr.slice, Int.ofNat_eq_natCast, hbs, run_size hs, Sem.run_pure]
          simp
      · rename_i id off0 off
        obtain ⟨hu, hs⟩ := ixOf_sli hd
        obtain ⟨l, h2, hl⟩ := optNat_inv h1
        obtain ⟨hv, rfl, h3⟩ := optK_inv h2
        obtain ⟨kh, hi0, rfl, h4⟩ := asNat_inv h3
        obtain ⟨km, m, rfl, h5⟩ := asNat_inv h4
        obtain ⟨hb, h6⟩ := brec_inv h5
        simp only [Bool.and_eq_true, natBeq, decide_eq_true_eq] at hb
        obtain ⟨rfl, rfl, rfl⟩ := hb
        refine ⟨_, h6, fun {φ ρ w a lo' hi' mx'} hp ha ho1 ho2 ho3 => ?_⟩
        cases ho2 with
        | yes e2 =>
        cases ho3 with
        | yes e3 =>
        simp only [conc, SI.ev, Option.some.injEq] at e2 e3
        subst e2; subst e3
        simp only [conc, Option.map_eq_some_iff] at ha
        obtain ⟨p, hpl, rfl⟩ := ha
        refine ⟨_, by simp only [conc, hpl, Option.map_some]; rfl, ?_⟩
        have hbs := sliceBounds_run3 (P := P) (w := w) (len := 0) (cap := 0) (k := kh) (k' := km) (ho1.bound hl) (Nat.le_refl 0) (Nat.le_refl 0) (Nat.zero_le _)
        simp only [Instr.sliceAt, Sem.run_bind, run_underlying hu, Result.andThen_ok, Instr.slice, Int.ofNat_eq_natCast, hbs, run_size hs, Sem.run_pure]
        simp
      · cases h1
    · cases h1
  · split at h1
    · rename_i n e s
      split at h1
      · rename_i id off
        obtain ⟨hu, hs⟩ := ixOf_arr hd
        obtain ⟨l, h2, hl⟩ := optNat_inv h1
        obtain ⟨hi0, h3, hh⟩ := optNat_inv h2
        obtain ⟨c, known, h4, hc⟩ := roomK_inv hs h3
        obtain ⟨q1, q2, u, h5, hu5⟩ := sliceK_sound h4
        refine ⟨u, h5, fun {φ ρ w a lo' hi' mx'} hp ha ho1 ho2 ho3 => ?_⟩
        obtain ⟨p, hpl, rfl⟩ := conc_ptr ha
        cases ho3
        rcases hc with ⟨rfl, e⟩ | ⟨_, e, _⟩ <;> cases e
        refine ⟨_, hu5 hpl (.inl ⟨rfl, rfl⟩), ?_⟩
        simp only [Instr.sliceAt, Sem.run_bind, run_underlying hu, Result.andThen_ok, Instr.sureAddr, Sem.run_pure, sliceBounds_run (ho1.bound hl) (ho2.bound hh) q1 q2, run_size hs]
      · cases h1
    · rename_i e s
      split at h1
      · rename_i id off len cap
        obtain ⟨hu, hs⟩ := ixOf_sli hd
        obtain ⟨l, h2, hl⟩ := optNat_inv h1
        obtain ⟨hi0, h3, hh⟩ := optNat_inv h2
        obtain ⟨c, known, h4, hc⟩ := roomK_inv hs h3
        obtain ⟨q1, q2, u, h5, hu5⟩ := sliceK_sound h4
        refine ⟨u, h5, fun {φ ρ w a lo' hi' mx'} hp ha ho1 ho2 ho3 => ?_⟩
        obtain ⟨p, hpl, rfl⟩ := conc_sl ha
        cases ho3
        have fin : ∀ m, hi0 ≤ m → conc φ ρ u = some (.slice (some (if m = l then ⟨p.blk, p.sh + off, none⟩ else (⟨p.blk, p.sh + off, none⟩ : Addr).add (l * s))) (hi0 - l) (m - l)) →
            RunV P φ ρ w (Instr.sliceAt T (.slice (some ⟨p.blk, p.sh + off, none⟩) len m) lo' hi' none) u := fun m hm hcu => by
          refine ⟨_, hcu, ?_⟩
          simp only [Instr.sliceAt, Sem.run_bind, run_underlying hu, Result.andThen_ok, Instr.slice, sliceBounds_run (ho1.bound hl) (ho2.bound hh) q1 hm, run_size hs, Sem.run_pure]
          by_cases em : m = l <;> simp [em]
        rcases hc with ⟨rfl, rfl⟩ | ⟨rfl, rfl, hroom⟩
        · exact fin c q2 (hu5 hpl (.inl ⟨rfl, rfl⟩))
        · obtain ⟨r1, r2⟩ := hroom hp hpl
          exact fin (p.room off) (Nat.le_trans q2 r2) (hu5 hpl (.inr ⟨rfl, r1, r2, rfl⟩))
      · obtain ⟨hu, hs⟩ := ixOf_sli hd
        obtain ⟨l, h2, hl⟩ := optNat_inv h1
        obtain ⟨hi0, h3, hh⟩ := optNat_inv h2
        obtain ⟨hb, h4⟩ := brec_inv h3
        simp only [Bool.and_eq_true, natBeq, decide_eq_true_eq] at hb
        obtain ⟨e1, e2⟩ := hb
        have e1 : l = 0 := e1
        have e2 : hi0 = 0 := e2
        subst e1; subst e2
        refine ⟨_, h4, fun {φ ρ w a lo' hi' mx'} hp ha ho1 ho2 ho3 => ?_⟩
        simp only [conc, Option.some.injEq] at ha
        subst ha
        cases ho3
        rename_i p0
        cases p0 <;> refine ⟨_, rfl, ?_⟩ <;>
          simp only [Instr.sliceAt, Sem.run_bind, run_underlying hu, Result.andThen_ok, Instr.slice, sliceBounds_run (ho1.bound hl) (ho2.bound hh) (Nat.le_refl 0) (Nat.le_refl 0), run_size hs, Sem.run_pure] <;>
          simp
      · obtain ⟨hu, hs⟩ := ixOf_sli hd
        obtain ⟨l, h2, hl⟩ := optNat_inv h1
        obtain ⟨hi0, h3, hh⟩ := optNat_inv h2
        obtain ⟨hb, h4⟩ := brec_inv h3
        simp only [Bool.and_eq_true, natBeq, decide_eq_true_eq] at hb
        obtain ⟨e1, e2⟩ := hb
        have e1 : l = 0 := e1
        have e2 : hi0 = 0 := e2
        subst e1; subst e2
        refine ⟨_, h4, fun {φ ρ w a lo' hi' mx'} hp ha ho1 ho2 ho3 => ?_⟩
        cases ho3
        refine ⟨a, ha, ?_⟩
        simp only [conc, Option.map_eq_some_iff] at ha
        obtain ⟨p, hpl, rfl⟩ := ha
        split
        · simp only [Instr.sliceAt, Sem.run_bind, run_underlying hu, Result.andThen_ok, Instr.slice, sliceBounds_run (ho1.bound hl) (ho2.bound hh) (Nat.le_refl 0) (Nat.zero_le _), run_size hs, Sem.run_pure]
          simp
        · rename_i hne
          simp only [Instr.sliceAt, Sem.run_bind, run_underlying hu, Result.andThen_ok, Instr.slice, sliceBounds_run (ho1.bound hl) (ho2.bound hh) (Nat.le_refl 0) (Nat.zero_le _), run_size hs, Sem.run_pure]
          simp [hne, add_plain]
      · obtain ⟨hu, hs⟩ := ixOf_sli hd
        obtain ⟨l, h2, hl⟩ := optNat_inv h1
        obtain ⟨hi0, h3, hh⟩ := optNat_inv h2
        obtain ⟨hb, h4⟩ := brec_inv h3
        simp only [Bool.and_eq_true, natBeq, decide_eq_true_eq] at hb
        obtain ⟨e1, e2⟩ := hb
        have e1 : l = 0 := e1
        have e2 : hi0 = 0 := e2
        subst e1; subst e2
        refine ⟨_, h4, fun {φ ρ w a lo' hi' mx'} hp ha ho1 ho2 ho3 => ?_⟩
        cases ho3
        refine ⟨a, ha, ?_⟩
        simp only [conc, Option.map_eq_some_iff] at ha
        obtain ⟨p, hpl, rfl⟩ := ha
        simp only [Instr.sliceAt, Sem.run_bind, run_underlying hu, Result.andThen_ok, Instr.slice, sliceBounds_run (ho1.bound hl) (ho2.bound hh) (Nat.le_refl 0) (Nat.zero_le _), run_size hs, Sem.run_pure]
        simp
      · cases h1

/-! how long -/
theorem len_sound {T : TypeId} {x : AV} {Ts : Array TypeId} {κ : AV → R} (hT : Ts[0]? = some T) (hD : lenA P T x κ ∈ D) : ∃ u, κ u ∈ D ∧ ∀ {φ ρ w a} {R' : TypeId}, conc φ ρ x = some a → RunV P φ ρ w (Builtin.len_ Ts R' #[a]) u := by
  unfold lenA at hD
  split at hD
  · rename_i e hu
    split at hD
    · rename_i id off len cap
      refine ⟨_, hD, fun {φ ρ w a R'} ha => ?_⟩
      obtain ⟨p, _, rfl⟩ := conc_sl ha
      exact ⟨_, rfl, by simp [Builtin.len_, hT, Sem.run_bind, run_underlying hu, goInt, SI.ev]⟩
    · rename_i id a b
      refine ⟨_, hD, fun {φ ρ w a R'} ha => ?_⟩
      simp only [conc, Option.map_eq_some_iff] at ha
      obtain ⟨p, _, rfl⟩ := ha
      split
      · exact ⟨_, rfl, by simp [Builtin.len_, hT, Sem.run_bind, run_underlying hu, goInt, SI.ev]⟩
      · exact ⟨_, rfl, by simp [Builtin.len_, hT, Sem.run_bind, run_underlying hu, goInt, SI.ev]⟩
    · rename_i id a b
      refine ⟨_, hD, fun {φ ρ w a R'} ha => ?_⟩
      simp only [conc, Option.map_eq_some_iff] at ha
      obtain ⟨p, _, rfl⟩ := ha
      exact ⟨_, rfl, by simp [Builtin.len_, hT, Sem.run_bind, run_underlying hu, goInt, SI.ev]⟩
    · rename_i q n c
      refine ⟨_, hD, fun {φ ρ w a R'} ha => ?_⟩
      simp only [conc, Option.some.injEq] at ha
      subst ha
      exact ⟨_, rfl, by simp [Builtin.len_, hT, Sem.run_bind, run_underlying hu, goInt, SI.ev]⟩
    · cases hD
  · rename_i hu
    split at hD
    · refine ⟨_, hD, fun {φ ρ w a R'} ha => ?_⟩
      simp only [conc, Option.some.injEq] at ha
      subst ha
      exact ⟨_, rfl, by simp [Builtin.len_, hT, Sem.run_bind, run_underlying hu, goInt, SI.ev]⟩
    · cases hD
  · rename_i n e hu
    refine ⟨_, hD, fun {φ ρ w a R'} ha => ?_⟩
    exact ⟨_, rfl, by simp [Builtin.len_, hT, Sem.run_bind, run_underlying hu, goInt, SI.ev]⟩
  · cases hD

/-! least and greatest -/
theorem mm_sound {less : Bool} {x y : AV} {pc : PC} {κ : AV → PC → R} (hD : mmA less x y pc κ ∈ D) : ∃ u pc', κ u pc' ∈ D ∧ PcExt pc pc' ∧ ∀ {φ ρ w a b}, Holds ρ pc' → conc φ ρ x = some a → conc φ ρ y = some b →
    RunV P φ ρ w (if less then Builtin.min2 a b else Builtin.max2 a b) u := by
  obtain ⟨k, e, rfl, h1⟩ := asInt_inv hD
  obtain ⟨k', e', rfl, h2⟩ := asInt_inv h1
  rcases brec_cases h2 with ⟨rfl, h3⟩ | ⟨rfl, h3⟩
  · obtain ⟨r, hr, hev⟩ := cmpK_spec .lss e' e (fun c => decK pc c fun c pc => κ (Bool.rec (motive := fun _ => AV) (.int k e) (.int k e') c) pc)
    rw [hr] at h3
    obtain ⟨b, pc', h4, hx, hb⟩ := decK_inv h3
    refine ⟨_, _, h4, hx, fun {φ ρ w a b'} hρ ha hb' => ?_⟩
    simp only [conc, Option.some.injEq] at ha hb'
    subst ha; subst hb'
    have := hb ρ hρ
    rw [hev] at this
    cases b with
    | true =>
      simp only [cmpZ, decide_eq_true_eq, gt_iff_lt] at this
      exact ⟨_, rfl, by simp [Builtin.min2, this]⟩
    | false =>
      simp only [cmpZ, decide_eq_false_iff_not, gt_iff_lt] at this
      exact ⟨_, rfl, by simp [Builtin.min2, this]⟩
  · obtain ⟨r, hr, hev⟩ := cmpK_spec .gtr e' e (fun c => decK pc c fun c pc => κ (Bool.rec (motive := fun _ => AV) (.int k e) (.int k e') c) pc)
    rw [hr] at h3
    obtain ⟨b, pc', h4, hx, hb⟩ := decK_inv h3
    refine ⟨_, _, h4, hx, fun {φ ρ w a b'} hρ ha hb' => ?_⟩
    simp only [conc, Option.some.injEq] at ha hb'
    subst ha; subst hb'
    have := hb ρ hρ
    rw [hev] at this
    cases b with
    | true =>
      simp only [cmpZ, decide_eq_true_eq, gt_iff_lt] at this
      exact ⟨_, rfl, by simp [Builtin.max2, this]⟩
    | false =>
      simp only [cmpZ, decide_eq_false_iff_not, gt_iff_lt] at this
      exact ⟨_, rfl, by simp [Builtin.max2, this]⟩
theorem mmL_sound {less : Bool} : ∀ {l : List AV} {x : AV} {pc : PC} {κ : AV → PC → R}, mmL less l x pc κ ∈ D → ∃ u pc', κ u pc' ∈ D ∧ PcExt pc pc' ∧ ∀ {φ ρ w a xs}, Holds ρ pc' → conc φ ρ x = some a → concL φ ρ l = some xs →
    RunV P φ ρ w (xs.foldlM (if less then Builtin.min2 else Builtin.max2) a) u
  | [], x, pc, κ, hD => ⟨x, pc, hD, .refl _, fun {φ ρ w a xs} _ ha hx => by
      simp only [concL, Option.some.injEq] at hx
      subst hx
      exact ⟨a, ha, rfl⟩⟩
  | y :: l, x, pc, κ, hD => by
    have hD : mmA less x y pc (fun v pc => mmL less l v pc κ) ∈ D := hD
    obtain ⟨u, pc1, h1, x1, hu⟩ := mm_sound (P := P) hD
    obtain ⟨v, pc2, h2, x2, hv⟩ := mmL_sound h1
    refine ⟨v, pc2, h2, x1.trans x2, fun {φ ρ w a xs} hρ ha hx => ?_⟩
    obtain ⟨b, ys, hb, hys, rfl⟩ := concL_cons.1 hx
    obtain ⟨c, hc, hr⟩ := hu (w := w) (hρ.of_ext x2) ha hb
    obtain ⟨d, hd, hr2⟩ := hv (w := w) hρ hc hys
    refine ⟨d, hd, ?_⟩
    rw [List.foldlM_cons, Sem.run_bind]
    cases less
    · simp only [Bool.false_eq_true, if_false] at hr hr2 ⊢
      rw [hr]; exact hr2
    · simp only [if_true] at hr hr2 ⊢
      rw [hr]; exact hr2
theorem mapK_inv {id : Nat} {κ : List (AV × AV × Nat) → Nat → R} (hD : mapK h id κ ∈ D) : ∃ es c, h.get id = some (.map es c) ∧ κ es c ∈ D := by
  obtain ⟨o, ho, h1⟩ := optK_inv hD
  split at h1
  · exact ⟨_, _, ho, h1⟩
  · cases h1
theorem getObj_map {w : World} {r : Nat} {xs : Array MapEntry} {c : Nat} (h : w.heap[r]? = some (.map xs c)) : (getObj r).run P w = .ok (.map xs c) w := by
  simp [getObj, Sem.run, h]
theorem EntOk.length {φ : List Pl} {ρ : Nat → Int} {es : List (AV × AV × Nat)} {ms : List MapEntry} (h : EntOk φ ρ es ms) : ms.length = es.length := by
  induction h with
  | nil => rfl
  | cons _ _ _ ih => simp [ih]
theorem lenE_eq : ∀ (es : List (AV × AV × Nat)), lenE es = es.length
  | [] => rfl
  | _ :: es => by show Nat.succ (lenE es) = es.length + 1; rw [lenE_eq es]
theorem lenM_sound {T : TypeId} {x : AV} {Ts : Array TypeId} {κ : AV → R} (hT : Ts[0]? = some T) (hD : lenM P T h x κ ∈ D) : ∃ u, κ u ∈ D ∧ ∀ {φ ρ w a} {R' : TypeId}, Hp P φ ρ h w → conc φ ρ x = some a → RunV P φ ρ w (Builtin.len_ Ts R' #[a]) u := by
  unfold lenM at hD
  split at hD
  · rename_i K E hu
    split at hD
    · rename_i id
      obtain ⟨es, c, hid, h1⟩ := mapK_inv hD
      rw [forceN_eq] at h1
      refine ⟨_, h1, fun {φ ρ w a R'} hp ha => ?_⟩
      obtain ⟨pl, xs, hpl, hx, he⟩ := hp.obj _ _ hid
      simp only [conc, hpl, Option.map_some, Option.some.injEq] at ha
      subst ha
      have hl : xs.size = lenE es := by rw [lenE_eq, ← he.length, Array.length_toList]
      refine ⟨.int .i64 (lenE es), rfl, ?_⟩
      simp only [Builtin.len_, hT, List.getElem?_toArray, List.getElem?_cons_zero, Sem.run_bind, run_underlying hu, Result.andThen_ok, getObj_map hx]
      rw [hl]
      rfl
    · refine ⟨_, hD, fun {φ ρ w a R'} hp ha => ?_⟩
      simp only [conc, Option.some.injEq] at ha
      subst ha
      refine ⟨.int .i64 0, rfl, ?_⟩
      simp only [Builtin.len_, hT, List.getElem?_toArray, List.getElem?_cons_zero, Sem.run_bind, run_underlying hu, Result.andThen_ok]
      rfl
    · cases hD
  · obtain ⟨u, h1, hu⟩ := len_sound hT hD
    exact ⟨u, h1, fun _ ha => hu ha⟩
theorem lenY_sound {T : TypeId} {x : AV} {Ts : Array TypeId} {pc : PC} {κ : AV → PC → R} (hT : Ts[0]? = some T) (hD : lenY P T x pc κ ∈ D) : ∃ u pc', κ u pc' ∈ D ∧ PcExt pc pc' ∧ ∀ {φ ρ w a} {R' : TypeId}, Holds ρ pc' → Hp P φ ρ h w → conc φ ρ x = some a → RunV P φ ρ w (Builtin.len_ Ts R' #[a]) u := by
  unfold lenY at hD
  split at hD
  · rename_i e hu
    obtain ⟨n, h1, h2⟩ := lenS_inv hD
    refine ⟨_, pc, h1, .refl _, fun {φ ρ w a R'} hρ _ ha => ?_⟩
    obtain ⟨h0, p, m, c, rfl, hm⟩ := h2 hρ.rg ha
    refine ⟨.int .i64 (n.ev ρ), rfl, ?_⟩
    simp [Builtin.len_, hT, Sem.run_bind, run_underlying hu, goInt]
    omega
  · cases hD
theorem lenQ_sound {T : TypeId} {x : AV} {Ts : Array TypeId} {pc : PC} {κ : AV → PC → R} (hT : Ts[0]? = some T) (hD : lenQ P T h x pc κ ∈ D) : ∃ u pc', κ u pc' ∈ D ∧ PcExt pc pc' ∧ ∀ {φ ρ w a} {R' : TypeId}, Holds ρ pc' → Hp P φ ρ h w → conc φ ρ x = some a → RunV P φ ρ w (Builtin.len_ Ts R' #[a]) u := by
  unfold lenQ at hD
  split at hD
  · rename_i p k c
    split at hD
    · rename_i e hu
      obtain ⟨b, pc', h1, hx, hb⟩ := decK_inv hD
      obtain ⟨rfl, h2⟩ := brec_inv h1
      rcases brec_cases h2 with ⟨hn, h2⟩ | ⟨_, h2⟩
      · refine ⟨_, pc', h2, hx, fun {φ ρ w a R'} hρ _ ha => ?_⟩
        have h0 := nilR_ev hn hρ.rg
        have h0 : ρ k = 0 := h0
        simp only [conc, Option.some.injEq, h0] at ha
        subst ha
        refine ⟨.int .i64 0, rfl, ?_⟩
        simp [Builtin.len_, hT, Sem.run_bind, run_underlying hu, goInt]
      refine ⟨_, pc', h2, hx, fun {φ ρ w a R'} hρ _ ha => ?_⟩
      simp only [conc, Option.some.injEq] at ha
      subst ha
      have h0 := hb ρ hρ
      have h0 : 0 ≤ ρ k := of_decide_eq_true h0
      refine ⟨.int .i64 (ρ k), rfl, ?_⟩
      simp [Builtin.len_, hT, Sem.run_bind, run_underlying hu, goInt]
      omega
    · cases hD
  · exact lenY_sound hT hD
  · exact lenY_sound hT hD
  · obtain ⟨u, h1, hu⟩ := lenM_sound hT hD
    exact ⟨u, pc, h1, .refl _, fun _ hp ha => hu hp ha⟩
theorem bltQ_sound {b : Builtin} {Ts : Array TypeId} {l : List AV} {pc : PC} {κ : AV → PC → R} (hD : bltQ P b Ts h l pc κ ∈ D) : ∃ u pc', κ u pc' ∈ D ∧ PcExt pc pc' ∧ ∀ {φ ρ w xs} {T : TypeId} {cs : Array Bool}, Holds ρ pc' → Hp P φ ρ h w → concL φ ρ l = some xs →
    ∃ x, conc φ ρ u = some x ∧ (builtin b Ts T cs xs.toArray).run P w = .ok (.value x) w := by
  unfold bltQ at hD
  split at hD
  · split at hD
    · rename_i x
      obtain ⟨T', hT, h1⟩ := optK_inv hD
      obtain ⟨u, pc', h2, hxt, hu⟩ := lenQ_sound hT h1
      refine ⟨u, pc', h2, hxt, fun {φ ρ w xs T cs} hρ hp hx => ?_⟩
      obtain ⟨a, ys, ha, hys, rfl⟩ := concL_cons.1 hx
      simp only [concL, Option.some.injEq] at hys
      subst hys
      obtain ⟨y, hy, hr⟩ := hu (w := w) (R' := T) hρ hp ha
      exact ⟨y, hy, by simp only [builtin, Sem.run_bind]; rw [hr]; rfl⟩
    · cases hD
  · split at hD
    · rename_i x l
      obtain ⟨u, pc', h1, hx, hu⟩ := mmL_sound (P := P) hD
      refine ⟨u, pc', h1, hx, fun {φ ρ w xs T cs} hρ _ hxs => ?_⟩
      obtain ⟨a, ys, ha, hys, rfl⟩ := concL_cons.1 hxs
      obtain ⟨y, hy, hr⟩ := hu (w := w) hρ ha hys
      simp only [if_true] at hr
      exact ⟨y, hy, by simp only [builtin, Sem.run_bind, Builtin.min_]; rw [hr]; rfl⟩
    · cases hD
  · split at hD
    · rename_i x l
      obtain ⟨u, pc', h1, hx, hu⟩ := mmL_sound (P := P) hD
      refine ⟨u, pc', h1, hx, fun {φ ρ w xs T cs} hρ _ hxs => ?_⟩
      obtain ⟨a, ys, ha, hys, rfl⟩ := concL_cons.1 hxs
      obtain ⟨y, hy, hr⟩ := hu (w := w) hρ ha hys
      simp only [Bool.false_eq_true, if_false] at hr
      exact ⟨y, hy, by simp only [builtin, Sem.run_bind, Builtin.max_]; rw [hr]; rfl⟩
    · cases hD
  · cases hD
end

end Go.Proofs.YticednpolhnneaaGreat
