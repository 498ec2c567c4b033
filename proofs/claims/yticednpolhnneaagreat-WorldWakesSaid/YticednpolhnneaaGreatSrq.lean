/-
  Ropes: slices of slices, their lengths, places in them.
-/
import Derived.Test.YticednpolhnneaaGreatSrp
import Derived.Test.YticednpolhnneaaGreatSxg
set_option linter.unusedVariables false
set_option linter.unusedSimpArgs false
namespace Go.Proofs.YticednpolhnneaaGreat
open Go

section
variable {P : Program} {D : Dn} {h : Tr AObj}
theorem ordK_inv {pc : PC} {l hi c : SI} {κ : PC → R} (hD : ordK pc l hi c κ ∈ D) : ∃ pc', κ pc' ∈ D ∧ PcExt pc pc' ∧ ∀ ρ, Holds ρ pc' → 0 ≤ l.ev ρ ∧ l.ev ρ ≤ hi.ev ρ ∧ hi.ev ρ ≤ c.ev ρ := by
  obtain ⟨hb, h1⟩ := brec_inv hD
  simp only [Bool.and_eq_true] at hb
  obtain ⟨b, pc1, h2, x1, h3⟩ := leD_inv h1
  obtain ⟨rfl, h4⟩ := brec_inv h2
  obtain ⟨b, pc2, h5, x2, h6⟩ := leD_inv h4
  obtain ⟨rfl, h7⟩ := brec_inv h5
  refine ⟨pc2, h7, x1.trans x2, fun ρ hρ => ?_⟩
  have hr : RgOk ρ pc.rg := by
    have := hρ.rg
    rw [x2.rg, x1.rg] at this
    exact this
  exact ⟨(nnB_ok hb.1 hr).1, (h3 ρ (hρ.of_ext x2)).1 rfl, (h6 ρ hρ).1 rfl⟩
theorem spanK_inv {e : TypeId} {pc : PC} {id : Nat} {off len : SI} {κ : PC → R} (hs : sizeA P e = some 1) (hD : spanK h e pc id off len κ ∈ D) : ∃ pc', κ pc' ∈ D ∧ PcExt pc pc' ∧ ∀ {φ ρ w p}, Holds ρ pc' → Hp P φ ρ h w → φ[id]? = some p → 0 ≤ off.ev ρ ∧ 0 ≤ len.ev ρ ∧ p.es = 1 ∧ p.sh + (off.ev ρ).toNat + (len.ev ρ).toNat ≤ p.sz := by
  obtain ⟨o, ho, h1⟩ := optK_inv hD
  cases o with
  | rope cs T r =>
    obtain ⟨_, pc', h2, hx, _, h3⟩ := readO_inv (show readO (.rope cs T r) pc off len (fun _ pc => κ pc) ∈ D from h1)
    refine ⟨pc', h2, hx, fun {φ ρ w p} hρ hp hpl => ?_⟩
    obtain ⟨a1, a2, a3, _⟩ := h3 hρ (hp.obj _ _ ho) hpl
    obtain ⟨p', arr, fz, hp', hc⟩ := hp.obj _ _ ho
    rw [hpl] at hp'; cases hp'
    exact ⟨a1, a2, hc.e1, a3⟩
  | cells n c d T r =>
    obtain ⟨hb, h2⟩ := brec_inv (show Bool.rec (motive := fun _ => R) (.fail 444) (readO (.cells n c d T r) pc off len fun _ pc => κ pc) (Nat.beq T e && r) ∈ D from h1)
    simp only [Bool.and_eq_true, natBeq, decide_eq_true_eq] at hb
    obtain ⟨rfl, rfl⟩ := hb
    obtain ⟨_, pc', h3, hx, _, h4⟩ := readO_inv h2
    refine ⟨pc', h3, hx, fun {φ ρ w p} hρ hp hpl => ?_⟩
    obtain ⟨a1, a2, a3, _⟩ := h4 hρ (hp.obj _ _ ho) hpl
    obtain ⟨p', arr, fz, hp', hc⟩ := hp.obj _ _ ho
    rw [hpl] at hp'; cases hp'
    obtain ⟨e1, _⟩ := hc.es rfl
    exact ⟨a1, a2, (Option.some.inj (hs.symm.trans e1)).symm, a3⟩
  | map _ _ => cases h1
  | iter _ _ _ _ => cases h1
  | dead => cases h1
theorem sl_ssl {φ : List Pl} {ρ : Nat → Int} {id off len : Nat} : conc φ ρ (.sl id off len none) = conc φ ρ (.ssl id (natS off) (natS off) (natS len) none) := by
  cases hp : φ[id]? with
  | none => simp only [conc, hp, Option.map_none]
  | some p =>
    rw [ssl_none hp]
    simp only [conc, hp, Option.map_some, Option.getD_none]
    show some (Value.slice (some ⟨p.blk, p.sh + off, none⟩) len (p.room off)) = some (if isZ (natS len) = true ∧ p.room off = 0 then .slice (some ⟨p.blk, p.sh + off, none⟩) 0 0 else .slice (some ⟨p.blk, p.sh + off, none⟩) len (p.room off))
    split
    · rename_i hz
      have h0 : ((len : Nat) : Int) = 0 := isZ_ev hz.1 (fun _ => 0)
      rw [show len = 0 by omega, hz.2]
    · rfl
theorem sl_ssl' {φ : List Pl} {ρ : Nat → Int} {id off len c : Nat} : conc φ ρ (.sl id off len (some c)) = conc φ ρ (.ssl id (natS off) (natS off) (natS len) (some (natS c))) := by
  cases hp : φ[id]? with
  | none => simp only [conc, hp, Option.map_none]
  | some p =>
    rw [ssl_some hp]
    simp only [conc, hp, Option.map_some, Option.getD_some]
    rfl
theorem optS_inv {v : Option AV} {d : SI} {κ : SI → R} (hD : optS v d κ ∈ D) : ∃ e, κ e ∈ D ∧ ((v = none ∧ e = d) ∨ ∃ k, v = some (.int k e)) := by
  unfold optS at hD
  split at hD
  · obtain ⟨k, e, rfl, h1⟩ := intV_inv hD
    exact ⟨e, h1, .inr ⟨k, rfl⟩⟩
  · exact ⟨_, hD, .inl ⟨rfl, rfl⟩⟩
theorem optS_bound {φ : List Pl} {ρ : Nat → Int} {v : Option AV} {x : Option Value} {e d : SI} {n : Nat} (ho : OptOk φ ρ v x) (he : (v = none ∧ e = d) ∨ ∃ k, v = some (.int k e)) (h0 : 0 ≤ e.ev ρ) (hd : (d.ev ρ).toNat = n) : (x = none ∧ (e.ev ρ).toNat = n) ∨ ∃ k, x = some (.int k ((e.ev ρ).toNat : Int)) := by
  cases ho with
  | no =>
    rcases he with ⟨_, rfl⟩ | ⟨k, h⟩
    · exact .inl ⟨rfl, hd⟩
    · cases h
  | yes h =>
    rcases he with ⟨h', _⟩ | ⟨k, h'⟩
    · cases h'
    · cases h'
      simp only [conc, Option.some.injEq] at h
      subst h
      refine .inr ⟨k, ?_⟩
      congr 2
      omega
theorem sliceAt_run {T e : TypeId} (hu : P.underlying T = some (.slice e)) (hs : sizeA P e = some 1) {w : World} {A : Addr} {len cap l hi : Nat} {lo' hi' : Option Value} (bl : (lo' = none ∧ l = 0) ∨ ∃ k, lo' = some (.int k (l : Int))) (bh : (hi' = none ∧ hi = len) ∨ ∃ k, hi' = some (.int k (hi : Int))) (h1 : l ≤ hi) (h2 : hi ≤ cap) :
    (Instr.sliceAt T (.slice (some A) len cap) lo' hi' none).run P w = .ok (.slice (some (if cap = l then A else A.add l)) (hi - l) (cap - l)) w := by
  simp only [Instr.sliceAt, Sem.run_bind, run_underlying hu, Result.andThen_ok, Instr.slice, sliceBounds_run bl bh h1 h2, run_size hs, Sem.run_pure]
  by_cases em : cap = l <;> simp [em]
theorem sliceAt_run3 {T e : TypeId} (hu : P.underlying T = some (.slice e)) (hs : sizeA P e = some 1) {w : World} {A : Addr} {len cap l hi m : Nat} {k k' : IntKind} {lo' : Option Value} (bl : (lo' = none ∧ l = 0) ∨ ∃ k, lo' = some (.int k (l : Int))) (h1 : l ≤ hi) (h2 : hi ≤ m) (h3 : m ≤ cap) :
    (Instr.sliceAt T (.slice (some A) len cap) lo' (some (.int k (hi : Int))) (some (.int k' (m : Int)))).run P w = .ok (.slice (some (if m = l then A else A.add l)) (hi - l) (m - l)) w := by
  simp only [Instr.sliceAt, Sem.run_bind, run_underlying hu, Result.andThen_ok, Instr.slice, Int.ofNat_eq_natCast, sliceBounds_run3 bl h1 h2 h3, run_size hs, Sem.run_pure]
  by_cases em : m = l <;> simp [em]
theorem sslU_sound {T e : TypeId} (hu : P.underlying T = some (.slice e)) (hs : sizeA P e = some 1) {id : Nat} {o0 off len l hi : SI} {pc : PC} {κ : AV → PC → R} (hD : sslU h e id o0 off len pc l hi κ ∈ D) :
    ∃ u pc', κ u pc' ∈ D ∧ PcExt pc pc' ∧ ∀ {φ ρ w a lo' hi'}, Holds ρ pc' → Hp P φ ρ h w → conc φ ρ (.ssl id o0 off len none) = some a → 0 ≤ l.ev ρ ∧ 0 ≤ hi.ev ρ ∧ (((lo' = none ∧ (l.ev ρ).toNat = 0) ∨ ∃ k, lo' = some (.int k ((l.ev ρ).toNat : Int))) → ((hi' = none ∧ (hi.ev ρ).toNat = (len.ev ρ).toNat) ∨ ∃ k, hi' = some (.int k ((hi.ev ρ).toNat : Int))) → RunV P φ ρ w (Instr.sliceAt T a lo' hi' none) u) := by
  obtain ⟨pc1, h1, x1, hsp⟩ := spanK_inv hs hD
  obtain ⟨pc2, h2, x2, hord⟩ := ordK_inv h1
  -- what the slice is, and what comes of it
  have key : ∀ {u : AV} {pc3 : PC}, PcExt pc2 pc3 → (∀ {φ ρ p}, Holds ρ pc3 → φ[id]? = some p → p.es = 1 → p.sh + (off.ev ρ).toNat + (len.ev ρ).toNat ≤ p.sz → 0 ≤ off.ev ρ → 0 ≤ l.ev ρ → l.ev ρ ≤ hi.ev ρ → hi.ev ρ ≤ len.ev ρ → conc φ ρ u = some (.slice (some (if p.room (off.ev ρ).toNat = (l.ev ρ).toNat then (if isZ len = true ∧ p.room (off.ev ρ).toNat = 0 then ⟨p.blk, p.sh + (o0.ev ρ).toNat, none⟩ else ⟨p.blk, p.sh + (off.ev ρ).toNat, none⟩) else ⟨p.blk, p.sh + (off.ev ρ).toNat + (l.ev ρ).toNat, none⟩)) ((hi.ev ρ).toNat - (l.ev ρ).toNat) (p.room (off.ev ρ).toNat - (l.ev ρ).toNat))) →
      ∀ {φ ρ w a lo' hi'}, Holds ρ pc3 → Hp P φ ρ h w → conc φ ρ (.ssl id o0 off len none) = some a → 0 ≤ l.ev ρ ∧ 0 ≤ hi.ev ρ ∧ (((lo' = none ∧ (l.ev ρ).toNat = 0) ∨ ∃ k, lo' = some (.int k ((l.ev ρ).toNat : Int))) → ((hi' = none ∧ (hi.ev ρ).toNat = (len.ev ρ).toNat) ∨ ∃ k, hi' = some (.int k ((hi.ev ρ).toNat : Int))) → RunV P φ ρ w (Instr.sliceAt T a lo' hi' none) u) := by
    intro u pc3 x3 hu3 φ ρ w a lo' hi' hρ hp ha
    have hρ2 := hρ.of_ext x3
    obtain ⟨q1, q2, q3⟩ := hord ρ hρ2
    refine ⟨q1, by omega, fun bl bh => ?_⟩
    have hpl : ∃ p, φ[id]? = some p := by
      simp only [conc, Option.map_eq_some_iff] at ha
      obtain ⟨p, hp, _⟩ := ha
      exact ⟨p, hp⟩
    obtain ⟨p, hpl⟩ := hpl
    obtain ⟨a1, a2, a3, a4⟩ := hsp (hρ2.of_ext x2) hp hpl
    have hcu := hu3 hρ hpl a3 a4 a1 q1 q2 q3
    have hr := room1 a3 (off.ev ρ).toNat
    rw [ssl_none hpl] at ha
    cases ha
    refine ⟨_, hcu, ?_⟩
    by_cases hz : isZ len = true ∧ p.room (off.ev ρ).toNat = 0
    · rw [if_pos hz]
      have hl0 : len.ev ρ = 0 := isZ_ev hz.1 ρ
      have hrun := sliceAt_run (P := P) hu hs (w := w) (A := ⟨p.blk, p.sh + (o0.ev ρ).toNat, none⟩) (len := 0) (cap := 0) (l := (l.ev ρ).toNat) (hi := (hi.ev ρ).toNat) bl (by rw [hl0] at bh; exact bh) (by omega) (by omega)
      rw [hrun]
      have e1 : (l.ev ρ).toNat = 0 := by omega
      have e2 : (hi.ev ρ).toNat = 0 := by omega
      simp [e1, e2, hz.1, hz.2]
    · rw [if_neg hz]
      have hrun := sliceAt_run (P := P) hu hs (w := w) (A := ⟨p.blk, p.sh + (off.ev ρ).toNat, none⟩) (len := (len.ev ρ).toNat) (cap := p.room (off.ev ρ).toNat) (l := (l.ev ρ).toNat) (hi := (hi.ev ρ).toNat) bl bh (by omega) (by omega)
      rw [hrun]
      simp only [if_neg hz, add_plain]
  rcases brec_cases h2 with ⟨hz, h3⟩ | ⟨hz, h3⟩
  · rcases brec_cases h3 with ⟨hzl, h4⟩ | ⟨hzl, h4⟩
    · refine ⟨_, pc2, h4, x1.trans x2, fun {φ ρ w a lo' hi'} => key (.refl _) fun {φ ρ p} hρ hpl he hsz h0 q1 q2 q3 => ?_⟩
      have hl0 : l.ev ρ = 0 := isZ_ev hz ρ
      have hlen := isZ_ev hzl ρ
      have hh : (hi.ev ρ).toNat = 0 := by omega
      rw [ssl_none hpl, hl0, hh]
      have ez : isZ zeroS = true := rfl
      have e0 : (zeroS.ev ρ).toNat = 0 := rfl
      simp only [Int.toNat_zero, Nat.sub_zero, Nat.add_zero, ez, hzl, true_and, e0]
      by_cases hr0 : p.room (off.ev ρ).toNat = 0
      · simp only [hr0, if_true]
      · simp only [hr0, if_false]
    · refine ⟨_, pc2, h4, x1.trans x2, fun {φ ρ w a lo' hi'} => key (.refl _) fun {φ ρ p} hρ hpl he hsz h0 q1 q2 q3 => ?_⟩
      have hl0 : l.ev ρ = 0 := isZ_ev hz ρ
      rw [ssl_none hpl, hl0]
      simp only [Int.toNat_zero, Nat.sub_zero, Nat.add_zero, hzl, Bool.false_eq_true, false_and, if_false, ite_self]
      by_cases hc : isZ hi = true ∧ p.room (off.ev ρ).toNat = 0
      · have hh : hi.ev ρ = 0 := isZ_ev hc.1 ρ
        rw [if_pos hc, hc.2, hh]
        rfl
      · rw [if_neg hc]
  · obtain ⟨off', h4, hof⟩ := plE_inv h3
    obtain ⟨b, pc3, h5, x3, hle⟩ := leD_inv h4
    rcases brec_cases h5 with ⟨rfl, h6⟩ | ⟨rfl, h6⟩
    · refine ⟨_, pc3, h6, (x1.trans x2).trans x3, fun {φ ρ w a lo' hi'} => key x3 fun {φ ρ p} hρ hpl he hsz h0 q1 q2 q3 => ?_⟩
      have h7 := (hle ρ hρ).1 rfl
      obtain ⟨e1, _, _⟩ := hof ρ (by rw [← x3.rg]; exact hρ.rg)
      have hr := room1 he (off.ev ρ).toNat
      have hr' := room1 he ((off.ev ρ + l.ev ρ).toNat)
      have a1 : (off.ev ρ + l.ev ρ).toNat = (off.ev ρ).toNat + (l.ev ρ).toNat := by omega
      have hiff : p.room (off.ev ρ + l.ev ρ).toNat = 0 ↔ p.room (off.ev ρ).toNat = (l.ev ρ).toNat := by rw [hr, hr', a1]; omega
      have b1 : (hi.ev ρ).toNat - (l.ev ρ).toNat = 0 := by omega
      rw [ssl_none hpl, e1, b1]
      have ez : isZ zeroS = true := rfl
      have e0 : (zeroS.ev ρ).toNat = 0 := rfl
      by_cases hroom : p.room (off.ev ρ).toNat = (l.ev ρ).toNat
      · rw [if_pos ⟨ez, hiff.2 hroom⟩, if_pos hroom, hroom, Nat.sub_self]
        cases hzl : isZ len with
        | true =>
          have hlen := isZ_ev hzl ρ
          have hl0 : (l.ev ρ).toNat = 0 := by omega
          simp [hl0]
        | false => simp
      · rw [if_neg (fun hh => hroom (hiff.1 hh.2)), if_neg hroom, e0, a1, hr, show p.room ((off.ev ρ).toNat + (l.ev ρ).toNat) = p.sz - (p.sh + ((off.ev ρ).toNat + (l.ev ρ).toNat)) from room1 he _]
        rw [show p.sz - (p.sh + ((off.ev ρ).toNat + (l.ev ρ).toNat)) = p.sz - (p.sh + (off.ev ρ).toNat) - (l.ev ρ).toNat by omega, Nat.add_assoc]
    · obtain ⟨n, h7, hn⟩ := mnE_inv h6
      refine ⟨_, pc3, h7, (x1.trans x2).trans x3, fun {φ ρ w a lo' hi'} => key x3 fun {φ ρ p} hρ hpl he hsz h0 q1 q2 q3 => ?_⟩
      have h8 : ¬ len.ev ρ ≤ l.ev ρ := fun hh => by cases (hle ρ hρ).2 hh
      obtain ⟨e1, _, _⟩ := hof ρ (by rw [← x3.rg]; exact hρ.rg)
      obtain ⟨e2, _, _⟩ := hn ρ hρ.rg
      have hr := room1 he (off.ev ρ).toNat
      have hr' := room1 he ((off.ev ρ + l.ev ρ).toNat)
      have a1 : (off.ev ρ + l.ev ρ).toNat = (off.ev ρ).toNat + (l.ev ρ).toNat := by omega
      have a2 : (hi.ev ρ - l.ev ρ).toNat = (hi.ev ρ).toNat - (l.ev ρ).toNat := by omega
      have c1 : ¬ p.room (off.ev ρ + l.ev ρ).toNat = 0 := by rw [hr', a1]; omega
      have c2 : ¬ p.room (off.ev ρ).toNat = (l.ev ρ).toNat := by rw [hr]; omega
      rw [ssl_none hpl, e1, e2, if_neg (fun hh => c1 hh.2), if_neg c2, a2, hr', hr, a1]
      rw [show p.sz - (p.sh + ((off.ev ρ).toNat + (l.ev ρ).toNat)) = p.sz - (p.sh + (off.ev ρ).toNat) - (l.ev ρ).toNat by omega, Nat.add_assoc]
/-- what a slicing owes -/
def SliO (P : Program) (ρ : Nat → Int) (φ : List Pl) (w : World) (T : TypeId) (a : Value) (l hi len : SI) (lo' hi' : Option Value) (u : AV) : Prop :=
  0 ≤ l.ev ρ ∧ 0 ≤ hi.ev ρ ∧ (((lo' = none ∧ (l.ev ρ).toNat = 0) ∨ ∃ k, lo' = some (.int k ((l.ev ρ).toNat : Int))) → ((hi' = none ∧ (hi.ev ρ).toNat = (len.ev ρ).toNat) ∨ ∃ k, hi' = some (.int k ((hi.ev ρ).toNat : Int))) → RunV P φ ρ w (Instr.sliceAt T a lo' hi' none) u)
theorem sslC_sound {T e : TypeId} (hu : P.underlying T = some (.slice e)) (hs : sizeA P e = some 1) {id : Nat} {o0 off len c l hi : SI} {pc : PC} {κ : AV → PC → R} (hD : sslC id off c pc l hi κ ∈ D) :
    ∃ u pc', κ u pc' ∈ D ∧ PcExt pc pc' ∧ ∀ {φ ρ w a lo' hi'}, Holds ρ pc' → conc φ ρ (.ssl id o0 off len (some c)) = some a → SliO P ρ φ w T a l hi len lo' hi' u := by
  obtain ⟨pc2, h2, x2, hord⟩ := ordK_inv hD
  have key : ∀ {u : AV} {pc3 : PC}, PcExt pc2 pc3 → (∀ {φ ρ p}, Holds ρ pc3 → φ[id]? = some p → 0 ≤ l.ev ρ → l.ev ρ ≤ hi.ev ρ → hi.ev ρ ≤ c.ev ρ → conc φ ρ u = some (.slice (some (if (c.ev ρ).toNat = (l.ev ρ).toNat then ⟨p.blk, p.sh + (off.ev ρ).toNat, none⟩ else ⟨p.blk, p.sh + (off.ev ρ).toNat + (l.ev ρ).toNat, none⟩)) ((hi.ev ρ).toNat - (l.ev ρ).toNat) ((c.ev ρ).toNat - (l.ev ρ).toNat))) →
      ∀ {φ ρ w a lo' hi'}, Holds ρ pc3 → conc φ ρ (.ssl id o0 off len (some c)) = some a → SliO P ρ φ w T a l hi len lo' hi' u := by
    intro u pc3 x3 hu3 φ ρ w a lo' hi' hρ ha
    obtain ⟨q1, q2, q3⟩ := hord ρ (hρ.of_ext x3)
    refine ⟨q1, by omega, fun bl bh => ?_⟩
    have hpl : ∃ p, φ[id]? = some p := by
      simp only [conc, Option.map_eq_some_iff] at ha
      obtain ⟨p, hp, _⟩ := ha
      exact ⟨p, hp⟩
    obtain ⟨p, hpl⟩ := hpl
    rw [ssl_some hpl] at ha
    cases ha
    refine ⟨_, hu3 hρ hpl q1 q2 q3, ?_⟩
    rw [sliceAt_run (P := P) hu hs bl bh (by omega) (by omega)]
    simp only [add_plain]
  rcases brec_cases h2 with ⟨hz, h3⟩ | ⟨_, h3⟩
  · refine ⟨_, pc2, h3, x2, fun {φ ρ w a lo' hi'} => key (.refl _) fun {φ ρ p} hρ hpl q1 q2 q3 => ?_⟩
    rw [ssl_some hpl, isZ_ev hz ρ]
    simp
  · obtain ⟨b, pc3, h4, x3, hle⟩ := leD_inv h3
    rcases brec_cases h4 with ⟨rfl, h5⟩ | ⟨rfl, h5⟩
    · refine ⟨_, pc3, h5, x2.trans x3, fun {φ ρ w a lo' hi'} => key x3 fun {φ ρ p} hρ hpl q1 q2 q3 => ?_⟩
      have h7 := (hle ρ hρ).1 rfl
      have e0 : (zeroS.ev ρ).toNat = 0 := rfl
      rw [ssl_some hpl, e0, if_pos (by omega), show (hi.ev ρ).toNat - (l.ev ρ).toNat = 0 by omega, show (c.ev ρ).toNat - (l.ev ρ).toNat = 0 by omega]
    · obtain ⟨off', h6, hof⟩ := plE_inv h5
      obtain ⟨n, h7, hn⟩ := mnE_inv h6
      obtain ⟨m, h8, hm⟩ := mnE_inv h7
      refine ⟨_, pc3, h8, x2.trans x3, fun {φ ρ w a lo' hi'} => key x3 fun {φ ρ p} hρ hpl q1 q2 q3 => ?_⟩
      have h9 : ¬ c.ev ρ ≤ l.ev ρ := fun hh => by cases (hle ρ hρ).2 hh
      obtain ⟨e1, g1, g2⟩ := hof ρ hρ.rg
      obtain ⟨e2, _, _⟩ := hn ρ hρ.rg
      obtain ⟨e3, _, _⟩ := hm ρ hρ.rg
      rw [ssl_some hpl, e1, e2, e3, if_neg (by omega)]
      rw [show (off.ev ρ + l.ev ρ).toNat = (off.ev ρ).toNat + (l.ev ρ).toNat by omega, show (hi.ev ρ - l.ev ρ).toNat = (hi.ev ρ).toNat - (l.ev ρ).toNat by omega, show (c.ev ρ - l.ev ρ).toNat = (c.ev ρ).toNat - (l.ev ρ).toNat by omega, Nat.add_assoc]
theorem sslM_sound {T e : TypeId} (hu : P.underlying T = some (.slice e)) (hs : sizeA P e = some 1) {id : Nat} {o0 off len l hi m : SI} {pc : PC} {κ : AV → PC → R} (hD : sslM h e id off len pc l hi m κ ∈ D) :
    ∃ u pc', κ u pc' ∈ D ∧ PcExt pc pc' ∧ hi = m ∧ ∀ {φ ρ w a lo' k k'}, Holds ρ pc' → Hp P φ ρ h w → conc φ ρ (.ssl id o0 off len none) = some a → l.ev ρ = 0 ∧ 0 ≤ hi.ev ρ ∧ (((lo' = none ∧ (l.ev ρ).toNat = 0) ∨ ∃ k, lo' = some (.int k ((l.ev ρ).toNat : Int))) → RunV P φ ρ w (Instr.sliceAt T a lo' (some (.int k ((hi.ev ρ).toNat : Int))) (some (.int k' ((hi.ev ρ).toNat : Int)))) u) := by
  obtain ⟨hb, h0⟩ := brec_inv hD
  simp only [Bool.and_eq_true] at hb
  obtain rfl := SI.beq_eq _ _ hb.2
  obtain ⟨pc1, h1, x1, hsp⟩ := spanK_inv hs h0
  rcases brec_cases h1 with ⟨hz, h1⟩ | ⟨_, h1⟩
  · simp only [Bool.and_eq_true, notF_eq, Bool.not_eq_true'] at hz
    obtain ⟨hz1, hz2⟩ := hz
    refine ⟨_, pc1, h1, x1, rfl, fun {φ ρ w a lo' k k'} hρ hp ha => ?_⟩
    have e1 := isZ_ev hz1 ρ
    have hl0 := isZ_ev hb.1 ρ
    refine ⟨hl0, by omega, fun bl => ?_⟩
    have hpl : ∃ p, φ[id]? = some p := by
      simp only [conc, Option.map_eq_some_iff] at ha
      obtain ⟨p, hp, _⟩ := ha
      exact ⟨p, hp⟩
    obtain ⟨p, hpl⟩ := hpl
    rw [ssl_none hpl, if_neg (fun hh => by rw [hz2] at hh; cases hh.1)] at ha
    cases ha
    refine ⟨_, ssl_some hpl, ?_⟩
    rw [sliceAt_run3 (P := P) hu hs bl (by omega) (Nat.le_refl _) (by omega), hl0, e1]
    rfl
  obtain ⟨pc2, h2, x2, hord⟩ := ordK_inv h1
  refine ⟨_, pc2, h2, x1.trans x2, rfl, fun {φ ρ w a lo' k k'} hρ hp ha => ?_⟩
  obtain ⟨q1, q2, q3⟩ := hord ρ hρ
  have q2 : (1 : Int) ≤ hi.ev ρ := q2
  have hl0 := isZ_ev hb.1 ρ
  refine ⟨hl0, by omega, fun bl => ?_⟩
  have hpl : ∃ p, φ[id]? = some p := by
    simp only [conc, Option.map_eq_some_iff] at ha
    obtain ⟨p, hp, _⟩ := ha
    exact ⟨p, hp⟩
  obtain ⟨p, hpl⟩ := hpl
  obtain ⟨a1, a2, a3, a4⟩ := hsp (hρ.of_ext x2) hp hpl
  have hr := room1 a3 (off.ev ρ).toNat
  rw [ssl_none hpl, if_neg (fun hh => by have := isZ_ev hh.1 ρ; omega)] at ha
  cases ha
  refine ⟨_, ssl_some hpl, ?_⟩
  rw [sliceAt_run3 (P := P) hu hs bl (by omega) (Nat.le_refl _) (by omega), hl0]
  rw [if_neg (by simp; omega)]
  simp [add_plain]
theorem fslU_sound {T e : TypeId} (hu : P.underlying T = some (.slice e)) (hs : sizeA P e = some 1) {j : Nat} {o0 off len l hi : SI} {pc : PC} {κ : AV → PC → R} (hD : fslU j o0 off len pc l hi κ ∈ D) :
    ∃ u pc', κ u pc' ∈ D ∧ PcExt pc pc' ∧ ∀ {φ ρ w a lo' hi'}, Holds ρ pc' → conc φ ρ (.fsl j o0 off len) = some a → SliO P ρ φ w T a l hi len lo' hi' u := by
  obtain ⟨e1, h1, he1⟩ := plE_inv hD
  obtain ⟨b, pc1, h2, x1, hle⟩ := leD_inv h1
  obtain ⟨hb, h3⟩ := brec_inv h2
  simp only [Bool.and_eq_true, natBle, natBlt, decide_eq_true_eq] at hb
  obtain ⟨rfl, hj1, hj2⟩ := hb
  obtain ⟨pc2, h4, x2, hord⟩ := ordK_inv h3
  have key : ∀ {u : AV} {pc3 : PC}, PcExt pc2 pc3 → (∀ {φ ρ}, Holds ρ pc3 → ρ (fMark j) = 1 → 0 ≤ ρ j → (ρ j).toNat ≤ (ρ (fCap j)).toNat → 0 ≤ off.ev ρ → 0 ≤ l.ev ρ → l.ev ρ ≤ hi.ev ρ → hi.ev ρ ≤ len.ev ρ → (off.ev ρ).toNat + (len.ev ρ).toNat ≤ (ρ (fCap j)).toNat → conc φ ρ u = some (.slice (some (if (ρ (fCap j)).toNat - (off.ev ρ).toNat = (l.ev ρ).toNat then ⟨(ρ (fBlk j)).toNat, (ρ (fOff j)).toNat + (if (ρ (fCap j)).toNat ≤ (off.ev ρ).toNat then (o0.ev ρ).toNat else (off.ev ρ).toNat), none⟩ else ⟨(ρ (fBlk j)).toNat, (ρ (fOff j)).toNat + (if (ρ (fCap j)).toNat ≤ (off.ev ρ).toNat then (o0.ev ρ).toNat else (off.ev ρ).toNat) + (l.ev ρ).toNat, none⟩)) ((hi.ev ρ).toNat - (l.ev ρ).toNat) ((ρ (fCap j)).toNat - (off.ev ρ).toNat - (l.ev ρ).toNat))) →
      ∀ {φ ρ w a lo' hi'}, Holds ρ pc3 → conc φ ρ (.fsl j o0 off len) = some a → SliO P ρ φ w T a l hi len lo' hi' u := by
    intro u pc3 x3 hu3 φ ρ w a lo' hi' hρ ha
    have hρ2 := hρ.of_ext x3
    obtain ⟨q1, q2, q3⟩ := hord ρ hρ2
    obtain ⟨m1, m2, m3, rfl⟩ := fsl_some ha
    have hl := (hle ρ (hρ2.of_ext x2)).1 rfl
    obtain ⟨f1, f2, f3⟩ := he1 ρ (by rw [← x1.rg, ← x2.rg]; exact hρ2.rg)
    have hl : e1.ev ρ ≤ ρ j := hl
    have hlen : (off.ev ρ).toNat + (len.ev ρ).toNat ≤ (ρ (fCap j)).toNat := by omega
    refine ⟨q1, by omega, fun bl bh => ?_⟩
    refine ⟨_, hu3 hρ m1 m2 m3 f2 q1 q2 q3 hlen, ?_⟩
    rw [sliceAt_run (P := P) hu hs bl bh (by omega) (by omega)]
    simp only [add_plain]
  rcases brec_cases h4 with ⟨hz, h5⟩ | ⟨_, h5⟩
  · refine ⟨_, pc2, h5, x1.trans x2, fun {φ ρ w a lo' hi'} => key (.refl _) fun {φ ρ} hρ m1 m2 m3 g0 q1 q2 q3 hlen => ?_⟩
    rw [fsl_mk _ _ _ m1 m2 m3, isZ_ev hz ρ]
    simp
  · obtain ⟨b, pc3, h6, x3, hle1⟩ := leD_inv h5
    obtain ⟨rfl, h7⟩ := brec_inv h6
    obtain ⟨off', h8, hof⟩ := plE_inv h7
    obtain ⟨n, h9, hn⟩ := mnE_inv h8
    refine ⟨_, pc3, h9, (x1.trans x2).trans x3, fun {φ ρ w a lo' hi'} => key x3 fun {φ ρ} hρ m1 m2 m3 g0 q1 q2 q3 hlen => ?_⟩
    have hl1 : (1 : Int) ≤ l.ev ρ := (hle1 ρ hρ).1 rfl
    obtain ⟨e2, _, _⟩ := hof ρ hρ.rg
    obtain ⟨e3, _, _⟩ := hn ρ hρ.rg
    have a1 : (off.ev ρ + l.ev ρ).toNat = (off.ev ρ).toNat + (l.ev ρ).toNat := by omega
    rw [fsl_mk _ _ _ m1 m2 m3, e2, e3, a1, if_neg (show ¬ (ρ (fCap j)).toNat ≤ (off.ev ρ).toNat by omega), show (hi.ev ρ - l.ev ρ).toNat = (hi.ev ρ).toNat - (l.ev ρ).toNat by omega, Nat.sub_sub]
    by_cases hc : (ρ (fCap j)).toNat ≤ (off.ev ρ).toNat + (l.ev ρ).toNat
    · rw [if_pos hc, if_pos (by omega)]
    · rw [if_neg hc, if_neg (by omega), Nat.add_assoc]
theorem sliceAt_run0 {T e : TypeId} (hu : P.underlying T = some (.slice e)) (hs : sizeA P e = some 1) {w : World} {p : Option Addr} {cap : Nat} {lo' hi' : Option Value} (bl : (lo' = none ∧ 0 = 0) ∨ ∃ k, lo' = some (.int k ((0 : Nat) : Int))) (bh : (hi' = none ∧ 0 = 0) ∨ ∃ k, hi' = some (.int k ((0 : Nat) : Int))) :
    (Instr.sliceAt T (.slice p 0 cap) lo' hi' none).run P w = .ok (.slice p 0 cap) w := by
  cases p with
  | some A =>
    rw [sliceAt_run hu hs bl bh (Nat.le_refl _) (Nat.zero_le _)]
    by_cases h : cap = 0
    · rw [if_pos h]; rfl
    · rw [if_neg h]
      simp [Addr.add]
  | none =>
    simp only [Instr.sliceAt, Sem.run_bind, run_underlying hu, Result.andThen_ok, Instr.slice, sliceBounds_run bl bh (Nat.le_refl _) (Nat.zero_le _), run_size hs, Sem.run_pure]
    simp
theorem sliceR_sound {T : TypeId} {x : AV} {lo hi mx : Option AV} {pc : PC} {κ : AV → PC → R} (hD : sliceR P T h pc x lo hi mx κ ∈ D) :
    ∃ u pc', κ u pc' ∈ D ∧ PcExt pc pc' ∧ ∀ {φ ρ w a lo' hi' mx'}, Holds ρ pc' → Hp P φ ρ h w → conc φ ρ x = some a → OptOk φ ρ lo lo' → OptOk φ ρ hi hi' → OptOk φ ρ mx mx' → RunV P φ ρ w (Instr.sliceAt T a lo' hi' mx') u := by
  obtain ⟨d, hd, h1⟩ := optK_inv hD
  split at h1
  rotate_left
  · cases h1
  rename_i e s
  obtain ⟨hs1, h2⟩ := brec_inv h1
  rw [natBeq, decide_eq_true_eq] at hs1
  subst hs1
  obtain ⟨hu, hs⟩ := ixOf_sli hd
  obtain ⟨l, h3, hl⟩ := optS_inv h2
  -- without a third bound
  have two : ∀ {id : Nat} {y : AV} {len hi0 : SI} {u : AV} {φ : List Pl} {ρ : Nat → Int} {w : World} {a : Value} {lo' hi' : Option Value}, ((hi = none ∧ hi0 = len) ∨ ∃ k, hi = some (.int k hi0)) → (SliO P ρ φ w T a l hi0 len lo' hi' u) → OptOk φ ρ lo lo' → OptOk φ ρ hi hi' → RunV P φ ρ w (Instr.sliceAt T a lo' hi' none) u := by
    intro id y len hi0 u φ ρ w a lo' hi' hh hS o1 o2
    exact hS.2.2 (optS_bound o1 hl hS.1 rfl) (optS_bound o2 hh hS.2.1 rfl)
  split at h3
  · rename_i id o0 off len
    obtain ⟨hi0, h4, hh⟩ := optS_inv h3
    split at h4
    · obtain ⟨u, pc', h5, hx, h6⟩ := sslU_sound hu hs h4
      refine ⟨u, pc', h5, hx, fun {φ ρ w a lo' hi' mx'} hρ hp ha o1 o2 o3 => ?_⟩
      cases o3
      exact two (id := 0) (y := undefA) hh (h6 hρ hp ha) o1 o2
    · rename_i m
      obtain ⟨hB, h4⟩ := brec_inv h4
      obtain ⟨km, m', rfl, h5⟩ := intV_inv h4
      obtain ⟨u, pc', h6, hx, rfl, h7⟩ := sslM_sound (o0 := o0) hu hs h5
      refine ⟨u, pc', h6, hx, fun {φ ρ w a lo' hi' mx'} hρ hp ha o1 o2 o3 => ?_⟩
      cases o3 with
      | yes o3 =>
        simp only [conc, Option.some.injEq] at o3
        subst o3
        rcases hh with ⟨rfl, rfl⟩ | ⟨k, rfl⟩
        · cases hB
        · cases o2 with
          | yes o2 =>
            simp only [conc, Option.some.injEq] at o2
            subst o2
            obtain ⟨z1, z2, z3⟩ := h7 (w := w) (lo' := lo') (k := k) (k' := km) hρ hp ha
            have := z3 (optS_bound o1 hl (by omega) rfl)
            rwa [show ((hi0.ev ρ).toNat : Int) = hi0.ev ρ by omega] at this
  · rename_i id o0 off len c
    obtain ⟨hi0, h4, hh⟩ := optS_inv h3
    split at h4
    · obtain ⟨u, pc', h5, hx, h6⟩ := sslC_sound (o0 := o0) (len := len) hu hs h4
      refine ⟨u, pc', h5, hx, fun {φ ρ w a lo' hi' mx'} hρ hp ha o1 o2 o3 => ?_⟩
      cases o3
      exact two (id := 0) (y := undefA) hh (h6 hρ ha) o1 o2
    · cases h4
  · rename_i id off len
    obtain ⟨hi0, h4, hh⟩ := optS_inv h3
    split at h4
    · obtain ⟨u, pc', h5, hx, h6⟩ := sslU_sound hu hs h4
      refine ⟨u, pc', h5, hx, fun {φ ρ w a lo' hi' mx'} hρ hp ha o1 o2 o3 => ?_⟩
      cases o3
      rw [sl_ssl] at ha
      exact two (id := 0) (y := undefA) hh (h6 hρ hp ha) o1 o2
    · rename_i m
      obtain ⟨hB, h4⟩ := brec_inv h4
      obtain ⟨km, m', rfl, h5⟩ := intV_inv h4
      obtain ⟨u, pc', h6, hx, rfl, h7⟩ := sslM_sound (o0 := natS off) hu hs h5
      refine ⟨u, pc', h6, hx, fun {φ ρ w a lo' hi' mx'} hρ hp ha o1 o2 o3 => ?_⟩
      rw [sl_ssl] at ha
      cases o3 with
      | yes o3 =>
        simp only [conc, Option.some.injEq] at o3
        subst o3
        rcases hh with ⟨rfl, rfl⟩ | ⟨k, rfl⟩
        · cases hB
        · cases o2 with
          | yes o2 =>
            simp only [conc, Option.some.injEq] at o2
            subst o2
            obtain ⟨z1, z2, z3⟩ := h7 (w := w) (lo' := lo') (k := k) (k' := km) hρ hp ha
            have := z3 (optS_bound o1 hl (by omega) rfl)
            rwa [show ((hi0.ev ρ).toNat : Int) = hi0.ev ρ by omega] at this
  · rename_i id off len c
    obtain ⟨hi0, h4, hh⟩ := optS_inv h3
    split at h4
    · obtain ⟨u, pc', h5, hx, h6⟩ := sslC_sound (o0 := natS off) (len := natS len) hu hs h4
      refine ⟨u, pc', h5, hx, fun {φ ρ w a lo' hi' mx'} hρ hp ha o1 o2 o3 => ?_⟩
      cases o3
      rw [sl_ssl'] at ha
      exact two (id := 0) (y := undefA) hh (h6 hρ ha) o1 o2
    · cases h4
  · rename_i j o0 off len
    obtain ⟨hi0, h4, hh⟩ := optS_inv h3
    split at h4
    · obtain ⟨u, pc', h5, hx, h6⟩ := fslU_sound hu hs h4
      refine ⟨u, pc', h5, hx, fun {φ ρ w a lo' hi' mx'} hρ hp ha o1 o2 o3 => ?_⟩
      cases o3
      exact two (id := 0) (y := undefA) hh (h6 hρ ha) o1 o2
    · cases h4
  · rename_i p k c
    obtain ⟨hi0, h4, hh⟩ := optS_inv h3
    split at h4
    · obtain ⟨hb, h5⟩ := brec_inv h4
      simp only [Bool.and_eq_true] at hb
      obtain ⟨h6, h7, h8⟩ := hb
      refine ⟨_, _, h5, .refl _, fun {φ ρ w a lo' hi' mx'} hρ hp ha o1 o2 o3 => ?_⟩
      cases o3
      obtain ⟨p', k', c', e', h9⟩ := osl0_ev h6
      cases e'
      have hv := h9 hρ.rg ha
      have e1 := nilR_ev h7 hρ.rg
      have e2 := nilR_ev h8 hρ.rg
      have b1 := optS_bound o1 hl (by omega) (show (zeroS.ev ρ).toNat = 0 from rfl)
      have b2 := optS_bound o2 hh (by omega) (show (zeroS.ev ρ).toNat = 0 from rfl)
      rw [e1] at b1
      rw [e2] at b2
      refine ⟨a, ha, ?_⟩
      rw [hv]
      exact sliceAt_run0 hu hs (by simpa using b1) (by simpa using b2)
    · cases h4
  · cases h3
theorem sliceX_sound {T : TypeId} {x : AV} {lo hi mx : Option AV} {pc : PC} {κ : AV → PC → R} (hD : sliceX P T h pc x lo hi mx κ ∈ D) :
    ∃ u pc', κ u pc' ∈ D ∧ PcExt pc pc' ∧ ∀ {φ ρ w a lo' hi' mx'}, Holds ρ pc' → Hp P φ ρ h w → conc φ ρ x = some a → OptOk φ ρ lo lo' → OptOk φ ρ hi hi' → OptOk φ ρ mx mx' → RunV P φ ρ w (Instr.sliceAt T a lo' hi' mx') u := by
  rcases brec_cases hD with ⟨_, h1⟩ | ⟨_, h1⟩
  · obtain ⟨u, h2, h3⟩ := slice_sound h1
    exact ⟨u, pc, h2, .refl _, fun _ hp ha o1 o2 o3 => h3 hp ha o1 o2 o3⟩
  · exact sliceR_sound h1
theorem ixX_sound {T : TypeId} {x i : AV} {pc : PC} {κ : AV → PC → R} (hD : ixX P T pc x i κ ∈ D) : ∃ u pc', κ u pc' ∈ D ∧ PcExt pc pc' ∧ ∀ {φ ρ w a b}, Holds ρ pc' → conc φ ρ x = some a → conc φ ρ i = some b → RunV P φ ρ w (Instr.indexAt T a b) u := by
  rcases brec_cases hD with ⟨_, h1⟩ | ⟨_, h1⟩
  · obtain ⟨d, hd, h2⟩ := optK_inv h1
    split at h2
    rotate_left
    · cases h2
    rename_i e s
    split at h2
    rotate_left
    · cases h2
    rename_i id o0 off len cap _
    obtain ⟨k, n, rfl, h3⟩ := asNat_inv h2
    obtain ⟨o1, rfl, h4⟩ := litN_inv h3
    obtain ⟨hs1, h5⟩ := brec_inv h4
    rw [natBeq, decide_eq_true_eq] at hs1
    subst hs1
    obtain ⟨hu, hs⟩ := ixOf_sli hd
    obtain ⟨b, pc', h6, hx, hle⟩ := leD_inv h5
    obtain ⟨rfl, h7⟩ := brec_inv h6
    rw [forceN_eq] at h7
    refine ⟨_, pc', h7, hx, fun {φ ρ w a b} hρ ha hb => ?_⟩
    simp only [conc, SI.ev, Option.some.injEq] at hb
    subst hb
    have hlt : ((n + 1 : Nat) : Int) ≤ len.ev ρ := (hle ρ hρ).1 rfl
    have hpl : ∃ p, φ[id]? = some p := by
      simp only [conc, Option.map_eq_some_iff] at ha
      obtain ⟨p, hp, _⟩ := ha
      exact ⟨p, hp⟩
    obtain ⟨p, hpl⟩ := hpl
    refine ⟨.pointer (some ⟨p.blk, p.sh + (o1 + n), none⟩), by simp only [conc, hpl, Option.map_some]; rfl, ?_⟩
    have h8 : (n : Int) < ((len.ev ρ).toNat : Int) := by omega
    have go : ∀ {m : Nat}, a = .slice (some ⟨p.blk, p.sh + o1, none⟩) (len.ev ρ).toNat m → (Instr.indexAt T a (.int k (Int.ofNat n))).run P w = .ok (.pointer (some ⟨p.blk, p.sh + (o1 + n), none⟩)) w := by
      rintro m rfl
      simp [Instr.indexAt, asIntOf, Sem.run_bind, run_underlying hu, run_size hs, add_plain, Nat.add_assoc, h8]
      intro hle; omega
    cases cap with
    | some c =>
      rw [ssl_some hpl] at ha
      cases ha
      exact go rfl
    | none =>
      rw [ssl_none hpl, if_neg (fun hh => by have := isZ_ev hh.1 ρ; omega)] at ha
      cases ha
      exact go rfl
  · obtain ⟨u, h2, h3⟩ := ixAddr_sound h1
    exact ⟨u, pc, h2, .refl _, fun _ ha hb => h3 ha hb⟩
end
end Go.Proofs.YticednpolhnneaaGreat
