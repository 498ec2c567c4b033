/-
  A run whose arguments are numbers and rows of bytes, as many as there are: the letters' values.
-/
import Derived.Test.YticednpolhnneaaGreatSsf
import Derived.Test.YticednpolhnneaaGreatDed
set_option linter.unusedVariables false
set_option linter.unusedSimpArgs false
namespace Go.Proofs.YticednpolhnneaaGreat
open Go Go.RowKit Go.ChangeShapes Go.WideShapes

/-- a row that came in: how long, where it stands, its room, its bytes -/
structure RowD where
  n : Nat
  b : Nat
  o : Nat
  c : Nat
  zs : List Int
def RowD.v (r : RowD) : Value := .slice (some ⟨r.b, r.o, none⟩) r.n r.c
structure RowD.Ok (w : World) (r : RowD) : Prop where
  le : r.n ≤ r.c
  mx : r.c ≤ 9223372036854775807
  len : r.zs.length = r.c
  cell : ∀ i, i < r.zs.length → w.cell? ⟨r.b, r.o + i, none⟩ = some (.int .u8 (r.zs.getD i 0))
  byte : ∀ z ∈ r.zs, 0 ≤ z ∧ z ≤ 255
/-- a letter of the place of a row -/
def RowD.at (r : RowD) (k : Nat) : Int := if k = 0 then r.b else if k = 1 then r.o else if k = 2 then r.c else 1
def rowG (rs : List RowD) (k : Nat) (f : RowD → Int) : Int := match rs[k]? with
  | some r => f r
  | none => 0
/-- letters 0 .. 31: numbers; 32 .. : the rows' lengths -/
def adsG (ads : List (Option Addr × Nat)) (k j : Nat) : Int := match ads[k]? with
  | some x => match x.1 with
    | none => if j = 3 then x.2 else 0
    | some a => if j = 0 then a.block else if j = 1 then a.off else if j = 2 then (match a.spot with | none => 1 | some n => n + 2) else x.2
  | none => 0
def rhoG (ms : List Int) (rs : List RowD) (ads : List (Option Addr × Nat) := []) : Nat → Int := fun i =>
  if i < 32 then ms.getD i 0 else if i < 64 then rowG rs (i - 32) (fun r => r.n) else if i < 300 then 0 else if i < 428 then adsG ads ((i - 300) / 4) ((i - 300) % 4) else if i < 628 then 0 else if i < 756 then rowG rs ((i - 628) / 4) (fun r => r.at ((i - 628) % 4)) else if i < 1000 then 0 else rowG rs ((i - 1000) % 64 - 32) (fun r => r.zs.getD ((i - 1000) / 64) 0)
theorem rhoG_len (ms : List Int) (rs : List RowD) (ads : List (Option Addr × Nat)) {a : Nat} (h1 : 32 ≤ a) (h2 : a < 64) : rhoG ms rs ads a = rowG rs (a - 32) (fun r => r.n) := by
  unfold rhoG
  rw [if_neg (by omega), if_pos h2]
theorem rhoG_at (ms : List Int) (rs : List RowD) (ads : List (Option Addr × Nat)) {a k : Nat} (h1 : 32 ≤ a) (h2 : a < 64) (hk : k < 4) : rhoG ms rs ads (500 + k + 4 * a) = rowG rs (a - 32) (fun r => r.at k) := by
  unfold rhoG
  rw [if_neg (by omega), if_neg (by omega), if_neg (by omega), if_neg (by omega), if_neg (by omega), if_pos (by omega), show (500 + k + 4 * a - 628) / 4 = a - 32 by omega, show (500 + k + 4 * a - 628) % 4 = k by omega]
theorem rhoG_row (ms : List Int) (rs : List RowD) (ads : List (Option Addr × Nat)) {a i : Nat} (h1 : 32 ≤ a) (h2 : a < 64) : rhoG ms rs ads (rowIx a i) = rowG rs (a - 32) (fun r => r.zs.getD i 0) := by
  unfold rhoG rowIx
  rw [if_neg (by omega), if_neg (by omega), if_neg (by omega), if_neg (by omega), if_neg (by omega), if_neg (by omega), if_neg (by omega), show (1000 + 64 * i + a - 1000) % 64 = a by omega, show (1000 + 64 * i + a - 1000) / 64 = i by omega]
theorem rowG_some {rs : List RowD} {k : Nat} {f : RowD → Int} {r : RowD} (h : rs[k]? = some r) : rowG rs k f = f r := by
  unfold rowG
  rw [h]
theorem foOk_rhoG {w : World} {ms : List Int} {rs : List RowD} {ads : List (Option Addr × Nat)} (h : ∀ r ∈ rs, RowD.Ok w r) : FoOk (rhoG ms rs ads) w := by
  intro a h1 h2 h3
  have e3 : rhoG ms rs ads (fMark a) = rowG rs (a - 32) (fun r => r.at 3) := rhoG_at ms rs ads h1 h2 (k := 3) (by omega)
  have e2 : rhoG ms rs ads (fCap a) = rowG rs (a - 32) (fun r => r.at 2) := rhoG_at ms rs ads h1 h2 (k := 2) (by omega)
  have e1 : rhoG ms rs ads (fOff a) = rowG rs (a - 32) (fun r => r.at 1) := rhoG_at ms rs ads h1 h2 (k := 1) (by omega)
  have e0 : rhoG ms rs ads (fBlk a) = rowG rs (a - 32) (fun r => r.at 0) := rhoG_at ms rs ads h1 h2 (k := 0) (by omega)
  rw [e3] at h3
  cases hr : rs[a - 32]? with
  | none =>
    unfold rowG at h3
    rw [hr] at h3
    cases h3
  | some r =>
    have ok := h r (List.mem_of_getElem? hr)
    rw [e0, e1, e2, rhoG_len ms rs ads h1 h2, rowG_some hr, rowG_some hr, rowG_some hr, rowG_some hr]
    show (0 : Int) ≤ (r.n : Int) ∧ ((r.n : Int)).toNat ≤ ((r.c : Int)).toNat ∧ ∀ i, i < ((r.n : Int)).toNat → ∃ arr T fz, w.heap[((r.b : Int)).toNat]? = some (.cells arr T fz) ∧ arr[((r.o : Int)).toNat + i]? = some (.int .u8 (rowB (rhoG ms rs ads) a i))
    have hle := ok.le
    refine ⟨by omega, by omega, fun i hi => ?_⟩
    have hi : i < r.zs.length := by have := ok.len; omega
    have h5 := ok.cell i hi
    have e5 : rowB (rhoG ms rs ads) a i = r.zs.getD i 0 := by
      unfold rowB
      rw [rhoG_row ms rs ads h1 h2, rowG_some hr]
      have hg : r.zs.getD i 0 = r.zs[i] := by simp [List.getD_eq_getElem?_getD, hi]
      have := ok.byte r.zs[i] (List.getElem_mem hi)
      rw [hg]
      exact wrap_in (k := .u8) ⟨by show (0 : Int) ≤ _; omega, by show _ ≤ (255 : Int); omega⟩
    rw [e5]
    show ∃ arr T fz, w.heap[r.b]? = some (.cells arr T fz) ∧ arr[r.o + i]? = some (.int .u8 (r.zs.getD i 0))
    unfold World.cell? at h5
    split at h5
    · rename_i arr T fz hb
      exact ⟨arr, T, fz, hb, h5⟩
    · cases h5
theorem conc_rhoG {φ : List Pl} {ms : List Int} {rs : List RowD} {ads : List (Option Addr × Nat)} {a : Nat} {r : RowD} (h1 : 32 ≤ a) (h2 : a < 64) (hr : rs[a - 32]? = some r) (hn : r.n ≤ r.c) : conc φ (rhoG ms rs ads) (.fsl a zeroS zeroS (.var a)) = some r.v := by
  have e3 : rhoG ms rs ads (fMark a) = r.at 3 := (rhoG_at ms rs ads h1 h2 (k := 3) (by omega)).trans (rowG_some hr)
  have e2 : rhoG ms rs ads (fCap a) = r.at 2 := (rhoG_at ms rs ads h1 h2 (k := 2) (by omega)).trans (rowG_some hr)
  have e1 : rhoG ms rs ads (fOff a) = r.at 1 := (rhoG_at ms rs ads h1 h2 (k := 1) (by omega)).trans (rowG_some hr)
  have e0 : rhoG ms rs ads (fBlk a) = r.at 0 := (rhoG_at ms rs ads h1 h2 (k := 0) (by omega)).trans (rowG_some hr)
  have el : rhoG ms rs ads a = r.n := (rhoG_len ms rs ads h1 h2).trans (rowG_some hr)
  rw [fsl_mk _ _ _ e3 (by rw [el]; omega) (by rw [el, e2]; show ((r.n : Int)).toNat ≤ ((r.c : Int)).toNat; omega)]
  simp only [SI.ev, zeroS, el, e2, e1, e0]
  show some (Value.slice (some ⟨((r.b : Int)).toNat, ((r.o : Int)).toNat + (if ((r.c : Int)).toNat ≤ ((0 : Int)).toNat then ((0 : Int)).toNat else ((0 : Int)).toNat), none⟩) ((r.n : Int)).toNat (((r.c : Int)).toNat - ((0 : Int)).toNat)) = some (Value.slice (some ⟨r.b, r.o, none⟩) r.n r.c)
  simp
theorem conc_rhoL {φ : List Pl} {ms : List Int} {rs : List RowD} {ads : List (Option Addr × Nat)} {a k : Nat} {r : RowD} (h1 : 32 ≤ a) (h2 : a < 64) (hr : rs[a - 32]? = some r) (hn : r.n ≤ r.c) (hk : r.n = k) : conc φ (rhoG ms rs ads) (.fsl a zeroS zeroS (natS k)) = some r.v := by
  rw [← conc_rhoG (φ := φ) (ms := ms) (ads := ads) h1 h2 hr hn]
  have el : rhoG ms rs ads a = r.n := (rhoG_len ms rs ads h1 h2).trans (rowG_some hr)
  simp only [conc, natS, SI.ev, el, hk]
  rfl
theorem adrL_rhoG {ms : List Int} {rs : List RowD} {ads : List (Option Addr × Nat)} {k : Nat} {q : Option Addr} {c : Nat} (hk : k < 32) (h : ads[k]? = some (q, c)) : adrL (rhoG ms rs ads) (300 + 4 * k) = q ∧ rhoG ms rs ads (303 + 4 * k) = c := by
  have e : ∀ j, j < 4 → rhoG ms rs ads (300 + 4 * k + j) = adsG ads k j := by
    intro j hj
    unfold rhoG
    rw [if_neg (by omega), if_neg (by omega), if_neg (by omega), if_pos (by omega), show (300 + 4 * k + j - 300) / 4 = k by omega, show (300 + 4 * k + j - 300) % 4 = j by omega]
  have e0 := e 0 (by omega)
  have e1 := e 1 (by omega)
  have e2 := e 2 (by omega)
  have e3 := e 3 (by omega)
  rw [Nat.add_zero] at e0
  unfold adsG at e0 e1 e2 e3
  rw [h] at e0 e1 e2 e3
  cases q with
  | none => exact ⟨by unfold adrL; rw [e2]; rfl, by rw [show 303 + 4 * k = 300 + 4 * k + 3 by omega, e3]; rfl⟩
  | some a =>
    refine ⟨?_, by rw [show 303 + 4 * k = 300 + 4 * k + 3 by omega, e3]; rfl⟩
    obtain ⟨b, o, sp⟩ := a
    unfold adrL
    rw [e0, e1, e2]
    cases sp with
    | none => rfl
    | some n =>
      simp only [show ¬ (2 : Nat) = 0 by omega, show ¬ (2 : Nat) = 1 by omega, if_false, if_true]
      have h1 : ¬ ((n : Int) + 2 = 0) := by omega
      have h2 : ¬ ((n : Int) + 2 = 1) := by omega
      rw [if_neg h1, if_neg h2]
      simp
theorem conc_osl {φ : List Pl} {ms : List Int} {rs : List RowD} {ads : List (Option Addr × Nat)} {k i : Nat} {q : Option Addr} {n c : Nat} (hk : k < 32) (h : ads[k]? = some (q, c)) (hi : rhoG ms rs ads i = n) : conc φ (rhoG ms rs ads) (.osl (300 + 4 * k) i (303 + 4 * k)) = some (.slice q n c) := by
  obtain ⟨h1, h2⟩ := adrL_rhoG (ms := ms) (rs := rs) hk h
  simp only [conc, h1, h2, hi]
  rfl
theorem run_bool2P {P : Program} {pl : Plans} {sm : Sums} (hm : P.follows .mixedOrders = true) (hP : PlansOk P pl) (hS : SumsOk P sm) {n : Nat} {f : FuncId} {args : List AV} {smp : List (List Int)} {rg : List (Int × Int)} {b : Bool} {v : Nat} {lo : Int} {m : Nat} {pcs : List (SB × Bool)}
    (hr : okT2 v lo m (isB b) (evCall P pl sm n f args (s0 pcs smp rg) finK) pcs = true) (ρ : Nat → Int) (hp : ∀ x ∈ pcs, x.1.ev ρ = x.2) (hrg : RgOk ρ rg) (hv : m = 0 ∨ lo ≤ ρ v ∧ ρ v < lo + m) {xs : List Value} (hx : concL [] ρ args = some xs) (w : World) (hfo : FoOk ρ w) :
    Calls P f xs.toArray w fun e w' => e = .returned (.bool b) ∧ Kp [] w w' := by
  obtain ⟨V, S, h1, h2, h3⟩ := okT2_inv hv _ hr hp
  refine (run_sound hm hP hS h1 ρ hx h3 hrg w hfo).mono fun e w' ⟨φ, x, he, hc, hk⟩ => ⟨?_, hk⟩
  unfold isB at h2
  split at h2
  · simp only [conc, SB.ev, Option.some.injEq] at hc
    simp only [beq_iff_eq] at h2
    rw [he, ← hc, h2]
  · cases h2
theorem concL_mk {φ : List Pl} {ρ : Nat → Int} {v : AV} {l : List AV} {x : Value} {xs : List Value} (h : conc φ ρ v = some x) (t : concL φ ρ l = some xs) : concL φ ρ (v :: l) = some (x :: xs) := by
  simp only [concL, h, t, Option.bind_some, Option.map_some]
theorem conc_aggL {φ : List Pl} {ρ : Nat → Int} {l : List AV} {xs : List Value} (h : concL φ ρ l = some xs) : conc φ ρ (.agg l) = some (.agg xs.toArray) := by
  simp only [conc, h, Option.map_some]
theorem mapM_mem {α β : Type} {f : α → Option β} : ∀ {l : List α} {ys : List β}, l.mapM f = some ys → ∀ a ∈ l, ∃ b, f a = some b
  | [], _, _, a, ha => by cases ha
  | x :: l, ys, h, a, ha => by
    rw [List.mapM_cons] at h
    cases hx : f x with
    | none => rw [hx] at h; cases h
    | some b =>
      rw [hx] at h
      cases hl : l.mapM f with
      | none => rw [hl] at h; cases h
      | some bs =>
        rcases List.mem_cons.1 ha with rfl | ha
        · exact ⟨b, hx⟩
        · exact mapM_mem hl a ha
/-- a field of a struct that came in -/
theorem trod_field {H : Type} {enc : TypeId × Value → H} {P : Program} {w : World} {fuel : Nat} {t : TypeId} {cs : List Value} {x : DataW H × List MemPlace} {fs : Array Field} (ht : P.underlying t = some (.struct fs)) (h : DataW.trod enc P w 0 (fun _ => true) true fuel t cs = some x) {f : Field} (hf : f ∈ fs.toList) : ∃ fuel' y, DataW.trod enc P w 0 (fun _ => true) true fuel' f.type ((cs.drop f.offset).take (P.cellsOf f.type)) = some y := by
  cases fuel with
  | zero => simp [DataW.trod] at h
  | succ fuel =>
    have h2 : (if cs.length = P.cellsOf t then (fs.toList.mapM fun f => DataW.trod enc P w 0 (fun _ => true) true fuel f.type ((cs.drop f.offset).take (P.cellsOf f.type))).map fun xs => (.agg (xs.map (·.1)), xs.flatMap (·.2)) else none) = some x := by
      rw [← h]
      simp only [DataW.trod, ht]
    split at h2
    · cases hm : (fs.toList.mapM fun f => DataW.trod enc P w 0 (fun _ => true) true fuel f.type ((cs.drop f.offset).take (P.cellsOf f.type))) with
      | none => rw [hm] at h2; cases h2
      | some ys =>
        obtain ⟨y, hy⟩ := mapM_mem hm f hf
        exact ⟨fuel, y, hy⟩
    · cases h2
theorem trod_field_at {H : Type} {enc : TypeId × Value → H} {P : Program} {w : World} {fuel : Nat} {t : TypeId} {cs : List Value} {x : DataW H × List MemPlace} {fs : Array Field} (ht : P.underlying t = some (.struct fs)) (h : DataW.trod enc P w 0 (fun _ => true) true fuel t cs = some x) {j : Nat} {f : Field} (hf : fs.toList[j]? = some f) : ∃ fuel' y, DataW.trod enc P w 0 (fun _ => true) true fuel' f.type ((cs.drop f.offset).take (P.cellsOf f.type)) = some y := trod_field ht h (List.mem_of_getElem? hf)
/-- such a row, or one without room -/
theorem RowIn.cases {w : World} {v : Value} (h : RowIn w v) : (∃ p c, v = .slice p 0 c) ∨ ∃ r : RowD, v = r.v ∧ r.Ok w ∧ 1 ≤ r.n := by
  rcases h with rfl | ⟨a, rfl⟩ | ⟨b, o, n, c, zs, rfl, hn, hm, hz, hc, hw⟩
  · exact .inl ⟨none, 0, rfl⟩
  · exact .inl ⟨some a, 0, rfl⟩
  · by_cases h0 : n = 0
    · subst h0
      exact .inl ⟨_, _, rfl⟩
    · exact .inr ⟨⟨n, b, o, c, zs⟩, rfl, ⟨hn, hm, hz, hc, hw⟩, by show 1 ≤ n; omega⟩
end Go.Proofs.YticednpolhnneaaGreat
