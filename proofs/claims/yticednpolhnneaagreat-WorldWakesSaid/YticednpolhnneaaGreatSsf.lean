/-
  A run whose argument is a row of bytes.
-/
import Derived.Test.YticednpolhnneaaGreatSsm
import Derived.Test.YticednpolhnneaaGreatRs
import Derived.ProofKit
import Derived.OpenShut
import Derived.ChangeSlices
set_option linter.unusedVariables false
set_option linter.unusedSimpArgs false
namespace Go.Proofs.YticednpolhnneaaGreat
open Go Go.RowKit Go.ChangeShapes Go.WideShapes

/-- the letters of a row: letter 32 -/
def rhoB (n b o c : Nat) (zs : List Int) : Nat → Int := fun i => if i = 32 then n else if i = 628 then b else if i = 629 then o else if i = 630 then c else if i = 631 then 1 else if i < 1000 then 0 else zs.getD ((i - 1032) / 64) 0
theorem rhoB_32 (n b o c : Nat) (zs : List Int) : rhoB n b o c zs 32 = n := rfl
theorem foOk_rhoB {w : World} {n b o c : Nat} {zs : List Int} (hn : n ≤ c) (hz : zs.length = c) (hc : ∀ i, i < zs.length → w.cell? ⟨b, o + i, none⟩ = some (.int .u8 (zs.getD i 0))) (hw : ∀ z ∈ zs, 0 ≤ z ∧ z ≤ 255) : FoOk (rhoB n b o c zs) w := by
  intro a h1 h2 h3
  have ha : a = 32 := by
    by_cases ha : a = 32
    · exact ha
    · exfalso
      have h4 : rhoB n b o c zs (fMark a) = 0 := by
        unfold rhoB fMark
        rw [if_neg (by omega), if_neg (by omega), if_neg (by omega), if_neg (by omega), if_neg (by omega), if_pos (by omega)]
      rw [h4] at h3
      omega
  subst ha
  have e1 : rhoB n b o c zs 32 = n := rfl
  have e2 : rhoB n b o c zs (fCap 32) = c := rfl
  have e3 : rhoB n b o c zs (fBlk 32) = b := rfl
  have e4 : rhoB n b o c zs (fOff 32) = o := rfl
  rw [e1, e2, e3, e4]
  refine ⟨Int.natCast_nonneg _, by omega, fun i hi => ?_⟩
  have hi : i < zs.length := by omega
  have h5 := hc i hi
  have e5 : rowB (rhoB n b o c zs) 32 i = zs.getD i 0 := by
    have e6 : rhoB n b o c zs (rowIx 32 i) = zs.getD i 0 := by
      unfold rhoB rowIx
      rw [if_neg (by omega), if_neg (by omega), if_neg (by omega), if_neg (by omega), if_neg (by omega), if_neg (by omega)]
      congr 1
      omega
    unfold rowB
    rw [e6]
    have hg : zs.getD i 0 = zs[i] := by simp [List.getD_eq_getElem?_getD, hi]
    have := hw zs[i] (List.getElem_mem hi)
    rw [hg]
    exact wrap_in (k := .u8) ⟨by show (0 : Int) ≤ _; omega, by show _ ≤ (255 : Int); omega⟩
  rw [e5]
  show ∃ arr T fz, w.heap[b]? = some (.cells arr T fz) ∧ arr[o + i]? = some (.int .u8 (zs.getD i 0))
  unfold World.cell? at h5
  split at h5
  · rename_i arr T fz hb
    exact ⟨arr, T, fz, hb, h5⟩
  · cases h5
theorem conc_rhoB {φ : List Pl} {n b o c : Nat} {zs : List Int} (hn : n ≤ c) : conc φ (rhoB n b o c zs) (.fsl 32 zeroS zeroS (.var 32)) = some (.slice (some ⟨b, o, none⟩) n c) := by
  have e1 : rhoB n b o c zs 32 = n := rfl
  have e2 : rhoB n b o c zs (fCap 32) = c := rfl
  have e3 : rhoB n b o c zs (fBlk 32) = b := rfl
  have e4 : rhoB n b o c zs (fOff 32) = o := rfl
  rw [fsl_mk _ _ _ rfl (by rw [e1]; omega) (by rw [e1, e2]; omega)]
  simp only [SI.ev, zeroS, e1, e2, e3, e4]
  simp
/-- the ranges: nothing but the row's length -/
def rgRow (lo hi : Int) : List (Int × Int) := [(0, 0), (0, 0), (0, 0), (0, 0), (0, 0), (0, 0), (0, 0), (0, 0), (0, 0), (0, 0), (0, 0), (0, 0), (0, 0), (0, 0), (0, 0), (0, 0), (0, 0), (0, 0), (0, 0), (0, 0), (0, 0), (0, 0), (0, 0), (0, 0), (0, 0), (0, 0), (0, 0), (0, 0), (0, 0), (0, 0), (0, 0), (0, 0), (lo, hi)]
theorem rgOk_rhoB {n b o c : Nat} {zs : List Int} {lo hi : Int} (h : lo ≤ n ∧ (n : Int) ≤ hi) : RgOk (rhoB n b o c zs) (rgRow lo hi) := by
  unfold rgRow
  repeat (refine rgOk_cons ⟨Int.le_refl _, Int.le_refl _⟩ ?_)
  exact rgOk_cons h rgOk_nil
theorem run_boolF {P : Program} {pl : Plans} {sm : Sums} (hm : P.follows .mixedOrders = true) (hP : PlansOk P pl) (hS : SumsOk P sm) {n : Nat} {f : FuncId} {args : List AV} {smp : List (List Int)} {rg : List (Int × Int)} {b : Bool} {pcs : List (SB × Bool)} {ds : List (List (SB × Bool))} {r : R}
    (h : evCall P pl sm n f args (s0 pcs smp rg) finK = r) (hr : okTree r b pcs ds = true) (ρ : Nat → Int) (hp : ∀ x ∈ pcs, x.1.ev ρ = x.2) (hrg : RgOk ρ rg) (hd : ∀ d ∈ ds, ¬ conjB ρ d) {xs : List Value} (hx : concL [] ρ args = some xs) (w : World) (hfo : FoOk ρ w) :
    Calls P f xs.toArray w fun e w' => e = .returned (.bool b) ∧ Kp [] w w' := by
  obtain ⟨V, S, h1, h2, h3⟩ := okT_ends hr hp fun d hx hy => hd d hx (conjB_of hy)
  rw [← h] at h1
  refine (run_sound hm hP hS h1 ρ hx h3 hrg w hfo).mono fun e w' ⟨φ, x, he, hc, hk⟩ => ⟨?_, hk⟩
  unfold isB at h2
  split at h2
  · simp only [conc, SB.ev, Option.some.injEq] at hc
    simp only [beq_iff_eq] at h2
    rw [he, ← hc, h2]
  · cases h2
theorem open_addr {w : World} {a : Addr} {i : Nat} {v : Value} (h : w.cell? (a.add i) = some v) (hs : i = 0 ∨ a.spot = none) : a.spot = none := by
  rcases hs with rfl | hs
  · unfold Addr.add at h
    simp only [if_true] at h
    unfold World.cell? at h
    split at h
    · split at h
      · cases h
      · rename_i hn; simpa using hn
    · cases h
  · exact hs
/-- a row of bytes that came in -/
def RowIn (w : World) (v : Value) : Prop := v = .slice none 0 0 ∨ (∃ a, v = .slice (some a) 0 0) ∨ ∃ (b o n c : Nat) (zs : List Int), v = .slice (some ⟨b, o, none⟩) n c ∧ n ≤ c ∧ c ≤ 9223372036854775807 ∧ zs.length = c ∧ (∀ i, i < zs.length → w.cell? ⟨b, o + i, none⟩ = some (.int .u8 (zs.getD i 0))) ∧ ∀ z ∈ zs, 0 ≤ z ∧ z ≤ 255
theorem open_row {H : Type} {enc : TypeId × Value → H} {w : World} {fuel : Nat} {v : Value} {x : DataW H × List MemPlace} {t e : TypeId} (ht : Tryz.prog.underlying t = some (.slice e)) (he : Tryz.prog.underlying e = some (.int .u8)) (hcl : Tryz.prog.cellsOf e = 1) (h : DataW.trod enc Tryz.prog w 0 (fun _ => true) true fuel t [v] = some x) : RowIn w v := by
  rcases open_ints ht he hcl h with ⟨h1, rfl⟩ | ⟨a, len, cap, zs, h1, _, hl, hm, hz, rfl, hcell, hwz⟩
  · exact .inl (by cases h1; rfl)
  · cases h1
    simp only [if_true] at hz
    by_cases h0 : cap = 0
    · obtain rfl : len = 0 := by omega
      subst h0
      exact .inr (.inl ⟨a, rfl⟩)
    · have hs := open_addr (hcell 0 (by omega)) (.inl rfl)
      obtain ⟨b, o, sp⟩ := a
      simp only [] at hs
      subst hs
      unfold maxLen at hm
      refine .inr (.inr ⟨b, o, len, cap, zs, rfl, hl, by omega, hz, fun i hi => ?_, fun z hz => ?_⟩)
      · have := hcell i hi
        rw [add_lit] at this
        exact this
      · simpa [Lit.wf, IntKind.min, IntKind.max, IntKind.signed, IntKind.bits] using hwz z hz
end Go.Proofs.YticednpolhnneaaGreat
