/-
  A run whose arguments are a row of bytes and a number.
-/
import Derived.Test.YtlmpmmcefdhgmaaSsf
import Derived.Test.YtlmpmmcefdhgmaaDed
set_option linter.unusedVariables false
set_option linter.unusedSimpArgs false
namespace Go.Proofs.Ytlmpmmcefdhgmaa
open Go Go.RowKit Go.ChangeShapes Go.WideShapes

/-- the letters of a row, letter 32, and a number, letter 0 -/
def rhoN (m : Int) (n b o c : Nat) (zs : List Int) : Nat → Int := fun i => if i = 0 then m else rhoB n b o c zs i
theorem rhoN_32 (m : Int) (n b o c : Nat) (zs : List Int) : rhoN m n b o c zs 32 = n := rfl
theorem rhoN_0 (m : Int) (n b o c : Nat) (zs : List Int) : rhoN m n b o c zs 0 = m := rfl
theorem rhoN_ge {m : Int} {n b o c : Nat} {zs : List Int} {i : Nat} (h : 32 ≤ i) : rhoN m n b o c zs i = rhoB n b o c zs i := if_neg (by omega)
theorem foOk_rhoN {w : World} {m : Int} {n b o c : Nat} {zs : List Int} (hn : n ≤ c) (hz : zs.length = c) (hc : ∀ i, i < zs.length → w.cell? ⟨b, o + i, none⟩ = some (.int .u8 (zs.getD i 0))) (hw : ∀ z ∈ zs, 0 ≤ z ∧ z ≤ 255) : FoOk (rhoN m n b o c zs) w := by
  intro a h1 h2 h3
  have := foOk_rhoB hn hz hc hw a h1 h2 (by rw [← h3]; exact (rhoN_ge (by unfold fMark; omega)).symm)
  rw [rhoN_ge h1, rhoN_ge (by unfold fCap; omega), rhoN_ge (by unfold fBlk; omega), rhoN_ge (by unfold fOff; omega)]
  refine ⟨this.1, this.2.1, fun i hi => ?_⟩
  have e : rowB (rhoN m n b o c zs) a i = rowB (rhoB n b o c zs) a i := by
    unfold rowB
    rw [rhoN_ge (by unfold rowIx; omega)]
  rw [e]
  exact this.2.2 i hi
theorem conc_rhoN {φ : List Pl} {m : Int} {n b o c : Nat} {zs : List Int} (hn : n ≤ c) : conc φ (rhoN m n b o c zs) (.fsl 32 zeroS zeroS (.var 32)) = some (.slice (some ⟨b, o, none⟩) n c) := conc_rhoB (φ := φ) (zs := zs) hn
theorem rgOk_rhoN {m : Int} {n b o c : Nat} {zs : List Int} {a1 a2 lo hi : Int} (hm : a1 ≤ m ∧ m ≤ a2) (h : lo ≤ n ∧ (n : Int) ≤ hi) : RgOk (rhoN m n b o c zs) ((a1, a2) :: (rgRow lo hi).tail) := by
  refine rgOk_cons hm ?_
  show RgOk (fun i => rhoB n b o c zs (i + 1)) _
  unfold rgRow
  repeat (refine rgOk_cons ⟨Int.le_refl _, Int.le_refl _⟩ ?_)
  exact rgOk_cons h rgOk_nil
theorem run_bool2F {P : Program} {pl : Plans} {sm : Sums} (hm : P.follows .mixedOrders = true) (hP : PlansOk P pl) (hS : SumsOk P sm) {n : Nat} {f : FuncId} {args : List AV} {smp : List (List Int)} {rg : List (Int × Int)} {b : Bool} {v : Nat} {lo : Int} {m : Nat}
    (hr : okT2 v lo m (isB b) (evCall P pl sm n f args (s0 [] smp rg) finK) [] = true) (ρ : Nat → Int) (hrg : RgOk ρ rg) (hv : m = 0 ∨ lo ≤ ρ v ∧ ρ v < lo + m) {xs : List Value} (hx : concL [] ρ args = some xs) (w : World) (hfo : FoOk ρ w) :
    Calls P f xs.toArray w fun e w' => e = .returned (.bool b) ∧ Kp [] w w' := by
  obtain ⟨V, S, h1, h2, h3⟩ := okT2_inv hv _ hr (fun x hx => by cases hx)
  refine (run_sound hm hP hS h1 ρ hx h3 hrg w hfo).mono fun e w' ⟨φ, x, he, hc, hk⟩ => ⟨?_, hk⟩
  unfold isB at h2
  split at h2
  · simp only [conc, SB.ev, Option.some.injEq] at hc
    simp only [beq_iff_eq] at h2
    rw [he, ← hc, h2]
  · cases h2
end Go.Proofs.Ytlmpmmcefdhgmaa
