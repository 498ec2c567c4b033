/-
  Arguments opened: bytes, steps, pieces.
-/
import Derived.Test.YtodedpmedkgkmaaHeavy
import Derived.ProofKit
import Derived.OpenShut
import Derived.SizedLaws
import Derived.Deep.Slices
import Derived.Lib.SmallJoins
import Derived.Deep.Strs
set_option linter.unusedVariables false
set_option linter.unusedSimpArgs false
namespace Go.Proofs.Ytodedpmedkgkmaa
open Go.RowKit Go.ChangeShapes Go.WideShapes

section
variable {H : Type} {enc : TypeId × Value → H} {w : World}

theorem weights_mem {P : Program} {e : TypeId} {l : List (DataW H)} {d : DataW H} (h : d ∈ l) {x : Nat} (hx : x ∈ d.weights P e) : x ∈ DataW.weightsAll P e l := by
  induction l with
  | nil => cases h
  | cons a l ih =>
    simp only [DataW.weightsAll, List.mem_append]
    rcases List.mem_cons.1 h with rfl | h
    · exact .inl hx
    · exact .inr (ih h)

theorem open_addr {a : Addr} {i : Nat} {v : Value} (h : w.cell? (a.add i) = some v) (hs : i = 0 ∨ a.spot = none) : a.spot = none := by
  rcases hs with rfl | hs
  · unfold Addr.add at h
    simp only [if_true] at h
    unfold World.cell? at h
    split at h
    · split at h
      · cases h
      · rename_i hn; simpa using hn
    · cases h
  · exact hs

/-- bytes that came in -/
theorem open_byt {fuel : Nat} {cs : List Value} {x : DataW H × List MemPlace} (h : DataW.trod enc Try.prog w 0 (fun _ => true) true fuel 32 cs = some x) (hw : ∀ n ∈ x.1.weights Try.prog 32, n ≤ reachBytes) :
    ∃ v l, cs = [v] ∧ Byt w v l ∧ l.length ≤ 140737488351232 := by
  rcases open_ints Try.underlying32 Try.underlying5 (by kernel_rfl) h with ⟨rfl, rfl⟩ | ⟨a, len, cap, zs, rfl, _, hl, hm, hz, rfl, hcell, hwz⟩
  · exact ⟨_, [], rfl, .inl ⟨none, 0, rfl, fun _ => rfl, Nat.zero_le _, rfl⟩, by simp⟩
  · simp only [if_true] at hz
    have hcap : cap ≤ 140737488351232 := by
      have hb : Try.prog.bytesOf 5 = 1 := by kernel_rfl
      have := hw (((lits .u8 (zs.take len) : List (DataW H)).length + (lits .u8 (zs.drop len) : List (DataW H)).length) * Try.prog.bytesOf 5) (by simp [DataW.weights, Try.underlying32])
      rw [hb] at this
      simp [lits] at this
      unfold reachBytes at this
      omega
    by_cases h0 : len = 0
    · subst h0
      exact ⟨_, [], rfl, .inl ⟨some a, cap, rfl, by simp, hm, rfl⟩, by simp⟩
    · have hs := open_addr (hcell 0 (by omega)) (.inl rfl)
      obtain ⟨b, o, sp⟩ := a
      simp only [] at hs
      subst hs
      have hel : ((zs.take len).map fun z => UInt8.ofNat z.toNat).length = len := by simp; omega
      refine ⟨_, (zs.take len).map fun z => UInt8.ofNat z.toNat, rfl, .inr ⟨b, o, cap, by rw [hel], by omega, hm, fun i hi => ?_⟩, by omega⟩
      rw [hel] at hi
      have := hcell i (by omega)
      rw [add_lit] at this
      rw [this]
      have hi2 : i < zs.length := by omega
      have hwf := hwz zs[i] (List.getElem_mem hi2)
      have hb : 0 ≤ zs[i] ∧ zs[i] ≤ 255 := by simpa [Lit.wf, IntKind.min, IntKind.max, IntKind.signed, IntKind.bits] using hwf
      have e1 : zs.getD i 0 = zs[i] := by simp [List.getD_eq_getElem?_getD, hi2]
      have e2 : ((zs.take len).map fun z => UInt8.ofNat z.toNat).getD i 0 = UInt8.ofNat zs[i].toNat := by
        simp [List.getD_eq_getElem?_getD, List.getElem?_take, hi, hi2]
      rw [e1, e2]
      unfold bv
      congr 2
      rw [UInt8.toNat_ofNat_of_lt' (by simp [UInt8.size]; omega)]
      omega

theorem cells4 {base : Nat} {a : Addr} {cs : List Value} (h : w.cells? base a 4 = some cs) : ∃ c0 c1 c2 c3, cs = [c0, c1, c2, c3] ∧ w.cell? (a.add 0) = some c0 ∧ w.cell? (a.add 1) = some c1 ∧ w.cell? (a.add 2) = some c2 ∧ w.cell? (a.add 3) = some c3 := by
  unfold World.cells? at h
  split at h
  · simp only [show List.range 4 = [0, 1, 2, 3] from rfl, List.mapM_cons, List.mapM_nil, Option.pure_def, Option.bind_eq_bind, Option.bind_eq_some_iff, Option.some.injEq] at h
    obtain ⟨c0, h0, l0, ⟨c1, h1, l1, ⟨c2, h2, l2, ⟨c3, h3, l3, rfl, rfl⟩, rfl⟩, rfl⟩, rfl⟩ := h
    exact ⟨c0, c1, c2, c3, rfl, h0, h1, h2, h3⟩
  · cases h

/-- steps that came in -/
theorem open_steps {fuel : Nat} {cs : List Value} {x : DataW H × List MemPlace} (h : DataW.trod enc Try.prog w 0 (fun _ => true) true fuel 22 cs = some x) (hw : ∀ n ∈ x.1.weights Try.prog 22, n ≤ reachBytes) :
    ∃ p n c D, cs = [.slice p n c] ∧ StepsAt w p n D ∧ n ≤ 9223372036854775807 := by
  have hC : Try.prog.cellsOf 34 = 4 := by kernel_rfl
  rcases Deep.open_slice Try.underlying22 h with ⟨rfl, rfl⟩ | ⟨a, len, cap, m, n, D, Pl, rfl, _, hl, hm, rfl, rfl, hall⟩
  · exact ⟨none, 0, 0, fun _ => ⟨0, 0, 0, .nilFunc, []⟩, rfl, fun i hi => by omega, by omega⟩
  · simp only [if_true] at hall hw
    rw [hC] at hall
    have key : ∀ i, i < len → ∃ d : StepD, ∃ g o, (some a : Option Addr) = some ⟨g, o, none⟩ ∧ w.cell? ⟨g, o + i * 4, none⟩ = some (.int .i64 d.kind) ∧ w.cell? ⟨g, o + i * 4 + 1, none⟩ = some (.int .i64 d.a) ∧ w.cell? ⟨g, o + i * 4 + 2, none⟩ = some (.int .i64 d.n) ∧
        w.cell? ⟨g, o + i * 4 + 3, none⟩ = some d.v ∧ Byt w d.v d.b ∧ d.b.length ≤ 140737488355328 := by
      intro i hi
      obtain ⟨cs', hcs, hd⟩ := hall i (by omega)
      obtain ⟨c0, c1, c2, c3, rfl, h0, h1, h2, h3⟩ := cells4 hcs
      obtain ⟨y0, y1, y2, y3, n', hx, _, g0, g1, g2, g3⟩ := Joins.trod_struct4 Try.underlying34 hd
      have hI : Try.prog.cellsOf 3 = 1 := by kernel_rfl
      have hS : Try.prog.cellsOf 32 = 1 := by kernel_rfl
      simp only [hI, hS] at g0 g1 g2 g3
      obtain ⟨k0, e0, _, _⟩ := DataW.trod_int Try.underlying3 g0
      obtain ⟨k1, e1, _, _⟩ := DataW.trod_int Try.underlying3 g1
      obtain ⟨k2, e2, _, _⟩ := DataW.trod_int Try.underlying3 g2
      have hwi : ∀ z ∈ y3.1.weights Try.prog 32, z ≤ reachBytes := by
        intro z hz
        refine hw z ?_
        have hmem : D i ∈ (List.range len).map D := List.mem_map.2 ⟨i, List.mem_range.2 hi, rfl⟩
        have hDi : D i = .agg [y0.1, y1.1, y2.1, y3.1] := (Prod.mk.injEq _ _ _ _ ▸ hx).1
        have h5 : z ∈ (D i).weights Try.prog 34 := by
          rw [hDi]
          simp only [DataW.weights, Try.underlying34, List.map_cons, List.map_nil, DataW.weightsEach, List.mem_append]
          exact .inr (.inr (.inr (.inl hz)))
        simp only [DataW.weights, Try.underlying22]
        exact List.mem_cons_of_mem _ (List.mem_append_left _ (weights_mem hmem h5))
      obtain ⟨v, l, e3, hb, hlen⟩ := open_byt g3 hwi
      simp at e0 e1 e2 e3
      subst e0; subst e1; subst e2; subst e3
      have hsp : a.spot = none := by
        by_cases hi0 : i = 0
        · subst hi0
          rw [Nat.zero_mul] at h0
          rw [Deep.add_add] at h0
          exact open_addr h0 (.inl rfl)
        · obtain ⟨cs0, hcs0, _⟩ := hall 0 (by omega)
          obtain ⟨_, _, _, _, _, h0', _⟩ := cells4 hcs0
          rw [Nat.zero_mul, Deep.add_add] at h0'
          exact open_addr h0' (.inl rfl)
      obtain ⟨b, o, sp⟩ := a
      simp only [] at hsp
      subst hsp
      simp only [Deep.add_add, add_lit, Nat.add_zero] at h0 h1 h2 h3
      exact ⟨⟨k0, k1, k2, _, l⟩, b, o, rfl, h0, by rw [Nat.add_assoc]; exact h1, by rw [Nat.add_assoc]; exact h2, by rw [Nat.add_assoc]; exact h3, hb, Nat.le_trans hlen (by omega)⟩
    have : Inhabited StepD := ⟨⟨0, 0, 0, .nilFunc, []⟩⟩
    obtain ⟨f, hf⟩ := Deep.choose_lt key
    exact ⟨some a, len, _, f, rfl, hf, by unfold maxLen at hm; omega⟩
end

end Go.Proofs.Ytodedpmedkgkmaa
