/-
  It is proved that the pieces hold what the document's pieces hold (wharflaw13.PiecesPlay), where the arguments are of bulk at most 1048576.
-/
import Derived.Test.YtodedpmedkgkmaaRows
import Derived.WalkKit
import Derived.ProofKit
import Derived.OpenShut
import Derived.ShutString
import Derived.ChangeOld
import Derived.Below
import Derived.SizedLaws
import Derived.Test.YtodedpmedkgkmaaNothing
import Derived.Test.YtodedpmedkgkmaaOpen
import Derived.Test.YtodedpmedkgkmaaPp
import Derived.JoinedCond
import Derived.Deep.CondSized
namespace Go.Proofs.Ytodedpmedkgkmaa.piecesPlay
open Go.ChangeShapes Go.WideShapes Go.ChangeAt Go.RowKit
open Go.ChangeMaps (open_string shut_string)
set_option linter.unusedVariables false

theorem own : ownKnob Try.prog.godebug = none := by kernel_rfl
theorem laidOut : laidOutB Try.prog = true := by kernel_rfl

theorem cells2 {w : World} {base : Nat} {a : Addr} {cs : List Value} (h : w.cells? base a 2 = some cs) : ∃ c0 c1, cs = [c0, c1] ∧ w.cell? (a.add 0) = some c0 ∧ w.cell? (a.add 1) = some c1 := by
  unfold World.cells? at h
  split at h
  · simp only [show List.range 2 = [0, 1] from rfl, List.mapM_cons, List.mapM_nil, Option.pure_def, Option.bind_eq_bind, Option.bind_eq_some_iff, Option.some.injEq] at h
    obtain ⟨c0, h0, l0, ⟨c1, h1, l1, rfl, rfl⟩, rfl⟩ := h
    exact ⟨c0, c1, rfl, h0, h1⟩
  · cases h

/-- pieces that came in -/
theorem open_pieces {H : Type} {enc : TypeId × Value → H} {w : World} {fuel : Nat} {cs : List Value} {x : DataW H × List MemPlace} (h : DataW.trod enc Try.prog w 0 (fun _ => true) true fuel 58 cs = some x) (hw : ∀ n ∈ x.1.weights Try.prog 58, n ≤ reachBytes) :
    ∃ p n c D, cs = [.slice p n c] ∧ PiecesAt w p n D ∧ n ≤ 9223372036854775807 := by
  have hC : Try.prog.cellsOf 60 = 2 := by kernel_rfl
  rcases Deep.open_slice Try.underlying58 h with ⟨rfl, rfl⟩ | ⟨a, len, cap, m, n, D, Pl, rfl, _, hl, hm, rfl, rfl, hall⟩
  · exact ⟨none, 0, 0, fun _ => ⟨0, .nilFunc, []⟩, rfl, fun i hi => by omega, by omega⟩
  · simp only at hall hw
    rw [hC] at hall
    have key : ∀ i, i < len → ∃ d : PieceD, ∃ g o, (some a : Option Addr) = some ⟨g, o, none⟩ ∧ w.cell? ⟨g, o + i * 2, none⟩ = some (.int .i64 d.a) ∧ w.cell? ⟨g, o + i * 2 + 1, none⟩ = some d.v ∧ Byt w d.v d.b ∧ d.b.length ≤ 140737488355328 := by
      intro i hi
      obtain ⟨cs', hcs, hd⟩ := hall i (by omega)
      obtain ⟨c0, c1, rfl, h0, h1⟩ := cells2 hcs
      obtain ⟨y0, y1, n', hx, _, g0, g1⟩ := trod_struct2 Try.underlying60 hd
      have hI : Try.prog.cellsOf 3 = 1 := by kernel_rfl
      have hS : Try.prog.cellsOf 32 = 1 := by kernel_rfl
      simp only [hI, hS] at g0 g1
      obtain ⟨k0, e0, _, _⟩ := DataW.trod_int Try.underlying3 g0
      have hwi : ∀ z ∈ y1.1.weights Try.prog 32, z ≤ reachBytes := by
        intro z hz
        refine hw z ?_
        have hmem : D i ∈ (List.range len).map D := List.mem_map.2 ⟨i, List.mem_range.2 hi, rfl⟩
        have hDi : D i = .agg [y0.1, y1.1] := (Prod.mk.injEq _ _ _ _ ▸ hx).1
        have h5 : z ∈ (D i).weights Try.prog 60 := by
          rw [hDi]
          simp only [DataW.weights, Try.underlying60, List.map_cons, List.map_nil, DataW.weightsEach, List.mem_append]
          exact .inr (.inl hz)
        simp only [DataW.weights, Try.underlying58]
        exact List.mem_cons_of_mem _ (List.mem_append_left _ (weights_mem hmem h5))
      obtain ⟨v, l, e1, hb, hlen⟩ := open_byt g1 hwi
      simp at e0 e1
      subst e0; subst e1
      have hsp : a.spot = none := by
        by_cases hi0 : i = 0
        · subst hi0
          rw [Nat.zero_mul] at h0
          rw [Deep.add_add] at h0
          exact open_addr h0 (.inl rfl)
        · obtain ⟨cs0, hcs0, _⟩ := hall 0 (by omega)
          obtain ⟨_, _, _, h0', _⟩ := cells2 hcs0
          rw [Nat.zero_mul, Deep.add_add] at h0'
          exact open_addr h0' (.inl rfl)
      obtain ⟨b, o, sp⟩ := a
      simp only [] at hsp
      subst hsp
      simp only [add_lit, Nat.add_zero] at h0 h1
      exact ⟨⟨k0, _, l⟩, b, o, rfl, h0, by rw [Nat.add_assoc]; exact h1, hb, Nat.le_trans hlen (by omega)⟩
    have : Inhabited PieceD := ⟨⟨0, .nilFunc, []⟩⟩
    obtain ⟨f, hf⟩ := Deep.choose_lt key
    exact ⟨some a, len, _, f, rfl, hf, by unfold maxLen at hm; omega⟩

theorem contract (H : Type) (enc : TypeId × Value → H) (W : World) (base : Nat) (args : Array Value) (ds gs : List (DataW H)) (before : List MemPlace)
    (hval0 : ∀ (j : Nat) t v, Try.f7.params[j]? = some t → args[j]? = some v → Value.okWide Try.prog W .any base t v)
    (hW : DataW.Whole enc Try.prog Try.f7.params.toList Rows.piecesPlaySpec.vars false W args.toList ds gs before)
    (hsz : (DataW.weightsEach Try.prog (Try.f7.params.toList ++ (Rows.OpenSpec.upto Rows.piecesPlaySpec).bare.plain.varTypes Try.prog) (ds ++ gs)).all (· ≤ reachBytes) = true) :
    Calls Try.prog 7 args W fun e W' => ∃ v, e = .returned v ∧ Rows.piecesPlaySpec.post enc Try.prog Try.f7 false true false false W args v W' := by
  have hval := hval0
  have hW' := hW
  obtain ⟨p, q, hA0, hV, rfl, hfz, hnd⟩ := hW
  have hA : DataW.TrodAll enc Try.prog W 0 (fun _ => true) true Try.f7.params.toList args.toList ds p := hA0
  rw [Try.params7] at hA hval
  obtain ⟨v0, vs0, d0, ds0, p0, q0, hargs, rfl, rfl, h0, r0⟩ := trodAll_cons hA
  obtain ⟨rfl, rfl, rfl⟩ := trodAll_nil r0
  obtain rfl : args = #[v0] := by cases args; simp_all
  obtain ⟨rfl, rfl⟩ := trodVars_none hV
  have k0 := h0
  have lt0 : ∀ x ∈ p0, x.block < W.heap.size := by obtain ⟨m, hm⟩ := k0; exact DataW.trod_lt m _ _ _ hm
  have hwt : ∀ n ∈ d0.weights Try.prog 58, n ≤ reachBytes := by
    intro n hn
    have h5 := List.all_eq_true.1 hsz n (by rw [Try.params7]; simp [DataW.weightsEach]; exact hn)
    simpa using h5
  obtain ⟨a1, len1, cap1, rfl⟩ := okWide_slice Try.underlying58 (hval 0 58 v0 rfl rfl)
  obtain ⟨D, hS, hn⟩ : ∃ D, PiecesAt W a1 len1 D ∧ len1 ≤ 9223372036854775807 := by
    obtain ⟨fuel, hf⟩ := h0
    obtain ⟨p, n, c, D, h5, h6, h7⟩ := open_pieces hf hwt
    simp [Value.cells] at h5
    obtain ⟨rfl, rfl, rfl⟩ := h5
    exact ⟨D, h6, h7⟩
  clear hA0 hval0
  refine (pp_walk a1 len1 cap1 D W hS hn).mono fun e W' ⟨he, bel0⟩ => ?_
  have bel := bel0.below
  subst he
  exact ⟨_, rfl, _, _, _, [], _, [], hW', trodAll_mk1 (shut_bool Try.underlying4 _), (trodAll_cons_mk (Below.trod laidOut (by kernel_rfl) (of_decide_eq_true (by kernel_rfl)) k0 bel lt0) trodAll_mk0), rfl, bel.frame _, fun h => by cases h⟩

set_option maxRecDepth 100000 in
theorem lifted (os : Os) (started : os.Started) (H : Type) (enc : TypeId × Value → H) (F : Stop.Interp) :
    ReturnsInHanded {} Try.checked os 7 .any ((Rows.OpenSpec.upto Rows.piecesPlaySpec).pre6 enc Try.prog Try.f7 Rows.piecesPlayUptoRow.domain false) (((Rows.OpenSpec.upto Rows.piecesPlaySpec).at F).post enc Try.prog Try.f7 false true false false) := by
  refine returnsInHanded_of_cond_sized (C := Try.checked) (s := Rows.OpenSpec.upto Rows.piecesPlaySpec) (k := Rows.uptoSmall) rfl own started (by kernel_rfl) Try.func7
    (OpenSpec.witness (enc := enc) (C := Try.checked) (s := Rows.OpenSpec.upto Rows.piecesPlaySpec) (k := Rows.uptoSmall) rfl false ⟨#[], #[.slice none 0 0], []⟩ 8 (by kernel_rfl) (by kernel_rfl) (by kernel_rfl)
      (x := ([.nil], [], [])) (by kernel_rfl) rfl (by kernel_rfl)) ?_
  intro W base args ds gs before hval hW _ hk hsz _
  exact contract H enc W base args ds gs before hval hW hsz

theorem over : Rows.piecesPlayUptoRow.holds Try.pinned (Rows.OpenSpec.upto Rows.piecesPlaySpec) :=
  OpenClaim.holds_of_cond 7 Try.f7 rfl rfl rfl rfl rfl rfl rfl ⟨rfl, rfl, rfl, rfl, rfl⟩ rfl rfl rfl rfl rfl (by kernel_rfl) Try.func7 (by kernel_rfl)
    (of_decide_eq_true (by kernel_rfl)) (by unfold Func.isWrapper; first | (rw [if_pos (by decide +kernel)]; kernel_rfl) | (rw [if_neg (by decide +kernel)]; exact ⟨rfl, rfl⟩))
    (fun os started H enc _ F => lifted os started H enc F)

theorem proved : Rows.PiecesPlayUptoSaid := over
end Go.Proofs.Ytodedpmedkgkmaa.piecesPlay
