/-
  It is proved that what waits for a neighbour that never answers is dropped, and it is asked AskTries times (wharflaw19.HostLost, the narrowed statement: what it reads is of bulk at most 1048576).
-/
import Derived.Test.YtfiefdkgneilkaaGreatRows
import Derived.WalkKit
import Derived.ProofKit
import Derived.OpenShut
import Derived.Below
import Derived.Test.YtfiefdkgneilkaaGreatPaHostLostA
import Derived.Test.YtfiefdkgneilkaaGreatPaHostLostB
import Derived.Test.YtfiefdkgneilkaaGreatPaHostLostZ
import Derived.Test.YtfiefdkgneilkaaGreatPaHostLostS
import Derived.Test.YtfiefdkgneilkaaGreatPaHostLostW
import Derived.Test.YtfiefdkgneilkaaGreatPaHostLostL
import Derived.Test.YtfiefdkgneilkaaGreatPaHostLostH
import Derived.Test.YtfiefdkgneilkaaGreatJfHostLostUpto
import Derived.SizedLaws
import Derived.JoinedCond
import Derived.Deep.CondSized
namespace Go.Proofs.YtfiefdkgneilkaaGreat.hostLost
open Go.ChangeShapes Go.WideShapes Go.ChangeAt Go.RowKit
open Go
set_option linter.unusedVariables false
set_option linter.unusedSimpArgs false

theorem own : ownKnob Tryz.prog.godebug = none := by kernel_rfl
section
variable {P : Program} {w : World} {r : Reach} {base : Nat} {t : TypeId} {v : Value}
theorem cell_int {k : IntKind} (ht : P.underlying t = some (.int k)) (h : Cell.okWide P w r base t v) : ∃ n, v = .int k n ∧ k.min ≤ n ∧ n ≤ k.max := by
  simp only [Cell.okWide, ht] at h
  cases v <;> simp_all [Cell.ok, IntKind.has]
theorem cell_bool (ht : P.underlying t = some .bool) (h : Cell.okWide P w r base t v) : ∃ b, v = .bool b := by
  simp only [Cell.okWide, ht] at h
  cases v <;> simp_all [Cell.ok]
theorem cell_slice {e : TypeId} (ht : P.underlying t = some (.slice e)) (h : Cell.okWide P w r base t v) : ∃ a n c, v = .slice a n c ∧ (n : Int) ≤ 9223372036854775807 := by
  simp only [Cell.okWide, ht] at h
  have hmax : IntKind.i64.max = 9223372036854775807 := by decide
  cases v with
  | slice a n c =>
    refine ⟨a, n, c, rfl, ?_⟩
    cases a with
    | none =>
      cases n with
      | zero => omega
      | succ n => simp [Cell.ok, ht] at h
    | some a =>
      simp only [Cell.ok, ht] at h
      rw [hmax] at h
      omega
  | _ => simp_all [Cell.ok]
end
theorem in_u32 {n : Int} (h : IntKind.u32.min ≤ n ∧ n ≤ IntKind.u32.max) : 0 ≤ n ∧ n ≤ 4294967295 := by
  rw [show IntKind.u32.min = 0 by decide, show IntKind.u32.max = 4294967295 by decide] at h
  exact h
set_option maxRecDepth 100000 in
theorem open_api_Addr {W : World} {base : Nat} {v : Value} (h : Value.okWide Tryz.prog W .any base 23 v) : ∃ (a0 : Int), v = .int .u32 a0 ∧ (0 ≤ a0 ∧ a0 ≤ 4294967295) := by
    simp only [Value.okWide, Tryz.underlying23] at h
    obtain ⟨a0, rfl, h0⟩ := cell_int Tryz.underlying23 h
    have h0 := in_u32 h0
    exact ⟨_, rfl, h0⟩

theorem walk (a0 : Int) (h0 : (0 ≤ a0 ∧ a0 ≤ 4294967295)) (w : World) : Calls Tryz.prog 11 #[.int .u32 a0] w fun e w' => e = .returned (.bool true) ∧ Kp [] w w' := by
  have hc0 : (167772162 ≤ a0 ∧ a0 ≤ 167772287) ∨ (167772288 ≤ a0 ∧ a0 ≤ 167772414) ∨ (167772160 ≤ a0 ∧ a0 ≤ 167772160) ∨ (167772161 ≤ a0 ∧ a0 ≤ 167772161) ∨ (167772415 ≤ a0 ∧ a0 ≤ 167772415) ∨ (0 ≤ a0 ∧ a0 ≤ 167772159) ∨ (167772416 ≤ a0 ∧ a0 ≤ 4294967295) := by omega
  clear h0
  rcases hc0 with h0 | h0 | h0 | h0 | h0 | h0 | h0
  · exact pA_any a0 h0 w
  · exact pB_any a0 h0 w
  · exact pZ_any a0 h0 w
  · exact pS_any a0 h0 w
  · exact pW_any a0 h0 w
  · exact pL_any a0 h0 w
  · exact pH_any a0 h0 w

set_option maxRecDepth 100000 in
theorem contract (H : Type) (enc : TypeId × Value → H) (W : World) (base : Nat) (args : Array Value) (ds gs : List (DataW H)) (before : List MemPlace)
    (hval0 : ∀ (j : Nat) t v, Tryz.f11.params[j]? = some t → args[j]? = some v → Value.okWide Tryz.prog W .any base t v)
    (hW : DataW.Whole enc Tryz.prog Tryz.f11.params.toList Rows.hostLostSpec.vars false W args.toList ds gs before) :
    Calls Tryz.prog 11 args W fun e W' => ∃ v, e = .returned v ∧ Rows.hostLostSpec.post enc Tryz.prog Tryz.f11 false true false false W args v W' := by
  have hval : ∀ (j : Nat) t v, Tryz.f11.params[j]? = some t → args[j]? = some v → Value.okWide Tryz.prog W .any base t v := hval0
  have hW' := hW
  obtain ⟨p, q, hA0, hV, rfl, hfz, hnd⟩ := hW
  have hA : DataW.TrodAll enc Tryz.prog W 0 (fun _ => true) true Tryz.f11.params.toList args.toList ds p := hA0
  rw [Tryz.params11] at hA hval
  obtain ⟨v0, vs0, d0, ds0, p_0, q0, hargs, rfl, rfl, k0, r0⟩ := trodAll_cons hA
  obtain ⟨rfl, rfl, rfl⟩ := trodAll_nil r0
  obtain rfl : args = #[v0] := by cases args; simp_all
  obtain ⟨rfl, rfl⟩ := trodVars_none hV
  have lt0 : ∀ x ∈ p_0, x.block < W.heap.size := by obtain ⟨m, hm⟩ := k0; exact DataW.trod_lt m _ _ _ hm
  obtain ⟨a0, rfl, hh0⟩ := open_api_Addr (hval 0 23 v0 rfl rfl)
  clear hA0 hval0
  refine (walk a0 hh0 W).mono fun e W' ⟨he, hg⟩ => ?_
  subst he
  have bel := hg.below0
  exact ⟨_, rfl, _, _, _, [], _, [], hW', trodAll_mk1 (shut_bool Tryz.underlying4 _), (trodAll_cons_mk (Below.trod laid_out (by kernel_rfl) (of_decide_eq_true (by kernel_rfl)) k0 bel lt0) trodAll_mk0), rfl, bel.frame _, fun h => by cases h⟩


set_option maxRecDepth 100000 in
theorem lifted (os : Os) (started : os.Started) (H : Type) (enc : TypeId × Value → H) (F : Stop.Interp) :
    ReturnsInHanded {} Tryz.checked os 11 .any ((Rows.OpenSpec.upto Rows.hostLostSpec).pre6 enc Tryz.prog Tryz.f11 Rows.hostLostUptoRow.domain false) (((Rows.OpenSpec.upto Rows.hostLostSpec).at F).post enc Tryz.prog Tryz.f11 false true false false) := by
  refine returnsInHanded_of_cond_sized (C := Tryz.checked) (s := Rows.OpenSpec.upto Rows.hostLostSpec) (k := Rows.uptoSmall) rfl own started (by kernel_rfl) Tryz.func11
    (OpenSpec.witness (enc := enc) (C := Tryz.checked) (s := Rows.OpenSpec.upto Rows.hostLostSpec) (k := Rows.uptoSmall) rfl false ⟨#[], #[.int .u32 0], []⟩ 8 (by kernel_rfl) (by kernel_rfl) (by kernel_rfl)
      (x := ([.lit (.int .u32 0)], [], [])) (by kernel_rfl) rfl (by kernel_rfl)) ?_
  intro W base args ds gs before hval hW _ hk hsz _
  exact contract H enc W base args ds gs before hval hW

theorem over : Rows.hostLostUptoRow.holds Tryz.pinned (Rows.OpenSpec.upto Rows.hostLostSpec) :=
  OpenClaim.holds_of_cond 11 Tryz.f11 rfl rfl rfl rfl rfl rfl rfl ⟨rfl, rfl, rfl, rfl, rfl⟩ rfl rfl rfl rfl rfl j_func Tryz.func11 joined
    (of_decide_eq_true (by kernel_rfl)) (by unfold Func.isWrapper; first | (rw [if_pos (by decide +kernel)]; kernel_rfl) | (rw [if_neg (by decide +kernel)]; exact ⟨rfl, rfl⟩))
    (fun os started H enc _ F => lifted os started H enc F)

theorem proved : Rows.HostLostUptoSaid := over
end Go.Proofs.YtfiefdkgneilkaaGreat.hostLost
