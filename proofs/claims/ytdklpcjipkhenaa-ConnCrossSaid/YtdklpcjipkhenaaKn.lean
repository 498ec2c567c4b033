/-
  known, and what is known of it ahead.
-/
import Derived.Test.YtdklpcjipkhenaaSxv
import Derived.Test.YtdklpcjipkhenaaPlsOk
set_option linter.unusedVariables false
set_option linter.unusedSimpArgs false
namespace Go.Proofs.Ytdklpcjipkhenaa
open Go

set_option maxRecDepth 1000000 in
theorem known_run : okRun (evCall Try.prog plans sums0 100000 19 [] (s0 []) fun v s => .done v s) [] = true := by kernel_rfl
theorem known_any (w : World) : Calls Try.prog 19 #[] w fun e w' => e = .returned (.bool true) ∧ Kp [] w w' :=
  run_true follows_mixed plans_ok sums0_ok known_run (fun _ => 0) (fun x hx => by simp at hx) (xs := []) rfl w

/-- a sum with letters in it; and that known is true -/
noncomputable def sums1 : Sums := fun f l => Bool.rec (motive := fun _ => Option AV) (Bool.rec (motive := fun _ => Option AV) none (sumFold l) (Nat.beq f 117)) (match l with | [] => some (.bool (.lit true)) | _ => none) (Nat.beq f 19)
theorem known_enter (w : World) : (callFunc 19 #[]).run Try.prog w = .ok (.enter 19 #[]) w := by
  unfold callFunc
  rw [Sem.run_bind]
  have h1 : (Try.f19.name == "runtime.NumGoroutine") = false := by kernel_rfl
  have h2 : Try.f19.body.isNone = false := by kernel_rfl
  simp only [program, Sem.run, Result.andThen_ok, Try.func19, h1, h2, Bool.false_eq_true, if_false]
  rfl
theorem sums1_ok : SumsOk Try.prog sums1 := by
  intro f args v h φ ρ xs w hx
  unfold sums1 at h
  cases hf : Nat.beq f 19 with
  | true =>
    rw [hf] at h
    rw [natBeq] at hf
    have hf := of_decide_eq_true hf
    subst hf
    cases args with
    | nil =>
      cases h
      simp only [concL, Option.some.injEq] at hx
      subst hx
      exact ⟨known_enter w, _, rfl, known_any w⟩
    | cons a l => cases h
  | false =>
    rw [hf] at h
    cases hf2 : Nat.beq f 117 with
    | false => rw [hf2] at h; cases h
    | true =>
      rw [hf2] at h
      rw [natBeq] at hf2
      have hf2 := of_decide_eq_true hf2
      subst hf2
      exact sumFold_ok h w hx
end Go.Proofs.Ytdklpcjipkhenaa
