/-
  ConnKeeps: runs, H.
-/
import Derived.Test.YtffadpfkdphhgaaK17
import Derived.Test.YtffadpfkdphhgaaRs
import Derived.Test.YtffadpfkdphhgaaPlsOk
set_option linter.unusedVariables false
set_option linter.unusedSimpArgs false
namespace Go.Proofs.Ytffadpfkdphhgaa.connKeeps
open Go

def pH_dead : List (List (SB × Bool)) := []
def pH_tree : R := (.done (.bool (.lit .true)) ⟨.nil, 0, ⟨[], [], []⟩⟩)
set_option maxRecDepth 1000000 in
theorem pH_run : evCall Try.prog plans sumsK17 100000 5 [.int .i64 (.var 0)] (s0 [] [[(.ofNat 1001)]] [((.ofNat 1001), (.ofNat 9223372036854775807))]) finK = pH_tree := by kernel_rfl
set_option maxRecDepth 1000000 in
theorem pH_ok : okTree pH_tree true [] pH_dead = true := by kernel_rfl
theorem pH_any (a0 : Int) (h0 : 1001 ≤ a0 ∧ a0 ≤ 9223372036854775807) (w : World) : Calls Try.prog 5 #[.int .i64 a0] w fun e w' => e = .returned (.bool true) ∧ Kp [] w w' := by
  exact run_bool (ds := pH_dead) follows_mixed plans_ok sumsK17_ok (pH_run) pH_ok (fun i => if i = 0 then a0 else 0) (fun x hx => by cases hx) (rgOk_cons (⟨h0.1, h0.2⟩) (rgOk_nil)) (fun d hd => by simp [pH_dead] at hd) (xs := [.int .i64 a0]) (by rfl) w

end Go.Proofs.Ytffadpfkdphhgaa.connKeeps
