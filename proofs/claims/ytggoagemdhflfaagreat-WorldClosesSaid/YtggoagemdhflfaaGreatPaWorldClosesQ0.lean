/-
  WorldCloses: runs, A, L, H.
-/
import Derived.Test.YtggoagemdhflfaaGreatSgCS
import Derived.Test.YtggoagemdhflfaaGreatRs
import Derived.Test.YtggoagemdhflfaaGreatPlsOk
import Derived.Test.YtggoagemdhflfaaGreatDed
set_option linter.unusedVariables false
set_option linter.unusedSimpArgs false
namespace Go.Proofs.YtggoagemdhflfaaGreat.worldCloses
open Go

set_option maxRecDepth 1000000 in
theorem pA_ok : okT2 0 (.ofNat 0) 0 (isB true) (evCall Tryz.prog plans worldCloses.sumsG 100000 11 [.int .i64 (.var 0)] (s0 [] [[]] [((.ofNat 1), (.ofNat 65535))]) finK) [] = true := by kernel_rfl
theorem pA_any (a0 : Int) (h0 : 1 ≤ a0 ∧ a0 ≤ 65535) (w : World) : Calls Tryz.prog 11 #[.int .i64 a0] w fun e w' => e = .returned (.bool true) ∧ Kp [] w w' := by
  exact run_bool2 follows_mixed plans_ok worldCloses.sumsG_ok (pA_ok) (fun i => if i = 0 then a0 else 0) (rgOk_cons (⟨h0.1, h0.2⟩) (rgOk_nil)) (.inl rfl) (xs := [.int .i64 a0]) (by rfl) w

set_option maxRecDepth 1000000 in
theorem pL_ok : okT2 0 (.ofNat 0) 0 (isB true) (evCall Tryz.prog plans worldCloses.sumsG 100000 11 [.int .i64 (.var 0)] (s0 [] [[]] [((.negSucc 9223372036854775807), (.ofNat 0))]) finK) [] = true := by kernel_rfl
theorem pL_any (a0 : Int) (h0 : (-9223372036854775808) ≤ a0 ∧ a0 ≤ 0) (w : World) : Calls Tryz.prog 11 #[.int .i64 a0] w fun e w' => e = .returned (.bool true) ∧ Kp [] w w' := by
  exact run_bool2 follows_mixed plans_ok worldCloses.sumsG_ok (pL_ok) (fun i => if i = 0 then a0 else 0) (rgOk_cons (⟨h0.1, h0.2⟩) (rgOk_nil)) (.inl rfl) (xs := [.int .i64 a0]) (by rfl) w

set_option maxRecDepth 1000000 in
theorem pH_ok : okT2 0 (.ofNat 0) 0 (isB true) (evCall Tryz.prog plans worldCloses.sumsG 100000 11 [.int .i64 (.var 0)] (s0 [] [[]] [((.ofNat 65536), (.ofNat 9223372036854775807))]) finK) [] = true := by kernel_rfl
theorem pH_any (a0 : Int) (h0 : 65536 ≤ a0 ∧ a0 ≤ 9223372036854775807) (w : World) : Calls Tryz.prog 11 #[.int .i64 a0] w fun e w' => e = .returned (.bool true) ∧ Kp [] w w' := by
  exact run_bool2 follows_mixed plans_ok worldCloses.sumsG_ok (pH_ok) (fun i => if i = 0 then a0 else 0) (rgOk_cons (⟨h0.1, h0.2⟩) (rgOk_nil)) (.inl rfl) (xs := [.int .i64 a0]) (by rfl) w

end Go.Proofs.YtggoagemdhflfaaGreat.worldCloses
