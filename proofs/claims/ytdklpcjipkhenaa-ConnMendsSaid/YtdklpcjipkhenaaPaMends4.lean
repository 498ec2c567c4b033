/-
  ConnMends: a run, k from 18 to 20.
-/
import Derived.Test.YtdklpcjipkhenaaRf
set_option linter.unusedVariables false
set_option linter.unusedSimpArgs false
namespace Go.Proofs.Ytdklpcjipkhenaa.connMends
open Go

def p4_tree : R := .done (.bool (.lit .true)) ⟨.nil, 0, ⟨[], [], []⟩⟩
set_option maxRecDepth 1000000 in
theorem p4_run : evCall Try.prog plans sumsR 100000 12 [.int .i64 (.var 0)] (s0 [] [[(.ofNat 18)]] [((.ofNat 18), (.ofNat 20))]) finK = p4_tree := by kernel_rfl
theorem p4_any (a : Int) (h : 18 ≤ a ∧ a ≤ 20) (w : World) : Calls Try.prog 12 #[.int .i64 a] w fun e w' => e = .returned (.bool true) ∧ Kp [] w w' :=
  run_bool (ds := []) follows_mixed plans_ok sumsR_ok p4_run (by kernel_rfl) (fun _ => a) (fun x hx => by cases hx) (rgOk_one ⟨h.1, h.2⟩) (fun d hd => by cases hd) (xs := [.int .i64 a]) rfl w

end Go.Proofs.Ytdklpcjipkhenaa.connMends
