/-
  ConnGivesUp: a run, from 0 to 1099511527776.
-/
import Derived.Test.YtdklpcjipkhenaaQf
set_option linter.unusedVariables false
set_option linter.unusedSimpArgs false
namespace Go.Proofs.Ytdklpcjipkhenaa.connGivesUp
open Go

def pM_tree : R := .done (.bool (.lit .true)) ⟨.nil, 0, ⟨[], [], []⟩⟩
set_option maxRecDepth 1000000 in
theorem pM_run : evCall Try.prog plans sumsR 100000 13 [.int .i64 (.var 0)] (s0 [] [[(.ofNat 0)]] [((.ofNat 0), (.ofNat 1099511527776))]) finK = pM_tree := by kernel_rfl
theorem pM_any (a : Int) (h : 0 ≤ a ∧ a ≤ 1099511527776) (w : World) : Calls Try.prog 13 #[.int .i64 a] w fun e w' => e = .returned (.bool true) ∧ Kp [] w w' :=
  run_bool (ds := []) follows_mixed plans_ok sumsR_ok pM_run (by kernel_rfl) (fun _ => a) (fun x hx => by cases hx) (rgOk_one ⟨h.1, h.2⟩) (fun d hd => by cases hd) (xs := [.int .i64 a]) rfl w

end Go.Proofs.Ytdklpcjipkhenaa.connGivesUp
