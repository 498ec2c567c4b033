/-
  HubTwice: a run, F.
-/
import Derived.Test.YtfiefdkgneilkaaGreatSxu
import Derived.Test.YtfiefdkgneilkaaGreatRs
import Derived.Test.YtfiefdkgneilkaaGreatPlsOk
set_option linter.unusedVariables false
set_option linter.unusedSimpArgs false
namespace Go.Proofs.YtfiefdkgneilkaaGreat.hubTwice
open Go

def pF_tree : R := .done (.bool (.lit .true)) ⟨.nil, 0, ⟨[], [], []⟩⟩
set_option maxRecDepth 1000000 in
theorem pF_run : evCall Tryz.prog plans sumsB 100000 4 [.int .i64 (.var 0), .bool (.lit false)] (s0 [] [[(.ofNat 1), (.ofNat 0)]] [((.ofNat 1), (.ofNat 65535)), ((.ofNat 0), (.ofNat 1))]) finK = pF_tree := by kernel_rfl
theorem pF_any (a : Int) (h : 1 ≤ a ∧ a ≤ 65535) (w : World) : Calls Tryz.prog 4 #[.int .i64 a, .bool false] w fun e w' => e = .returned (.bool true) ∧ Kp [] w w' :=
  run_bool (ds := []) follows_mixed plans_ok sumsB_ok pF_run (by kernel_rfl) (fun i => if i = 0 then a else if i = 1 then 0 else 0) (fun x hx => by cases hx) (rgOk_cons ⟨h.1, h.2⟩ (rgOk_cons (by show (0 : Int) ≤ 0 ∧ (0 : Int) ≤ 1; decide) (rgOk_nil))) (fun d hd => by cases hd) (xs := [.int .i64 a, .bool false]) (by rfl) w

end Go.Proofs.YtfiefdkgneilkaaGreat.hubTwice
