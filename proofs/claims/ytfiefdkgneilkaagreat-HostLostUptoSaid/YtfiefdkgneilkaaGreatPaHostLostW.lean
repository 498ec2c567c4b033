/-
  HostLost: runs, W.
-/
import Derived.Test.YtfiefdkgneilkaaGreatK19
import Derived.Test.YtfiefdkgneilkaaGreatRs
import Derived.Test.YtfiefdkgneilkaaGreatPlsOk
set_option linter.unusedVariables false
set_option linter.unusedSimpArgs false
namespace Go.Proofs.YtfiefdkgneilkaaGreat.hostLost
open Go

def pW_dead : List (List (SB × Bool)) := []
def pW_tree : R := (.done (.bool (.lit .true)) ⟨.nil, 0, ⟨[], [], []⟩⟩)
set_option maxRecDepth 1000000 in
theorem pW_run : evCall Tryz.prog plans sumsK19 100000 11 [.int .u32 (.lit (.ofNat 167772415))] (s0 [] [[(.ofNat 167772415)]] [((.ofNat 167772415), (.ofNat 167772415))]) finK = pW_tree := by kernel_rfl
set_option maxRecDepth 1000000 in
theorem pW_ok : okTree pW_tree true [] pW_dead = true := by kernel_rfl
theorem pW_any (a0 : Int) (h0 : 167772415 ≤ a0 ∧ a0 ≤ 167772415) (w : World) : Calls Tryz.prog 11 #[.int .u32 a0] w fun e w' => e = .returned (.bool true) ∧ Kp [] w w' := by
  obtain rfl : a0 = 167772415 := by omega
  exact run_bool (ds := pW_dead) follows_mixed plans_ok sumsK19_ok (pW_run) pW_ok (fun i => if i = 0 then 167772415 else 0) (fun x hx => by cases hx) (rgOk_cons (⟨Int.le_refl _, Int.le_refl _⟩) (rgOk_nil)) (fun d hd => by simp [pW_dead] at hd) (xs := [.int .u32 167772415]) (by rfl) w

end Go.Proofs.YtfiefdkgneilkaaGreat.hostLost
