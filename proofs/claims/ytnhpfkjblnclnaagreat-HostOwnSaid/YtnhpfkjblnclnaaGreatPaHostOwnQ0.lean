/-
  HostOwn: runs, L, PL, PH, NL.
-/
import Derived.Test.YtnhpfkjblnclnaaGreatCg
import Derived.Test.YtnhpfkjblnclnaaGreatPlsOk
import Derived.Test.YtnhpfkjblnclnaaGreatSgMS
set_option linter.unusedVariables false
set_option linter.unusedSimpArgs false
namespace Go.Proofs.YtnhpfkjblnclnaaGreat.hostOwn
open Go

def pL_dead : List (List (SB × Bool)) := []
noncomputable def pL_tree : R := fillT endT []
set_option maxRecDepth 1000000 in
theorem pL_run  : evCall Tryz.prog plans hostOwn.m.sumsG 100000 3 [.osl 300 0 303, .int .i64 (.var 1), .int .i64 (.var 2)] (s0 [] [[(.ofNat 2001), (.negSucc 9223372036854775807), (.negSucc 9223372036854775807)]] [((.ofNat 2001), (.ofNat 9223372036854775807)), ((.negSucc 9223372036854775807), (.ofNat 9223372036854775807)), ((.negSucc 9223372036854775807), (.ofNat 9223372036854775807))]) finK = pL_tree := by kernel_rfl
set_option maxRecDepth 1000000 in
theorem pL_ok : okTree pL_tree true [] pL_dead = true := by kernel_rfl
theorem pL_any (w : World) (p0 : Option Addr) (n0 c0 : Nat) (h0 : 2001 ≤ (n0 : Int) ∧ (n0 : Int) ≤ 9223372036854775807) (a1 : Int) (h1 : (-9223372036854775808) ≤ a1 ∧ a1 ≤ 9223372036854775807) (a2 : Int) (h2 : (-9223372036854775808) ≤ a2 ∧ a2 ≤ 9223372036854775807) : Calls Tryz.prog 3 #[.slice p0 n0 c0, .int .i64 a1, .int .i64 a2] w fun e w' => e = .returned (.bool true) ∧ Kp [] w w' := by
  exact run_boolF (ds := pL_dead) follows_mixed plans_ok hostOwn.m.sumsG_ok (pL_run ) pL_ok (rhoG [(n0 : Int), a1, a2] [] [(p0, c0)]) (fun x hx => by cases hx) (rgOk_cons ⟨h0.1, h0.2⟩ (rgOk_cons ⟨h1.1, h1.2⟩ (rgOk_cons ⟨h2.1, h2.2⟩ (rgOk_nil)))) (fun d hd => by simp [pL_dead] at hd) (xs := [.slice p0 n0 c0, .int .i64 a1, .int .i64 a2]) (concL_mk (conc_osl (k := 0) (by decide) rfl rfl) (concL_mk rfl (concL_mk rfl (rfl)))) w (foOk_rhoG (fun x hx => by cases hx))

def pPL_dead : List (List (SB × Bool)) := []
noncomputable def pPL_tree : R := fillT endT []
set_option maxRecDepth 1000000 in
theorem pPL_run  : evCall Tryz.prog plans hostOwn.m.sumsG 100000 3 [.osl 300 0 303, .int .i64 (.var 1), .int .i64 (.var 2)] (s0 [] [[(.ofNat 0), (.negSucc 9223372036854775807), (.negSucc 9223372036854775807)]] [((.ofNat 0), (.ofNat 2000)), ((.negSucc 9223372036854775807), (.ofNat 0)), ((.negSucc 9223372036854775807), (.ofNat 9223372036854775807))]) finK = pPL_tree := by kernel_rfl
set_option maxRecDepth 1000000 in
theorem pPL_ok : okTree pPL_tree true [] pPL_dead = true := by kernel_rfl
theorem pPL_any (w : World) (p0 : Option Addr) (n0 c0 : Nat) (h0 : 0 ≤ (n0 : Int) ∧ (n0 : Int) ≤ 2000) (a1 : Int) (h1 : (-9223372036854775808) ≤ a1 ∧ a1 ≤ 0) (a2 : Int) (h2 : (-9223372036854775808) ≤ a2 ∧ a2 ≤ 9223372036854775807) : Calls Tryz.prog 3 #[.slice p0 n0 c0, .int .i64 a1, .int .i64 a2] w fun e w' => e = .returned (.bool true) ∧ Kp [] w w' := by
  exact run_boolF (ds := pPL_dead) follows_mixed plans_ok hostOwn.m.sumsG_ok (pPL_run ) pPL_ok (rhoG [(n0 : Int), a1, a2] [] [(p0, c0)]) (fun x hx => by cases hx) (rgOk_cons ⟨h0.1, h0.2⟩ (rgOk_cons ⟨h1.1, h1.2⟩ (rgOk_cons ⟨h2.1, h2.2⟩ (rgOk_nil)))) (fun d hd => by simp [pPL_dead] at hd) (xs := [.slice p0 n0 c0, .int .i64 a1, .int .i64 a2]) (concL_mk (conc_osl (k := 0) (by decide) rfl rfl) (concL_mk rfl (concL_mk rfl (rfl)))) w (foOk_rhoG (fun x hx => by cases hx))

def pPH_dead : List (List (SB × Bool)) := []
noncomputable def pPH_tree : R := fillT endT []
set_option maxRecDepth 1000000 in
theorem pPH_run  : evCall Tryz.prog plans hostOwn.m.sumsG 100000 3 [.osl 300 0 303, .int .i64 (.var 1), .int .i64 (.var 2)] (s0 [] [[(.ofNat 0), (.ofNat 65536), (.negSucc 9223372036854775807)]] [((.ofNat 0), (.ofNat 2000)), ((.ofNat 65536), (.ofNat 9223372036854775807)), ((.negSucc 9223372036854775807), (.ofNat 9223372036854775807))]) finK = pPH_tree := by kernel_rfl
set_option maxRecDepth 1000000 in
theorem pPH_ok : okTree pPH_tree true [] pPH_dead = true := by kernel_rfl
theorem pPH_any (w : World) (p0 : Option Addr) (n0 c0 : Nat) (h0 : 0 ≤ (n0 : Int) ∧ (n0 : Int) ≤ 2000) (a1 : Int) (h1 : 65536 ≤ a1 ∧ a1 ≤ 9223372036854775807) (a2 : Int) (h2 : (-9223372036854775808) ≤ a2 ∧ a2 ≤ 9223372036854775807) : Calls Tryz.prog 3 #[.slice p0 n0 c0, .int .i64 a1, .int .i64 a2] w fun e w' => e = .returned (.bool true) ∧ Kp [] w w' := by
  exact run_boolF (ds := pPH_dead) follows_mixed plans_ok hostOwn.m.sumsG_ok (pPH_run ) pPH_ok (rhoG [(n0 : Int), a1, a2] [] [(p0, c0)]) (fun x hx => by cases hx) (rgOk_cons ⟨h0.1, h0.2⟩ (rgOk_cons ⟨h1.1, h1.2⟩ (rgOk_cons ⟨h2.1, h2.2⟩ (rgOk_nil)))) (fun d hd => by simp [pPH_dead] at hd) (xs := [.slice p0 n0 c0, .int .i64 a1, .int .i64 a2]) (concL_mk (conc_osl (k := 0) (by decide) rfl rfl) (concL_mk rfl (concL_mk rfl (rfl)))) w (foOk_rhoG (fun x hx => by cases hx))

def pNL_dead : List (List (SB × Bool)) := []
noncomputable def pNL_tree : R := fillT endT []
set_option maxRecDepth 1000000 in
theorem pNL_run  : evCall Tryz.prog plans hostOwn.m.sumsG 100000 3 [.osl 300 0 303, .int .i64 (.var 1), .int .i64 (.var 2)] (s0 [] [[(.ofNat 0), (.ofNat 1), (.negSucc 9223372036854775807)]] [((.ofNat 0), (.ofNat 2000)), ((.ofNat 1), (.ofNat 65535)), ((.negSucc 9223372036854775807), (.negSucc 0))]) finK = pNL_tree := by kernel_rfl
set_option maxRecDepth 1000000 in
theorem pNL_ok : okTree pNL_tree true [] pNL_dead = true := by kernel_rfl
theorem pNL_any (w : World) (p0 : Option Addr) (n0 c0 : Nat) (h0 : 0 ≤ (n0 : Int) ∧ (n0 : Int) ≤ 2000) (a1 : Int) (h1 : 1 ≤ a1 ∧ a1 ≤ 65535) (a2 : Int) (h2 : (-9223372036854775808) ≤ a2 ∧ a2 ≤ (-1)) : Calls Tryz.prog 3 #[.slice p0 n0 c0, .int .i64 a1, .int .i64 a2] w fun e w' => e = .returned (.bool true) ∧ Kp [] w w' := by
  exact run_boolF (ds := pNL_dead) follows_mixed plans_ok hostOwn.m.sumsG_ok (pNL_run ) pNL_ok (rhoG [(n0 : Int), a1, a2] [] [(p0, c0)]) (fun x hx => by cases hx) (rgOk_cons ⟨h0.1, h0.2⟩ (rgOk_cons ⟨h1.1, h1.2⟩ (rgOk_cons ⟨h2.1, h2.2⟩ (rgOk_nil)))) (fun d hd => by simp [pNL_dead] at hd) (xs := [.slice p0 n0 c0, .int .i64 a1, .int .i64 a2]) (concL_mk (conc_osl (k := 0) (by decide) rfl rfl) (concL_mk rfl (concL_mk rfl (rfl)))) w (foOk_rhoG (fun x hx => by cases hx))

end Go.Proofs.YtnhpfkjblnclnaaGreat.hostOwn
