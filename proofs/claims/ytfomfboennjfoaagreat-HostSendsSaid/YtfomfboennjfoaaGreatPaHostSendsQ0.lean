/-
  HostSends: runs, LF, LD, PL, PH.
-/
import Derived.Test.YtfomfboennjfoaaGreatCg
import Derived.Test.YtfomfboennjfoaaGreatPlsOk
import Derived.Test.YtfomfboennjfoaaGreatSgHS
import Derived.Test.YtfomfboennjfoaaGreatSpu
set_option linter.unusedVariables false
set_option linter.unusedSimpArgs false
namespace Go.Proofs.YtfomfboennjfoaaGreat.hostSends
open Go

def pLF_dead : List (List (SB × Bool)) := []
noncomputable def pLF_tree : R := fillT endT []
set_option maxRecDepth 1000000 in
theorem pLF_run  : evCall Tryz.prog plans sumsK19 100000 3 [.osl 300 0 303, .osl 304 1 307, .int .i64 (.var 2)] (s0 [] [[(.ofNat 1001), (.ofNat 0), (.negSucc 9223372036854775807)]] [((.ofNat 1001), (.ofNat 9223372036854775807)), ((.ofNat 0), (.ofNat 9223372036854775807)), ((.negSucc 9223372036854775807), (.ofNat 9223372036854775807))]) finK = pLF_tree := by kernel_rfl
set_option maxRecDepth 1000000 in
theorem pLF_ok : okTree pLF_tree true [] pLF_dead = true := by kernel_rfl
theorem pLF_any (w : World) (p0 : Option Addr) (n0 c0 : Nat) (h0 : 1001 ≤ (n0 : Int) ∧ (n0 : Int) ≤ 9223372036854775807) (p1 : Option Addr) (n1 c1 : Nat) (h1 : 0 ≤ (n1 : Int) ∧ (n1 : Int) ≤ 9223372036854775807) (a2 : Int) (h2 : (-9223372036854775808) ≤ a2 ∧ a2 ≤ 9223372036854775807) : Calls Tryz.prog 3 #[.slice p0 n0 c0, .slice p1 n1 c1, .int .i64 a2] w fun e w' => e = .returned (.bool true) ∧ Kp [] w w' := by
  exact run_boolF (ds := pLF_dead) follows_mixed plans_ok sumsK19_ok (pLF_run ) pLF_ok (rhoG [(n0 : Int), (n1 : Int), a2] [] [(p0, c0), (p1, c1)]) (fun x hx => by cases hx) (rgOk_cons ⟨h0.1, h0.2⟩ (rgOk_cons ⟨h1.1, h1.2⟩ (rgOk_cons ⟨h2.1, h2.2⟩ (rgOk_nil)))) (fun d hd => by simp [pLF_dead] at hd) (xs := [.slice p0 n0 c0, .slice p1 n1 c1, .int .i64 a2]) (concL_mk (conc_osl (k := 0) (by decide) rfl rfl) (concL_mk (conc_osl (k := 1) (by decide) rfl rfl) (concL_mk rfl (rfl)))) w (foOk_rhoG (fun x hx => by cases hx))

def pLD_dead : List (List (SB × Bool)) := []
noncomputable def pLD_tree : R := fillT endT []
set_option maxRecDepth 1000000 in
theorem pLD_run  : evCall Tryz.prog plans sumsK19 100000 3 [.osl 300 0 303, .osl 304 1 307, .int .i64 (.var 2)] (s0 [] [[(.ofNat 0), (.ofNat 20001), (.negSucc 9223372036854775807)]] [((.ofNat 0), (.ofNat 1000)), ((.ofNat 20001), (.ofNat 9223372036854775807)), ((.negSucc 9223372036854775807), (.ofNat 9223372036854775807))]) finK = pLD_tree := by kernel_rfl
set_option maxRecDepth 1000000 in
theorem pLD_ok : okTree pLD_tree true [] pLD_dead = true := by kernel_rfl
theorem pLD_any (w : World) (p0 : Option Addr) (n0 c0 : Nat) (h0 : 0 ≤ (n0 : Int) ∧ (n0 : Int) ≤ 1000) (p1 : Option Addr) (n1 c1 : Nat) (h1 : 20001 ≤ (n1 : Int) ∧ (n1 : Int) ≤ 9223372036854775807) (a2 : Int) (h2 : (-9223372036854775808) ≤ a2 ∧ a2 ≤ 9223372036854775807) : Calls Tryz.prog 3 #[.slice p0 n0 c0, .slice p1 n1 c1, .int .i64 a2] w fun e w' => e = .returned (.bool true) ∧ Kp [] w w' := by
  exact run_boolF (ds := pLD_dead) follows_mixed plans_ok sumsK19_ok (pLD_run ) pLD_ok (rhoG [(n0 : Int), (n1 : Int), a2] [] [(p0, c0), (p1, c1)]) (fun x hx => by cases hx) (rgOk_cons ⟨h0.1, h0.2⟩ (rgOk_cons ⟨h1.1, h1.2⟩ (rgOk_cons ⟨h2.1, h2.2⟩ (rgOk_nil)))) (fun d hd => by simp [pLD_dead] at hd) (xs := [.slice p0 n0 c0, .slice p1 n1 c1, .int .i64 a2]) (concL_mk (conc_osl (k := 0) (by decide) rfl rfl) (concL_mk (conc_osl (k := 1) (by decide) rfl rfl) (concL_mk rfl (rfl)))) w (foOk_rhoG (fun x hx => by cases hx))

def pPL_dead : List (List (SB × Bool)) := []
noncomputable def pPL_tree : R := fillT endT []
set_option maxRecDepth 1000000 in
theorem pPL_run  : evCall Tryz.prog plans sumsK19 100000 3 [.osl 300 0 303, .osl 304 1 307, .int .i64 (.var 2)] (s0 [] [[(.ofNat 0), (.ofNat 0), (.negSucc 9223372036854775807)]] [((.ofNat 0), (.ofNat 1000)), ((.ofNat 0), (.ofNat 20000)), ((.negSucc 9223372036854775807), (.ofNat 0))]) finK = pPL_tree := by kernel_rfl
set_option maxRecDepth 1000000 in
theorem pPL_ok : okTree pPL_tree true [] pPL_dead = true := by kernel_rfl
theorem pPL_any (w : World) (p0 : Option Addr) (n0 c0 : Nat) (h0 : 0 ≤ (n0 : Int) ∧ (n0 : Int) ≤ 1000) (p1 : Option Addr) (n1 c1 : Nat) (h1 : 0 ≤ (n1 : Int) ∧ (n1 : Int) ≤ 20000) (a2 : Int) (h2 : (-9223372036854775808) ≤ a2 ∧ a2 ≤ 0) : Calls Tryz.prog 3 #[.slice p0 n0 c0, .slice p1 n1 c1, .int .i64 a2] w fun e w' => e = .returned (.bool true) ∧ Kp [] w w' := by
  exact run_boolF (ds := pPL_dead) follows_mixed plans_ok sumsK19_ok (pPL_run ) pPL_ok (rhoG [(n0 : Int), (n1 : Int), a2] [] [(p0, c0), (p1, c1)]) (fun x hx => by cases hx) (rgOk_cons ⟨h0.1, h0.2⟩ (rgOk_cons ⟨h1.1, h1.2⟩ (rgOk_cons ⟨h2.1, h2.2⟩ (rgOk_nil)))) (fun d hd => by simp [pPL_dead] at hd) (xs := [.slice p0 n0 c0, .slice p1 n1 c1, .int .i64 a2]) (concL_mk (conc_osl (k := 0) (by decide) rfl rfl) (concL_mk (conc_osl (k := 1) (by decide) rfl rfl) (concL_mk rfl (rfl)))) w (foOk_rhoG (fun x hx => by cases hx))

def pPH_dead : List (List (SB × Bool)) := []
noncomputable def pPH_tree : R := fillT endT []
set_option maxRecDepth 1000000 in
theorem pPH_run  : evCall Tryz.prog plans sumsK19 100000 3 [.osl 300 0 303, .osl 304 1 307, .int .i64 (.var 2)] (s0 [] [[(.ofNat 0), (.ofNat 0), (.ofNat 65536)]] [((.ofNat 0), (.ofNat 1000)), ((.ofNat 0), (.ofNat 20000)), ((.ofNat 65536), (.ofNat 9223372036854775807))]) finK = pPH_tree := by kernel_rfl
set_option maxRecDepth 1000000 in
theorem pPH_ok : okTree pPH_tree true [] pPH_dead = true := by kernel_rfl
theorem pPH_any (w : World) (p0 : Option Addr) (n0 c0 : Nat) (h0 : 0 ≤ (n0 : Int) ∧ (n0 : Int) ≤ 1000) (p1 : Option Addr) (n1 c1 : Nat) (h1 : 0 ≤ (n1 : Int) ∧ (n1 : Int) ≤ 20000) (a2 : Int) (h2 : 65536 ≤ a2 ∧ a2 ≤ 9223372036854775807) : Calls Tryz.prog 3 #[.slice p0 n0 c0, .slice p1 n1 c1, .int .i64 a2] w fun e w' => e = .returned (.bool true) ∧ Kp [] w w' := by
  exact run_boolF (ds := pPH_dead) follows_mixed plans_ok sumsK19_ok (pPH_run ) pPH_ok (rhoG [(n0 : Int), (n1 : Int), a2] [] [(p0, c0), (p1, c1)]) (fun x hx => by cases hx) (rgOk_cons ⟨h0.1, h0.2⟩ (rgOk_cons ⟨h1.1, h1.2⟩ (rgOk_cons ⟨h2.1, h2.2⟩ (rgOk_nil)))) (fun d hd => by simp [pPH_dead] at hd) (xs := [.slice p0 n0 c0, .slice p1 n1 c1, .int .i64 a2]) (concL_mk (conc_osl (k := 0) (by decide) rfl rfl) (concL_mk (conc_osl (k := 1) (by decide) rfl rfl) (concL_mk rfl (rfl)))) w (foOk_rhoG (fun x hx => by cases hx))

end Go.Proofs.YtfomfboennjfoaaGreat.hostSends
