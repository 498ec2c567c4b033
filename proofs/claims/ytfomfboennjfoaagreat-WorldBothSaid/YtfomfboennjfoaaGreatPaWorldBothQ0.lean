/-
  WorldBoth: runs, PL, PH, AZ, AL, BZ, BL.
-/
import Derived.Test.YtfomfboennjfoaaGreatCg
import Derived.Test.YtfomfboennjfoaaGreatPlsOk
import Derived.Test.YtfomfboennjfoaaGreatSgJS
set_option linter.unusedVariables false
set_option linter.unusedSimpArgs false
namespace Go.Proofs.YtfomfboennjfoaaGreat.worldBoth
open Go

def pPL_dead : List (List (SB × Bool)) := []
noncomputable def pPL_tree : R := fillT endT []
set_option maxRecDepth 1000000 in
theorem pPL_run  : evCall Tryz.prog plans worldBoth.j.sumsG 100000 6 [.int .i64 (.var 0), .osl 300 1 303, .osl 304 2 307] (s0 [] [[(.negSucc 9223372036854775807), (.ofNat 0), (.ofNat 0)]] [((.negSucc 9223372036854775807), (.ofNat 0)), ((.ofNat 0), (.ofNat 9223372036854775807)), ((.ofNat 0), (.ofNat 9223372036854775807))]) finK = pPL_tree := by kernel_rfl
set_option maxRecDepth 1000000 in
theorem pPL_ok : okTree pPL_tree true [] pPL_dead = true := by kernel_rfl
theorem pPL_any (w : World) (a0 : Int) (h0 : (-9223372036854775808) ≤ a0 ∧ a0 ≤ 0) (p1 : Option Addr) (n1 c1 : Nat) (h1 : 0 ≤ (n1 : Int) ∧ (n1 : Int) ≤ 9223372036854775807) (p2 : Option Addr) (n2 c2 : Nat) (h2 : 0 ≤ (n2 : Int) ∧ (n2 : Int) ≤ 9223372036854775807) : Calls Tryz.prog 6 #[.int .i64 a0, .slice p1 n1 c1, .slice p2 n2 c2] w fun e w' => e = .returned (.bool true) ∧ Kp [] w w' := by
  exact run_boolF (ds := pPL_dead) follows_mixed plans_ok worldBoth.j.sumsG_ok (pPL_run ) pPL_ok (rhoG [a0, (n1 : Int), (n2 : Int)] [] [(p1, c1), (p2, c2)]) (fun x hx => by cases hx) (rgOk_cons ⟨h0.1, h0.2⟩ (rgOk_cons ⟨h1.1, h1.2⟩ (rgOk_cons ⟨h2.1, h2.2⟩ (rgOk_nil)))) (fun d hd => by simp [pPL_dead] at hd) (xs := [.int .i64 a0, .slice p1 n1 c1, .slice p2 n2 c2]) (concL_mk rfl (concL_mk (conc_osl (k := 0) (by decide) rfl rfl) (concL_mk (conc_osl (k := 1) (by decide) rfl rfl) (rfl)))) w (foOk_rhoG (fun x hx => by cases hx))

def pPH_dead : List (List (SB × Bool)) := []
noncomputable def pPH_tree : R := fillT endT []
set_option maxRecDepth 1000000 in
theorem pPH_run  : evCall Tryz.prog plans worldBoth.j.sumsG 100000 6 [.int .i64 (.var 0), .osl 300 1 303, .osl 304 2 307] (s0 [] [[(.ofNat 65536), (.ofNat 0), (.ofNat 0)]] [((.ofNat 65536), (.ofNat 9223372036854775807)), ((.ofNat 0), (.ofNat 9223372036854775807)), ((.ofNat 0), (.ofNat 9223372036854775807))]) finK = pPH_tree := by kernel_rfl
set_option maxRecDepth 1000000 in
theorem pPH_ok : okTree pPH_tree true [] pPH_dead = true := by kernel_rfl
theorem pPH_any (w : World) (a0 : Int) (h0 : 65536 ≤ a0 ∧ a0 ≤ 9223372036854775807) (p1 : Option Addr) (n1 c1 : Nat) (h1 : 0 ≤ (n1 : Int) ∧ (n1 : Int) ≤ 9223372036854775807) (p2 : Option Addr) (n2 c2 : Nat) (h2 : 0 ≤ (n2 : Int) ∧ (n2 : Int) ≤ 9223372036854775807) : Calls Tryz.prog 6 #[.int .i64 a0, .slice p1 n1 c1, .slice p2 n2 c2] w fun e w' => e = .returned (.bool true) ∧ Kp [] w w' := by
  exact run_boolF (ds := pPH_dead) follows_mixed plans_ok worldBoth.j.sumsG_ok (pPH_run ) pPH_ok (rhoG [a0, (n1 : Int), (n2 : Int)] [] [(p1, c1), (p2, c2)]) (fun x hx => by cases hx) (rgOk_cons ⟨h0.1, h0.2⟩ (rgOk_cons ⟨h1.1, h1.2⟩ (rgOk_cons ⟨h2.1, h2.2⟩ (rgOk_nil)))) (fun d hd => by simp [pPH_dead] at hd) (xs := [.int .i64 a0, .slice p1 n1 c1, .slice p2 n2 c2]) (concL_mk rfl (concL_mk (conc_osl (k := 0) (by decide) rfl rfl) (concL_mk (conc_osl (k := 1) (by decide) rfl rfl) (rfl)))) w (foOk_rhoG (fun x hx => by cases hx))

def pAZ_dead : List (List (SB × Bool)) := []
noncomputable def pAZ_tree : R := fillT (.fork (.cmp .lss (.lit (.ofNat 4000)) (.var 2)) endT endT) []
set_option maxRecDepth 1000000 in
theorem pAZ_run  : evCall Tryz.prog plans worldBoth.j.sumsG 100000 6 [.int .i64 (.var 0), .osl 300 1 303, .osl 304 2 307] (s0 [] [[(.ofNat 1), (.ofNat 0), (.ofNat 0)], [(.ofNat 1), (.ofNat 0), (.ofNat 4001)]] [((.ofNat 1), (.ofNat 65535)), ((.ofNat 0), (.ofNat 0)), ((.ofNat 0), (.ofNat 9223372036854775807))]) finK = pAZ_tree := by kernel_rfl
set_option maxRecDepth 1000000 in
theorem pAZ_ok : okTree pAZ_tree true [] pAZ_dead = true := by kernel_rfl
theorem pAZ_any (w : World) (a0 : Int) (h0 : 1 ≤ a0 ∧ a0 ≤ 65535) (p1 : Option Addr) (n1 c1 : Nat) (h1 : 0 ≤ (n1 : Int) ∧ (n1 : Int) ≤ 0) (p2 : Option Addr) (n2 c2 : Nat) (h2 : 0 ≤ (n2 : Int) ∧ (n2 : Int) ≤ 9223372036854775807) : Calls Tryz.prog 6 #[.int .i64 a0, .slice p1 n1 c1, .slice p2 n2 c2] w fun e w' => e = .returned (.bool true) ∧ Kp [] w w' := by
  exact run_boolF (ds := pAZ_dead) follows_mixed plans_ok worldBoth.j.sumsG_ok (pAZ_run ) pAZ_ok (rhoG [a0, (n1 : Int), (n2 : Int)] [] [(p1, c1), (p2, c2)]) (fun x hx => by cases hx) (rgOk_cons ⟨h0.1, h0.2⟩ (rgOk_cons ⟨h1.1, h1.2⟩ (rgOk_cons ⟨h2.1, h2.2⟩ (rgOk_nil)))) (fun d hd => by simp [pAZ_dead] at hd) (xs := [.int .i64 a0, .slice p1 n1 c1, .slice p2 n2 c2]) (concL_mk rfl (concL_mk (conc_osl (k := 0) (by decide) rfl rfl) (concL_mk (conc_osl (k := 1) (by decide) rfl rfl) (rfl)))) w (foOk_rhoG (fun x hx => by cases hx))

def pAL_dead : List (List (SB × Bool)) := []
noncomputable def pAL_tree : R := fillT endT []
set_option maxRecDepth 1000000 in
theorem pAL_run  : evCall Tryz.prog plans worldBoth.j.sumsG 100000 6 [.int .i64 (.var 0), .osl 300 1 303, .osl 304 2 307] (s0 [] [[(.ofNat 1), (.ofNat 4001), (.ofNat 0)]] [((.ofNat 1), (.ofNat 65535)), ((.ofNat 4001), (.ofNat 9223372036854775807)), ((.ofNat 0), (.ofNat 9223372036854775807))]) finK = pAL_tree := by kernel_rfl
set_option maxRecDepth 1000000 in
theorem pAL_ok : okTree pAL_tree true [] pAL_dead = true := by kernel_rfl
theorem pAL_any (w : World) (a0 : Int) (h0 : 1 ≤ a0 ∧ a0 ≤ 65535) (p1 : Option Addr) (n1 c1 : Nat) (h1 : 4001 ≤ (n1 : Int) ∧ (n1 : Int) ≤ 9223372036854775807) (p2 : Option Addr) (n2 c2 : Nat) (h2 : 0 ≤ (n2 : Int) ∧ (n2 : Int) ≤ 9223372036854775807) : Calls Tryz.prog 6 #[.int .i64 a0, .slice p1 n1 c1, .slice p2 n2 c2] w fun e w' => e = .returned (.bool true) ∧ Kp [] w w' := by
  exact run_boolF (ds := pAL_dead) follows_mixed plans_ok worldBoth.j.sumsG_ok (pAL_run ) pAL_ok (rhoG [a0, (n1 : Int), (n2 : Int)] [] [(p1, c1), (p2, c2)]) (fun x hx => by cases hx) (rgOk_cons ⟨h0.1, h0.2⟩ (rgOk_cons ⟨h1.1, h1.2⟩ (rgOk_cons ⟨h2.1, h2.2⟩ (rgOk_nil)))) (fun d hd => by simp [pAL_dead] at hd) (xs := [.int .i64 a0, .slice p1 n1 c1, .slice p2 n2 c2]) (concL_mk rfl (concL_mk (conc_osl (k := 0) (by decide) rfl rfl) (concL_mk (conc_osl (k := 1) (by decide) rfl rfl) (rfl)))) w (foOk_rhoG (fun x hx => by cases hx))

def pBZ_dead : List (List (SB × Bool)) := []
noncomputable def pBZ_tree : R := fillT endT []
set_option maxRecDepth 1000000 in
theorem pBZ_run  : evCall Tryz.prog plans worldBoth.j.sumsG 100000 6 [.int .i64 (.var 0), .osl 300 1 303, .osl 304 2 307] (s0 [] [[(.ofNat 1), (.ofNat 1), (.ofNat 0)]] [((.ofNat 1), (.ofNat 65535)), ((.ofNat 1), (.ofNat 4000)), ((.ofNat 0), (.ofNat 0))]) finK = pBZ_tree := by kernel_rfl
set_option maxRecDepth 1000000 in
theorem pBZ_ok : okTree pBZ_tree true [] pBZ_dead = true := by kernel_rfl
theorem pBZ_any (w : World) (a0 : Int) (h0 : 1 ≤ a0 ∧ a0 ≤ 65535) (p1 : Option Addr) (n1 c1 : Nat) (h1 : 1 ≤ (n1 : Int) ∧ (n1 : Int) ≤ 4000) (p2 : Option Addr) (n2 c2 : Nat) (h2 : 0 ≤ (n2 : Int) ∧ (n2 : Int) ≤ 0) : Calls Tryz.prog 6 #[.int .i64 a0, .slice p1 n1 c1, .slice p2 n2 c2] w fun e w' => e = .returned (.bool true) ∧ Kp [] w w' := by
  exact run_boolF (ds := pBZ_dead) follows_mixed plans_ok worldBoth.j.sumsG_ok (pBZ_run ) pBZ_ok (rhoG [a0, (n1 : Int), (n2 : Int)] [] [(p1, c1), (p2, c2)]) (fun x hx => by cases hx) (rgOk_cons ⟨h0.1, h0.2⟩ (rgOk_cons ⟨h1.1, h1.2⟩ (rgOk_cons ⟨h2.1, h2.2⟩ (rgOk_nil)))) (fun d hd => by simp [pBZ_dead] at hd) (xs := [.int .i64 a0, .slice p1 n1 c1, .slice p2 n2 c2]) (concL_mk rfl (concL_mk (conc_osl (k := 0) (by decide) rfl rfl) (concL_mk (conc_osl (k := 1) (by decide) rfl rfl) (rfl)))) w (foOk_rhoG (fun x hx => by cases hx))

def pBL_dead : List (List (SB × Bool)) := []
noncomputable def pBL_tree : R := fillT endT []
set_option maxRecDepth 1000000 in
theorem pBL_run  : evCall Tryz.prog plans worldBoth.j.sumsG 100000 6 [.int .i64 (.var 0), .osl 300 1 303, .osl 304 2 307] (s0 [] [[(.ofNat 1), (.ofNat 1), (.ofNat 4001)]] [((.ofNat 1), (.ofNat 65535)), ((.ofNat 1), (.ofNat 4000)), ((.ofNat 4001), (.ofNat 9223372036854775807))]) finK = pBL_tree := by kernel_rfl
set_option maxRecDepth 1000000 in
theorem pBL_ok : okTree pBL_tree true [] pBL_dead = true := by kernel_rfl
theorem pBL_any (w : World) (a0 : Int) (h0 : 1 ≤ a0 ∧ a0 ≤ 65535) (p1 : Option Addr) (n1 c1 : Nat) (h1 : 1 ≤ (n1 : Int) ∧ (n1 : Int) ≤ 4000) (p2 : Option Addr) (n2 c2 : Nat) (h2 : 4001 ≤ (n2 : Int) ∧ (n2 : Int) ≤ 9223372036854775807) : Calls Tryz.prog 6 #[.int .i64 a0, .slice p1 n1 c1, .slice p2 n2 c2] w fun e w' => e = .returned (.bool true) ∧ Kp [] w w' := by
  exact run_boolF (ds := pBL_dead) follows_mixed plans_ok worldBoth.j.sumsG_ok (pBL_run ) pBL_ok (rhoG [a0, (n1 : Int), (n2 : Int)] [] [(p1, c1), (p2, c2)]) (fun x hx => by cases hx) (rgOk_cons ⟨h0.1, h0.2⟩ (rgOk_cons ⟨h1.1, h1.2⟩ (rgOk_cons ⟨h2.1, h2.2⟩ (rgOk_nil)))) (fun d hd => by simp [pBL_dead] at hd) (xs := [.int .i64 a0, .slice p1 n1 c1, .slice p2 n2 c2]) (concL_mk rfl (concL_mk (conc_osl (k := 0) (by decide) rfl rfl) (concL_mk (conc_osl (k := 1) (by decide) rfl rfl) (rfl)))) w (foOk_rhoG (fun x hx => by cases hx))

end Go.Proofs.YtfomfboennjfoaaGreat.worldBoth
