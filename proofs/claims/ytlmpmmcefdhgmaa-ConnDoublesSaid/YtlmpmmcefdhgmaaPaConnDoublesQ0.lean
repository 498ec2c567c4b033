/-
  ConnDoubles: runs.
-/
import Derived.Test.YtlmpmmcefdhgmaaSsn
import Derived.Test.YtlmpmmcefdhgmaaPlsOk
import Derived.Test.YtlmpmmcefdhgmaaK17
set_option linter.unusedVariables false
set_option linter.unusedSimpArgs false
namespace Go.Proofs.Ytlmpmmcefdhgmaa.connDoubles
open Go

def pZ_dead : List (List (SB × Bool)) := []
noncomputable def pZ_tree : R := fillT endT []
set_option maxRecDepth 1000000 in
theorem pZ_run : evCall Try.prog plans sumsK17 100000 3 [.raw (.slice none 0 0), .int .i64 (.var 0)] (s0 [] [[(.ofNat 0)]] [((.negSucc 9223372036854775807), (.ofNat 9223372036854775807))]) finK = pZ_tree := by kernel_rfl
set_option maxRecDepth 1000000 in
theorem pZ_ok : okTree pZ_tree true [] pZ_dead = true := by kernel_rfl

theorem pZ_any (m : Int) (hm : -9223372036854775808 ≤ m ∧ m ≤ 9223372036854775807) (w : World) : Calls Try.prog 3 #[.slice none 0 0, .int .i64 m] w fun e w' => e = .returned (.bool true) ∧ Kp [] w w' := by
  exact run_bool (ds := pZ_dead) follows_mixed plans_ok sumsK17_ok (pZ_run) pZ_ok (fun i => if i = 0 then m else 0) (fun x hx => by cases hx) (rgOk_one ⟨hm.1, hm.2⟩) (fun d hd => by simp [pZ_dead] at hd) (xs := [.slice none 0 0, .int .i64 m]) rfl w

def pE_dead : List (List (SB × Bool)) := []
noncomputable def pE_tree : R := fillT endT []
set_option maxRecDepth 1000000 in
theorem pE_run (p : Option Addr) : evCall Try.prog plans sumsK17 100000 3 [.raw (.slice p 0 0), .int .i64 (.var 0)] (s0 [] [[(.ofNat 0)]] [((.negSucc 9223372036854775807), (.ofNat 9223372036854775807))]) finK = pE_tree := by kernel_rfl
set_option maxRecDepth 1000000 in
theorem pE_ok : okTree pE_tree true [] pE_dead = true := by kernel_rfl

theorem pE_any (p : Option Addr) (m : Int) (hm : -9223372036854775808 ≤ m ∧ m ≤ 9223372036854775807) (w : World) : Calls Try.prog 3 #[.slice p 0 0, .int .i64 m] w fun e w' => e = .returned (.bool true) ∧ Kp [] w w' := by
  exact run_bool (ds := pE_dead) follows_mixed plans_ok sumsK17_ok (pE_run p) pE_ok (fun i => if i = 0 then m else 0) (fun x hx => by cases hx) (rgOk_one ⟨hm.1, hm.2⟩) (fun d hd => by simp [pE_dead] at hd) (xs := [.slice p 0 0, .int .i64 m]) rfl w

def pN_dead : List (List (SB × Bool)) := []
noncomputable def pN_tree : R := fillT endT []
set_option maxRecDepth 1000000 in
theorem pN_run : evCall Try.prog plans sumsK17 100000 3 [.fsl 32 zeroS zeroS (.var 32), .int .i64 (.var 0)] (s0 [] [[(.ofNat 0), (.ofNat 0), (.ofNat 0), (.ofNat 0), (.ofNat 0), (.ofNat 0), (.ofNat 0), (.ofNat 0), (.ofNat 0), (.ofNat 0), (.ofNat 0), (.ofNat 0), (.ofNat 0), (.ofNat 0), (.ofNat 0), (.ofNat 0), (.ofNat 0), (.ofNat 0), (.ofNat 0), (.ofNat 0), (.ofNat 0), (.ofNat 0), (.ofNat 0), (.ofNat 0), (.ofNat 0), (.ofNat 0), (.ofNat 0), (.ofNat 0), (.ofNat 0), (.ofNat 0), (.ofNat 0), (.ofNat 0), (.ofNat 0)]] [((.negSucc 9223372036854775807), (.ofNat 9223372036854775807)), ((.ofNat 0), (.ofNat 0)), ((.ofNat 0), (.ofNat 0)), ((.ofNat 0), (.ofNat 0)), ((.ofNat 0), (.ofNat 0)), ((.ofNat 0), (.ofNat 0)), ((.ofNat 0), (.ofNat 0)), ((.ofNat 0), (.ofNat 0)), ((.ofNat 0), (.ofNat 0)), ((.ofNat 0), (.ofNat 0)), ((.ofNat 0), (.ofNat 0)), ((.ofNat 0), (.ofNat 0)), ((.ofNat 0), (.ofNat 0)), ((.ofNat 0), (.ofNat 0)), ((.ofNat 0), (.ofNat 0)), ((.ofNat 0), (.ofNat 0)), ((.ofNat 0), (.ofNat 0)), ((.ofNat 0), (.ofNat 0)), ((.ofNat 0), (.ofNat 0)), ((.ofNat 0), (.ofNat 0)), ((.ofNat 0), (.ofNat 0)), ((.ofNat 0), (.ofNat 0)), ((.ofNat 0), (.ofNat 0)), ((.ofNat 0), (.ofNat 0)), ((.ofNat 0), (.ofNat 0)), ((.ofNat 0), (.ofNat 0)), ((.ofNat 0), (.ofNat 0)), ((.ofNat 0), (.ofNat 0)), ((.ofNat 0), (.ofNat 0)), ((.ofNat 0), (.ofNat 0)), ((.ofNat 0), (.ofNat 0)), ((.ofNat 0), (.ofNat 0)), ((.ofNat 0), (.ofNat 0))]) finK = pN_tree := by kernel_rfl
set_option maxRecDepth 1000000 in
theorem pN_ok : okTree pN_tree true [] pN_dead = true := by kernel_rfl

theorem pN_any {b o n c : Nat} {zs : List Int} {w : World} (hl : (0 : Int) ≤ n ∧ (n : Int) ≤ 0) (hn : n ≤ c) (hz : zs.length = c) (hc : ∀ i, i < zs.length → w.cell? ⟨b, o + i, none⟩ = some (.int .u8 (zs.getD i 0))) (hw : ∀ z ∈ zs, 0 ≤ z ∧ z ≤ 255) (m : Int) (hm : -9223372036854775808 ≤ m ∧ m ≤ 9223372036854775807) : Calls Try.prog 3 #[.slice (some ⟨b, o, none⟩) n c, .int .i64 m] w fun e w' => e = .returned (.bool true) ∧ Kp [] w w' := by
  exact run_boolF (ds := pN_dead) follows_mixed plans_ok sumsK17_ok pN_run pN_ok (rhoN m n b o c zs) (fun x hx => by cases hx) (rgOk_rhoN hm hl) (fun d hd => by simp [pN_dead] at hd) (xs := [.slice (some ⟨b, o, none⟩) n c, .int .i64 m]) (by simp only [concL, conc_rhoN hn]; rfl) w (foOk_rhoN hn hz hc hw)

def pG_dead : List (List (SB × Bool)) := []
noncomputable def pG_tree : R := fillT endT []
set_option maxRecDepth 1000000 in
theorem pG_run (p : Option Addr) (c : Nat) : evCall Try.prog plans sumsK17 100000 3 [.osl p 1 c, .int .i64 (.var 0)] (s0 [] [[(.ofNat 0), (.ofNat 1001)]] [((.negSucc 9223372036854775807), (.ofNat 9223372036854775807)), ((.ofNat 1001), (.ofNat 9223372036854775807))]) finK = pG_tree := by kernel_rfl
set_option maxRecDepth 1000000 in
theorem pG_ok : okTree pG_tree true [] pG_dead = true := by kernel_rfl

theorem pG_any (p : Option Addr) (n c : Nat) (h : 1000 + 1 ≤ n ∧ (n : Int) ≤ 9223372036854775807) (m : Int) (hm : -9223372036854775808 ≤ m ∧ m ≤ 9223372036854775807) (w : World) : Calls Try.prog 3 #[.slice p n c, .int .i64 m] w fun e w' => e = .returned (.bool true) ∧ Kp [] w w' := by
  exact run_bool (ds := pG_dead) follows_mixed plans_ok sumsK17_ok (pG_run p c) pG_ok (fun i => if i = 0 then m else if i = 1 then (n : Int) else 0) (fun x hx => by cases hx) (rgOk_cons ⟨hm.1, hm.2⟩ (rgOk_one ⟨by show (1000 + 1 : Int) ≤ (n : Int); omega, h.2⟩)) (fun d hd => by simp [pG_dead] at hd) (xs := [.slice p n c, .int .i64 m]) rfl w (fun a => by show (if 503 + 4 * a = 0 then m else if 503 + 4 * a = 1 then (n : Int) else 0) ≠ 1; rw [if_neg (by omega), if_neg (by omega)]; decide)

def pL_dead : List (List (SB × Bool)) := []
noncomputable def pL_tree : R := fillT endT []
set_option maxRecDepth 1000000 in
theorem pL_run : evCall Try.prog plans sumsK17 100000 3 [.fsl 32 zeroS zeroS (.var 32), .int .i64 (.var 0)] (s0 [] [[(.negSucc 0), (.ofNat 0), (.ofNat 0), (.ofNat 0), (.ofNat 0), (.ofNat 0), (.ofNat 0), (.ofNat 0), (.ofNat 0), (.ofNat 0), (.ofNat 0), (.ofNat 0), (.ofNat 0), (.ofNat 0), (.ofNat 0), (.ofNat 0), (.ofNat 0), (.ofNat 0), (.ofNat 0), (.ofNat 0), (.ofNat 0), (.ofNat 0), (.ofNat 0), (.ofNat 0), (.ofNat 0), (.ofNat 0), (.ofNat 0), (.ofNat 0), (.ofNat 0), (.ofNat 0), (.ofNat 0), (.ofNat 0), (.ofNat 1)]] [((.negSucc 9223372036854775807), (.negSucc 0)), ((.ofNat 0), (.ofNat 0)), ((.ofNat 0), (.ofNat 0)), ((.ofNat 0), (.ofNat 0)), ((.ofNat 0), (.ofNat 0)), ((.ofNat 0), (.ofNat 0)), ((.ofNat 0), (.ofNat 0)), ((.ofNat 0), (.ofNat 0)), ((.ofNat 0), (.ofNat 0)), ((.ofNat 0), (.ofNat 0)), ((.ofNat 0), (.ofNat 0)), ((.ofNat 0), (.ofNat 0)), ((.ofNat 0), (.ofNat 0)), ((.ofNat 0), (.ofNat 0)), ((.ofNat 0), (.ofNat 0)), ((.ofNat 0), (.ofNat 0)), ((.ofNat 0), (.ofNat 0)), ((.ofNat 0), (.ofNat 0)), ((.ofNat 0), (.ofNat 0)), ((.ofNat 0), (.ofNat 0)), ((.ofNat 0), (.ofNat 0)), ((.ofNat 0), (.ofNat 0)), ((.ofNat 0), (.ofNat 0)), ((.ofNat 0), (.ofNat 0)), ((.ofNat 0), (.ofNat 0)), ((.ofNat 0), (.ofNat 0)), ((.ofNat 0), (.ofNat 0)), ((.ofNat 0), (.ofNat 0)), ((.ofNat 0), (.ofNat 0)), ((.ofNat 0), (.ofNat 0)), ((.ofNat 0), (.ofNat 0)), ((.ofNat 0), (.ofNat 0)), ((.ofNat 1), (.ofNat 1000))]) finK = pL_tree := by kernel_rfl
set_option maxRecDepth 1000000 in
theorem pL_ok : okTree pL_tree true [] pL_dead = true := by kernel_rfl

theorem pL_any {b o n c : Nat} {zs : List Int} {w : World} (hl : (1 : Int) ≤ n ∧ (n : Int) ≤ 1000) (hn : n ≤ c) (hz : zs.length = c) (hc : ∀ i, i < zs.length → w.cell? ⟨b, o + i, none⟩ = some (.int .u8 (zs.getD i 0))) (hw : ∀ z ∈ zs, 0 ≤ z ∧ z ≤ 255) (m : Int) (hm : -9223372036854775808 ≤ m ∧ m ≤ -1) : Calls Try.prog 3 #[.slice (some ⟨b, o, none⟩) n c, .int .i64 m] w fun e w' => e = .returned (.bool true) ∧ Kp [] w w' := by
  exact run_boolF (ds := pL_dead) follows_mixed plans_ok sumsK17_ok pL_run pL_ok (rhoN m n b o c zs) (fun x hx => by cases hx) (rgOk_rhoN hm hl) (fun d hd => by simp [pL_dead] at hd) (xs := [.slice (some ⟨b, o, none⟩) n c, .int .i64 m]) (by simp only [concL, conc_rhoN hn]; rfl) w (foOk_rhoN hn hz hc hw)

def pH_dead : List (List (SB × Bool)) := []
noncomputable def pH_tree : R := fillT endT []
set_option maxRecDepth 1000000 in
theorem pH_run : evCall Try.prog plans sumsK17 100000 3 [.fsl 32 zeroS zeroS (.var 32), .int .i64 (.var 0)] (s0 [] [[(.ofNat 21), (.ofNat 0), (.ofNat 0), (.ofNat 0), (.ofNat 0), (.ofNat 0), (.ofNat 0), (.ofNat 0), (.ofNat 0), (.ofNat 0), (.ofNat 0), (.ofNat 0), (.ofNat 0), (.ofNat 0), (.ofNat 0), (.ofNat 0), (.ofNat 0), (.ofNat 0), (.ofNat 0), (.ofNat 0), (.ofNat 0), (.ofNat 0), (.ofNat 0), (.ofNat 0), (.ofNat 0), (.ofNat 0), (.ofNat 0), (.ofNat 0), (.ofNat 0), (.ofNat 0), (.ofNat 0), (.ofNat 0), (.ofNat 1)]] [((.ofNat 21), (.ofNat 9223372036854775807)), ((.ofNat 0), (.ofNat 0)), ((.ofNat 0), (.ofNat 0)), ((.ofNat 0), (.ofNat 0)), ((.ofNat 0), (.ofNat 0)), ((.ofNat 0), (.ofNat 0)), ((.ofNat 0), (.ofNat 0)), ((.ofNat 0), (.ofNat 0)), ((.ofNat 0), (.ofNat 0)), ((.ofNat 0), (.ofNat 0)), ((.ofNat 0), (.ofNat 0)), ((.ofNat 0), (.ofNat 0)), ((.ofNat 0), (.ofNat 0)), ((.ofNat 0), (.ofNat 0)), ((.ofNat 0), (.ofNat 0)), ((.ofNat 0), (.ofNat 0)), ((.ofNat 0), (.ofNat 0)), ((.ofNat 0), (.ofNat 0)), ((.ofNat 0), (.ofNat 0)), ((.ofNat 0), (.ofNat 0)), ((.ofNat 0), (.ofNat 0)), ((.ofNat 0), (.ofNat 0)), ((.ofNat 0), (.ofNat 0)), ((.ofNat 0), (.ofNat 0)), ((.ofNat 0), (.ofNat 0)), ((.ofNat 0), (.ofNat 0)), ((.ofNat 0), (.ofNat 0)), ((.ofNat 0), (.ofNat 0)), ((.ofNat 0), (.ofNat 0)), ((.ofNat 0), (.ofNat 0)), ((.ofNat 0), (.ofNat 0)), ((.ofNat 0), (.ofNat 0)), ((.ofNat 1), (.ofNat 1000))]) finK = pH_tree := by kernel_rfl
set_option maxRecDepth 1000000 in
theorem pH_ok : okTree pH_tree true [] pH_dead = true := by kernel_rfl

theorem pH_any {b o n c : Nat} {zs : List Int} {w : World} (hl : (1 : Int) ≤ n ∧ (n : Int) ≤ 1000) (hn : n ≤ c) (hz : zs.length = c) (hc : ∀ i, i < zs.length → w.cell? ⟨b, o + i, none⟩ = some (.int .u8 (zs.getD i 0))) (hw : ∀ z ∈ zs, 0 ≤ z ∧ z ≤ 255) (m : Int) (hm : 21 ≤ m ∧ m ≤ 9223372036854775807) : Calls Try.prog 3 #[.slice (some ⟨b, o, none⟩) n c, .int .i64 m] w fun e w' => e = .returned (.bool true) ∧ Kp [] w w' := by
  exact run_boolF (ds := pH_dead) follows_mixed plans_ok sumsK17_ok pH_run pH_ok (rhoN m n b o c zs) (fun x hx => by cases hx) (rgOk_rhoN hm hl) (fun d hd => by simp [pH_dead] at hd) (xs := [.slice (some ⟨b, o, none⟩) n c, .int .i64 m]) (by simp only [concL, conc_rhoN hn]; rfl) w (foOk_rhoN hn hz hc hw)

end Go.Proofs.Ytlmpmmcefdhgmaa.connDoubles
