/-
  HostHolds: too many numbers, or no port.
-/
import Derived.Test.YtoimjmmbppikoaaGreatCg
import Derived.Test.YtoimjmmbppikoaaGreatPlsOk
import Derived.Test.YtoimjmmbppikoaaGreatK19
set_option linter.unusedVariables false
set_option linter.unusedSimpArgs false
namespace Go.Proofs.YtoimjmmbppikoaaGreat
open Go

theorem rgOk_rhoG {n : Nat} {port a b c d : Int} {q : Option Addr} {cp : Nat} (hn : a ≤ (n : Int) ∧ (n : Int) ≤ b) (hp : c ≤ port ∧ port ≤ d) : RgOk (rhoG [(n : Int), port] [] [(q, cp)]) [(a, b), (c, d)] := by
  intro i l h hi
  match i, hi with
  | 0, hi => cases hi; exact hn
  | 1, hi => cases hi; exact hp
  | k + 2, hi => cases hi
theorem xL_ok : okT2 0 0 0 (isB true) (evCall Tryz.prog plans sumsK19 100000 3 [.osl 300 0 303, .int .i64 (.var 1)] (s0 [] [[]] [(.ofNat (nat_lit 301), .ofNat (nat_lit 9223372036854775807)), (.negSucc (nat_lit 9223372036854775807), .ofNat (nat_lit 9223372036854775807))]) finK) [] = true := by kernel_rfl
theorem xL_any (w : World) (q : Option Addr) (n c : Nat) (port : Int) (hn : 301 ≤ (n : Int) ∧ (n : Int) ≤ 9223372036854775807) (hp : (-9223372036854775808) ≤ port ∧ port ≤ 9223372036854775807) : Calls Tryz.prog 3 #[.slice q n c, .int .i64 port] w fun e w' => e = .returned (.bool true) ∧ Kp [] w w' := by
  refine run_bool2P follows_mixed plans_ok sumsK19_ok xL_ok (rhoG [(n : Int), port] [] [(q, c)]) (fun x hx => by cases hx) (rgOk_rhoG hn hp) (.inl rfl) (xs := [.slice q n c, .int .i64 port]) ?_ w (foOk_rhoG (fun r hr => by cases hr))
  exact concL_cons.2 ⟨_, _, conc_osl (ms := [(n : Int), port]) (rs := []) (ads := [(q, c)]) (k := 0) (i := 0) (by decide) rfl rfl, rfl, rfl⟩
theorem xA_ok : okT2 0 0 0 (isB true) (evCall Tryz.prog plans sumsK19 100000 3 [.osl 300 0 303, .int .i64 (.var 1)] (s0 [] [[]] [(.ofNat (nat_lit 0), .ofNat (nat_lit 300)), (.negSucc (nat_lit 9223372036854775807), .ofNat (nat_lit 0))]) finK) [] = true := by kernel_rfl
theorem xA_any (w : World) (q : Option Addr) (n c : Nat) (port : Int) (hn : 0 ≤ (n : Int) ∧ (n : Int) ≤ 300) (hp : (-9223372036854775808) ≤ port ∧ port ≤ 0) : Calls Tryz.prog 3 #[.slice q n c, .int .i64 port] w fun e w' => e = .returned (.bool true) ∧ Kp [] w w' := by
  refine run_bool2P follows_mixed plans_ok sumsK19_ok xA_ok (rhoG [(n : Int), port] [] [(q, c)]) (fun x hx => by cases hx) (rgOk_rhoG hn hp) (.inl rfl) (xs := [.slice q n c, .int .i64 port]) ?_ w (foOk_rhoG (fun r hr => by cases hr))
  exact concL_cons.2 ⟨_, _, conc_osl (ms := [(n : Int), port]) (rs := []) (ads := [(q, c)]) (k := 0) (i := 0) (by decide) rfl rfl, rfl, rfl⟩
theorem xB_ok : okT2 0 0 0 (isB true) (evCall Tryz.prog plans sumsK19 100000 3 [.osl 300 0 303, .int .i64 (.var 1)] (s0 [] [[]] [(.ofNat (nat_lit 0), .ofNat (nat_lit 300)), (.ofNat (nat_lit 65536), .ofNat (nat_lit 9223372036854775807))]) finK) [] = true := by kernel_rfl
theorem xB_any (w : World) (q : Option Addr) (n c : Nat) (port : Int) (hn : 0 ≤ (n : Int) ∧ (n : Int) ≤ 300) (hp : 65536 ≤ port ∧ port ≤ 9223372036854775807) : Calls Tryz.prog 3 #[.slice q n c, .int .i64 port] w fun e w' => e = .returned (.bool true) ∧ Kp [] w w' := by
  refine run_bool2P follows_mixed plans_ok sumsK19_ok xB_ok (rhoG [(n : Int), port] [] [(q, c)]) (fun x hx => by cases hx) (rgOk_rhoG hn hp) (.inl rfl) (xs := [.slice q n c, .int .i64 port]) ?_ w (foOk_rhoG (fun r hr => by cases hr))
  exact concL_cons.2 ⟨_, _, conc_osl (ms := [(n : Int), port]) (rs := []) (ads := [(q, c)]) (k := 0) (i := 0) (by decide) rfl rfl, rfl, rfl⟩

end Go.Proofs.YtoimjmmbppikoaaGreat
