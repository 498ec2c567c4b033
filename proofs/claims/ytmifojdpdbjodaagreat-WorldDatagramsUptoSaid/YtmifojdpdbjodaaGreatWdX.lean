/-
  WorldDatagrams: too many datagrams, or no port.
-/
import Derived.Test.YtmifojdpdbjodaaGreatCg
import Derived.Test.YtmifojdpdbjodaaGreatPlsOk
import Derived.Test.YtmifojdpdbjodaaGreatK24
set_option linter.unusedVariables false
set_option linter.unusedSimpArgs false
namespace Go.Proofs.YtmifojdpdbjodaaGreat
open Go

theorem rgOk_rhoP {n : Nat} {port a b c d : Int} {q : Option Addr} {cp : Nat} (hp : a ≤ port ∧ port ≤ b) (hn : c ≤ (n : Int) ∧ (n : Int) ≤ d) : RgOk (rhoG [port, (n : Int)] [] [(q, cp)]) [(a, b), (c, d)] := by
  intro i l h hi
  match i, hi with
  | 0, hi => cases hi; exact hp
  | 1, hi => cases hi; exact hn
  | k + 2, hi => cases hi
theorem xL_ok : okT2 0 0 0 (isB true) (evCall Tryz.prog plans sumsK24 100000 3 [.int .i64 (.var 0), .osl 300 1 303] (s0 [] [[]] [(.ofNat (nat_lit 1), .ofNat (nat_lit 65535)), (.ofNat (nat_lit 11), .ofNat (nat_lit 9223372036854775807))]) finK) [] = true := by kernel_rfl
theorem xL_any (w : World) (q : Option Addr) (n c : Nat) (port : Int) (hp : 1 ≤ port ∧ port ≤ 65535) (hn : 11 ≤ (n : Int) ∧ (n : Int) ≤ 9223372036854775807) : Calls Tryz.prog 3 #[.int .i64 port, .slice q n c] w fun e w' => e = .returned (.bool true) ∧ Kp [] w w' := by
  refine run_bool2P (by kernel_rfl) plans_ok sumsK24_ok xL_ok (rhoG [port, (n : Int)] [] [(q, c)]) (fun x hx => by cases hx) (rgOk_rhoP hp hn) (.inl rfl) (xs := [.int .i64 port, .slice q n c]) ?_ w (foOk_rhoG (fun r hr => by cases hr))
  exact concL_mk rfl (concL_mk (conc_osl (ms := [port, (n : Int)]) (rs := []) (ads := [(q, c)]) (k := 0) (i := 1) (by decide) rfl rfl) rfl)
theorem xA_ok : okT2 0 0 0 (isB true) (evCall Tryz.prog plans sumsK24 100000 3 [.int .i64 (.var 0), .osl 300 1 303] (s0 [] [[]] [(.negSucc (nat_lit 9223372036854775807), .ofNat (nat_lit 0)), (.ofNat (nat_lit 0), .ofNat (nat_lit 9223372036854775807))]) finK) [] = true := by kernel_rfl
theorem xA_any (w : World) (q : Option Addr) (n c : Nat) (port : Int) (hp : (-9223372036854775808) ≤ port ∧ port ≤ 0) (hn : 0 ≤ (n : Int) ∧ (n : Int) ≤ 9223372036854775807) : Calls Tryz.prog 3 #[.int .i64 port, .slice q n c] w fun e w' => e = .returned (.bool true) ∧ Kp [] w w' := by
  refine run_bool2P (by kernel_rfl) plans_ok sumsK24_ok xA_ok (rhoG [port, (n : Int)] [] [(q, c)]) (fun x hx => by cases hx) (rgOk_rhoP hp hn) (.inl rfl) (xs := [.int .i64 port, .slice q n c]) ?_ w (foOk_rhoG (fun r hr => by cases hr))
  exact concL_mk rfl (concL_mk (conc_osl (ms := [port, (n : Int)]) (rs := []) (ads := [(q, c)]) (k := 0) (i := 1) (by decide) rfl rfl) rfl)
theorem xB_ok : okT2 0 0 0 (isB true) (evCall Tryz.prog plans sumsK24 100000 3 [.int .i64 (.var 0), .osl 300 1 303] (s0 [] [[]] [(.ofNat (nat_lit 65536), .ofNat (nat_lit 9223372036854775807)), (.ofNat (nat_lit 0), .ofNat (nat_lit 9223372036854775807))]) finK) [] = true := by kernel_rfl
theorem xB_any (w : World) (q : Option Addr) (n c : Nat) (port : Int) (hp : 65536 ≤ port ∧ port ≤ 9223372036854775807) (hn : 0 ≤ (n : Int) ∧ (n : Int) ≤ 9223372036854775807) : Calls Tryz.prog 3 #[.int .i64 port, .slice q n c] w fun e w' => e = .returned (.bool true) ∧ Kp [] w w' := by
  refine run_bool2P (by kernel_rfl) plans_ok sumsK24_ok xB_ok (rhoG [port, (n : Int)] [] [(q, c)]) (fun x hx => by cases hx) (rgOk_rhoP hp hn) (.inl rfl) (xs := [.int .i64 port, .slice q n c]) ?_ w (foOk_rhoG (fun r hr => by cases hr))
  exact concL_mk rfl (concL_mk (conc_osl (ms := [port, (n : Int)]) (rs := []) (ads := [(q, c)]) (k := 0) (i := 1) (by decide) rfl rfl) rfl)

end Go.Proofs.YtmifojdpdbjodaaGreat
