/-
  HubPairs: too many rows.
-/
import Derived.Test.YtooebogidjejoaaGreatCg
import Derived.Test.YtooebogidjejoaaGreatPlsOk
import Derived.Test.YtooebogidjejoaaGreatK18
set_option linter.unusedVariables false
set_option linter.unusedSimpArgs false
namespace Go.Proofs.YtooebogidjejoaaGreat
open Go

theorem rgOk_rhoP {n : Nat} {a b : Int} {q : Option Addr} {cp : Nat} (hn : a ≤ (n : Int) ∧ (n : Int) ≤ b) : RgOk (rhoG [(n : Int)] [] [(q, cp)]) [(a, b)] := by
  intro i l h hi
  match i, hi with
  | 0, hi => cases hi; exact hn
  | k + 1, hi => cases hi
theorem xL_ok : okT2 0 0 0 (isB true) (evCall Tryz.prog plans sumsK18 100000 3 [.osl 300 0 303] (s0 [] [[]] [(.ofNat (nat_lit 31), .ofNat (nat_lit 9223372036854775807))]) finK) [] = true := by kernel_rfl
theorem xL_any (w : World) (q : Option Addr) (n c : Nat) (hn : 31 ≤ (n : Int) ∧ (n : Int) ≤ 9223372036854775807) : Calls Tryz.prog 3 #[.slice q n c] w fun e w' => e = .returned (.bool true) ∧ Kp [] w w' := by
  refine run_bool2P (by kernel_rfl) plans_ok sumsK18_ok xL_ok (rhoG [(n : Int)] [] [(q, c)]) (fun x hx => by cases hx) (rgOk_rhoP hn) (.inl rfl) (xs := [.slice q n c]) ?_ w (foOk_rhoG (fun r hr => by cases hr))
  exact concL_mk (conc_osl (ms := [(n : Int)]) (rs := []) (ads := [(q, c)]) (k := 0) (i := 0) (by decide) rfl rfl) rfl

end Go.Proofs.YtooebogidjejoaaGreat
