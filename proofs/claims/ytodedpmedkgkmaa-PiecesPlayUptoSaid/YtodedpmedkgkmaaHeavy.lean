/-
  wharflaw13.heavy: what it says of a script.
-/
import Derived.Test.YtodedpmedkgkmaaKnown
import Derived.Test.YtodedpmedkgkmaaRingRef
set_option linter.unusedVariables false
set_option linter.unusedSimpArgs false
namespace Go.Proofs.Ytodedpmedkgkmaa
open Go.RowKit

/-- a step that came in -/
structure StepD where
  kind : Int
  a : Int
  n : Int
  v : Value
  b : List UInt8

/-- steps that came in, at the place p -/
def StepsAt (w : World) (p : Option Addr) (n : Nat) (D : Nat → StepD) : Prop :=
  ∀ i, i < n → ∃ g o, p = some ⟨g, o, none⟩ ∧ w.cell? ⟨g, o + i * 4, none⟩ = some (.int .i64 (D i).kind) ∧ w.cell? ⟨g, o + i * 4 + 1, none⟩ = some (.int .i64 (D i).a) ∧ w.cell? ⟨g, o + i * 4 + 2, none⟩ = some (.int .i64 (D i).n) ∧
    w.cell? ⟨g, o + i * 4 + 3, none⟩ = some (D i).v ∧ Byt w (D i).v (D i).b ∧ (D i).b.length ≤ 140737488355328

theorem StepsAt.kp {w w' : World} {p : Option Addr} {n : Nat} {D : Nat → StepD} (h : StepsAt w p n D) (k : Kp [] w w') : StepsAt w' p n D := by
  intro i hi
  obtain ⟨g, o, h0, h1, h2, h3, h4, h5, h6⟩ := h i hi
  exact ⟨g, o, h0, k.cell h1 (by simp), k.cell h2 (by simp), k.cell h3 (by simp), k.cell h4 (by simp), h5.kp k (by simp), h6⟩

set_option maxRecDepth 10000 in
set_option maxHeartbeats 800000 in
theorem heavy_any (p : Option Addr) (n c : Nat) (D : Nat → StepD) (w : World) (hS : StepsAt w p n D) (hn : n ≤ 9223372036854775807) :
    Calls Try.prog 8 #[.slice p n c] w fun e w' => ∃ h : Bool, e = .returned (.bool h) ∧ (h = false → ∀ i, i < n → i < 200 → (D i).b.length ≤ 6000) ∧ Kp [] w w' := by
  have HS := Lib.hid hS
  clear hS
  go_enter Try.func8, Try.ntmps8
  go_wp2
  go_loopw [3, 4] (fun s i wr => ∃ (k m : Nat), k ≤ n ∧ k ≤ 200 ∧ m ≤ 6000 ∧ i = .int .i64 k ∧ s = .int .i64 m ∧ (∀ i, i < k → (D i).b.length ≤ 6000) ∧ ∃ d, wr = w.drewN d) (fun _ i _ => 200 - (intOf i).toNat)
  case atStart => exact ⟨0, 0, Nat.zero_le _, by omega, by omega, rfl, rfl, by omega, 0, rfl⟩
  case round =>
    obtain ⟨k, m, hk, hk2, hm, rfl, rfl, hall, d, rfl⟩ := hrel
    have HA := Lib.hid hall
    clear hall
    by_cases hlt : k < n
    · by_cases h200 : k < 200
      · obtain ⟨g, o, rfl, _, _, _, h4, hb, h6⟩ := HS.out k hlt
        obtain ⟨bp, bc, hv⟩ := hb.shape
        rw [hv] at h4
        have hL := Lib.hid hv
        clear hv hb
        generalize hz : (D k).b.length = z at h4 h6
        have HZ := Lib.hid hz
        clear hz
        by_cases hbig : 6000 < m + z
        · go_wp2
          go_ret
          exact ⟨true, rfl, by simp, (by repeat (first | exact Kp.refl _ _ | assumption | apply Kp.drewN | apply Kp.alloc))⟩
        · go_wp2
          go_roundw
          case rel => exact ⟨k + 1, m + z, by omega, by omega, by omega, by go_num, by go_num, fun i hi => (Nat.lt_or_ge i k).elim (HA.out i) (fun h => by rw [show i = k by omega, HZ.out]; omega), d, rfl⟩
          case measure => simp [intOf]; omega
      · go_wp2
        go_ret
        exact ⟨false, rfl, fun _ i hi h2 => HA.out i (by omega), (by repeat (first | exact Kp.refl _ _ | assumption | apply Kp.drewN | apply Kp.alloc))⟩
    · go_wp2
      go_ret
      exact ⟨false, rfl, fun _ i hi h2 => HA.out i (by omega), (by repeat (first | exact Kp.refl _ _ | assumption | apply Kp.drewN | apply Kp.alloc))⟩

end Go.Proofs.Ytodedpmedkgkmaa
