/-
  HostAltered: the kinds of changes.
-/
import Derived.Test.YtjjfmhaakickcaaGreatHbr
set_option linter.unusedVariables false
set_option linter.unusedSimpArgs false
namespace Go.Proofs.YtjjfmhaakickcaaGreat
open Go

theorem co_of {E : SI} {c : Nat → Bool} {o : Nat} (h : (List.range 28).all (fun k => !c (k + o) || (coS (4 + k) E == 1 || coS (4 + k) E == 256)) = true) {j : Nat} (hj : o ≤ j ∧ j < o + 28) (hc : c j = true) : coS (4 + (j - o)) E = 1 ∨ coS (4 + (j - o)) E = 256 := by
  have := List.all_eq_true.1 h (j - o) (List.mem_range.2 (by omega))
  rw [show j - o + o = j by omega, hc] at this
  simpa using this
section
variable {W : World} {ρb : Nat → Int} {L : Nat} {a1 a2 : Int} {d : AV} {dv : Value}

def ipU_ipU : List SI := altB (fun i => decide (1 ≤ i ∧ i ≤ 19)) 0 0 ipU
theorem Beg.k_ipU (B : Beg W ρb L 28 a1 a2 d dv) {len E14 : SI} {rest : List Ch} {lo hi : Int} (hr : endsOk 0 0 0 (runA ⟨posA, len, [.bs ethF] ++ .bs ipU :: rest, [.bs ethF] ++ .bs ipU_ipU :: rest, [notR eIp]⟩ E14 [] (rgL 0 18 lo hi 0 255) d false) ([notR eIp] ++ []) = true) (hlen : ∀ ρ : Nat → Int, ρ 32 = L → 42 ≤ len.ev ρ) (hE : ∀ ρ : Nat → Int, ρ 32 = L → E14.ev ρ = (L + 28 : Nat)) (hlo : lo ≤ L ∧ (L : Int) ≤ hi) (hp : 0 ≤ place a1 (L + 28 : Nat) ∧ place a1 (L + 28 : Nat) ≤ 18) :
    Calls Tryz.prog 3 #[dv, .int .i64 a1, .int .u8 a2, .bool false] W fun e w' => e = .returned (.bool true) ∧ Kp [] W w' := by
  obtain ⟨p, hp'⟩ : ∃ p : Nat, place a1 (L + 28 : Nat) = p := ⟨_, (Int.toNat_of_nonneg (by omega)).symm⟩
  rw [hp'] at hp
  have h32 : 0 ≤ ρb 32 ∧ ρb 32 ≤ 1000 := by rw [B.b32]; have := B.hL; omega
  have hm : (fun i => decide (1 ≤ i ∧ i ≤ 19)) (15 + p - 14) = true := decide_eq_true (by omega)
  have hb : ipU.all byteF = true := by kernel_rfl

  have hu := xor_byte (valA_in (ρb := ρb) hb (15 + p - 14)) B.h2
  have h16 := altX_in (ρb := ρb) (o := 0) (j := 15 + p - 14) hb ⟨hu.1, hu.2.1⟩ 12

  exact B.head (o := 0) (off := 14) (j := 15 + p - 14) (m := (fun i => decide (1 ≤ i ∧ i ≤ 19))) hr rfl (by kernel_rfl) hb hm (fun i hi => by have := of_decide_eq_true hi; omega) (by show 15 + p - 14 < 20; omega) (fun ρ => by kernel_rfl) (by rw [hp']; omega) (fun ρ h => by have := hlen ρ h; omega) hE (by rw [hp']; omega) hlo h16 (fun x hx => by
    obtain rfl : x = notR eIp := by simpa using hx
    exact fact_head hb ⟨by omega, by omega⟩ h32 B.h2 (by kernel_rfl) (by kernel_rfl) (co_of (c := (fun i => decide (1 ≤ i ∧ i ≤ 19))) (by kernel_rfl) ⟨by omega, by omega⟩ hm) (by kernel_rfl) (h0_ip_ipU B.bz h32))

def ipT_ipT : List SI := altB (fun i => decide (1 ≤ i ∧ i ≤ 19)) 0 0 ipT
theorem Beg.k_ipT (B : Beg W ρb L 40 a1 a2 d dv) {len E14 : SI} {rest : List Ch} {lo hi : Int} (hr : endsOk 0 0 0 (runA ⟨posA, len, [.bs ethF] ++ .bs ipT :: rest, [.bs ethF] ++ .bs ipT_ipT :: rest, [notR eIp]⟩ E14 [] (rgL 0 18 lo hi 0 255) d true) ([notR eIp] ++ []) = true) (hlen : ∀ ρ : Nat → Int, ρ 32 = L → 54 ≤ len.ev ρ) (hE : ∀ ρ : Nat → Int, ρ 32 = L → E14.ev ρ = (L + 40 : Nat)) (hlo : lo ≤ L ∧ (L : Int) ≤ hi) (hp : 0 ≤ place a1 (L + 40 : Nat) ∧ place a1 (L + 40 : Nat) ≤ 18) :
    Calls Tryz.prog 3 #[dv, .int .i64 a1, .int .u8 a2, .bool true] W fun e w' => e = .returned (.bool true) ∧ Kp [] W w' := by
  obtain ⟨p, hp'⟩ : ∃ p : Nat, place a1 (L + 40 : Nat) = p := ⟨_, (Int.toNat_of_nonneg (by omega)).symm⟩
  rw [hp'] at hp
  have h32 : 0 ≤ ρb 32 ∧ ρb 32 ≤ 1000 := by rw [B.b32]; have := B.hL; omega
  have hm : (fun i => decide (1 ≤ i ∧ i ≤ 19)) (15 + p - 14) = true := decide_eq_true (by omega)
  have hb : ipT.all byteF = true := by kernel_rfl

  have hu := xor_byte (valA_in (ρb := ρb) hb (15 + p - 14)) B.h2
  have h16 := altX_in (ρb := ρb) (o := 0) (j := 15 + p - 14) hb ⟨hu.1, hu.2.1⟩ 12

  exact B.head (o := 0) (off := 14) (j := 15 + p - 14) (m := (fun i => decide (1 ≤ i ∧ i ≤ 19))) hr rfl (by kernel_rfl) hb hm (fun i hi => by have := of_decide_eq_true hi; omega) (by show 15 + p - 14 < 20; omega) (fun ρ => by kernel_rfl) (by rw [hp']; omega) (fun ρ h => by have := hlen ρ h; omega) hE (by rw [hp']; omega) hlo h16 (fun x hx => by
    obtain rfl : x = notR eIp := by simpa using hx
    exact fact_head hb ⟨by omega, by omega⟩ h32 B.h2 (by kernel_rfl) (by kernel_rfl) (co_of (c := (fun i => decide (1 ≤ i ∧ i ≤ 19))) (by kernel_rfl) ⟨by omega, by omega⟩ hm) (by kernel_rfl) (h0_ip_ipT B.bz h32))

def aU_ipUe : List SI := altB (fun i => decide (15 ≤ i ∧ i ≤ 33)) 14 0 aU
theorem Beg.k_ipUe (B : Beg W ρb L 28 a1 a2 d dv) {len E14 : SI} {rest : List Ch} {lo hi : Int} (hr : endsOk 0 0 0 (runA ⟨posA, len, [] ++ .bs aU :: rest, [] ++ .bs aU_ipUe :: rest, [notR eIp]⟩ E14 [] (rgL 0 18 lo hi 0 255) d false) ([notR eIp] ++ []) = true) (hlen : ∀ ρ : Nat → Int, ρ 32 = L → 60 ≤ len.ev ρ) (hE : ∀ ρ : Nat → Int, ρ 32 = L → E14.ev ρ = (L + 28 : Nat)) (hlo : lo ≤ L ∧ (L : Int) ≤ hi) (hp : 0 ≤ place a1 (L + 28 : Nat) ∧ place a1 (L + 28 : Nat) ≤ 18) :
    Calls Tryz.prog 3 #[dv, .int .i64 a1, .int .u8 a2, .bool false] W fun e w' => e = .returned (.bool true) ∧ Kp [] W w' := by
  obtain ⟨p, hp'⟩ : ∃ p : Nat, place a1 (L + 28 : Nat) = p := ⟨_, (Int.toNat_of_nonneg (by omega)).symm⟩
  rw [hp'] at hp
  have h32 : 0 ≤ ρb 32 ∧ ρb 32 ≤ 1000 := by rw [B.b32]; have := B.hL; omega
  have hm : (fun i => decide (15 ≤ i ∧ i ≤ 33)) (15 + p - 0) = true := decide_eq_true (by omega)
  have hb : aU.all byteF = true := by kernel_rfl

  have hu := xor_byte (valA_in (ρb := ρb) hb (15 + p - 0)) B.h2
  have h16 := altX_in (ρb := ρb) (o := 14) (j := 15 + p - 0) hb ⟨hu.1, hu.2.1⟩ 12

  exact B.head (o := 14) (off := 0) (j := 15 + p - 0) (m := (fun i => decide (15 ≤ i ∧ i ≤ 33))) hr rfl (by kernel_rfl) hb hm (fun i hi => by have := of_decide_eq_true hi; omega) (by show 15 + p - 0 < 60; omega) (fun ρ => by kernel_rfl) (by rw [hp']; omega) (fun ρ h => by have := hlen ρ h; omega) hE (by rw [hp']; omega) hlo h16 (fun x hx => by
    obtain rfl : x = notR eIp := by simpa using hx
    exact fact_head hb ⟨by omega, by omega⟩ h32 B.h2 (by kernel_rfl) (by kernel_rfl) (co_of (c := (fun i => decide (15 ≤ i ∧ i ≤ 33))) (by kernel_rfl) ⟨by omega, by omega⟩ hm) (by kernel_rfl) (h0_ip_aU B.bz h32))

def aT_ipTe : List SI := altB (fun i => decide (15 ≤ i ∧ i ≤ 33)) 14 0 aT
theorem Beg.k_ipTe (B : Beg W ρb L 40 a1 a2 d dv) {len E14 : SI} {rest : List Ch} {lo hi : Int} (hr : endsOk 0 0 0 (runA ⟨posA, len, [] ++ .bs aT :: rest, [] ++ .bs aT_ipTe :: rest, [notR eIp]⟩ E14 [] (rgL 0 18 lo hi 0 255) d true) ([notR eIp] ++ []) = true) (hlen : ∀ ρ : Nat → Int, ρ 32 = L → 60 ≤ len.ev ρ) (hE : ∀ ρ : Nat → Int, ρ 32 = L → E14.ev ρ = (L + 40 : Nat)) (hlo : lo ≤ L ∧ (L : Int) ≤ hi) (hp : 0 ≤ place a1 (L + 40 : Nat) ∧ place a1 (L + 40 : Nat) ≤ 18) :
    Calls Tryz.prog 3 #[dv, .int .i64 a1, .int .u8 a2, .bool true] W fun e w' => e = .returned (.bool true) ∧ Kp [] W w' := by
  obtain ⟨p, hp'⟩ : ∃ p : Nat, place a1 (L + 40 : Nat) = p := ⟨_, (Int.toNat_of_nonneg (by omega)).symm⟩
  rw [hp'] at hp
  have h32 : 0 ≤ ρb 32 ∧ ρb 32 ≤ 1000 := by rw [B.b32]; have := B.hL; omega
  have hm : (fun i => decide (15 ≤ i ∧ i ≤ 33)) (15 + p - 0) = true := decide_eq_true (by omega)
  have hb : aT.all byteF = true := by kernel_rfl

  have hu := xor_byte (valA_in (ρb := ρb) hb (15 + p - 0)) B.h2
  have h16 := altX_in (ρb := ρb) (o := 14) (j := 15 + p - 0) hb ⟨hu.1, hu.2.1⟩ 12

  exact B.head (o := 14) (off := 0) (j := 15 + p - 0) (m := (fun i => decide (15 ≤ i ∧ i ≤ 33))) hr rfl (by kernel_rfl) hb hm (fun i hi => by have := of_decide_eq_true hi; omega) (by show 15 + p - 0 < 60; omega) (fun ρ => by kernel_rfl) (by rw [hp']; omega) (fun ρ h => by have := hlen ρ h; omega) hE (by rw [hp']; omega) hlo h16 (fun x hx => by
    obtain rfl : x = notR eIp := by simpa using hx
    exact fact_head hb ⟨by omega, by omega⟩ h32 B.h2 (by kernel_rfl) (by kernel_rfl) (co_of (c := (fun i => decide (15 ≤ i ∧ i ≤ 33))) (by kernel_rfl) ⟨by omega, by omega⟩ hm) (by kernel_rfl) (h0_ip_aT B.bz h32))

def udU_poU : List SI := altB (fun i => decide (0 ≤ i ∧ i ≤ 3)) 0 0 udU
theorem Beg.k_poU (B : Beg W ρb L 28 a1 a2 d dv) {len E14 : SI} {rest : List Ch} {lo hi : Int} (hr : endsOk 0 0 0 (runA ⟨posA, len, [.bs ethF, .bs ipU] ++ .bs udU :: rest, [.bs ethF, .bs ipU] ++ .bs udU_poU :: rest, [notR ePorts]⟩ E14 [] (rgL 19 22 lo hi 0 255) d false) ([notR ePorts] ++ []) = true) (hlen : ∀ ρ : Nat → Int, ρ 32 = L → 42 ≤ len.ev ρ) (hE : ∀ ρ : Nat → Int, ρ 32 = L → E14.ev ρ = (L + 28 : Nat)) (hlo : lo ≤ L ∧ (L : Int) ≤ hi) (hp : 19 ≤ place a1 (L + 28 : Nat) ∧ place a1 (L + 28 : Nat) ≤ 22) :
    Calls Tryz.prog 3 #[dv, .int .i64 a1, .int .u8 a2, .bool false] W fun e w' => e = .returned (.bool true) ∧ Kp [] W w' := by
  obtain ⟨p, hp'⟩ : ∃ p : Nat, place a1 (L + 28 : Nat) = p := ⟨_, (Int.toNat_of_nonneg (by omega)).symm⟩
  rw [hp'] at hp
  have h32 : 0 ≤ ρb 32 ∧ ρb 32 ≤ 1000 := by rw [B.b32]; have := B.hL; omega
  have hm : (fun i => decide (0 ≤ i ∧ i ≤ 3)) (15 + p - 34) = true := decide_eq_true (by omega)
  have hb : udU.all byteF = true := by kernel_rfl

  have hu := xor_byte (valA_in (ρb := ρb) hb (15 + p - 34)) B.h2
  have h16 := altX_in (ρb := ρb) (o := 0) (j := 15 + p - 34) hb ⟨hu.1, hu.2.1⟩ 12

  exact B.head (o := 0) (off := 34) (j := 15 + p - 34) (m := (fun i => decide (0 ≤ i ∧ i ≤ 3))) hr rfl (by kernel_rfl) hb hm (fun i hi => by have := of_decide_eq_true hi; omega) (by show 15 + p - 34 < 8; omega) (fun ρ => by kernel_rfl) (by rw [hp']; omega) (fun ρ h => by have := hlen ρ h; omega) hE (by rw [hp']; omega) hlo h16 (fun x hx => by
    obtain rfl : x = notR ePorts := by simpa using hx
    exact fact_head hb ⟨by omega, by omega⟩ h32 B.h2 (by kernel_rfl) (by kernel_rfl) (co_of (c := (fun i => decide (0 ≤ i ∧ i ≤ 3))) (by kernel_rfl) ⟨by omega, by omega⟩ hm) (by kernel_rfl) (h0_ports_udU B.bz h32))

def aU_poUe : List SI := altB (fun i => decide (34 ≤ i ∧ i ≤ 37)) 34 0 aU
theorem Beg.k_poUe (B : Beg W ρb L 28 a1 a2 d dv) {len E14 : SI} {rest : List Ch} {lo hi : Int} (hr : endsOk 0 0 0 (runA ⟨posA, len, [] ++ .bs aU :: rest, [] ++ .bs aU_poUe :: rest, [notR ePorts0]⟩ E14 [] (rgL 19 22 lo hi 0 255) d false) ([notR ePorts0] ++ []) = true) (hlen : ∀ ρ : Nat → Int, ρ 32 = L → 60 ≤ len.ev ρ) (hE : ∀ ρ : Nat → Int, ρ 32 = L → E14.ev ρ = (L + 28 : Nat)) (hlo : lo ≤ L ∧ (L : Int) ≤ hi) (hp : 19 ≤ place a1 (L + 28 : Nat) ∧ place a1 (L + 28 : Nat) ≤ 22) :
    Calls Tryz.prog 3 #[dv, .int .i64 a1, .int .u8 a2, .bool false] W fun e w' => e = .returned (.bool true) ∧ Kp [] W w' := by
  obtain ⟨p, hp'⟩ : ∃ p : Nat, place a1 (L + 28 : Nat) = p := ⟨_, (Int.toNat_of_nonneg (by omega)).symm⟩
  rw [hp'] at hp
  have h32 : 0 ≤ ρb 32 ∧ ρb 32 ≤ 1000 := by rw [B.b32]; have := B.hL; omega
  have hm : (fun i => decide (34 ≤ i ∧ i ≤ 37)) (15 + p - 0) = true := decide_eq_true (by omega)
  have hb : aU.all byteF = true := by kernel_rfl

  have hu := xor_byte (valA_in (ρb := ρb) hb (15 + p - 0)) B.h2
  have h16 := altX_in (ρb := ρb) (o := 34) (j := 15 + p - 0) hb ⟨hu.1, hu.2.1⟩ 12

  exact B.head (o := 34) (off := 0) (j := 15 + p - 0) (m := (fun i => decide (34 ≤ i ∧ i ≤ 37))) hr rfl (by kernel_rfl) hb hm (fun i hi => by have := of_decide_eq_true hi; omega) (by show 15 + p - 0 < 60; omega) (fun ρ => by kernel_rfl) (by rw [hp']; omega) (fun ρ h => by have := hlen ρ h; omega) hE (by rw [hp']; omega) hlo h16 (fun x hx => by
    obtain rfl : x = notR ePorts0 := by simpa using hx
    exact fact_head hb ⟨by omega, by omega⟩ h32 B.h2 (by kernel_rfl) (by kernel_rfl) (co_of (c := (fun i => decide (34 ≤ i ∧ i ≤ 37))) (by kernel_rfl) ⟨by omega, by omega⟩ hm) (by kernel_rfl) (h0_ports0_aU B.bz h32))

def tcT_hdT : List SI := altB (fun i => decide (0 ≤ i ∧ i ≤ 19 ∧ i ≠ 12)) 0 0 tcT
theorem Beg.k_hdT (B : Beg W ρb L 40 a1 a2 d dv) {len E14 : SI} {rest : List Ch} {lo hi : Int} (hr : endsOk 0 0 0 (runA ⟨posA, len, [.bs ethF, .bs ipT] ++ .bs tcT :: rest, [.bs ethF, .bs ipT] ++ .bs tcT_hdT :: rest, [notR eTcph]⟩ E14 [] (rgL 19 38 lo hi 0 255) d true) ([notR eTcph] ++ []) = true) (hlen : ∀ ρ : Nat → Int, ρ 32 = L → 54 ≤ len.ev ρ) (hE : ∀ ρ : Nat → Int, ρ 32 = L → E14.ev ρ = (L + 40 : Nat)) (hlo : lo ≤ L ∧ (L : Int) ≤ hi) (hp : 19 ≤ place a1 (L + 40 : Nat) ∧ place a1 (L + 40 : Nat) ≤ 38) (hn : place a1 (L + 40 : Nat) ≠ 31) :
    Calls Tryz.prog 3 #[dv, .int .i64 a1, .int .u8 a2, .bool true] W fun e w' => e = .returned (.bool true) ∧ Kp [] W w' := by
  obtain ⟨p, hp'⟩ : ∃ p : Nat, place a1 (L + 40 : Nat) = p := ⟨_, (Int.toNat_of_nonneg (by omega)).symm⟩
  rw [hp'] at hp hn
  have h32 : 0 ≤ ρb 32 ∧ ρb 32 ≤ 1000 := by rw [B.b32]; have := B.hL; omega
  have hm : (fun i => decide (0 ≤ i ∧ i ≤ 19 ∧ i ≠ 12)) (15 + p - 34) = true := decide_eq_true (by omega)
  have hb : tcT.all byteF = true := by kernel_rfl

  have hu := xor_byte (valA_in (ρb := ρb) hb (15 + p - 34)) B.h2
  have h16 := altX_in (ρb := ρb) (o := 0) (j := 15 + p - 34) hb ⟨hu.1, hu.2.1⟩ 12

  exact B.head (o := 0) (off := 34) (j := 15 + p - 34) (m := (fun i => decide (0 ≤ i ∧ i ≤ 19 ∧ i ≠ 12))) hr rfl (by kernel_rfl) hb hm (fun i hi => by have := of_decide_eq_true hi; omega) (by show 15 + p - 34 < 20; omega) (fun ρ => by kernel_rfl) (by rw [hp']; omega) (fun ρ h => by have := hlen ρ h; omega) hE (by rw [hp']; omega) hlo h16 (fun x hx => by
    obtain rfl : x = notR eTcph := by simpa using hx
    exact fact_head hb ⟨by omega, by omega⟩ h32 B.h2 (by kernel_rfl) (by kernel_rfl) (co_of (c := (fun i => decide (0 ≤ i ∧ i ≤ 19 ∧ i ≠ 12))) (by kernel_rfl) ⟨by omega, by omega⟩ hm) (by kernel_rfl) (h0_tcph_tcT B.bz h32))

def aT_hdTe : List SI := altB (fun i => decide (34 ≤ i ∧ i ≤ 53 ∧ i ≠ 46)) 34 0 aT
theorem Beg.k_hdTe (B : Beg W ρb L 40 a1 a2 d dv) {len E14 : SI} {rest : List Ch} {lo hi : Int} (hr : endsOk 0 0 0 (runA ⟨posA, len, [] ++ .bs aT :: rest, [] ++ .bs aT_hdTe :: rest, [notR eTcph0]⟩ E14 [] (rgL 19 38 lo hi 0 255) d true) ([notR eTcph0] ++ []) = true) (hlen : ∀ ρ : Nat → Int, ρ 32 = L → 60 ≤ len.ev ρ) (hE : ∀ ρ : Nat → Int, ρ 32 = L → E14.ev ρ = (L + 40 : Nat)) (hlo : lo ≤ L ∧ (L : Int) ≤ hi) (hp : 19 ≤ place a1 (L + 40 : Nat) ∧ place a1 (L + 40 : Nat) ≤ 38) (hn : place a1 (L + 40 : Nat) ≠ 31) :
    Calls Tryz.prog 3 #[dv, .int .i64 a1, .int .u8 a2, .bool true] W fun e w' => e = .returned (.bool true) ∧ Kp [] W w' := by
  obtain ⟨p, hp'⟩ : ∃ p : Nat, place a1 (L + 40 : Nat) = p := ⟨_, (Int.toNat_of_nonneg (by omega)).symm⟩
  rw [hp'] at hp hn
  have h32 : 0 ≤ ρb 32 ∧ ρb 32 ≤ 1000 := by rw [B.b32]; have := B.hL; omega
  have hm : (fun i => decide (34 ≤ i ∧ i ≤ 53 ∧ i ≠ 46)) (15 + p - 0) = true := decide_eq_true (by omega)
  have hb : aT.all byteF = true := by kernel_rfl

  have hu := xor_byte (valA_in (ρb := ρb) hb (15 + p - 0)) B.h2
  have h16 := altX_in (ρb := ρb) (o := 34) (j := 15 + p - 0) hb ⟨hu.1, hu.2.1⟩ 12

  exact B.head (o := 34) (off := 0) (j := 15 + p - 0) (m := (fun i => decide (34 ≤ i ∧ i ≤ 53 ∧ i ≠ 46))) hr rfl (by kernel_rfl) hb hm (fun i hi => by have := of_decide_eq_true hi; omega) (by show 15 + p - 0 < 60; omega) (fun ρ => by kernel_rfl) (by rw [hp']; omega) (fun ρ h => by have := hlen ρ h; omega) hE (by rw [hp']; omega) hlo h16 (fun x hx => by
    obtain rfl : x = notR eTcph0 := by simpa using hx
    exact fact_head hb ⟨by omega, by omega⟩ h32 B.h2 (by kernel_rfl) (by kernel_rfl) (co_of (c := (fun i => decide (34 ≤ i ∧ i ≤ 53 ∧ i ≠ 46))) (by kernel_rfl) ⟨by omega, by omega⟩ hm) (by kernel_rfl) (h0_tcph0_aT B.bz h32))

def tcT_loT : List SI := altB (fun i => decide (12 ≤ i ∧ i ≤ 12)) 0 0 tcT
theorem Beg.k_loT (B : Beg W ρb L 40 a1 a2 d dv) {len E14 : SI} {rest : List Ch} {lo hi i0 i1 : Int} (hr : endsOk 0 0 0 (runA ⟨posA, len, [.bs ethF, .bs ipT] ++ .bs tcT :: rest, [.bs ethF, .bs ipT] ++ .bs tcT_loT :: rest, [notR eTcpho]⟩ E14 [] (rgL 31 31 lo hi i0 i1) d true) ([notR eTcpho] ++ []) = true) (hlen : ∀ ρ : Nat → Int, ρ 32 = L → 54 ≤ len.ev ρ) (hE : ∀ ρ : Nat → Int, ρ 32 = L → E14.ev ρ = (L + 40 : Nat)) (hlo : lo ≤ L ∧ (L : Int) ≤ hi) (hp : 31 ≤ place a1 (L + 40 : Nat) ∧ place a1 (L + 40 : Nat) ≤ 31) (hx : i0 ≤ bits .xor .u8 80 a2 ∧ bits .xor .u8 80 a2 ≤ i1) :
    Calls Tryz.prog 3 #[dv, .int .i64 a1, .int .u8 a2, .bool true] W fun e w' => e = .returned (.bool true) ∧ Kp [] W w' := by
  obtain ⟨p, hp'⟩ : ∃ p : Nat, place a1 (L + 40 : Nat) = p := ⟨_, (Int.toNat_of_nonneg (by omega)).symm⟩
  rw [hp'] at hp
  have h32 : 0 ≤ ρb 32 ∧ ρb 32 ≤ 1000 := by rw [B.b32]; have := B.hL; omega
  have hm : (fun i => decide (12 ≤ i ∧ i ≤ 12)) (15 + p - 34) = true := decide_eq_true (by omega)
  have hb : tcT.all byteF = true := by kernel_rfl

  obtain rfl : p = 31 := by omega
  have h16 : i0 ≤ altX ρb tcT 0 (15 + 31 - 34) (bits .xor .u8 (valA ρb tcT (15 + 31 - 34)) a2) 12 ∧ altX ρb tcT 0 (15 + 31 - 34) (bits .xor .u8 (valA ρb tcT (15 + 31 - 34)) a2) 12 ≤ i1 := by
    unfold altX
    rw [if_pos (by decide), show valA ρb tcT (15 + 31 - 34) = 80 by kernel_rfl]
    exact hx

  exact B.head (o := 0) (off := 34) (j := 15 + 31 - 34) (m := (fun i => decide (12 ≤ i ∧ i ≤ 12))) hr rfl (by kernel_rfl) hb hm (fun i hi => by have := of_decide_eq_true hi; omega) (by show 15 + 31 - 34 < 20; omega) (fun ρ => by kernel_rfl) (by rw [hp']; omega) (fun ρ h => by have := hlen ρ h; omega) hE (by rw [hp']; omega) hlo h16 (fun x hx => by
    obtain rfl : x = notR eTcpho := by simpa using hx
    exact fact_head hb ⟨by omega, by omega⟩ h32 B.h2 (by kernel_rfl) (by kernel_rfl) (co_of (c := (fun i => decide (12 ≤ i ∧ i ≤ 12))) (by kernel_rfl) ⟨by omega, by omega⟩ hm) (by kernel_rfl) (h0_tcpho_tcT B.bz h32))

def aT_loTe : List SI := altB (fun i => decide (46 ≤ i ∧ i ≤ 46)) 34 0 aT
theorem Beg.k_loTe (B : Beg W ρb L 40 a1 a2 d dv) {len E14 : SI} {rest : List Ch} {lo hi i0 i1 : Int} (hr : endsOk 0 0 0 (runA ⟨posA, len, [] ++ .bs aT :: rest, [] ++ .bs aT_loTe :: rest, []⟩ E14 [] (rgL 31 31 lo hi i0 i1) d true) ([] ++ []) = true) (hlen : ∀ ρ : Nat → Int, ρ 32 = L → 60 ≤ len.ev ρ) (hE : ∀ ρ : Nat → Int, ρ 32 = L → E14.ev ρ = (L + 40 : Nat)) (hlo : lo ≤ L ∧ (L : Int) ≤ hi) (hp : 31 ≤ place a1 (L + 40 : Nat) ∧ place a1 (L + 40 : Nat) ≤ 31) (hx : i0 ≤ bits .xor .u8 80 a2 ∧ bits .xor .u8 80 a2 ≤ i1) :
    Calls Tryz.prog 3 #[dv, .int .i64 a1, .int .u8 a2, .bool true] W fun e w' => e = .returned (.bool true) ∧ Kp [] W w' := by
  obtain ⟨p, hp'⟩ : ∃ p : Nat, place a1 (L + 40 : Nat) = p := ⟨_, (Int.toNat_of_nonneg (by omega)).symm⟩
  rw [hp'] at hp
  have h32 : 0 ≤ ρb 32 ∧ ρb 32 ≤ 1000 := by rw [B.b32]; have := B.hL; omega
  have hm : (fun i => decide (46 ≤ i ∧ i ≤ 46)) (15 + p - 0) = true := decide_eq_true (by omega)
  have hb : aT.all byteF = true := by kernel_rfl

  obtain rfl : p = 31 := by omega
  have h16 : i0 ≤ altX ρb aT 34 (15 + 31 - 0) (bits .xor .u8 (valA ρb aT (15 + 31 - 0)) a2) 12 ∧ altX ρb aT 34 (15 + 31 - 0) (bits .xor .u8 (valA ρb aT (15 + 31 - 0)) a2) 12 ≤ i1 := by
    unfold altX
    rw [if_pos (by decide), show valA ρb aT (15 + 31 - 0) = 80 by kernel_rfl]
    exact hx

  exact B.head (o := 34) (off := 0) (j := 15 + 31 - 0) (m := (fun i => decide (46 ≤ i ∧ i ≤ 46))) hr rfl (by kernel_rfl) hb hm (fun i hi => by have := of_decide_eq_true hi; omega) (by show 15 + 31 - 0 < 60; omega) (fun ρ => by kernel_rfl) (by rw [hp']; omega) (fun ρ h => by have := hlen ρ h; omega) hE (by rw [hp']; omega) hlo h16 (fun x hx => by cases hx)

theorem Beg.k_rowU (B : Beg W ρb L 28 a1 a2 d dv) {len E14 : SI} {rest : List Ch} {pcs : List (SB × Bool)} {p0 p1 lo hi : Int} (hr : endsOk 0 0 0 (runA ⟨posA, len, [.bs ethF, .bs ipU, .bs udU] ++ .row 32 (lN 0) (.var 32) :: rest, [.bs ethF, .bs ipU, .bs udU] ++ .row 33 (lN 0) (.var 32) :: rest, [notR eUrow]⟩ E14 pcs (rgL p0 p1 lo hi 0 255) d false) ([notR eUrow] ++ pcs) = true) (hlen : ∀ ρ : Nat → Int, ρ 32 = L → 42 + L ≤ len.ev ρ) (hE : ∀ ρ : Nat → Int, ρ 32 = L → E14.ev ρ = (L + 28 : Nat)) (hlo : lo ≤ L ∧ (L : Int) ≤ hi) (hp : p0 ≤ place a1 (L + 28 : Nat) ∧ place a1 (L + 28 : Nat) ≤ p1) (hp0 : 27 ≤ place a1 (L + 28 : Nat)) (hpc : ∀ ρ : Nat → Int, ρ 32 = L → ρ 3 = place a1 (L + 28 : Nat) → ∀ x ∈ pcs, x.1.ev ρ = x.2) :
    Calls Tryz.prog 3 #[dv, .int .i64 a1, .int .u8 a2, .bool false] W fun e w' => e = .returned (.bool true) ∧ Kp [] W w' := by
  obtain ⟨p, hp'⟩ : ∃ p : Nat, place a1 (L + 28 : Nat) = p := ⟨_, (Int.toNat_of_nonneg (by omega)).symm⟩
  have h32 : 0 ≤ ρb 32 ∧ ρb 32 ≤ 1000 := by rw [B.b32]; have := B.hL; omega
  have hpl := place_rg (x := a1) (y := ((L + 28 : Nat) : Int)) (by omega)
  rw [hp'] at hp0 hpl
  exact B.row (off := 42) (j := 15 + p - 42) hr (by omega) (fun ρ => by kernel_rfl) (by rw [hp']; omega) (fun ρ h => by have := hlen ρ h; omega) hE hp hlo (fun x hx => by
    rcases List.mem_append.1 hx with hx | hx
    · obtain rfl : x = notR eUrow := by simpa using hx
      exact fact_row (by rw [B.b32]; omega) h32 B.h2 (by kernel_rfl) (by kernel_rfl) (by kernel_rfl) (by kernel_rfl) (h0_urow h32)
    · exact hpc _ ((rhoA_fix (.inr (by decide))).trans B.b32) ((rhoA_fix (.inl (by decide))).trans B.b3) x hx)

theorem Beg.k_rowT (B : Beg W ρb L 40 a1 a2 d dv) {len E14 : SI} {rest : List Ch} {pcs : List (SB × Bool)} {p0 p1 lo hi : Int} (hr : endsOk 0 0 0 (runA ⟨posA, len, [.bs ethF, .bs ipT, .bs tcT] ++ .row 32 (lN 0) (.var 32) :: rest, [.bs ethF, .bs ipT, .bs tcT] ++ .row 33 (lN 0) (.var 32) :: rest, [notR eTrow]⟩ E14 pcs (rgL p0 p1 lo hi 0 255) d true) ([notR eTrow] ++ pcs) = true) (hlen : ∀ ρ : Nat → Int, ρ 32 = L → 54 + L ≤ len.ev ρ) (hE : ∀ ρ : Nat → Int, ρ 32 = L → E14.ev ρ = (L + 40 : Nat)) (hlo : lo ≤ L ∧ (L : Int) ≤ hi) (hp : p0 ≤ place a1 (L + 40 : Nat) ∧ place a1 (L + 40 : Nat) ≤ p1) (hp0 : 39 ≤ place a1 (L + 40 : Nat)) (hpc : ∀ ρ : Nat → Int, ρ 32 = L → ρ 3 = place a1 (L + 40 : Nat) → ∀ x ∈ pcs, x.1.ev ρ = x.2) :
    Calls Tryz.prog 3 #[dv, .int .i64 a1, .int .u8 a2, .bool true] W fun e w' => e = .returned (.bool true) ∧ Kp [] W w' := by
  obtain ⟨p, hp'⟩ : ∃ p : Nat, place a1 (L + 40 : Nat) = p := ⟨_, (Int.toNat_of_nonneg (by omega)).symm⟩
  have h32 : 0 ≤ ρb 32 ∧ ρb 32 ≤ 1000 := by rw [B.b32]; have := B.hL; omega
  have hpl := place_rg (x := a1) (y := ((L + 40 : Nat) : Int)) (by omega)
  rw [hp'] at hp0 hpl
  exact B.row (off := 54) (j := 15 + p - 54) hr (by omega) (fun ρ => by kernel_rfl) (by rw [hp']; omega) (fun ρ h => by have := hlen ρ h; omega) hE hp hlo (fun x hx => by
    rcases List.mem_append.1 hx with hx | hx
    · obtain rfl : x = notR eTrow := by simpa using hx
      exact fact_row (by rw [B.b32]; omega) h32 B.h2 (by kernel_rfl) (by kernel_rfl) (by kernel_rfl) (by kernel_rfl) (h0_trow h32)
    · exact hpc _ ((rhoA_fix (.inr (by decide))).trans B.b32) ((rhoA_fix (.inl (by decide))).trans B.b3) x hx)

theorem Beg.k_vaT (B : Beg W ρb L 40 a1 a2 d dv) {v n : Nat} {len E14 : SI} {rest : List Ch} {lo hi : Int} (hr : endsOk 0 0 0 (runA ⟨posA, len, [.bs ethF, .bs ipT] ++ .bs tcT :: rest, [.bs ethF, .bs ipT] ++ .bs (tcT.set 12 (lN v)) :: rest, [notR (eTcpv n)]⟩ E14 [] (rgL 31 31 lo hi 0 255) d true) ([notR (eTcpv n)] ++ []) = true) (hn : n = 71 + 256 * v) (hb : (bdS (eTcpv n)).isSome = true) (hv : 81 ≤ v ∧ v ≤ 95) (hlen : ∀ ρ : Nat → Int, ρ 32 = L → 54 ≤ len.ev ρ) (hE : ∀ ρ : Nat → Int, ρ 32 = L → E14.ev ρ = (L + 40 : Nat)) (hlo : lo ≤ L ∧ (L : Int) ≤ hi) (hp : place a1 (L + 40 : Nat) = 31) (hx : bits .xor .u8 80 a2 = v) :
    Calls Tryz.prog 3 #[dv, .int .i64 a1, .int .u8 a2, .bool true] W fun e w' => e = .returned (.bool true) ∧ Kp [] W w' := by
  refine B.lit (off := 34) (j := 12) (v := v) hr rfl (by kernel_rfl) (by show 12 < 20; decide) ?_ (fun ρ => by kernel_rfl) (by rw [hp]; decide) (fun ρ h => by have := hlen ρ h; omega) hE (by rw [hp]; decide) hlo (fun x hx => by
    have h32 : 0 ≤ ρb 32 ∧ ρb 32 ≤ 1000 := by rw [B.b32]; have := B.hL; omega
    have r32 : rhoA ρb (fun _ => 0) (fun _ => 0) 32 = ρb 32 := rhoA_fix (.inr (by decide))
    obtain rfl : x = notR (eTcpv n) := by simpa using hx
    exact not_tcpv (letters_in zero_in) (by rw [r32]; exact h32) ⟨v, hn, hv⟩ hb)
  rw [show valA ρb tcT 12 = 80 by kernel_rfl]
  exact hx

theorem Beg.k_vaTe (B : Beg W ρb L 40 a1 a2 d dv) {v n : Nat} {len E14 : SI} {rest : List Ch} {lo hi : Int} (hr : endsOk 0 0 0 (runA ⟨posA, len, [] ++ .bs aT :: rest, [] ++ .bs (aT.set 46 (lN v)) :: rest, []⟩ E14 [] (rgL 31 31 lo hi 0 255) d true) ([] ++ []) = true) (hn : n = 71 + 256 * v) (hv : 81 ≤ v ∧ v ≤ 95) (hlen : ∀ ρ : Nat → Int, ρ 32 = L → 60 ≤ len.ev ρ) (hE : ∀ ρ : Nat → Int, ρ 32 = L → E14.ev ρ = (L + 40 : Nat)) (hlo : lo ≤ L ∧ (L : Int) ≤ hi) (hp : place a1 (L + 40 : Nat) = 31) (hx : bits .xor .u8 80 a2 = v) :
    Calls Tryz.prog 3 #[dv, .int .i64 a1, .int .u8 a2, .bool true] W fun e w' => e = .returned (.bool true) ∧ Kp [] W w' := by
  refine B.lit (off := 0) (j := 46) (v := v) hr rfl (by kernel_rfl) (by show 46 < 60; decide) ?_ (fun ρ => by kernel_rfl) (by rw [hp]; decide) (fun ρ h => by have := hlen ρ h; omega) hE (by rw [hp]; decide) hlo (fun x hx => by cases hx)
  rw [show valA ρb aT 46 = 80 by kernel_rfl]
  exact hx
end

end Go.Proofs.YtjjfmhaakickcaaGreat
