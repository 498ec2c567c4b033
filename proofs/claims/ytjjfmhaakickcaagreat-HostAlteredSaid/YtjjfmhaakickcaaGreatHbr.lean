/-
  HostAltered: the frames' bytes as they were made, the sums over them, and what a run says (printed by alt_r.py).
-/
import Derived.Test.YtjjfmhaakickcaaGreatHbl
import Derived.Test.YtjjfmhaakickcaaGreatPlJ
import Derived.Test.YtjjfmhaakickcaaGreatK19
set_option linter.unusedVariables false
set_option linter.unusedSimpArgs false
namespace Go.Proofs.YtjjfmhaakickcaaGreat
open Go

abbrev lN (n : Nat) : SI := .lit (.ofNat n)
abbrev lnF (n : Nat) : SI := .bin .add .i64 (.var 32) (lN n)
def tIpU : SI := (.bin .add .i64 (.bin .add .i64 (.bin .add .i64 (.bin .shl .i64 (.conv .u8 (.bin .shr .u32 (lnF 28) (lN 8))) (lN 8)) (lN 17664)) (.bin .shl .i64 (.conv .u8 (lnF 28)) (lN 0))) (lN 7451))
theorem pl_tIpU (ρ : Nat → Int) : plnS ρ tIpU = (((IntKind.u8.wrap (SI.ev ρ (.bin .shr .u32 (lnF 28) (lN 8))) * 256 + 17664) + IntKind.u8.wrap (SI.ev ρ (lnF 28)) * 1) + 7451) := by kernel_rfl
def tIpT : SI := (.bin .add .i64 (.bin .add .i64 (.bin .add .i64 (.bin .shl .i64 (.conv .u8 (.bin .shr .u32 (lnF 40) (lN 8))) (lN 8)) (lN 17664)) (.bin .shl .i64 (.conv .u8 (lnF 40)) (lN 0))) (lN 7440))
theorem pl_tIpT (ρ : Nat → Int) : plnS ρ tIpT = (((IntKind.u8.wrap (SI.ev ρ (.bin .shr .u32 (lnF 40) (lN 8))) * 256 + 17664) + IntKind.u8.wrap (SI.ev ρ (lnF 40)) * 1) + 7440) := by kernel_rfl
def tUd : SI := (.bin .add .i64 (.bin .add .i64 (.bin .add .i64 (.bin .add .i64 (.bin .add .i64 (.bin .add .i64 (.bin .add .i64 (.bin .shl .i64 (.conv .u8 (.bin .shr .u32 (lnF 8) (lN 8))) (lN 8)) (lN 5147)) (.bin .shl .i64 (.conv .u8 (lnF 8)) (lN 0))) (lN 60)) (.bin .shl .i64 (.conv .u8 (.bin .shr .u32 (lnF 8) (lN 8))) (lN 8))) (.bin .shl .i64 (.conv .u8 (lnF 8)) (lN 0))) (lN 0)) (.rs 32 0 (lN 0) (.var 32)))
theorem pl_tUd (ρ : Nat → Int) : plnS ρ tUd = (((((((IntKind.u8.wrap (SI.ev ρ (.bin .shr .u32 (lnF 8) (lN 8))) * 256 + 5147) + IntKind.u8.wrap (SI.ev ρ (lnF 8)) * 1) + 60) + IntKind.u8.wrap (SI.ev ρ (.bin .shr .u32 (lnF 8) (lN 8))) * 256) + IntKind.u8.wrap (SI.ev ρ (lnF 8)) * 1) + 0) + rsZ ρ 32 0 0 (ρ 32).toNat) := by kernel_rfl
def tTc : SI := (.bin .add .i64 (.bin .add .i64 (.bin .add .i64 (.bin .add .i64 (.bin .shl .i64 (.conv .u8 (.bin .shr .u32 (lnF 20) (lN 8))) (lN 8)) (lN 5136)) (.bin .shl .i64 (.conv .u8 (lnF 20)) (lN 0))) (lN 20551)) (.rs 32 0 (lN 0) (.var 32)))
theorem pl_tTc (ρ : Nat → Int) : plnS ρ tTc = ((((IntKind.u8.wrap (SI.ev ρ (.bin .shr .u32 (lnF 20) (lN 8))) * 256 + 5136) + IntKind.u8.wrap (SI.ev ρ (lnF 20)) * 1) + 20551) + rsZ ρ 32 0 0 (ρ 32).toNat) := by kernel_rfl
def ethF : List SI := [(lN 2), (lN 0), (lN 0), (lN 0), (lN 0), (lN 1), (lN 2), (lN 0), (lN 0), (lN 0), (lN 0), (lN 9), (lN 8), (lN 0)]
def ipU : List SI := [(lN 69), (lN 0), (.conv .u8 (.bin .shr .u32 (lnF 28) (lN 8))), (.conv .u8 (lnF 28)), (lN 0), (lN 0), (lN 0), (lN 0), (lN 9), (lN 17), (.conv .u8 (.bin .shr .u32 (.conv .u32 (.bin .sub .i64 (lN 65535) (.fold tIpU))) (lN 8))), (.conv .u8 (.bin .sub .i64 (lN 65535) (.fold tIpU))), (lN 10), (lN 0), (lN 0), (lN 9), (lN 10), (lN 0), (lN 0), (lN 1)]
def udU : List SI := [(lN 0), (lN 7), (lN 0), (lN 53), (.conv .u8 (.bin .shr .u32 (lnF 8) (lN 8))), (.conv .u8 (lnF 8)), (.conv .u8 (.bin .shr .u32 (.conv .u32 (.bin .sub .i64 (lN 65535) (.bin .rem .i64 (.fold tUd) (lN 65535)))) (lN 8))), (.conv .u8 (.bin .sub .i64 (lN 65535) (.bin .rem .i64 (.fold tUd) (lN 65535))))]
def ipT : List SI := [(lN 69), (lN 0), (.conv .u8 (.bin .shr .u32 (lnF 40) (lN 8))), (.conv .u8 (lnF 40)), (lN 0), (lN 0), (lN 0), (lN 0), (lN 9), (lN 6), (.conv .u8 (.bin .shr .u32 (.conv .u32 (.bin .sub .i64 (lN 65535) (.fold tIpT))) (lN 8))), (.conv .u8 (.bin .sub .i64 (lN 65535) (.fold tIpT))), (lN 10), (lN 0), (lN 0), (lN 9), (lN 10), (lN 0), (lN 0), (lN 1)]
def tcT : List SI := [(lN 0), (lN 7), (lN 0), (lN 53), (lN 0), (lN 0), (lN 0), (lN 0), (lN 0), (lN 0), (lN 0), (lN 0), (lN 80), (lN 2), (lN 0), (lN 9), (.conv .u8 (.bin .shr .u32 (.conv .u32 (.bin .sub .i64 (lN 65535) (.fold tTc))) (lN 8))), (.conv .u8 (.bin .sub .i64 (lN 65535) (.fold tTc))), (lN 0), (lN 0)]
def aU : List SI := [(lN 2), (lN 0), (lN 0), (lN 0), (lN 0), (lN 1), (lN 2), (lN 0), (lN 0), (lN 0), (lN 0), (lN 9), (lN 8), (lN 0), (lN 69), (lN 0), (lN 0), (lN 28), (lN 0), (lN 0), (lN 0), (lN 0), (lN 9), (lN 17), (lN 157), (lN 200), (lN 10), (lN 0), (lN 0), (lN 9), (lN 10), (lN 0), (lN 0), (lN 1), (lN 0), (lN 7), (lN 0), (lN 53), (lN 0), (lN 8), (lN 235), (lN 152), (lN 0), (lN 0), (lN 0), (lN 0), (lN 0), (lN 0), (lN 0), (lN 0), (lN 0), (lN 0), (lN 0), (lN 0), (lN 0), (lN 0), (lN 0), (lN 0), (lN 0), (lN 0)]
def aT : List SI := [(lN 2), (lN 0), (lN 0), (lN 0), (lN 0), (lN 1), (lN 2), (lN 0), (lN 0), (lN 0), (lN 0), (lN 9), (lN 8), (lN 0), (lN 69), (lN 0), (lN 0), (lN 40), (lN 0), (lN 0), (lN 0), (lN 0), (lN 9), (lN 6), (lN 157), (lN 199), (lN 10), (lN 0), (lN 0), (lN 9), (lN 10), (lN 0), (lN 0), (lN 1), (lN 0), (lN 7), (lN 0), (lN 53), (lN 0), (lN 0), (lN 0), (lN 0), (lN 0), (lN 0), (lN 0), (lN 0), (lN 80), (lN 2), (lN 0), (lN 9), (lN 155), (lN 148), (lN 0), (lN 0), (lN 0), (lN 0), (lN 0), (lN 0), (lN 0), (lN 0)]
def eUrow : SI := (.bin .add .i64 (.bin .add .i64 (.bin .add .i64 (.bin .add .i64 (.bin .add .i64 (.bin .add .i64 (.bin .add .i64 (.bin .add .i64 (.bin .shl .i64 (.conv .u8 (.bin .shr .u32 (lnF 8) (lN 8))) (lN 8)) (lN 5147)) (.bin .shl .i64 (.conv .u8 (lnF 8)) (lN 0))) (lN 60)) (.bin .shl .i64 (.conv .u8 (.bin .shr .u32 (lnF 8) (lN 8))) (lN 8))) (.bin .shl .i64 (.conv .u8 (lnF 8)) (lN 0))) (.bin .shl .i64 (.conv .u8 (.bin .shr .u32 (.conv .u32 (.bin .sub .i64 (lN 65535) (.bin .rem .i64 (.fold tUd) (lN 65535)))) (lN 8))) (lN 8))) (.bin .shl .i64 (.conv .u8 (.bin .sub .i64 (lN 65535) (.bin .rem .i64 (.fold tUd) (lN 65535)))) (lN 0))) (.rs 33 0 (lN 0) (.var 32)))
theorem pl_eUrow (ρ : Nat → Int) : plnS ρ eUrow = ((((((((IntKind.u8.wrap (SI.ev ρ (.bin .shr .u32 (lnF 8) (lN 8))) * 256 + 5147) + IntKind.u8.wrap (SI.ev ρ (lnF 8)) * 1) + 60) + IntKind.u8.wrap (SI.ev ρ (.bin .shr .u32 (lnF 8) (lN 8))) * 256) + IntKind.u8.wrap (SI.ev ρ (lnF 8)) * 1) + IntKind.u8.wrap (SI.ev ρ (.bin .shr .u32 (.conv .u32 (.bin .sub .i64 (lN 65535) (.bin .rem .i64 (.fold tUd) (lN 65535)))) (lN 8))) * 256) + IntKind.u8.wrap (SI.ev ρ (.bin .sub .i64 (lN 65535) (.bin .rem .i64 (.fold tUd) (lN 65535)))) * 1) + rsZ ρ 33 0 0 (ρ 32).toNat) := by kernel_rfl
def eTrow : SI := (.bin .add .i64 (.bin .add .i64 (.bin .add .i64 (.bin .add .i64 (.bin .add .i64 (.bin .add .i64 (.bin .add .i64 (.bin .shl .i64 (.conv .u8 (.bin .shr .u32 (lnF 20) (lN 8))) (lN 8)) (lN 5136)) (.bin .shl .i64 (.conv .u8 (lnF 20)) (lN 0))) (lN 20551)) (.bin .shl .i64 (.conv .u8 (.bin .shr .u32 (.conv .u32 (.bin .sub .i64 (lN 65535) (.fold tTc))) (lN 8))) (lN 8))) (.bin .shl .i64 (.conv .u8 (.bin .sub .i64 (lN 65535) (.fold tTc))) (lN 0))) (lN 0)) (.rs 33 0 (lN 0) (.var 32)))
theorem pl_eTrow (ρ : Nat → Int) : plnS ρ eTrow = (((((((IntKind.u8.wrap (SI.ev ρ (.bin .shr .u32 (lnF 20) (lN 8))) * 256 + 5136) + IntKind.u8.wrap (SI.ev ρ (lnF 20)) * 1) + 20551) + IntKind.u8.wrap (SI.ev ρ (.bin .shr .u32 (.conv .u32 (.bin .sub .i64 (lN 65535) (.fold tTc))) (lN 8))) * 256) + IntKind.u8.wrap (SI.ev ρ (.bin .sub .i64 (lN 65535) (.fold tTc))) * 1) + 0) + rsZ ρ 33 0 0 (ρ 32).toNat) := by kernel_rfl
def ePorts : SI := (.bin .add .i64 (.bin .add .i64 (.bin .add .i64 (.bin .add .i64 (.bin .add .i64 (.bin .add .i64 (.bin .add .i64 (.bin .add .i64 (.bin .add .i64 (.bin .add .i64 (.bin .add .i64 (.bin .shl .i64 (.conv .u8 (.bin .shr .u32 (lnF 8) (lN 8))) (lN 8)) (lN 5147)) (.bin .shl .i64 (.conv .u8 (lnF 8)) (lN 0))) (.bin .shl .i64 (.conv .i64 (.var 4)) (lN 8))) (.bin .shl .i64 (.conv .i64 (.var 5)) (lN 0))) (.bin .shl .i64 (.conv .i64 (.var 6)) (lN 8))) (.bin .shl .i64 (.conv .i64 (.var 7)) (lN 0))) (.bin .shl .i64 (.conv .u8 (.bin .shr .u32 (lnF 8) (lN 8))) (lN 8))) (.bin .shl .i64 (.conv .u8 (lnF 8)) (lN 0))) (.bin .shl .i64 (.conv .u8 (.bin .shr .u32 (.conv .u32 (.bin .sub .i64 (lN 65535) (.bin .rem .i64 (.fold tUd) (lN 65535)))) (lN 8))) (lN 8))) (.bin .shl .i64 (.conv .u8 (.bin .sub .i64 (lN 65535) (.bin .rem .i64 (.fold tUd) (lN 65535)))) (lN 0))) (.rs 32 0 (lN 0) (.var 32)))
theorem pl_ePorts (ρ : Nat → Int) : plnS ρ ePorts = (((((((((((IntKind.u8.wrap (SI.ev ρ (.bin .shr .u32 (lnF 8) (lN 8))) * 256 + 5147) + IntKind.u8.wrap (SI.ev ρ (lnF 8)) * 1) + ρ 4 * 256) + ρ 5 * 1) + ρ 6 * 256) + ρ 7 * 1) + IntKind.u8.wrap (SI.ev ρ (.bin .shr .u32 (lnF 8) (lN 8))) * 256) + IntKind.u8.wrap (SI.ev ρ (lnF 8)) * 1) + IntKind.u8.wrap (SI.ev ρ (.bin .shr .u32 (.conv .u32 (.bin .sub .i64 (lN 65535) (.bin .rem .i64 (.fold tUd) (lN 65535)))) (lN 8))) * 256) + IntKind.u8.wrap (SI.ev ρ (.bin .sub .i64 (lN 65535) (.bin .rem .i64 (.fold tUd) (lN 65535)))) * 1) + rsZ ρ 32 0 0 (ρ 32).toNat) := by kernel_rfl
def eIp : SI := (.bin .add .i64 (.bin .add .i64 (.bin .add .i64 (.bin .add .i64 (.bin .add .i64 (.bin .add .i64 (.bin .add .i64 (.bin .add .i64 (.bin .add .i64 (.bin .add .i64 (.bin .add .i64 (.bin .add .i64 (.bin .add .i64 (.bin .add .i64 (.bin .add .i64 (.bin .add .i64 (.bin .add .i64 (.bin .add .i64 (.bin .add .i64 (.bin .shl .i64 (.conv .i64 (.var 5)) (lN 0)) (lN 17664)) (.bin .shl .i64 (.conv .i64 (.var 6)) (lN 8))) (.bin .shl .i64 (.conv .i64 (.var 7)) (lN 0))) (.bin .shl .i64 (.conv .i64 (.var 8)) (lN 8))) (.bin .shl .i64 (.conv .i64 (.var 9)) (lN 0))) (.bin .shl .i64 (.conv .i64 (.var 10)) (lN 8))) (.bin .shl .i64 (.conv .i64 (.var 11)) (lN 0))) (.bin .shl .i64 (.conv .i64 (.var 12)) (lN 8))) (.bin .shl .i64 (.conv .i64 (.var 13)) (lN 0))) (.bin .shl .i64 (.conv .i64 (.var 14)) (lN 8))) (.bin .shl .i64 (.conv .i64 (.var 15)) (lN 0))) (.bin .shl .i64 (.conv .i64 (.var 16)) (lN 8))) (.bin .shl .i64 (.conv .i64 (.var 17)) (lN 0))) (.bin .shl .i64 (.conv .i64 (.var 18)) (lN 8))) (.bin .shl .i64 (.conv .i64 (.var 19)) (lN 0))) (.bin .shl .i64 (.conv .i64 (.var 20)) (lN 8))) (.bin .shl .i64 (.conv .i64 (.var 21)) (lN 0))) (.bin .shl .i64 (.conv .i64 (.var 22)) (lN 8))) (.bin .shl .i64 (.conv .i64 (.var 23)) (lN 0)))
theorem pl_eIp (ρ : Nat → Int) : plnS ρ eIp = (((((((((((((((((((ρ 5 * 1 + 17664) + ρ 6 * 256) + ρ 7 * 1) + ρ 8 * 256) + ρ 9 * 1) + ρ 10 * 256) + ρ 11 * 1) + ρ 12 * 256) + ρ 13 * 1) + ρ 14 * 256) + ρ 15 * 1) + ρ 16 * 256) + ρ 17 * 1) + ρ 18 * 256) + ρ 19 * 1) + ρ 20 * 256) + ρ 21 * 1) + ρ 22 * 256) + ρ 23 * 1) := by kernel_rfl
def eTcph : SI := (.bin .add .i64 (.bin .add .i64 (.bin .add .i64 (.bin .add .i64 (.bin .add .i64 (.bin .add .i64 (.bin .add .i64 (.bin .add .i64 (.bin .add .i64 (.bin .add .i64 (.bin .add .i64 (.bin .add .i64 (.bin .add .i64 (.bin .add .i64 (.bin .add .i64 (.bin .add .i64 (.bin .add .i64 (.bin .add .i64 (.bin .add .i64 (.bin .add .i64 (.bin .add .i64 (.bin .add .i64 (.bin .add .i64 (.bin .shl .i64 (.conv .u8 (.bin .shr .u32 (lnF 20) (lN 8))) (lN 8)) (lN 5136)) (.bin .shl .i64 (.conv .u8 (lnF 20)) (lN 0))) (.bin .shl .i64 (.conv .i64 (.var 4)) (lN 8))) (.bin .shl .i64 (.conv .i64 (.var 5)) (lN 0))) (.bin .shl .i64 (.conv .i64 (.var 6)) (lN 8))) (.bin .shl .i64 (.conv .i64 (.var 7)) (lN 0))) (.bin .shl .i64 (.conv .i64 (.var 8)) (lN 8))) (.bin .shl .i64 (.conv .i64 (.var 9)) (lN 0))) (.bin .shl .i64 (.conv .i64 (.var 10)) (lN 8))) (.bin .shl .i64 (.conv .i64 (.var 11)) (lN 0))) (.bin .shl .i64 (.conv .i64 (.var 12)) (lN 8))) (.bin .shl .i64 (.conv .i64 (.var 13)) (lN 0))) (.bin .shl .i64 (.conv .i64 (.var 14)) (lN 8))) (.bin .shl .i64 (.conv .i64 (.var 15)) (lN 0))) (lN 20480)) (.bin .shl .i64 (.conv .i64 (.var 17)) (lN 0))) (.bin .shl .i64 (.conv .i64 (.var 18)) (lN 8))) (.bin .shl .i64 (.conv .i64 (.var 19)) (lN 0))) (.bin .shl .i64 (.conv .i64 (.var 20)) (lN 8))) (.bin .shl .i64 (.conv .i64 (.var 21)) (lN 0))) (.bin .shl .i64 (.conv .i64 (.var 22)) (lN 8))) (.bin .shl .i64 (.conv .i64 (.var 23)) (lN 0))) (.rs 32 0 (lN 0) (.var 32)))
theorem pl_eTcph (ρ : Nat → Int) : plnS ρ eTcph = (((((((((((((((((((((((IntKind.u8.wrap (SI.ev ρ (.bin .shr .u32 (lnF 20) (lN 8))) * 256 + 5136) + IntKind.u8.wrap (SI.ev ρ (lnF 20)) * 1) + ρ 4 * 256) + ρ 5 * 1) + ρ 6 * 256) + ρ 7 * 1) + ρ 8 * 256) + ρ 9 * 1) + ρ 10 * 256) + ρ 11 * 1) + ρ 12 * 256) + ρ 13 * 1) + ρ 14 * 256) + ρ 15 * 1) + 20480) + ρ 17 * 1) + ρ 18 * 256) + ρ 19 * 1) + ρ 20 * 256) + ρ 21 * 1) + ρ 22 * 256) + ρ 23 * 1) + rsZ ρ 32 0 0 (ρ 32).toNat) := by kernel_rfl
def eTcpho : SI := (.bin .add .i64 (.bin .add .i64 (.bin .add .i64 (.bin .add .i64 (.bin .add .i64 (.bin .add .i64 (.bin .add .i64 (.bin .add .i64 (.bin .add .i64 (.bin .shl .i64 (.conv .u8 (.bin .shr .u32 (lnF 20) (lN 8))) (lN 8)) (lN 5136)) (.bin .shl .i64 (.conv .u8 (lnF 20)) (lN 0))) (lN 60)) (.bin .shl .i64 (.conv .i64 (.var 16)) (lN 8))) (lN 11)) (.bin .shl .i64 (.conv .u8 (.bin .shr .u32 (.conv .u32 (.bin .sub .i64 (lN 65535) (.fold tTc))) (lN 8))) (lN 8))) (.bin .shl .i64 (.conv .u8 (.bin .sub .i64 (lN 65535) (.fold tTc))) (lN 0))) (lN 0)) (.rs 32 0 (lN 0) (.var 32)))
theorem pl_eTcpho (ρ : Nat → Int) : plnS ρ eTcpho = (((((((((IntKind.u8.wrap (SI.ev ρ (.bin .shr .u32 (lnF 20) (lN 8))) * 256 + 5136) + IntKind.u8.wrap (SI.ev ρ (lnF 20)) * 1) + 60) + ρ 16 * 256) + 11) + IntKind.u8.wrap (SI.ev ρ (.bin .shr .u32 (.conv .u32 (.bin .sub .i64 (lN 65535) (.fold tTc))) (lN 8))) * 256) + IntKind.u8.wrap (SI.ev ρ (.bin .sub .i64 (lN 65535) (.fold tTc))) * 1) + 0) + rsZ ρ 32 0 0 (ρ 32).toNat) := by kernel_rfl
def ePorts0 : SI := (.bin .add .i64 (.bin .add .i64 (.bin .add .i64 (.bin .add .i64 (.bin .add .i64 (.bin .shl .i64 (.conv .i64 (.var 4)) (lN 8)) (lN 5155)) (.bin .shl .i64 (.conv .i64 (.var 5)) (lN 0))) (.bin .shl .i64 (.conv .i64 (.var 6)) (lN 8))) (.bin .shl .i64 (.conv .i64 (.var 7)) (lN 0))) (lN 60320))
theorem pl_ePorts0 (ρ : Nat → Int) : plnS ρ ePorts0 = (((((ρ 4 * 256 + 5155) + ρ 5 * 1) + ρ 6 * 256) + ρ 7 * 1) + 60320) := by kernel_rfl
def eTcph0 : SI := (.bin .add .i64 (.bin .add .i64 (.bin .add .i64 (.bin .add .i64 (.bin .add .i64 (.bin .add .i64 (.bin .add .i64 (.bin .add .i64 (.bin .add .i64 (.bin .add .i64 (.bin .add .i64 (.bin .add .i64 (.bin .add .i64 (.bin .add .i64 (.bin .add .i64 (.bin .add .i64 (.bin .add .i64 (.bin .add .i64 (.bin .add .i64 (.bin .add .i64 (.bin .shl .i64 (.conv .i64 (.var 4)) (lN 8)) (lN 5156)) (.bin .shl .i64 (.conv .i64 (.var 5)) (lN 0))) (.bin .shl .i64 (.conv .i64 (.var 6)) (lN 8))) (.bin .shl .i64 (.conv .i64 (.var 7)) (lN 0))) (.bin .shl .i64 (.conv .i64 (.var 8)) (lN 8))) (.bin .shl .i64 (.conv .i64 (.var 9)) (lN 0))) (.bin .shl .i64 (.conv .i64 (.var 10)) (lN 8))) (.bin .shl .i64 (.conv .i64 (.var 11)) (lN 0))) (.bin .shl .i64 (.conv .i64 (.var 12)) (lN 8))) (.bin .shl .i64 (.conv .i64 (.var 13)) (lN 0))) (.bin .shl .i64 (.conv .i64 (.var 14)) (lN 8))) (.bin .shl .i64 (.conv .i64 (.var 15)) (lN 0))) (lN 20480)) (.bin .shl .i64 (.conv .i64 (.var 17)) (lN 0))) (.bin .shl .i64 (.conv .i64 (.var 18)) (lN 8))) (.bin .shl .i64 (.conv .i64 (.var 19)) (lN 0))) (.bin .shl .i64 (.conv .i64 (.var 20)) (lN 8))) (.bin .shl .i64 (.conv .i64 (.var 21)) (lN 0))) (.bin .shl .i64 (.conv .i64 (.var 22)) (lN 8))) (.bin .shl .i64 (.conv .i64 (.var 23)) (lN 0)))
theorem pl_eTcph0 (ρ : Nat → Int) : plnS ρ eTcph0 = ((((((((((((((((((((ρ 4 * 256 + 5156) + ρ 5 * 1) + ρ 6 * 256) + ρ 7 * 1) + ρ 8 * 256) + ρ 9 * 1) + ρ 10 * 256) + ρ 11 * 1) + ρ 12 * 256) + ρ 13 * 1) + ρ 14 * 256) + ρ 15 * 1) + 20480) + ρ 17 * 1) + ρ 18 * 256) + ρ 19 * 1) + ρ 20 * 256) + ρ 21 * 1) + ρ 22 * 256) + ρ 23 * 1) := by kernel_rfl
def eTcpv (n : Nat) : SI := (.bin .add .i64 (.bin .add .i64 (.bin .add .i64 (.bin .add .i64 (.bin .add .i64 (.bin .add .i64 (.bin .add .i64 (.bin .shl .i64 (.conv .u8 (.bin .shr .u32 (lnF 20) (lN 8))) (lN 8)) (lN 5136)) (.bin .shl .i64 (.conv .u8 (lnF 20)) (lN 0))) (lN n)) (.bin .shl .i64 (.conv .u8 (.bin .shr .u32 (.conv .u32 (.bin .sub .i64 (lN 65535) (.fold tTc))) (lN 8))) (lN 8))) (.bin .shl .i64 (.conv .u8 (.bin .sub .i64 (lN 65535) (.fold tTc))) (lN 0))) (lN 0)) (.rs 32 0 (lN 0) (.var 32)))
theorem pl_eTcpv (n : Nat) (ρ : Nat → Int) : plnS ρ (eTcpv n) = (((((((IntKind.u8.wrap (SI.ev ρ (.bin .shr .u32 (lnF 20) (lN 8))) * 256 + 5136) + IntKind.u8.wrap (SI.ev ρ (lnF 20)) * 1) + (n : Int)) + IntKind.u8.wrap (SI.ev ρ (.bin .shr .u32 (.conv .u32 (.bin .sub .i64 (lN 65535) (.fold tTc))) (lN 8))) * 256) + IntKind.u8.wrap (SI.ev ρ (.bin .sub .i64 (lN 65535) (.fold tTc))) * 1) + 0) + rsZ ρ 32 0 0 (ρ 32).toNat) := by kernel_rfl

/-! sums of what was made -/
/-- a number's two bytes, and what they come to -/
theorem two_ev {ρ : Nat → Int} {X : SI} {x : Int} (hx : X.ev ρ = x) (h : 0 ≤ x ∧ x < 65536) : ∃ a b : Int, IntKind.u8.wrap (SI.ev ρ (.bin .shr .u32 X (lN 8))) = a ∧ IntKind.u8.wrap (SI.ev ρ (.bin .shr .u32 (.conv .u32 X) (lN 8))) = a ∧ IntKind.u8.wrap (SI.ev ρ X) = b ∧ a * 256 + b = x := by
  have e1 : SI.ev ρ (.bin .shr .u32 X (lN 8)) = x.fdiv 256 := by rw [← hx]; rfl
  have hw : IntKind.u32.wrap x = x := wrap_in (k := .u32) ⟨by show (0 : Int) ≤ _; omega, by show _ ≤ (4294967295 : Int); omega⟩
  have e2 : SI.ev ρ (.bin .shr .u32 (.conv .u32 X) (lN 8)) = x.fdiv 256 := by
    show (IntKind.u32.wrap (X.ev ρ)).fdiv 256 = _
    rw [hx, hw]
  exact ⟨_, _, rfl, by rw [e1, e2], rfl, by rw [e1, hx]; exact hilo h.1 h.2⟩
theorem len_ev {ρ : Nat → Int} {n : Nat} (h : 0 ≤ ρ 32 ∧ ρ 32 ≤ 1000) (hn : n ≤ 60) : SI.ev ρ (lnF n) = ρ 32 + n := by
  show IntKind.i64.wrap (ρ 32 + (n : Int)) = _
  exact wrapI (by omega) (by omega)
theorem ck_ev {ρ : Nat → Int} {T : SI} {t : Int} (ht : T.ev ρ = t) (h : 0 < t ∧ t < 1099511627776) : SI.ev ρ (.bin .sub .i64 (lN 65535) (.fold T)) = 65535 - foldZ t ∧ 0 ≤ 65535 - foldZ t ∧ 65535 - foldZ t < 65536 ∧ (t + (65535 - foldZ t)) % 65535 = 0 := by
  have := ck_in h.1 h.2
  refine ⟨?_, this.1, by omega, this.2.2⟩
  show IntKind.i64.wrap (65535 - foldZ (T.ev ρ)) = _
  rw [ht]
  exact wrapI this.1 (by omega)
theorem ckr_ev {ρ : Nat → Int} {T : SI} {t : Int} (ht : T.ev ρ = t) (h : 0 < t ∧ t < 1099511627776) : SI.ev ρ (.bin .sub .i64 (lN 65535) (.bin .rem .i64 (.fold T) (lN 65535))) = 65535 - (foldZ t).tmod 65535 ∧ 0 ≤ 65535 - (foldZ t).tmod 65535 ∧ 65535 - (foldZ t).tmod 65535 < 65536 ∧ (t + (65535 - (foldZ t).tmod 65535)) % 65535 = 0 := by
  have hc := ck_in h.1 h.2
  have hf := foldZ_in (t.toNat + 1) t (by omega) (by omega) (by omega)
  have ht2 : (foldZ t).tmod 65535 = foldZ t % 65535 := Int.tmod_eq_emod_of_nonneg hf.1
  rw [ht2]
  have : 0 ≤ 65535 - foldZ t % 65535 ∧ 65535 - foldZ t % 65535 < 65536 ∧ (t + (65535 - foldZ t % 65535)) % 65535 = 0 := by omega
  refine ⟨?_, this⟩
  show IntKind.i64.wrap (65535 - (foldZ (T.ev ρ)).tmod 65535) = _
  rw [ht, ht2]
  exact wrapI this.1 (by omega)
/-- what a form comes to, plain -/
theorem T_ev {ρ : Nat → Int} (hρ : ∀ i, 4 ≤ i → i < 32 → 0 ≤ ρ i ∧ ρ i ≤ 255) (h32 : 0 ≤ ρ 32 ∧ ρ 32 ≤ 1000) {T : SI} (h : (bdS T).isSome = true) : T.ev ρ = plnS ρ T ∧ 0 ≤ plnS ρ T ∧ plnS ρ T < 1099511627776 := by
  obtain ⟨m, hm⟩ := Option.isSome_iff_exists.1 h
  obtain ⟨a, b, c, d⟩ := bdS_ok hρ h32 hm
  exact ⟨d, a, by omega⟩
theorem letters_in {ρb V X : Nat → Int} (h : ∀ i, 0 ≤ X i ∧ X i ≤ 255) : ∀ i, 4 ≤ i → i < 32 → 0 ≤ rhoA ρb X V i ∧ rhoA ρb X V i ≤ 255 := by
  intro i h1 h2
  have := rhoA_let (ρb := ρb) (X := X) (V := V) (k := i - 4) (by omega)
  rw [show 4 + (i - 4) = i by omega] at this
  rw [this]
  exact h _
section
variable {ρb V : Nat → Int}
theorem h0_ip_ipU (hb : ∀ i, 4 ≤ i → i < 32 → ρb i = 0) (h32 : 0 ≤ ρb 32 ∧ ρb 32 ≤ 1000) : plnS (rhoA ρb (fun i => valA ρb ipU (i + 0)) V) eIp % 65535 = 0 := by
  have q5 : rhoA ρb (fun i => valA ρb ipU (i + 0)) V 5 = 0 := by kernel_rfl
  have q6 : rhoA ρb (fun i => valA ρb ipU (i + 0)) V 6 = IntKind.u8.wrap (SI.ev ρb (.bin .shr .u32 (lnF 28) (lN 8))) := by kernel_rfl
  have q7 : rhoA ρb (fun i => valA ρb ipU (i + 0)) V 7 = IntKind.u8.wrap (SI.ev ρb (lnF 28)) := by kernel_rfl
  have q8 : rhoA ρb (fun i => valA ρb ipU (i + 0)) V 8 = 0 := by kernel_rfl
  have q9 : rhoA ρb (fun i => valA ρb ipU (i + 0)) V 9 = 0 := by kernel_rfl
  have q10 : rhoA ρb (fun i => valA ρb ipU (i + 0)) V 10 = 0 := by kernel_rfl
  have q11 : rhoA ρb (fun i => valA ρb ipU (i + 0)) V 11 = 0 := by kernel_rfl
  have q12 : rhoA ρb (fun i => valA ρb ipU (i + 0)) V 12 = 9 := by kernel_rfl
  have q13 : rhoA ρb (fun i => valA ρb ipU (i + 0)) V 13 = 17 := by kernel_rfl
  have q14 : rhoA ρb (fun i => valA ρb ipU (i + 0)) V 14 = IntKind.u8.wrap (SI.ev ρb (.bin .shr .u32 (.conv .u32 (.bin .sub .i64 (lN 65535) (.fold tIpU))) (lN 8))) := by kernel_rfl
  have q15 : rhoA ρb (fun i => valA ρb ipU (i + 0)) V 15 = IntKind.u8.wrap (SI.ev ρb (.bin .sub .i64 (lN 65535) (.fold tIpU))) := by kernel_rfl
  have q16 : rhoA ρb (fun i => valA ρb ipU (i + 0)) V 16 = 10 := by kernel_rfl
  have q17 : rhoA ρb (fun i => valA ρb ipU (i + 0)) V 17 = 0 := by kernel_rfl
  have q18 : rhoA ρb (fun i => valA ρb ipU (i + 0)) V 18 = 0 := by kernel_rfl
  have q19 : rhoA ρb (fun i => valA ρb ipU (i + 0)) V 19 = 9 := by kernel_rfl
  have q20 : rhoA ρb (fun i => valA ρb ipU (i + 0)) V 20 = 10 := by kernel_rfl
  have q21 : rhoA ρb (fun i => valA ρb ipU (i + 0)) V 21 = 0 := by kernel_rfl
  have q22 : rhoA ρb (fun i => valA ρb ipU (i + 0)) V 22 = 0 := by kernel_rfl
  have q23 : rhoA ρb (fun i => valA ρb ipU (i + 0)) V 23 = 1 := by kernel_rfl
  rw [pl_eIp, q5, q6, q7, q8, q9, q10, q11, q12, q13, q14, q15, q16, q17, q18, q19, q20, q21, q22, q23]
  obtain ⟨a, b, e1, _, e2, e3⟩ := two_ev (len_ev (ρ := ρb) (n := 28) h32 (by decide)) (by omega)
  obtain ⟨t1, t2, t3⟩ := T_ev (ρ := ρb) (fun i h1 h2 => by rw [hb i h1 h2]; omega) h32 (T := tIpU) (by kernel_rfl)
  rw [pl_tIpU] at t1 t2 t3
  obtain ⟨k1, k2, k3, k4⟩ := ck_ev t1 ⟨by omega, by omega⟩
  obtain ⟨c, d, _, f1, f2, f3⟩ := two_ev k1 ⟨k2, k3⟩
  omega
theorem h0_ip_ipT (hb : ∀ i, 4 ≤ i → i < 32 → ρb i = 0) (h32 : 0 ≤ ρb 32 ∧ ρb 32 ≤ 1000) : plnS (rhoA ρb (fun i => valA ρb ipT (i + 0)) V) eIp % 65535 = 0 := by
  have q5 : rhoA ρb (fun i => valA ρb ipT (i + 0)) V 5 = 0 := by kernel_rfl
  have q6 : rhoA ρb (fun i => valA ρb ipT (i + 0)) V 6 = IntKind.u8.wrap (SI.ev ρb (.bin .shr .u32 (lnF 40) (lN 8))) := by kernel_rfl
  have q7 : rhoA ρb (fun i => valA ρb ipT (i + 0)) V 7 = IntKind.u8.wrap (SI.ev ρb (lnF 40)) := by kernel_rfl
  have q8 : rhoA ρb (fun i => valA ρb ipT (i + 0)) V 8 = 0 := by kernel_rfl
  have q9 : rhoA ρb (fun i => valA ρb ipT (i + 0)) V 9 = 0 := by kernel_rfl
  have q10 : rhoA ρb (fun i => valA ρb ipT (i + 0)) V 10 = 0 := by kernel_rfl
  have q11 : rhoA ρb (fun i => valA ρb ipT (i + 0)) V 11 = 0 := by kernel_rfl
  have q12 : rhoA ρb (fun i => valA ρb ipT (i + 0)) V 12 = 9 := by kernel_rfl
  have q13 : rhoA ρb (fun i => valA ρb ipT (i + 0)) V 13 = 6 := by kernel_rfl
  have q14 : rhoA ρb (fun i => valA ρb ipT (i + 0)) V 14 = IntKind.u8.wrap (SI.ev ρb (.bin .shr .u32 (.conv .u32 (.bin .sub .i64 (lN 65535) (.fold tIpT))) (lN 8))) := by kernel_rfl
  have q15 : rhoA ρb (fun i => valA ρb ipT (i + 0)) V 15 = IntKind.u8.wrap (SI.ev ρb (.bin .sub .i64 (lN 65535) (.fold tIpT))) := by kernel_rfl
  have q16 : rhoA ρb (fun i => valA ρb ipT (i + 0)) V 16 = 10 := by kernel_rfl
  have q17 : rhoA ρb (fun i => valA ρb ipT (i + 0)) V 17 = 0 := by kernel_rfl
  have q18 : rhoA ρb (fun i => valA ρb ipT (i + 0)) V 18 = 0 := by kernel_rfl
  have q19 : rhoA ρb (fun i => valA ρb ipT (i + 0)) V 19 = 9 := by kernel_rfl
  have q20 : rhoA ρb (fun i => valA ρb ipT (i + 0)) V 20 = 10 := by kernel_rfl
  have q21 : rhoA ρb (fun i => valA ρb ipT (i + 0)) V 21 = 0 := by kernel_rfl
  have q22 : rhoA ρb (fun i => valA ρb ipT (i + 0)) V 22 = 0 := by kernel_rfl
  have q23 : rhoA ρb (fun i => valA ρb ipT (i + 0)) V 23 = 1 := by kernel_rfl
  rw [pl_eIp, q5, q6, q7, q8, q9, q10, q11, q12, q13, q14, q15, q16, q17, q18, q19, q20, q21, q22, q23]
  obtain ⟨a, b, e1, _, e2, e3⟩ := two_ev (len_ev (ρ := ρb) (n := 40) h32 (by decide)) (by omega)
  obtain ⟨t1, t2, t3⟩ := T_ev (ρ := ρb) (fun i h1 h2 => by rw [hb i h1 h2]; omega) h32 (T := tIpT) (by kernel_rfl)
  rw [pl_tIpT] at t1 t2 t3
  obtain ⟨k1, k2, k3, k4⟩ := ck_ev t1 ⟨by omega, by omega⟩
  obtain ⟨c, d, _, f1, f2, f3⟩ := two_ev k1 ⟨k2, k3⟩
  omega
theorem h0_ip_aU (hb : ∀ i, 4 ≤ i → i < 32 → ρb i = 0) (h32 : 0 ≤ ρb 32 ∧ ρb 32 ≤ 1000) : plnS (rhoA ρb (fun i => valA ρb aU (i + 14)) V) eIp % 65535 = 0 := by
  have q5 : rhoA ρb (fun i => valA ρb aU (i + 14)) V 5 = 0 := by kernel_rfl
  have q6 : rhoA ρb (fun i => valA ρb aU (i + 14)) V 6 = 0 := by kernel_rfl
  have q7 : rhoA ρb (fun i => valA ρb aU (i + 14)) V 7 = 28 := by kernel_rfl
  have q8 : rhoA ρb (fun i => valA ρb aU (i + 14)) V 8 = 0 := by kernel_rfl
  have q9 : rhoA ρb (fun i => valA ρb aU (i + 14)) V 9 = 0 := by kernel_rfl
  have q10 : rhoA ρb (fun i => valA ρb aU (i + 14)) V 10 = 0 := by kernel_rfl
  have q11 : rhoA ρb (fun i => valA ρb aU (i + 14)) V 11 = 0 := by kernel_rfl
  have q12 : rhoA ρb (fun i => valA ρb aU (i + 14)) V 12 = 9 := by kernel_rfl
  have q13 : rhoA ρb (fun i => valA ρb aU (i + 14)) V 13 = 17 := by kernel_rfl
  have q14 : rhoA ρb (fun i => valA ρb aU (i + 14)) V 14 = 157 := by kernel_rfl
  have q15 : rhoA ρb (fun i => valA ρb aU (i + 14)) V 15 = 200 := by kernel_rfl
  have q16 : rhoA ρb (fun i => valA ρb aU (i + 14)) V 16 = 10 := by kernel_rfl
  have q17 : rhoA ρb (fun i => valA ρb aU (i + 14)) V 17 = 0 := by kernel_rfl
  have q18 : rhoA ρb (fun i => valA ρb aU (i + 14)) V 18 = 0 := by kernel_rfl
  have q19 : rhoA ρb (fun i => valA ρb aU (i + 14)) V 19 = 9 := by kernel_rfl
  have q20 : rhoA ρb (fun i => valA ρb aU (i + 14)) V 20 = 10 := by kernel_rfl
  have q21 : rhoA ρb (fun i => valA ρb aU (i + 14)) V 21 = 0 := by kernel_rfl
  have q22 : rhoA ρb (fun i => valA ρb aU (i + 14)) V 22 = 0 := by kernel_rfl
  have q23 : rhoA ρb (fun i => valA ρb aU (i + 14)) V 23 = 1 := by kernel_rfl
  rw [pl_eIp, q5, q6, q7, q8, q9, q10, q11, q12, q13, q14, q15, q16, q17, q18, q19, q20, q21, q22, q23]
  decide
theorem h0_ip_aT (hb : ∀ i, 4 ≤ i → i < 32 → ρb i = 0) (h32 : 0 ≤ ρb 32 ∧ ρb 32 ≤ 1000) : plnS (rhoA ρb (fun i => valA ρb aT (i + 14)) V) eIp % 65535 = 0 := by
  have q5 : rhoA ρb (fun i => valA ρb aT (i + 14)) V 5 = 0 := by kernel_rfl
  have q6 : rhoA ρb (fun i => valA ρb aT (i + 14)) V 6 = 0 := by kernel_rfl
  have q7 : rhoA ρb (fun i => valA ρb aT (i + 14)) V 7 = 40 := by kernel_rfl
  have q8 : rhoA ρb (fun i => valA ρb aT (i + 14)) V 8 = 0 := by kernel_rfl
  have q9 : rhoA ρb (fun i => valA ρb aT (i + 14)) V 9 = 0 := by kernel_rfl
  have q10 : rhoA ρb (fun i => valA ρb aT (i + 14)) V 10 = 0 := by kernel_rfl
  have q11 : rhoA ρb (fun i => valA ρb aT (i + 14)) V 11 = 0 := by kernel_rfl
  have q12 : rhoA ρb (fun i => valA ρb aT (i + 14)) V 12 = 9 := by kernel_rfl
  have q13 : rhoA ρb (fun i => valA ρb aT (i + 14)) V 13 = 6 := by kernel_rfl
  have q14 : rhoA ρb (fun i => valA ρb aT (i + 14)) V 14 = 157 := by kernel_rfl
  have q15 : rhoA ρb (fun i => valA ρb aT (i + 14)) V 15 = 199 := by kernel_rfl
  have q16 : rhoA ρb (fun i => valA ρb aT (i + 14)) V 16 = 10 := by kernel_rfl
  have q17 : rhoA ρb (fun i => valA ρb aT (i + 14)) V 17 = 0 := by kernel_rfl
  have q18 : rhoA ρb (fun i => valA ρb aT (i + 14)) V 18 = 0 := by kernel_rfl
  have q19 : rhoA ρb (fun i => valA ρb aT (i + 14)) V 19 = 9 := by kernel_rfl
  have q20 : rhoA ρb (fun i => valA ρb aT (i + 14)) V 20 = 10 := by kernel_rfl
  have q21 : rhoA ρb (fun i => valA ρb aT (i + 14)) V 21 = 0 := by kernel_rfl
  have q22 : rhoA ρb (fun i => valA ρb aT (i + 14)) V 22 = 0 := by kernel_rfl
  have q23 : rhoA ρb (fun i => valA ρb aT (i + 14)) V 23 = 1 := by kernel_rfl
  rw [pl_eIp, q5, q6, q7, q8, q9, q10, q11, q12, q13, q14, q15, q16, q17, q18, q19, q20, q21, q22, q23]
  decide
theorem udU_b (i : Nat) : 0 ≤ valA ρb udU (i + 0) ∧ valA ρb udU (i + 0) ≤ 255 := valA_in (by kernel_rfl) _
theorem tcT_b (i : Nat) : 0 ≤ valA ρb tcT (i + 0) ∧ valA ρb tcT (i + 0) ≤ 255 := valA_in (by kernel_rfl) _
theorem h0_ports_udU (hb : ∀ i, 4 ≤ i → i < 32 → ρb i = 0) (h32 : 0 ≤ ρb 32 ∧ ρb 32 ≤ 1000) : plnS (rhoA ρb (fun i => valA ρb udU (i + 0)) V) ePorts % 65535 = 0 := by
  have q4 : rhoA ρb (fun i => valA ρb udU (i + 0)) V 4 = 0 := by kernel_rfl
  have q5 : rhoA ρb (fun i => valA ρb udU (i + 0)) V 5 = 7 := by kernel_rfl
  have q6 : rhoA ρb (fun i => valA ρb udU (i + 0)) V 6 = 0 := by kernel_rfl
  have q7 : rhoA ρb (fun i => valA ρb udU (i + 0)) V 7 = 53 := by kernel_rfl
  rw [pl_ePorts, q4, q5, q6, q7]
  have r32 : rhoA ρb (fun i => valA ρb udU (i + 0)) V 32 = ρb 32 := rhoA_fix (.inr (by decide))
  have rp : 0 ≤ rhoA ρb (fun i => valA ρb udU (i + 0)) V 32 ∧ rhoA ρb (fun i => valA ρb udU (i + 0)) V 32 ≤ 1000 := by rw [r32]; exact h32
  have rr := rhoA_rs (ρb := ρb) (X := fun i => valA ρb udU (i + 0)) (V := V) 0 0 (ρb 32).toNat
  have rs0 := rsZ_in ρb 32 0 0 (ρb 32).toNat
  have rs1 := rsZ_in (rhoA ρb (fun i => valA ρb udU (i + 0)) V) 32 0 0 (rhoA ρb (fun i => valA ρb udU (i + 0)) V 32).toNat
  obtain ⟨a, b, e1, _, e2, e3⟩ := two_ev (len_ev (ρ := ρb) (n := 8) h32 (by decide)) (by omega)
  obtain ⟨t1, t2, t3⟩ := T_ev (ρ := ρb) (fun i h1 h2 => by rw [hb i h1 h2]; omega) h32 (T := tUd) (by kernel_rfl)
  rw [pl_tUd] at t1 t2 t3
  obtain ⟨k1, k2, k3, k4⟩ := ckr_ev t1 ⟨by omega, by omega⟩
  obtain ⟨c, d, _, f1, f2, f3⟩ := two_ev k1 ⟨k2, k3⟩
  obtain ⟨ap, bp, e1p, _, e2p, e3p⟩ := two_ev (len_ev (ρ := (rhoA ρb (fun i => valA ρb udU (i + 0)) V)) (n := 8) rp (by decide)) (by omega)
  obtain ⟨t1p, t2p, t3p⟩ := T_ev (ρ := (rhoA ρb (fun i => valA ρb udU (i + 0)) V)) (letters_in udU_b) rp (T := tUd) (by kernel_rfl)
  rw [pl_tUd] at t1p t2p t3p
  obtain ⟨k1p, k2p, k3p, k4p⟩ := ckr_ev t1p ⟨by omega, by omega⟩
  obtain ⟨cp, dp, _, f1p, f2p, f3p⟩ := two_ev k1p ⟨k2p, k3p⟩
  simp only [r32, rr] at *
  omega
theorem h0_ports0_aU (hb : ∀ i, 4 ≤ i → i < 32 → ρb i = 0) (h32 : 0 ≤ ρb 32 ∧ ρb 32 ≤ 1000) : plnS (rhoA ρb (fun i => valA ρb aU (i + 34)) V) ePorts0 % 65535 = 0 := by
  have q4 : rhoA ρb (fun i => valA ρb aU (i + 34)) V 4 = 0 := by kernel_rfl
  have q5 : rhoA ρb (fun i => valA ρb aU (i + 34)) V 5 = 7 := by kernel_rfl
  have q6 : rhoA ρb (fun i => valA ρb aU (i + 34)) V 6 = 0 := by kernel_rfl
  have q7 : rhoA ρb (fun i => valA ρb aU (i + 34)) V 7 = 53 := by kernel_rfl
  rw [pl_ePorts0, q4, q5, q6, q7]
  decide
theorem h0_tcph_tcT (hb : ∀ i, 4 ≤ i → i < 32 → ρb i = 0) (h32 : 0 ≤ ρb 32 ∧ ρb 32 ≤ 1000) : plnS (rhoA ρb (fun i => valA ρb tcT (i + 0)) V) eTcph % 65535 = 0 := by
  have q4 : rhoA ρb (fun i => valA ρb tcT (i + 0)) V 4 = 0 := by kernel_rfl
  have q5 : rhoA ρb (fun i => valA ρb tcT (i + 0)) V 5 = 7 := by kernel_rfl
  have q6 : rhoA ρb (fun i => valA ρb tcT (i + 0)) V 6 = 0 := by kernel_rfl
  have q7 : rhoA ρb (fun i => valA ρb tcT (i + 0)) V 7 = 53 := by kernel_rfl
  have q8 : rhoA ρb (fun i => valA ρb tcT (i + 0)) V 8 = 0 := by kernel_rfl
  have q9 : rhoA ρb (fun i => valA ρb tcT (i + 0)) V 9 = 0 := by kernel_rfl
  have q10 : rhoA ρb (fun i => valA ρb tcT (i + 0)) V 10 = 0 := by kernel_rfl
  have q11 : rhoA ρb (fun i => valA ρb tcT (i + 0)) V 11 = 0 := by kernel_rfl
  have q12 : rhoA ρb (fun i => valA ρb tcT (i + 0)) V 12 = 0 := by kernel_rfl
  have q13 : rhoA ρb (fun i => valA ρb tcT (i + 0)) V 13 = 0 := by kernel_rfl
  have q14 : rhoA ρb (fun i => valA ρb tcT (i + 0)) V 14 = 0 := by kernel_rfl
  have q15 : rhoA ρb (fun i => valA ρb tcT (i + 0)) V 15 = 0 := by kernel_rfl
  have q17 : rhoA ρb (fun i => valA ρb tcT (i + 0)) V 17 = 2 := by kernel_rfl
  have q18 : rhoA ρb (fun i => valA ρb tcT (i + 0)) V 18 = 0 := by kernel_rfl
  have q19 : rhoA ρb (fun i => valA ρb tcT (i + 0)) V 19 = 9 := by kernel_rfl
  have q20 : rhoA ρb (fun i => valA ρb tcT (i + 0)) V 20 = IntKind.u8.wrap (SI.ev ρb (.bin .shr .u32 (.conv .u32 (.bin .sub .i64 (lN 65535) (.fold tTc))) (lN 8))) := by kernel_rfl
  have q21 : rhoA ρb (fun i => valA ρb tcT (i + 0)) V 21 = IntKind.u8.wrap (SI.ev ρb (.bin .sub .i64 (lN 65535) (.fold tTc))) := by kernel_rfl
  have q22 : rhoA ρb (fun i => valA ρb tcT (i + 0)) V 22 = 0 := by kernel_rfl
  have q23 : rhoA ρb (fun i => valA ρb tcT (i + 0)) V 23 = 0 := by kernel_rfl
  rw [pl_eTcph, q4, q5, q6, q7, q8, q9, q10, q11, q12, q13, q14, q15, q17, q18, q19, q20, q21, q22, q23]
  have r32 : rhoA ρb (fun i => valA ρb tcT (i + 0)) V 32 = ρb 32 := rhoA_fix (.inr (by decide))
  have rp : 0 ≤ rhoA ρb (fun i => valA ρb tcT (i + 0)) V 32 ∧ rhoA ρb (fun i => valA ρb tcT (i + 0)) V 32 ≤ 1000 := by rw [r32]; exact h32
  have rr := rhoA_rs (ρb := ρb) (X := fun i => valA ρb tcT (i + 0)) (V := V) 0 0 (ρb 32).toNat
  have rs0 := rsZ_in ρb 32 0 0 (ρb 32).toNat
  have rs1 := rsZ_in (rhoA ρb (fun i => valA ρb tcT (i + 0)) V) 32 0 0 (rhoA ρb (fun i => valA ρb tcT (i + 0)) V 32).toNat
  obtain ⟨a, b, e1, _, e2, e3⟩ := two_ev (len_ev (ρ := ρb) (n := 20) h32 (by decide)) (by omega)
  obtain ⟨t1, t2, t3⟩ := T_ev (ρ := ρb) (fun i h1 h2 => by rw [hb i h1 h2]; omega) h32 (T := tTc) (by kernel_rfl)
  rw [pl_tTc] at t1 t2 t3
  obtain ⟨k1, k2, k3, k4⟩ := ck_ev t1 ⟨by omega, by omega⟩
  obtain ⟨c, d, _, f1, f2, f3⟩ := two_ev k1 ⟨k2, k3⟩
  obtain ⟨ap, bp, e1p, _, e2p, e3p⟩ := two_ev (len_ev (ρ := (rhoA ρb (fun i => valA ρb tcT (i + 0)) V)) (n := 20) rp (by decide)) (by omega)
  obtain ⟨t1p, t2p, t3p⟩ := T_ev (ρ := (rhoA ρb (fun i => valA ρb tcT (i + 0)) V)) (letters_in tcT_b) rp (T := tTc) (by kernel_rfl)
  rw [pl_tTc] at t1p t2p t3p
  obtain ⟨k1p, k2p, k3p, k4p⟩ := ck_ev t1p ⟨by omega, by omega⟩
  obtain ⟨cp, dp, _, f1p, f2p, f3p⟩ := two_ev k1p ⟨k2p, k3p⟩
  simp only [r32, rr] at *
  omega
theorem h0_tcph0_aT (hb : ∀ i, 4 ≤ i → i < 32 → ρb i = 0) (h32 : 0 ≤ ρb 32 ∧ ρb 32 ≤ 1000) : plnS (rhoA ρb (fun i => valA ρb aT (i + 34)) V) eTcph0 % 65535 = 0 := by
  have q4 : rhoA ρb (fun i => valA ρb aT (i + 34)) V 4 = 0 := by kernel_rfl
  have q5 : rhoA ρb (fun i => valA ρb aT (i + 34)) V 5 = 7 := by kernel_rfl
  have q6 : rhoA ρb (fun i => valA ρb aT (i + 34)) V 6 = 0 := by kernel_rfl
  have q7 : rhoA ρb (fun i => valA ρb aT (i + 34)) V 7 = 53 := by kernel_rfl
  have q8 : rhoA ρb (fun i => valA ρb aT (i + 34)) V 8 = 0 := by kernel_rfl
  have q9 : rhoA ρb (fun i => valA ρb aT (i + 34)) V 9 = 0 := by kernel_rfl
  have q10 : rhoA ρb (fun i => valA ρb aT (i + 34)) V 10 = 0 := by kernel_rfl
  have q11 : rhoA ρb (fun i => valA ρb aT (i + 34)) V 11 = 0 := by kernel_rfl
  have q12 : rhoA ρb (fun i => valA ρb aT (i + 34)) V 12 = 0 := by kernel_rfl
  have q13 : rhoA ρb (fun i => valA ρb aT (i + 34)) V 13 = 0 := by kernel_rfl
  have q14 : rhoA ρb (fun i => valA ρb aT (i + 34)) V 14 = 0 := by kernel_rfl
  have q15 : rhoA ρb (fun i => valA ρb aT (i + 34)) V 15 = 0 := by kernel_rfl
  have q17 : rhoA ρb (fun i => valA ρb aT (i + 34)) V 17 = 2 := by kernel_rfl
  have q18 : rhoA ρb (fun i => valA ρb aT (i + 34)) V 18 = 0 := by kernel_rfl
  have q19 : rhoA ρb (fun i => valA ρb aT (i + 34)) V 19 = 9 := by kernel_rfl
  have q20 : rhoA ρb (fun i => valA ρb aT (i + 34)) V 20 = 155 := by kernel_rfl
  have q21 : rhoA ρb (fun i => valA ρb aT (i + 34)) V 21 = 148 := by kernel_rfl
  have q22 : rhoA ρb (fun i => valA ρb aT (i + 34)) V 22 = 0 := by kernel_rfl
  have q23 : rhoA ρb (fun i => valA ρb aT (i + 34)) V 23 = 0 := by kernel_rfl
  rw [pl_eTcph0, q4, q5, q6, q7, q8, q9, q10, q11, q12, q13, q14, q15, q17, q18, q19, q20, q21, q22, q23]
  decide
theorem h0_tcpho_tcT (hb : ∀ i, 4 ≤ i → i < 32 → ρb i = 0) (h32 : 0 ≤ ρb 32 ∧ ρb 32 ≤ 1000) : plnS (rhoA ρb (fun i => valA ρb tcT (i + 0)) V) eTcpho % 65535 = 0 := by
  have q16 : rhoA ρb (fun i => valA ρb tcT (i + 0)) V 16 = 80 := by kernel_rfl
  rw [pl_eTcpho, q16]
  have r32 : rhoA ρb (fun i => valA ρb tcT (i + 0)) V 32 = ρb 32 := rhoA_fix (.inr (by decide))
  have rp : 0 ≤ rhoA ρb (fun i => valA ρb tcT (i + 0)) V 32 ∧ rhoA ρb (fun i => valA ρb tcT (i + 0)) V 32 ≤ 1000 := by rw [r32]; exact h32
  have rr := rhoA_rs (ρb := ρb) (X := fun i => valA ρb tcT (i + 0)) (V := V) 0 0 (ρb 32).toNat
  have rs0 := rsZ_in ρb 32 0 0 (ρb 32).toNat
  have rs1 := rsZ_in (rhoA ρb (fun i => valA ρb tcT (i + 0)) V) 32 0 0 (rhoA ρb (fun i => valA ρb tcT (i + 0)) V 32).toNat
  obtain ⟨a, b, e1, _, e2, e3⟩ := two_ev (len_ev (ρ := ρb) (n := 20) h32 (by decide)) (by omega)
  obtain ⟨t1, t2, t3⟩ := T_ev (ρ := ρb) (fun i h1 h2 => by rw [hb i h1 h2]; omega) h32 (T := tTc) (by kernel_rfl)
  rw [pl_tTc] at t1 t2 t3
  obtain ⟨k1, k2, k3, k4⟩ := ck_ev t1 ⟨by omega, by omega⟩
  obtain ⟨c, d, _, f1, f2, f3⟩ := two_ev k1 ⟨k2, k3⟩
  obtain ⟨ap, bp, e1p, _, e2p, e3p⟩ := two_ev (len_ev (ρ := (rhoA ρb (fun i => valA ρb tcT (i + 0)) V)) (n := 20) rp (by decide)) (by omega)
  obtain ⟨t1p, t2p, t3p⟩ := T_ev (ρ := (rhoA ρb (fun i => valA ρb tcT (i + 0)) V)) (letters_in tcT_b) rp (T := tTc) (by kernel_rfl)
  rw [pl_tTc] at t1p t2p t3p
  obtain ⟨k1p, k2p, k3p, k4p⟩ := ck_ev t1p ⟨by omega, by omega⟩
  obtain ⟨cp, dp, _, f1p, f2p, f3p⟩ := two_ev k1p ⟨k2p, k3p⟩
  simp only [r32, rr] at *
  omega
theorem row_same {X : Nat → Int} (n : Nat) : rsZ (rhoA ρb X (fun i => rowB ρb 32 i)) 33 0 0 n = rsZ (rhoA ρb X (fun i => rowB ρb 32 i)) 32 0 0 n := by
  refine rsZ_congr n fun i _ => ?_
  rw [rhoA_r33, rhoA_row (by decide) (by decide) (by decide), Nat.zero_add]
  have := rowB_in ρb 32 i
  exact wrap_in (k := .u8) ⟨by show (0 : Int) ≤ _; omega, by show _ ≤ (255 : Int); omega⟩
theorem h0_urow (h32 : 0 ≤ ρb 32 ∧ ρb 32 ≤ 1000) : plnS (rhoA ρb (fun _ => 0) (fun i => rowB ρb 32 i)) eUrow % 65535 = 0 := by
  have r32 : rhoA ρb (fun _ => 0) (fun i => rowB ρb 32 i) 32 = ρb 32 := rhoA_fix (.inr (by decide))
  have hl := letters_in (ρb := ρb) (X := fun _ => 0) (V := fun i => rowB ρb 32 i) (fun i => ⟨by decide, by decide⟩)
  have rr := row_same (ρb := ρb) (X := fun _ => 0) (rhoA ρb (fun _ => 0) (fun i => rowB ρb 32 i) 32).toNat
  rw [pl_eUrow]
  rw [← r32] at h32
  generalize rhoA ρb (fun _ => 0) (fun i => rowB ρb 32 i) = ρ at *
  have rs0 := rsZ_in ρ 32 0 0 (ρ 32).toNat
  obtain ⟨a, b, e1, _, e2, e3⟩ := two_ev (len_ev (ρ := ρ) (n := 8) h32 (by decide)) (by omega)
  obtain ⟨t1, t2, t3⟩ := T_ev (ρ := ρ) hl h32 (T := tUd) (by kernel_rfl)
  rw [pl_tUd] at t1 t2 t3
  obtain ⟨k1, k2, k3, k4⟩ := ckr_ev t1 ⟨by omega, by omega⟩
  obtain ⟨c, d, _, f1, f2, f3⟩ := two_ev k1 ⟨k2, k3⟩
  omega
theorem h0_trow (h32 : 0 ≤ ρb 32 ∧ ρb 32 ≤ 1000) : plnS (rhoA ρb (fun _ => 0) (fun i => rowB ρb 32 i)) eTrow % 65535 = 0 := by
  have r32 : rhoA ρb (fun _ => 0) (fun i => rowB ρb 32 i) 32 = ρb 32 := rhoA_fix (.inr (by decide))
  have hl := letters_in (ρb := ρb) (X := fun _ => 0) (V := fun i => rowB ρb 32 i) (fun i => ⟨by decide, by decide⟩)
  have rr := row_same (ρb := ρb) (X := fun _ => 0) (rhoA ρb (fun _ => 0) (fun i => rowB ρb 32 i) 32).toNat
  rw [pl_eTrow]
  rw [← r32] at h32
  generalize rhoA ρb (fun _ => 0) (fun i => rowB ρb 32 i) = ρ at *
  have rs0 := rsZ_in ρ 32 0 0 (ρ 32).toNat
  obtain ⟨a, b, e1, _, e2, e3⟩ := two_ev (len_ev (ρ := ρ) (n := 20) h32 (by decide)) (by omega)
  obtain ⟨t1, t2, t3⟩ := T_ev (ρ := ρ) hl h32 (T := tTc) (by kernel_rfl)
  rw [pl_tTc] at t1 t2 t3
  obtain ⟨k1, k2, k3, k4⟩ := ck_ev t1 ⟨by omega, by omega⟩
  obtain ⟨c, d, _, f1, f2, f3⟩ := two_ev k1 ⟨k2, k3⟩
  omega
theorem not_tcpv {ρ : Nat → Int} (hl : ∀ i, 4 ≤ i → i < 32 → 0 ≤ ρ i ∧ ρ i ≤ 255) (h32 : 0 ≤ ρ 32 ∧ ρ 32 ≤ 1000) {n : Nat} (hn : ∃ v, n = 71 + 256 * v ∧ 81 ≤ v ∧ v ≤ 95) (hb : (bdS (eTcpv n)).isSome = true) : (notR (eTcpv n)).1.ev ρ = (notR (eTcpv n)).2 := by
  obtain ⟨v, hv, v1, v2⟩ := hn
  obtain ⟨s1, s2, s3⟩ := T_ev hl h32 hb
  rw [pl_eTcpv] at s1 s2 s3
  have rs0 := rsZ_in ρ 32 0 0 (ρ 32).toNat
  obtain ⟨a, b, e1, _, e2, e3⟩ := two_ev (len_ev (ρ := ρ) (n := 20) h32 (by decide)) (by omega)
  obtain ⟨t1, t2, t3⟩ := T_ev (ρ := ρ) hl h32 (T := tTc) (by kernel_rfl)
  rw [pl_tTc] at t1 t2 t3
  obtain ⟨k1, k2, k3, k4⟩ := ck_ev t1 ⟨by omega, by omega⟩
  obtain ⟨c, d, _, f1, f2, f3⟩ := two_ev k1 ⟨k2, k3⟩
  refine notR_ok (by rw [s1]; omega) (by rw [s1]; omega) ?_
  rw [s1]
  omega
end

/-! facts -/
theorem fact_head {ρb V : Nat → Int} {A : List SI} {o j : Nat} {a2 : Int} {E : SI} (hA : A.all byteF = true) (hj : o ≤ j ∧ j < o + 28) (h32 : 0 ≤ ρb 32 ∧ ρb 32 ≤ 1000) (h2 : 1 ≤ a2 ∧ a2 ≤ 255) (hb : (bdS E).isSome = true) (hx : frX E = true) (hc : coS (4 + (j - o)) E = 1 ∨ coS (4 + (j - o)) E = 256) (hl : Nat.blt 0 (lbS E) = true)
    (h0 : plnS (rhoA ρb (fun i => valA ρb A (i + o)) V) E % 65535 = 0) : (notR E).1.ev (rhoA ρb (altX ρb A o j (bits .xor .u8 (valA ρb A j) a2)) V) = (notR E).2 := by
  have hv := valA_in (ρb := ρb) hA j
  obtain ⟨u0, u1, u2⟩ := xor_byte hv h2
  have hin := altX_in (ρb := ρb) (o := o) (j := j) hA ⟨u0, u1⟩
  have r32 : rhoA ρb (altX ρb A o j (bits .xor .u8 (valA ρb A j) a2)) V 32 = ρb 32 := rhoA_fix (.inr (by decide))
  obtain ⟨m, hm⟩ := Option.isSome_iff_exists.1 hb
  have hB := bdS_ok (letters_in hin) (by rw [r32]; exact h32) hm
  have hL := lbS_ok (letters_in hin) (by rw [r32]; exact h32) hm
  have hs := plnS_set (ρb := ρb) (V := V) (X := altX ρb A o j (bits .xor .u8 (valA ρb A j) a2)) (X' := fun i => valA ρb A (i + o)) (j := j - o) (by omega) (fun i hi => by
    unfold altX
    rw [if_neg (by omega)]) hx
  have hz : altX ρb A o j (bits .xor .u8 (valA ρb A j) a2) (j - o) = bits .xor .u8 (valA ρb A j) a2 := by
    unfold altX
    rw [if_pos (by omega)]
  rw [hz, show j - o + o = j by omega, Int.mul_comm] at hs
  rw [natBlt, decide_eq_true_eq] at hl
  refine notR_ok (by rw [hB.2.2.2]; omega) (by rw [hB.2.2.2]; omega) ?_
  rw [hB.2.2.2, hs]
  exact not_full h0 (by omega) (by omega) hc
theorem fact_row {ρb : Nat → Int} {j : Nat} {a2 : Int} {E : SI} (hn : (j : Int) < ρb 32) (h32 : 0 ≤ ρb 32 ∧ ρb 32 ≤ 1000) (h2 : 1 ≤ a2 ∧ a2 ≤ 255) (hb : (bdS E).isSome = true) (hx : frR 0 E = true) (hc : coR 0 E = 1) (hl : Nat.blt 0 (lbS E) = true)
    (h0 : plnS (rhoA ρb (fun _ => 0) (fun i => rowB ρb 32 i)) E % 65535 = 0) : (notR E).1.ev (rhoA ρb (fun _ => 0) (altV ρb j (bits .xor .u8 (rowB ρb 32 j) a2))) = (notR E).2 := by
  have hv := rowB_in ρb 32 j
  obtain ⟨u0, u1, u2⟩ := xor_byte hv h2
  have hin : ∀ i, 0 ≤ (fun _ : Nat => (0 : Int)) i ∧ (fun _ : Nat => (0 : Int)) i ≤ 255 := fun i => by
    show (0 : Int) ≤ 0 ∧ (0 : Int) ≤ 255
    decide
  have r32 : rhoA ρb (fun _ => 0) (altV ρb j (bits .xor .u8 (rowB ρb 32 j) a2)) 32 = ρb 32 := rhoA_fix (.inr (by decide))
  obtain ⟨m, hm⟩ := Option.isSome_iff_exists.1 hb
  have hB := bdS_ok (letters_in hin) (by rw [r32]; exact h32) hm
  have hL := lbS_ok (letters_in hin) (by rw [r32]; exact h32) hm
  have hsame : ∀ i, rowB (rhoA ρb (fun _ => 0) (fun i => rowB ρb 32 i)) 33 i = rowB ρb 32 i := fun i => by
    rw [rhoA_r33]
    have := rowB_in ρb 32 i
    exact wrap_in (k := .u8) ⟨by show (0 : Int) ≤ _; omega, by show _ ≤ (255 : Int); omega⟩
  have hd := rsZ_alt (ρ := rhoA ρb (fun _ => 0) (fun i => rowB ρb 32 i)) (ρ' := rhoA ρb (fun _ => 0) (altV ρb j (bits .xor .u8 (rowB ρb 32 j) a2))) (a := 33) (a' := 33) (p := 0) (o := 0) (o' := 0) (j := j) (d := bits .xor .u8 (rowB ρb 32 j) a2 - rowB ρb 32 j) (ρb 32).toNat (by omega)
    (fun i _ hi => by rw [Nat.zero_add, altV_row ⟨u0, u1⟩, if_neg hi, hsame]) (by rw [Nat.zero_add, altV_row ⟨u0, u1⟩, if_pos rfl, hsame]; omega)
  have hs := plnS_row (ρb := ρb) (X := fun _ => 0) hd hx
  rw [hc, Int.one_mul] at hs
  rw [natBlt, decide_eq_true_eq] at hl
  refine notR_ok (by rw [hB.2.2.2]; omega) (by rw [hB.2.2.2]; omega) ?_
  rw [hB.2.2.2, hs]
  refine not_full h0 (by omega) (by omega) ?_
  split
  · exact .inr rfl
  · exact .inl rfl

/-! a run, and what it says -/
noncomputable def ihA : EvT := ev Tryz.prog plansJ sumsK19 (nat_lit 100000) 100000
noncomputable def callA : CallT := callF Tryz.prog sumsK19 ihA
theorem all_of {α : Type} {p : α → Bool} {l : List α} (h : l.all p = true) : ∀ x ∈ l, p x = true := fun x hx => List.all_eq_true.1 h x hx
theorem ihA_ok (ρ : Nat → Int) : CodeSound Tryz.prog ρ plansJ ihA := ev_sound (by kernel_rfl) plansJ_ok sumsK19_ok 100000 100000 ρ
theorem env (ρ : Nat → Int) : Env ρ plansJ ihA callA :=
  ⟨ihA_ok ρ, callF_sound plansJ_ok sumsK19_ok (ihA_ok ρ), all_of (by kernel_rfl), by kernel_rfl, by kernel_rfl, all_of (by kernel_rfl), all_of (by kernel_rfl), by kernel_rfl⟩
noncomputable def endsOk (v : Nat) (lo : Int) (m : Nat) (r : R) (acc : List (SB × Bool)) : Bool := match endsR r acc with
  | some L => L.all fun x => isB true x.1 || (Nat.blt (nat_lit 0) m && refB v lo m x.2)
  | none => false
def rgL (p0 p1 lo hi i0 i1 : Int) : List (Int × Int) := (0, 0) :: (-9223372036854775808, 9223372036854775807) :: (1, 255) :: (p0, p1) :: (0, 255) :: (0, 255) :: (0, 255) :: (0, 255) :: (0, 255) :: (0, 255) :: (0, 255) :: (0, 255) :: (0, 255) :: (0, 255) :: (0, 255) :: (0, 255) :: (i0, i1) :: (0, 255) :: (0, 255) :: (0, 255) :: (0, 255) :: (0, 255) :: (0, 255) :: (0, 255) :: (0, 255) :: (0, 255) :: (0, 255) :: (0, 255) :: (0, 255) :: (0, 255) :: (0, 255) :: (0, 255) :: [(lo, hi)]
noncomputable def runA (X : Sw) (E14 : SI) (pcs : List (SB × Bool)) (rg : List (Int × Int)) (d : AV) (tcp : Bool) : R := altR ihA callA X E14 ⟨.nil, nat_lit 0, ⟨pcs, [[]], rg⟩⟩ [d, .int .i64 (.var 1), .int .u8 (.var 2), .bool (.lit tcp)]
theorem run_any {ρ : Nat → Int} {X : Sw} {E14 : SI} {pcs : List (SB × Bool)} {rg : List (Int × Int)} {d : AV} {tcp : Bool} {v m : Nat} {lo : Int} (h : endsOk v lo m (runA X E14 pcs rg d tcp) (X.fa ++ pcs) = true) (hX : SwOk ρ X) (hacc : ∀ x ∈ X.fa ++ pcs, x.1.ev ρ = x.2) (hrg : RgOk ρ rg) (hv : m = 0 ∨ lo ≤ ρ v ∧ ρ v < lo + m) {y : Int} (hy : E14.ev ρ = y) (hy2 : 2 ≤ y ∧ y ≤ 100000) (h3 : ρ 3 = place (ρ 1) y) {dv : Value} (hd : conc [] ρ d = some dv) (W : World) (hfo : FoOk ρ W) :
    Calls Tryz.prog 3 #[dv, .int .i64 (ρ 1), .int .u8 (ρ 2), .bool tcp] W fun e w' => e = .returned (.bool true) ∧ Kp [] W w' := by
  unfold endsOk at h
  split at h
  · rename_i L hL
    refine alt_main (env ρ) hX hL (fun x hx hc => ?_) hacc hrg hy hy2 h3 (xs := [dv, .int .i64 (ρ 1), .int .u8 (ρ 2), .bool tcp]) ?_ (by show 4 ≤ 134; omega) W hfo
    · have := List.all_eq_true.1 h x hx
      rw [Bool.or_eq_true] at this
      rcases this with h1 | h1
      · unfold isB at h1
        split at h1
        · rename_i b hb
          rw [beq_iff_eq] at h1
          rw [hb, h1]
        · cases h1
      · rw [Bool.and_eq_true, natBlt, decide_eq_true_eq] at h1
        exact absurd hc (refB_ok h1.2 (by omega) (by omega))
    · exact concL_mk hd rfl
  · cases h
theorem rgL_ok {ρ : Nat → Int} {p0 p1 lo hi i0 i1 : Int} (h0 : ρ 0 = 0) (h1 : -9223372036854775808 ≤ ρ 1 ∧ ρ 1 ≤ 9223372036854775807) (h2 : 1 ≤ ρ 2 ∧ ρ 2 ≤ 255) (h3 : p0 ≤ ρ 3 ∧ ρ 3 ≤ p1) (hl : ∀ i, 4 ≤ i → i < 32 → 0 ≤ ρ i ∧ ρ i ≤ 255) (h16 : i0 ≤ ρ 16 ∧ ρ 16 ≤ i1) (h32 : lo ≤ ρ 32 ∧ ρ 32 ≤ hi) : RgOk ρ (rgL p0 p1 lo hi i0 i1) := by
  unfold rgL
  refine rgOk_cons ⟨by omega, by omega⟩ (rgOk_cons h1 (rgOk_cons h2 (rgOk_cons h3 ?_)))
  iterate 12 refine rgOk_cons (hl _ (by decide) (by decide)) ?_
  refine rgOk_cons h16 ?_
  iterate 15 refine rgOk_cons (hl _ (by decide) (by decide)) ?_
  exact rgOk_cons h32 rgOk_nil
abbrev posA : SI := .bin .add .i64 (.var 3) (lN 15)
/-- what there is at the beginning: numbers, the data -/
structure Beg (W : World) (ρb : Nat → Int) (L h : Nat) (a1 a2 : Int) (d : AV) (dv : Value) : Prop where
  b0 : ρb 0 = 0
  b1 : ρb 1 = a1
  b2 : ρb 2 = a2
  b3 : ρb 3 = place a1 (L + h : Nat)
  b32 : ρb 32 = L
  bz : ∀ i, 4 ≤ i → i < 32 → ρb i = 0
  hL : L ≤ 1000
  hh : h = 28 ∨ h = 40
  h1 : -9223372036854775808 ≤ a1 ∧ a1 ≤ 9223372036854775807
  h2 : 1 ≤ a2 ∧ a2 ≤ 255
  fo : FoOk ρb W
  m33 : ρb (fMark 33) ≠ 1
  hd : ∀ X V, conc [] (rhoA ρb X V) d = some dv
section
variable {W : World} {ρb : Nat → Int} {L h : Nat} {a1 a2 : Int} {d : AV} {dv : Value}
/-- bits .xor, as the reckoner tells it -/
theorem Beg.run (B : Beg W ρb L h a1 a2 d dv) {X V : Nat → Int} (hX : ∀ i, 0 ≤ X i ∧ X i ≤ 255) {S : Sw} {E14 : SI} {pcs : List (SB × Bool)} {tcp : Bool} {v m : Nat} {lo' p0 p1 lo hi i0 i1 : Int} (hr : endsOk v lo' m (runA S E14 pcs (rgL p0 p1 lo hi i0 i1) d tcp) (S.fa ++ pcs) = true) (hS : SwOk (rhoA ρb X V) S) (hacc : ∀ x ∈ S.fa ++ pcs, x.1.ev (rhoA ρb X V) = x.2)
    (hp : p0 ≤ place a1 (L + h : Nat) ∧ place a1 (L + h : Nat) ≤ p1) (hlo : lo ≤ L ∧ (L : Int) ≤ hi) (h16 : i0 ≤ X 12 ∧ X 12 ≤ i1) (hv : m = 0 ∨ lo' ≤ rhoA ρb X V v ∧ rhoA ρb X V v < lo' + m) (hE : ∀ ρ : Nat → Int, ρ 32 = L → E14.ev ρ = (L + h : Nat)) :
    Calls Tryz.prog 3 #[dv, .int .i64 a1, .int .u8 a2, .bool tcp] W fun e w' => e = .returned (.bool true) ∧ Kp [] W w' := by
  have e0 : rhoA ρb X V 0 = 0 := (rhoA_fix (.inl (by decide))).trans B.b0
  have e1 : rhoA ρb X V 1 = a1 := (rhoA_fix (.inl (by decide))).trans B.b1
  have e2 : rhoA ρb X V 2 = a2 := (rhoA_fix (.inl (by decide))).trans B.b2
  have e3 : rhoA ρb X V 3 = place a1 (L + h : Nat) := (rhoA_fix (.inl (by decide))).trans B.b3
  have e32 : rhoA ρb X V 32 = L := (rhoA_fix (.inr (by decide))).trans B.b32
  have e16 : rhoA ρb X V 16 = X 12 := rhoA_let (k := 12) (by decide)
  have h1 := B.h1
  have h2 := B.h2
  have hL := B.hL
  have hh := B.hh
  have := run_any (ρ := rhoA ρb X V) hr hS hacc (rgL_ok e0 (by rw [e1]; exact h1) (by rw [e2]; exact h2) (by rw [e3]; exact hp) (letters_in hX) (by rw [e16]; exact h16) (by rw [e32]; exact hlo)) hv (hE _ e32) (by omega) (by rw [e3, e1]) (B.hd X V) W (foA B.fo B.m33)
  rw [e1, e2] at this
  exact this
theorem pos_ev {ρ : Nat → Int} (h : 0 ≤ ρ 3 ∧ ρ 3 ≤ 100000) : posA.ev ρ = ρ 3 + 15 := by
  show IntKind.i64.wrap (ρ 3 + 15) = _
  exact wrapI (by omega) (by omega)
set_option maxRecDepth 100000 in
/-- a byte of a head -/
theorem Beg.head (B : Beg W ρb L h a1 a2 d dv) {pre rest : List Ch} {A A' : List SI} {m : Nat → Bool} {o off j : Nat} {len E14 : SI} {fa pcs : List (SB × Bool)} {tcp : Bool} {p0 p1 lo hi i0 i1 : Int}
    (hr : endsOk 0 0 0 (runA ⟨posA, len, pre ++ .bs A :: rest, pre ++ .bs A' :: rest, fa⟩ E14 pcs (rgL p0 p1 lo hi i0 i1) d tcp) (fa ++ pcs) = true) (hA' : altB m o 0 A = A') (hA : A.all onlyA = true) (hA2 : A.all byteF = true) (hm : m j = true) (hl : ∀ i, m i = true → o ≤ i ∧ i < o + 28) (hj : j < A.length)
    (hpre : ∀ ρ, (ropeZ ρ pre).length = off) (hoff : (off : Int) + j = 15 + place a1 (L + h : Nat)) (hlen : ∀ ρ : Nat → Int, ρ 32 = L → (off : Int) + j < len.ev ρ) (hE : ∀ ρ : Nat → Int, ρ 32 = L → E14.ev ρ = (L + h : Nat))
    (hp : p0 ≤ place a1 (L + h : Nat) ∧ place a1 (L + h : Nat) ≤ p1) (hlo : lo ≤ L ∧ (L : Int) ≤ hi) (h16 : i0 ≤ altX ρb A o j (bits .xor .u8 (valA ρb A j) a2) 12 ∧ altX ρb A o j (bits .xor .u8 (valA ρb A j) a2) 12 ≤ i1)
    (hfa : ∀ x ∈ fa ++ pcs, x.1.ev (rhoA ρb (altX ρb A o j (bits .xor .u8 (valA ρb A j) a2)) (fun _ => 0)) = x.2) :
    Calls Tryz.prog 3 #[dv, .int .i64 a1, .int .u8 a2, .bool tcp] W fun e w' => e = .returned (.bool true) ∧ Kp [] W w' := by
  obtain ⟨u0, u1, u2⟩ := xor_byte (valA_in (ρb := ρb) hA2 j) B.h2
  have hX := altX_in (ρb := ρb) (o := o) (j := j) hA2 ⟨u0, u1⟩
  have e2 : rhoA ρb (altX ρb A o j (bits .xor .u8 (valA ρb A j) a2)) (fun _ => 0) 2 = a2 := (rhoA_fix (.inl (by decide))).trans B.b2
  have e3 : rhoA ρb (altX ρb A o j (bits .xor .u8 (valA ρb A j) a2)) (fun _ => 0) 3 = place a1 (L + h : Nat) := (rhoA_fix (.inl (by decide))).trans B.b3
  have e32 : rhoA ρb (altX ρb A o j (bits .xor .u8 (valA ρb A j) a2)) (fun _ => 0) 32 = L := (rhoA_fix (.inr (by decide))).trans B.b32
  have hpl := place_rg (x := a1) (y := ((L + h : Nat) : Int)) (by have := B.hh; omega)
  have hz : ((Ch.bs A).zs (rhoA ρb (altX ρb A o j (bits .xor .u8 (valA ρb A j) a2)) (fun _ => 0)))[j]? = some (valA ρb A j) := by
    show (A.map _)[j]? = _
    rw [List.getElem?_map, List.getElem?_eq_getElem hj]
    show some (SI.ev _ A[j]) = _
    rw [onlyA_ev (List.all_eq_true.1 hA _ (List.getElem_mem hj))]
    unfold valA
    rw [List.getElem?_map, List.getElem?_eq_getElem hj]
    rfl
  have hset : (Ch.bs A').zs (rhoA ρb (altX ρb A o j (bits .xor .u8 (valA ρb A j) a2)) (fun _ => 0)) = ((Ch.bs A).zs (rhoA ρb (altX ρb A o j (bits .xor .u8 (valA ρb A j) a2)) (fun _ => 0))).set j (bits .xor .u8 (valA ρb A j) a2) := by
    show A'.map _ = (A.map _).set _ _
    rw [← hA', altB_ev hA hm hl]
    congr 1
    exact List.map_congr_left fun e he => (onlyA_ev (List.all_eq_true.1 hA _ he)).symm
  obtain ⟨g1, g2⟩ := sw_mid (pre := pre) (rest := rest) hz hset
  rw [hpre] at g1 g2
  refine B.run hX hr ⟨⟨off + j, valA ρb A j, ?_, ?_, g1, by rw [e2]; exact g2⟩⟩ hfa hp hlo h16 (.inl rfl) hE
  · show posA.ev _ = _
    rw [pos_ev (by rw [e3]; have := B.hL; have := B.hh; omega), e3]
    omega
  · have := hlen _ e32
    show ((off + j : Nat) : Int) < len.ev _
    omega
theorem zero_in : ∀ i : Nat, (0 : Int) ≤ (fun _ : Nat => (0 : Int)) i ∧ (fun _ : Nat => (0 : Int)) i ≤ 255 := fun i => by
  show (0 : Int) ≤ 0 ∧ (0 : Int) ≤ 255
  decide
set_option maxRecDepth 100000 in
/-- a byte of the data -/
theorem Beg.row (B : Beg W ρb L h a1 a2 d dv) {pre rest : List Ch} {off j : Nat} {len E14 : SI} {fa pcs : List (SB × Bool)} {tcp : Bool} {p0 p1 lo hi : Int}
    (hr : endsOk 0 0 0 (runA ⟨posA, len, pre ++ .row 32 (lN 0) (.var 32) :: rest, pre ++ .row 33 (lN 0) (.var 32) :: rest, fa⟩ E14 pcs (rgL p0 p1 lo hi 0 255) d tcp) (fa ++ pcs) = true) (hj : j < L) (hpre : ∀ ρ, (ropeZ ρ pre).length = off) (hoff : (off : Int) + j = 15 + place a1 (L + h : Nat)) (hlen : ∀ ρ : Nat → Int, ρ 32 = L → (off : Int) + j < len.ev ρ) (hE : ∀ ρ : Nat → Int, ρ 32 = L → E14.ev ρ = (L + h : Nat))
    (hp : p0 ≤ place a1 (L + h : Nat) ∧ place a1 (L + h : Nat) ≤ p1) (hlo : lo ≤ L ∧ (L : Int) ≤ hi) (hfa : ∀ x ∈ fa ++ pcs, x.1.ev (rhoA ρb (fun _ => 0) (altV ρb j (bits .xor .u8 (rowB ρb 32 j) a2))) = x.2) :
    Calls Tryz.prog 3 #[dv, .int .i64 a1, .int .u8 a2, .bool tcp] W fun e w' => e = .returned (.bool true) ∧ Kp [] W w' := by
  obtain ⟨u0, u1, u2⟩ := xor_byte (rowB_in ρb 32 j) B.h2
  have e2 : rhoA ρb (fun _ => 0) (altV ρb j (bits .xor .u8 (rowB ρb 32 j) a2)) 2 = a2 := (rhoA_fix (.inl (by decide))).trans B.b2
  have e3 : rhoA ρb (fun _ => 0) (altV ρb j (bits .xor .u8 (rowB ρb 32 j) a2)) 3 = place a1 (L + h : Nat) := (rhoA_fix (.inl (by decide))).trans B.b3
  have e32 : rhoA ρb (fun _ => 0) (altV ρb j (bits .xor .u8 (rowB ρb 32 j) a2)) 32 = L := (rhoA_fix (.inr (by decide))).trans B.b32
  have hpl := place_rg (x := a1) (y := ((L + h : Nat) : Int)) (by have := B.hh; omega)
  obtain ⟨z1, z2⟩ := altV_zs (ρb := ρb) (X := fun _ => 0) ⟨u0, u1⟩ B.b32 hj
  obtain ⟨g1, g2⟩ := sw_mid (pre := pre) (rest := rest) z1 z2
  rw [hpre] at g1 g2
  refine B.run zero_in hr ⟨⟨off + j, rowB ρb 32 j, ?_, ?_, g1, by rw [e2]; exact g2⟩⟩ hfa hp hlo ⟨by decide, by decide⟩ (.inl rfl) hE
  · show posA.ev _ = _
    rw [pos_ev (by rw [e3]; have := B.hL; have := B.hh; omega), e3]
    omega
  · have := hlen _ e32
    show ((off + j : Nat) : Int) < len.ev _
    omega
set_option maxRecDepth 100000 in
/-- a byte of a head becomes this one -/
theorem Beg.lit (B : Beg W ρb L h a1 a2 d dv) {pre rest : List Ch} {A A' : List SI} {off j v : Nat} {len E14 : SI} {fa pcs : List (SB × Bool)} {tcp : Bool} {p0 p1 lo hi : Int}
    (hr : endsOk 0 0 0 (runA ⟨posA, len, pre ++ .bs A :: rest, pre ++ .bs A' :: rest, fa⟩ E14 pcs (rgL p0 p1 lo hi 0 255) d tcp) (fa ++ pcs) = true) (hA' : A.set j (lN v) = A') (hA : A.all onlyA = true) (hj : j < A.length) (hv : bits .xor .u8 (valA ρb A j) a2 = v)
    (hpre : ∀ ρ, (ropeZ ρ pre).length = off) (hoff : (off : Int) + j = 15 + place a1 (L + h : Nat)) (hlen : ∀ ρ : Nat → Int, ρ 32 = L → (off : Int) + j < len.ev ρ) (hE : ∀ ρ : Nat → Int, ρ 32 = L → E14.ev ρ = (L + h : Nat))
    (hp : p0 ≤ place a1 (L + h : Nat) ∧ place a1 (L + h : Nat) ≤ p1) (hlo : lo ≤ L ∧ (L : Int) ≤ hi) (hfa : ∀ x ∈ fa ++ pcs, x.1.ev (rhoA ρb (fun _ => 0) (fun _ => 0)) = x.2) :
    Calls Tryz.prog 3 #[dv, .int .i64 a1, .int .u8 a2, .bool tcp] W fun e w' => e = .returned (.bool true) ∧ Kp [] W w' := by
  have e2 : rhoA ρb (fun _ => 0) (fun _ => 0) 2 = a2 := (rhoA_fix (.inl (by decide))).trans B.b2
  have e3 : rhoA ρb (fun _ => 0) (fun _ => 0) 3 = place a1 (L + h : Nat) := (rhoA_fix (.inl (by decide))).trans B.b3
  have e32 : rhoA ρb (fun _ => 0) (fun _ => 0) 32 = L := (rhoA_fix (.inr (by decide))).trans B.b32
  have hpl := place_rg (x := a1) (y := ((L + h : Nat) : Int)) (by have := B.hh; omega)
  have hz : ((Ch.bs A).zs (rhoA ρb (fun _ => 0) (fun _ => 0)))[j]? = some (valA ρb A j) := by
    show (A.map _)[j]? = _
    rw [List.getElem?_map, List.getElem?_eq_getElem hj]
    show some (SI.ev _ A[j]) = _
    rw [onlyA_ev (List.all_eq_true.1 hA _ (List.getElem_mem hj))]
    unfold valA
    rw [List.getElem?_map, List.getElem?_eq_getElem hj]
    rfl
  have hset : (Ch.bs A').zs (rhoA ρb (fun _ => 0) (fun _ => 0)) = ((Ch.bs A).zs (rhoA ρb (fun _ => 0) (fun _ => 0))).set j (bits .xor .u8 (valA ρb A j) a2) := by
    show A'.map _ = (A.map _).set _ _
    rw [← hA', List.map_set, hv]
    rfl
  obtain ⟨g1, g2⟩ := sw_mid (pre := pre) (rest := rest) hz hset
  rw [hpre] at g1 g2
  refine B.run zero_in hr ⟨⟨off + j, valA ρb A j, ?_, ?_, g1, by rw [e2]; exact g2⟩⟩ hfa hp hlo ⟨by decide, by decide⟩ (.inl rfl) hE
  · show posA.ev _ = _
    rw [pos_ev (by rw [e3]; have := B.hL; have := B.hh; omega), e3]
    omega
  · have := hlen _ e32
    show ((off + j : Nat) : Int) < len.ev _
    omega
/-- no byte is changed: the law ends ahead of it -/
def sw0 : Sw := ⟨lN 0, lN 1, [.bs [lN 0]], [.bs [.bin .xor .u8 (lN 0) (.var 2)]], []⟩
theorem sw0_ok (ρ : Nat → Int) : SwOk ρ sw0 := ⟨⟨0, 0, rfl, by show ((0 : Nat) : Int) < 1; decide, rfl, rfl⟩⟩
theorem Beg.none (B : Beg W ρb L h a1 a2 d dv) {E14 : SI} {tcp : Bool} {v m : Nat} {p0 p1 lo hi lo' : Int}
    (hr : endsOk v lo' m (runA sw0 E14 [] (rgL p0 p1 lo hi 0 255) d tcp) [] = true) (hE : ∀ ρ : Nat → Int, ρ 32 = L → E14.ev ρ = (L + h : Nat))
    (hp : p0 ≤ place a1 (L + h : Nat) ∧ place a1 (L + h : Nat) ≤ p1) (hlo : lo ≤ L ∧ (L : Int) ≤ hi) (hv : m = 0 ∨ lo' ≤ rhoA ρb (fun _ => 0) (fun _ => 0) v ∧ rhoA ρb (fun _ => 0) (fun _ => 0) v < lo' + m) :
    Calls Tryz.prog 3 #[dv, .int .i64 a1, .int .u8 a2, .bool tcp] W fun e w' => e = .returned (.bool true) ∧ Kp [] W w' :=
  B.run zero_in hr (sw0_ok _) (fun x hx => by cases hx) hp hlo ⟨by decide, by decide⟩ hv hE
end
end Go.Proofs.YtjjfmhaakickcaaGreat
