/-
  Stages of HostSends: what they are.
-/
import Derived.Test.YtfomfboennjfoaaGreatCg
set_option linter.unusedVariables false
set_option linter.unusedSimpArgs false
namespace Go.Proofs.YtfomfboennjfoaaGreat.hostSends
open Go

noncomputable section
abbrev z0 : Int × Int := (.ofNat 0, .ofNat 0)
abbrev nL (n : Nat) : SI := .lit (.ofNat n)
def uO (o : AObj) (l : List (Nat × AV)) : AObj := match o with
  | .cells n c d T r => .cells n (setT c l) d T r
  | o => o
def rgM : List (Int × Int) := [z0, z0, ((.ofNat 1), (.ofNat 65535)), ((.ofNat 0), (.ofNat 17)), ((.ofNat 0), (.ofNat 25)), z0, z0, z0, z0, z0, z0, z0, z0, z0, z0, z0, z0, z0, z0, z0, z0, z0, z0, z0, z0, z0, z0, z0, z0, z0, z0, z0, ((.ofNat 1), (.ofNat 1000)), ((.ofNat 0), (.ofNat 20000))]
def rgZ : List (Int × Int) := [z0, z0, ((.ofNat 1), (.ofNat 65535)), z0, ((.ofNat 0), (.ofNat 25)), z0, z0, z0, z0, z0, z0, z0, z0, z0, z0, z0, z0, z0, z0, z0, z0, z0, z0, z0, z0, z0, z0, z0, z0, z0, z0, z0, z0, ((.ofNat 0), (.ofNat 20000))]
def pmM : List (SB × Bool) := padP 32 3 (.ofNat 18) (.ofNat 0) (.ofNat 42) (.ofNat 28) (.ofNat 8) (.var 32)
def e0 : SI := .bin .add .i64 (.var 32) (nL 28)
def e1 : SI := .conv .u8 (.bin .shr .u32 e0 (nL 8))
def e2 : SI := .bin .sub .i64 (nL 65535) (.fold (.bin .add .i64 (.bin .add .i64 (.bin .add .i64 (.bin .shl .i64 e1 (nL 8)) (nL 17664)) (.bin .shl .i64 (.conv .u8 e0) (nL 0))) (nL 21525)))
def e3 : SI := .conv .u8 (.bin .shr .u32 (.var 2) (nL 8))
def e4 : SI := .bin .add .i64 (.var 32) (nL 8)
def e5 : SI := .conv .u8 (.bin .shr .u32 e4 (nL 8))
def e6 : SI := .bin .shl .i64 (.conv .u8 e4) (nL 0)
def e7 : SI := .bin .shl .i64 (.conv .u8 (.var 2)) (nL 0)
def e8 : SI := .bin .sub .i64 (nL 65535) (.bin .rem .i64 (.fold (.bin .add .i64 (.bin .add .i64 (.bin .add .i64 (.bin .add .i64 (.bin .add .i64 (.bin .add .i64 (.bin .add .i64 (.bin .add .i64 (.bin .add .i64 (.bin .shl .i64 e5 (nL 8)) (nL 5140)) e6) (nL 9)) (.bin .shl .i64 e3 (nL 8))) e7) (.bin .shl .i64 e5 (nL 8))) e6) (nL 0)) (.rs 32 0 (nL 0) (.var 32)))) (nL 65535))
def e9 : SI := .bin .sub .i64 (nL 65535) (.bin .rem .i64 (.fold (.bin .add .i64 (.bin .add .i64 (.bin .add .i64 (.bin .shl .i64 e3 (nL 8)) (nL 5157)) e7) (nL 8))) (nL 65535))
def o0 : AObj := oS 141 [(nU 2), (nU 0), (nU 0), (nU 0), (nU 0), (nU 1), (nW 167772161), (nI 24), (.raw (.map none)), (.raw (.map none)), nS, (.sl 44 0 1 none), (.ptr 10 0), nP, (nI 2), (.ptr 4 0), nS, (.raw (.map none)), (.map 2), (nI 0), (.raw (.map none)), (.raw (.map none)), (.raw (.map none)), (nI 0), (nI 0), (nI 0), (nI 0), (nI 0), (nI 0), (nI 0), (nI 0), (nI 0), (nI 0), (nI 0), (nI 0), (nI 0), (nI 0), (nI 0), (nI 0), (nI 0), (nW 0), (.int .i32 (nL 0)), (nW 0), (.raw (.map none)), nS, (nI 1), (.map 5)]
def o1 : AObj := .map [((nI 1), ((.fn (.func 38) [] []), 0)), ((nI 2), ((.fn (.func 39) [] []), 1)), ((nI 17), ((.fn (.func 40) [] []), 2)), ((nI 6), ((.fn (.func 41) [] []), 3))] 4
def o2 : AObj := uO o0 [(8, (.map 465)), (24, (nI 1)), (27, (nI 1)), (45, (nI 2))]
def o3 : AObj := .rope [(.bs [(nL 69), (nL 0), e1, (.conv .u8 e0), (nL 0), (nL 1), (nL 0), (nL 0), (nL 64), (nL 17), (.conv .u8 (.bin .shr .u32 (.conv .u32 e2) (nL 8))), (.conv .u8 e2), (nL 10), (nL 0), (nL 0), (nL 1), (nL 10), (nL 0), (nL 0), (nL 2)]), (.bs [(nL 0), (nL 9), e3, (.conv .u8 (.var 2)), e5, (.conv .u8 e4), (.conv .u8 (.bin .shr .u32 (.conv .u32 e8) (nL 8))), (.conv .u8 e8)]), (.row 32 (nL 0) (.var 32))] 5 true
def o4 : AObj := oS 22 [(.ssl 462 (nL 0) (nL 0) e0 none)]
def o5 : AObj := oS 480 [nF, (nU 0), (nU 0), (nU 0), (nU 0), (nU 0), (nU 0), (nI 10), (nI 1), (.sl 463 0 1 (some 1))]
def o6 : AObj := oR 5 [(nU 255), (nU 255), (nU 255), (nU 255), (nU 255), (nU 255), (nU 2), (nU 0), (nU 0), (nU 0), (nU 0), (nU 1), (nU 8), (nU 6), (nU 0), (nU 1), (nU 8), (nU 0), (nU 6), (nU 4), (nU 0), (nU 1), (nU 2), (nU 0), (nU 0), (nU 0), (nU 0), (nU 1), (nU 10), (nU 0), (nU 0), (nU 1), (nU 0), (nU 0), (nU 0), (nU 0), (nU 0), (nU 0), (nU 10), (nU 0), (nU 0), (nU 2), (nU 0), (nU 0), (nU 0), (nU 0), (nU 0), (nU 0), (nU 0), (nU 0), (nU 0), (nU 0), (nU 0), (nU 0), (nU 0), (nU 0), (nU 0), (nU 0), (nU 0), (nU 0)]
def o7 : AObj := uO o0 [(5, (nU 2)), (6, (nW 167772162)), (11, nS), (12, (.ptr 55 0)), (14, (nI 1)), (15, (.ptr 49 0)), (17, (.map 83)), (18, (.map 47)), (46, (.map 50))]
def o8 : AObj := oS 152 [(nW 0), (.int .i64 (.var 2)), nF, (nW 0), (nI 0), nS, (nI 0)]
def o9 : AObj := uO o2 [(23, (nI 1)), (24, (nI 2))]
def o10 : AObj := uO o7 [(8, (.map 548)), (23, (nI 2)), (24, (nI 1)), (34, (nI 1))]
def o11 : AObj := uO o8 [(5, (.sl 729 0 1 none))]
def o12 : AObj := uO o5 [(0, nT), (1, (nU 2)), (6, (nU 2)), (7, (nI 601)), (8, (nI 0)), (9, nS)]
def o13 : AObj := uO o12 [(6, (nU 1))]
def o14 : AObj := oR 39 [(nW 167772161), (nI 9), (nW 167772162), (.int .i64 (.var 2)), (.ssl 722 (nL 0) (nL 0) (.var 32) none)]
def o15 : AObj := uO o2 [(8, (.map 463))]
def o16 : AObj := oR 5 [(nU 69), (nU 0), (nU 0), (nU 28), (nU 0), (nU 1), (nU 0), (nU 0), (nU 64), (nU 17), (nU 102), (nU 206), (nU 10), (nU 0), (nU 0), (nU 1), (nU 10), (nU 0), (nU 0), (nU 2), (nU 0), (nU 9), (.int .u8 e3), (.int .u8 (.conv .u8 (.var 2))), (nU 0), (nU 8), (.int .u8 (.conv .u8 (.bin .shr .u32 (.conv .u32 e9) (nL 8)))), (.int .u8 (.conv .u8 e9))]
def o17 : AObj := uO o5 [(9, (.sl 461 0 1 (some 1)))]
def o18 : AObj := uO o9 [(8, (.map 463))]
def o19 : AObj := uO o10 [(8, (.map 546))]
def o20 : AObj := uO o8 [(5, (.sl 726 0 1 none))]
def o21 : AObj := uO o14 [(4, nS)]
def hm_0 : List (Nat × AObj) := [(2, (.map [] 0)), (3, o0), (4, (oS 212 [(nI 10), (nI 20), (nI 10), (nI 0)])), (5, o1), (10, (oS 105 [nS, (.ptr 11 0), nP])), (11, (oS 105 [nS, (.ptr 12 0), nP])), (12, (oS 105 [nS, (.ptr 13 0), nP])), (13, (oS 105 [nS, nP, (.ptr 14 0)])), (14, (oS 105 [nS, (.ptr 15 0), nP])), (15, (oS 105 [nS, nP, (.ptr 16 0)])), (16, (oS 105 [nS, (.ptr 17 0), nP])), (17, (oS 105 [nS, (.ptr 18 0), nP])), (18, (oS 105 [nS, (.ptr 19 0), nP])), (19, (oS 105 [nS, (.ptr 20 0), nP])), (20, (oS 105 [nS, (.ptr 21 0), nP])), (21, (oS 105 [nS, (.ptr 22 0), nP])), (22, (oS 105 [nS, (.ptr 23 0), nP])), (23, (oS 105 [nS, (.ptr 24 0), nP])), (24, (oS 105 [nS, (.ptr 25 0), nP])), (25, (oS 105 [nS, (.ptr 26 0), nP])), (26, (oS 105 [nS, (.ptr 27 0), nP])), (27, (oS 105 [nS, (.ptr 28 0), nP])), (28, (oS 105 [nS, (.ptr 29 0), nP])), (29, (oS 105 [nS, (.ptr 30 0), nP])), (30, (oS 105 [nS, (.ptr 31 0), nP])), (31, (oS 105 [nS, (.ptr 32 0), nP])), (32, (oS 105 [nS, (.ptr 33 0), nP])), (33, (oS 105 [(.sl 36 0 1 none), nP, nP])), (36, (oR 236 [(nW 167772160), (nI 24), (nW 0), (nI 0)])), (44, (oR 236 [(nW 0), (nI 0), (nW 167772414), (nI 0)]))]
def dm_0 : List (Nat × AObj) := [(3, o2), (462, o3), (463, o4), (464, o5), (465, (.map [((nW 167772162), ((.ptr 464 0), 0))] 1)), (508, o6), (510, (oR 22 [(.sl 508 0 60 none)]))]
def lm_0 : Leaf := ⟨(.tup [(.sl 510 0 1 none), (nI 0)]), dm_0, 511, []⟩
def gm_0 : Stage := ⟨87, [(.ptr 3 0), (.agg [(nW 0), (nI 9), (nW 167772162), (.int .i64 (.var 2)), (.fsl 32 (nL 0) (nL 0) (.var 32))]), (nI 0)], hm_0, [[]], rgM, 2, pmM, [lm_0], .done lm_0.v lm_0.st⟩
def hm_1 : List (Nat × AObj) := hm_0 ++ (dm_0 ++ [(47, (.map [((nI 7), ((.ptr 85 0), 0))] 1)), (48, o7), (49, (oS 212 [(nI 10), (nI 20), (nI 10), (nI 0)])), (50, o1), (55, (oS 105 [nS, (.ptr 56 0), nP])), (56, (oS 105 [nS, (.ptr 57 0), nP])), (57, (oS 105 [nS, (.ptr 58 0), nP])), (58, (oS 105 [nS, nP, (.ptr 59 0)])), (59, (oS 105 [nS, (.ptr 60 0), nP])), (60, (oS 105 [nS, nP, (.ptr 61 0)])), (61, (oS 105 [nS, (.ptr 62 0), nP])), (62, (oS 105 [nS, (.ptr 63 0), nP])), (63, (oS 105 [nS, (.ptr 64 0), nP])), (64, (oS 105 [nS, (.ptr 65 0), nP])), (65, (oS 105 [nS, (.ptr 66 0), nP])), (66, (oS 105 [nS, (.ptr 67 0), nP])), (67, (oS 105 [nS, (.ptr 68 0), nP])), (68, (oS 105 [nS, (.ptr 69 0), nP])), (69, (oS 105 [nS, (.ptr 70 0), nP])), (70, (oS 105 [nS, (.ptr 71 0), nP])), (71, (oS 105 [nS, (.ptr 72 0), nP])), (72, (oS 105 [nS, (.ptr 73 0), nP])), (73, (oS 105 [nS, (.ptr 74 0), nP])), (74, (oS 105 [nS, (.ptr 75 0), nP])), (75, (oS 105 [nS, (.ptr 76 0), nP])), (76, (oS 105 [nS, (.ptr 77 0), nP])), (77, (oS 105 [nS, (.ptr 78 0), nP])), (78, (oS 105 [(.sl 81 0 1 none), nP, nP])), (81, (oR 236 [(nW 167772160), (nI 24), (nW 0), (nI 0)])), (83, (.map [((nI 7), ((.ptr 84 0), 0))] 1)), (84, (oS 242 [(nW 0), (.int .i64 (.var 2)), nF, (nW 0), (nI 0)])), (85, o8)])
def dm_1 : List (Nat × AObj) := [(3, o9), (48, o10), (85, o11), (464, o12), (510, .dead), (547, o13), (548, (.map [((nW 167772161), ((.ptr 547 0), 0))] 1)), (722, (.rope [(.row 32 (nL 0) (.var 32))] 5 true)), (729, o14)]
def lm_1 : Leaf := ⟨nT, dm_1, 730, []⟩
def gm_1 : Stage := ⟨511, [(.ptr 3 0), (.ptr 48 0), (.sl 510 0 1 none), (nI 1)], hm_1, [[]], rgM, 2, pmM, [lm_1], .done lm_1.v lm_1.st⟩
def hz_0 : List (Nat × AObj) := [(2, (.map [] 0)), (3, o0), (4, (oS 212 [(nI 10), (nI 20), (nI 10), (nI 0)])), (5, o1), (10, (oS 105 [nS, (.ptr 11 0), nP])), (11, (oS 105 [nS, (.ptr 12 0), nP])), (12, (oS 105 [nS, (.ptr 13 0), nP])), (13, (oS 105 [nS, nP, (.ptr 14 0)])), (14, (oS 105 [nS, (.ptr 15 0), nP])), (15, (oS 105 [nS, nP, (.ptr 16 0)])), (16, (oS 105 [nS, (.ptr 17 0), nP])), (17, (oS 105 [nS, (.ptr 18 0), nP])), (18, (oS 105 [nS, (.ptr 19 0), nP])), (19, (oS 105 [nS, (.ptr 20 0), nP])), (20, (oS 105 [nS, (.ptr 21 0), nP])), (21, (oS 105 [nS, (.ptr 22 0), nP])), (22, (oS 105 [nS, (.ptr 23 0), nP])), (23, (oS 105 [nS, (.ptr 24 0), nP])), (24, (oS 105 [nS, (.ptr 25 0), nP])), (25, (oS 105 [nS, (.ptr 26 0), nP])), (26, (oS 105 [nS, (.ptr 27 0), nP])), (27, (oS 105 [nS, (.ptr 28 0), nP])), (28, (oS 105 [nS, (.ptr 29 0), nP])), (29, (oS 105 [nS, (.ptr 30 0), nP])), (30, (oS 105 [nS, (.ptr 31 0), nP])), (31, (oS 105 [nS, (.ptr 32 0), nP])), (32, (oS 105 [nS, (.ptr 33 0), nP])), (33, (oS 105 [(.sl 36 0 1 none), nP, nP])), (36, (oR 236 [(nW 167772160), (nI 24), (nW 0), (nI 0)])), (44, (oR 236 [(nW 0), (nI 0), (nW 167772414), (nI 0)]))]
def dz_0 : List (Nat × AObj) := [(3, o15), (460, o16), (461, (oS 22 [(.sl 460 0 28 none)])), (462, o17), (463, (.map [((nW 167772162), ((.ptr 462 0), 0))] 1)), (506, o6), (508, (oR 22 [(.sl 506 0 60 none)]))]
def lz_0 : Leaf := ⟨(.tup [(.sl 508 0 1 none), (nI 0)]), dz_0, 509, []⟩
def gz_0 : Stage := ⟨87, [(.ptr 3 0), (.agg [(nW 0), (nI 9), (nW 167772162), (.int .i64 (.var 2)), (.osl 300 0 303)]), (nI 0)], hz_0, [[]], rgZ, 2, [], [lz_0], .done lz_0.v lz_0.st⟩
def hz_1 : List (Nat × AObj) := hz_0 ++ (dz_0 ++ [(47, (.map [((nI 7), ((.ptr 85 0), 0))] 1)), (48, o7), (49, (oS 212 [(nI 10), (nI 20), (nI 10), (nI 0)])), (50, o1), (55, (oS 105 [nS, (.ptr 56 0), nP])), (56, (oS 105 [nS, (.ptr 57 0), nP])), (57, (oS 105 [nS, (.ptr 58 0), nP])), (58, (oS 105 [nS, nP, (.ptr 59 0)])), (59, (oS 105 [nS, (.ptr 60 0), nP])), (60, (oS 105 [nS, nP, (.ptr 61 0)])), (61, (oS 105 [nS, (.ptr 62 0), nP])), (62, (oS 105 [nS, (.ptr 63 0), nP])), (63, (oS 105 [nS, (.ptr 64 0), nP])), (64, (oS 105 [nS, (.ptr 65 0), nP])), (65, (oS 105 [nS, (.ptr 66 0), nP])), (66, (oS 105 [nS, (.ptr 67 0), nP])), (67, (oS 105 [nS, (.ptr 68 0), nP])), (68, (oS 105 [nS, (.ptr 69 0), nP])), (69, (oS 105 [nS, (.ptr 70 0), nP])), (70, (oS 105 [nS, (.ptr 71 0), nP])), (71, (oS 105 [nS, (.ptr 72 0), nP])), (72, (oS 105 [nS, (.ptr 73 0), nP])), (73, (oS 105 [nS, (.ptr 74 0), nP])), (74, (oS 105 [nS, (.ptr 75 0), nP])), (75, (oS 105 [nS, (.ptr 76 0), nP])), (76, (oS 105 [nS, (.ptr 77 0), nP])), (77, (oS 105 [nS, (.ptr 78 0), nP])), (78, (oS 105 [(.sl 81 0 1 none), nP, nP])), (81, (oR 236 [(nW 167772160), (nI 24), (nW 0), (nI 0)])), (83, (.map [((nI 7), ((.ptr 84 0), 0))] 1)), (84, (oS 242 [(nW 0), (.int .i64 (.var 2)), nF, (nW 0), (nI 0)])), (85, o8)])
def dz_1 : List (Nat × AObj) := [(3, o18), (48, o19), (85, o20), (462, o12), (508, .dead), (545, o13), (546, (.map [((nW 167772161), ((.ptr 545 0), 0))] 1)), (726, o21)]
def lz_1 : Leaf := ⟨nT, dz_1, 727, []⟩
def gz_1 : Stage := ⟨509, [(.ptr 3 0), (.ptr 48 0), (.sl 508 0 1 none), (nI 1)], hz_1, [[]], rgZ, 2, [], [lz_1], .done lz_1.v lz_1.st⟩
end
theorem stage_mk {P : Program} {pl : Plans} {sm : Sums} {f : FuncId} {g : Stage} (hs : SumsOk P sm) (hr : callG P (ev P pl sm (nat_lit 100000) 100000) f g.args g.s0 (chkK g.h g.l0 g.ls) = g.r) (hb : stgB g = true) : StageOk P pl f g := ⟨hb, sm, _, _, hs, hr⟩

end Go.Proofs.YtfomfboennjfoaaGreat.hostSends
