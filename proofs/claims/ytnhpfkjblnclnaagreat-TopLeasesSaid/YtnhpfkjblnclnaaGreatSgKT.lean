/-
  Stages of wharftop.known: what they are.
-/
import Derived.Test.YtnhpfkjblnclnaaGreatCf
set_option linter.unusedVariables false
set_option linter.unusedSimpArgs false
namespace Go.Proofs.YtnhpfkjblnclnaaGreat.ktop
open Go

noncomputable def uO (o : AObj) (l : List (Nat × AV)) : AObj := match o with
  | .cells n c d T r => .cells n (setT c l) d T r
  | o => o
def rgs0 : List (Int × Int) := []
noncomputable def ob0 : AObj := oS 156 [(nU 2), (nU 0), (nU 0), (nU 0), (nU 0), (nU 1), (nW 167772161), (nI 24), (.raw (.map none)), (.raw (.map none)), nS, nS, (.ptr 18 0), nP, (nI 1), (.ptr 12 0), nS, (.raw (.map none)), (.map 10), (nI 0), (.raw (.map none)), (.raw (.map none)), (.raw (.map none)), (nI 0), (nI 0), (nI 0), (nI 0), (nI 0), (nI 0), (nI 0), (nI 0), (nI 0), (nI 0), (nI 0), (nI 0), (nI 0), (nI 0), (nI 0), (nI 0), (nI 0), (nW 0), (.int .i32 (.lit (.ofNat 0))), (nW 0), (.raw (.map none)), nS, (nI 1), (.map 13)]
noncomputable def ob1 : AObj := oS 156 [(nU 2), (nU 0), (nU 0), (nU 0), (nU 0), (nU 2), (nW 167772162), (nI 24), (.raw (.map none)), (.raw (.map none)), nS, nS, (.ptr 58 0), nP, (nI 1), (.ptr 52 0), nS, (.raw (.map none)), (.map 50), (nI 0), (.raw (.map none)), (.raw (.map none)), (.raw (.map none)), (nI 0), (nI 0), (nI 0), (nI 0), (nI 0), (nI 0), (nI 0), (nI 0), (nI 0), (nI 0), (nI 0), (nI 0), (nI 0), (nI 0), (nI 0), (nI 0), (nI 0), (nW 0), (.int .i32 (.lit (.ofNat 0))), (nW 0), (.raw (.map none)), nS, (nI 1), (.map 53)]
noncomputable def ob2 : AObj := oS 449 [(nI 0), nF, nF, (nW 0), (nI 0), nF, nF, (nI 0), nF, (nW 0), (nI 0)]
noncomputable def h0 : List (Nat × AObj) := ([(6, (oS 189 [(.ptr 46 0), (.ptr 86 0), (nI 0), (nW 0), nF, nS])), (10, (.map [] 0)), (11, ob0), (12, (oS 250 [(nI 10), (nI 20), (nI 10), (nI 0)])), (13, (.map [((nI 1), ((.fn (.func 49) [] []), 0)), ((nI 2), ((.fn (.func 50) [] []), 1)), ((nI 17), ((.fn (.func 51) [] []), 2)), ((nI 6), ((.fn (.func 52) [] []), 3))] 4)), (18, (oS 120 [nS, (.ptr 19 0), nP])), (19, (oS 120 [nS, (.ptr 20 0), nP])), (20, (oS 120 [nS, (.ptr 21 0), nP])), (21, (oS 120 [nS, nP, (.ptr 22 0)])), (22, (oS 120 [nS, (.ptr 23 0), nP])), (23, (oS 120 [nS, nP, (.ptr 24 0)])), (24, (oS 120 [nS, (.ptr 25 0), nP])), (25, (oS 120 [nS, (.ptr 26 0), nP])), (26, (oS 120 [nS, (.ptr 27 0), nP])), (27, (oS 120 [nS, (.ptr 28 0), nP])), (28, (oS 120 [nS, (.ptr 29 0), nP])), (29, (oS 120 [nS, (.ptr 30 0), nP])), (30, (oS 120 [nS, (.ptr 31 0), nP])), (31, (oS 120 [nS, (.ptr 32 0), nP])), (32, (oS 120 [nS, (.ptr 33 0), nP])), (33, (oS 120 [nS, (.ptr 34 0), nP])), (34, (oS 120 [nS, (.ptr 35 0), nP])), (35, (oS 120 [nS, (.ptr 36 0), nP])), (36, (oS 120 [nS, (.ptr 37 0), nP])), (37, (oS 120 [nS, (.ptr 38 0), nP])), (38, (oS 120 [nS, (.ptr 39 0), nP])), (39, (oS 120 [nS, (.ptr 40 0), nP])), (40, (oS 120 [nS, (.ptr 41 0), nP])), (41, (oS 120 [(.sl 44 0 1 none), nP, nP])), (44, (oR 226 [(nW 167772160), (nI 24), (nW 0), (nI 0)])), (45, (.map [] 0)), (46, (oS 230 [(.ptr 11 0), (.map 45), nS])), (50, (.map [] 0)), (51, ob1), (52, (oS 250 [(nI 10), (nI 20), (nI 10), (nI 0)])), (53, (.map [((nI 1), ((.fn (.func 49) [] []), 0)), ((nI 2), ((.fn (.func 50) [] []), 1)), ((nI 17), ((.fn (.func 51) [] []), 2)), ((nI 6), ((.fn (.func 52) [] []), 3))] 4)), (58, (oS 120 [nS, (.ptr 59 0), nP])), (59, (oS 120 [nS, (.ptr 60 0), nP])), (60, (oS 120 [nS, (.ptr 61 0), nP])), (61, (oS 120 [nS, nP, (.ptr 62 0)])), (62, (oS 120 [nS, (.ptr 63 0), nP])), (63, (oS 120 [nS, nP, (.ptr 64 0)])), (64, (oS 120 [nS, (.ptr 65 0), nP])), (65, (oS 120 [nS, (.ptr 66 0), nP])), (66, (oS 120 [nS, (.ptr 67 0), nP])), (67, (oS 120 [nS, (.ptr 68 0), nP])), (68, (oS 120 [nS, (.ptr 69 0), nP])), (69, (oS 120 [nS, (.ptr 70 0), nP])), (70, (oS 120 [nS, (.ptr 71 0), nP])), (71, (oS 120 [nS, (.ptr 72 0), nP])), (72, (oS 120 [nS, (.ptr 73 0), nP])), (73, (oS 120 [nS, (.ptr 74 0), nP])), (74, (oS 120 [nS, (.ptr 75 0), nP])), (75, (oS 120 [nS, (.ptr 76 0), nP])), (76, (oS 120 [nS, (.ptr 77 0), nP])), (77, (oS 120 [nS, (.ptr 78 0), nP])), (78, (oS 120 [nS, (.ptr 79 0), nP])), (79, (oS 120 [nS, (.ptr 80 0), nP])), (80, (oS 120 [nS, (.ptr 81 0), nP])), (81, (oS 120 [(.sl 84 0 1 none), nP, nP])), (84, (oR 226 [(nW 167772160), (nI 24), (nW 0), (nI 0)])), (85, (.map [] 0)), (86, (oS 230 [(.ptr 51 0), (.map 85), nS]))])
noncomputable def d0 : List (Nat × AObj) := [(6, (oS 189 [(.ptr 46 0), (.ptr 86 0), (nI 0), (nW 1), nT, nS])), (85, (.map [((nI 0), ((.iface 445 (.ptr 103 0)), 0))] 1)), (103, ob2), (108, (oR 69 [(nI 0), (nI 0), (nI 0), (nW 0), (nI 0), nS])), (110, (oR 3 [(nI 1)]))]
noncomputable def l0 : Leaf := ⟨(.tup [(.sl 108 0 1 none), (.sl 110 0 1 none), (nI 0)]), d0, 111, []⟩
noncomputable def g0 : Stage := ⟨89, [(.ptr 6 0), (.agg [(nI 1), (nI 1), (nI 1), (nI 0), (nI 0), (nW 0), (nI 0), (nI 17), nS, (nI 0), (nI 0), (nI 0), (nI 0), (nU 0)])], h0, [[]], rgs0, 6, [], [l0], .done l0.v l0.st⟩
noncomputable def ob3 : AObj := oS 189 [(.ptr 46 0), (.ptr 86 0), (nI 0), (nW 1103527590), nT, nS]
noncomputable def ob4 : AObj := uO ob1 [(17, (.map 129))]
noncomputable def ob5 : AObj := uO ob2 [(2, nT), (4, (nI 9))]
noncomputable def h1 : List (Nat × AObj) := h0 ++ (d0 ++ [])
noncomputable def d1 : List (Nat × AObj) := [(6, ob3), (50, (.map [((nI 0), ((.ptr 131 0), 0))] 1)), (51, ob4), (103, ob5), (129, (.map [((nI 0), ((.ptr 130 0), 0))] 1)), (130, (oS 275 [(nW 0), (nI 9), nF, (nW 0), (nI 0)])), (131, (oS 166 [(nW 0), (nI 9), nF, (nW 0), (nI 0), nS, (nI 0)])), (137, (oR 69 [(nI 0), (nI 0), (nI 0), (nW 0), (nI 0), nS])), (139, (oR 3 [(nI 1)]))]
noncomputable def l1 : Leaf := ⟨(.tup [(.sl 137 0 1 none), (.sl 139 0 1 none), (nI 0)]), d1, 140, []⟩
noncomputable def g1 : Stage := ⟨113, [(.ptr 6 0), (.agg [(nI 1), (nI 1), (nI 2), (nI 0), (nI 0), (nW 0), (nI 9), (nI 0), nS, (nI 0), (nI 0), (nI 0), (nI 0), (nU 0)])], h1, [[]], rgs0, 6, [], [l1], .done l1.v l1.st⟩
noncomputable def ob6 : AObj := uO ob3 [(3, (nW 377401575))]
noncomputable def ob7 : AObj := oS 449 [(nI 0), nF, nF, (nW 0), (nI 0), nF, nF, (nI 0), nF, (nW 0), (nI 0)]
noncomputable def h2 : List (Nat × AObj) := h1 ++ (d1 ++ [])
noncomputable def d2 : List (Nat × AObj) := [(6, ob6), (45, (.map [((nI 0), ((.iface 445 (.ptr 156 0)), 0))] 1)), (156, ob7), (161, (oR 69 [(nI 0), (nI 0), (nI 0), (nW 0), (nI 0), nS])), (163, (oR 3 [(nI 0)]))]
noncomputable def l2 : Leaf := ⟨(.tup [(.sl 161 0 1 none), (.sl 163 0 1 none), (nI 0)]), d2, 164, []⟩
noncomputable def g2 : Stage := ⟨142, [(.ptr 6 0), (.agg [(nI 1), (nI 0), (nI 1), (nI 0), (nI 0), (nW 0), (nI 0), (nI 17), nS, (nI 0), (nI 0), (nI 0), (nI 0), (nU 0)])], h2, [[]], rgs0, 6, [], [l2], .done l2.v l2.st⟩
noncomputable def ob8 : AObj := uO ob6 [(3, (nW 662824084)), (5, (.sl 627 0 1 none))]
noncomputable def ob9 : AObj := uO ob0 [(8, (.map 571)), (17, (.map 190)), (24, (nI 1)), (27, (nI 1)), (45, (nI 2))]
noncomputable def ob10 : AObj := uO ob7 [(2, nT), (4, (nI 58516))]
noncomputable def ob11 : AObj := oS 166 [(nW 0), (nI 58516), nF, (nW 0), (nI 0), nS, (nI 0)]
noncomputable def ob12 : AObj := oR 5 [(nU 69), (nU 0), (nU 0), (nU 30), (nU 0), (nU 1), (nU 0), (nU 0), (nU 64), (nU 17), (nU 102), (nU 204), (nU 10), (nU 0), (nU 0), (nU 1), (nU 10), (nU 0), (nU 0), (nU 2), (nU 228), (nU 148), (nU 0), (nU 9), (nU 0), (nU 10), (nU 158), (nU 208), (nU 104), (nU 105)]
noncomputable def ob13 : AObj := oS 504 [nF, (nU 0), (nU 0), (nU 0), (nU 0), (nU 0), (nU 0), (nI 10), (nI 1), (.sl 569 0 1 (some 1))]
noncomputable def ob14 : AObj := oR 5 [(nU 255), (nU 255), (nU 255), (nU 255), (nU 255), (nU 255), (nU 2), (nU 0), (nU 0), (nU 0), (nU 0), (nU 1), (nU 8), (nU 6), (nU 0), (nU 1), (nU 8), (nU 0), (nU 6), (nU 4), (nU 0), (nU 1), (nU 2), (nU 0), (nU 0), (nU 0), (nU 0), (nU 1), (nU 10), (nU 0), (nU 0), (nU 1), (nU 0), (nU 0), (nU 0), (nU 0), (nU 0), (nU 0), (nU 10), (nU 0), (nU 0), (nU 2), (nU 0), (nU 0), (nU 0), (nU 0), (nU 0), (nU 0), (nU 0), (nU 0), (nU 0), (nU 0), (nU 0), (nU 0), (nU 0), (nU 0), (nU 0), (nU 0), (nU 0), (nU 0)]
noncomputable def h3 : List (Nat × AObj) := h2 ++ (d2 ++ [(164, (oR 5 [(nU 104), (nU 105)]))])
noncomputable def d3 : List (Nat × AObj) := [(6, ob8), (10, (.map [((nI 0), ((.ptr 192 0), 0))] 1)), (11, ob9), (156, ob10), (190, (.map [((nI 0), ((.ptr 191 0), 0))] 1)), (191, (oS 275 [(nW 0), (nI 58516), nF, (nW 0), (nI 0)])), (192, ob11), (568, ob12), (569, (oS 22 [(.sl 568 0 30 none)])), (570, ob13), (571, (.map [((nW 167772162), ((.ptr 570 0), 0))] 1)), (614, ob14), (622, (oR 69 [(nI 0), (nI 0), (nI 2), (nW 0), (nI 0), nS])), (624, (oR 3 [(nI 0)])), (627, (oR 199 [(nI 1), (.sl 614 0 60 none)]))]
noncomputable def l3 : Leaf := ⟨(.tup [(.sl 622 0 1 none), (.sl 624 0 1 none), (nI 0)]), d3, 628, []⟩
noncomputable def g3 : Stage := ⟨167, [(.ptr 6 0), (.agg [(nI 1), (nI 0), (nI 8), (nI 0), (nI 0), (nW 167772162), (nI 9), (nI 0), (.sl 164 0 2 (some 2)), (nI 0), (nI 0), (nI 0), (nI 0), (nU 0)])], h3, [[]], rgs0, 6, [], [l3], .done l3.v l3.st⟩
noncomputable def ob15 : AObj := uO ob8 [(5, (.sl 627 0 0 none))]
noncomputable def ob16 : AObj := uO ob15 [(3, (nW 1147902781)), (5, (.sl 627 0 1 none))]
noncomputable def ob17 : AObj := uO ob4 [(8, (.map 672)), (23, (nI 1)), (24, (nI 1))]
noncomputable def ob18 : AObj := oS 504 [nT, (nU 2), (nU 0), (nU 0), (nU 0), (nU 0), (nU 1), (nI 600), (nI 0), nS]
noncomputable def ob19 : AObj := oR 5 [(nU 2), (nU 0), (nU 0), (nU 0), (nU 0), (nU 1), (nU 2), (nU 0), (nU 0), (nU 0), (nU 0), (nU 2), (nU 8), (nU 6), (nU 0), (nU 1), (nU 8), (nU 0), (nU 6), (nU 4), (nU 0), (nU 2), (nU 2), (nU 0), (nU 0), (nU 0), (nU 0), (nU 2), (nU 10), (nU 0), (nU 0), (nU 2), (nU 2), (nU 0), (nU 0), (nU 0), (nU 0), (nU 1), (nU 10), (nU 0), (nU 0), (nU 1), (nU 0), (nU 0), (nU 0), (nU 0), (nU 0), (nU 0), (nU 0), (nU 0), (nU 0), (nU 0), (nU 0), (nU 0), (nU 0), (nU 0), (nU 0), (nU 0), (nU 0), (nU 0)]
noncomputable def h4 : List (Nat × AObj) := h3 ++ (d3 ++ [(6, ob15), (627, (oR 199 [(nI 0), nS])), (628, (oS 192 [nS, nS])), (629, (oS 65 [(.ptr 6 0)])), (630, (oS 196 [(.ptr 628 0)]))])
noncomputable def d4 : List (Nat × AObj) := [(6, ob16), (51, ob17), (627, (oR 199 [(nI 0), (.sl 713 0 60 none)])), (671, ob18), (672, (.map [((nW 167772161), ((.ptr 671 0), 0))] 1)), (713, ob19)]
noncomputable def l4 : Leaf := ⟨(.tup []), d4, 718, []⟩
noncomputable def g4 : Stage := ⟨633, [(.ptr 6 0), (.agg [(nI 1), (.sl 614 0 60 none)]), (.fn (.func 146) [] [(.ptr 630 0), (.ptr 629 0)])], h4, [[]], rgs0, 6, [], [l4], .done l4.v l4.st⟩
noncomputable def ob20 : AObj := uO ob16 [(5, (.sl 627 0 0 none))]
noncomputable def ob21 : AObj := uO ob20 [(3, (nW 2035015474)), (5, (.sl 627 0 1 none))]
noncomputable def ob22 : AObj := uO ob9 [(23, (nI 1)), (24, (nI 2))]
noncomputable def ob23 : AObj := uO ob13 [(0, nT), (1, (nU 2)), (6, (nU 2)), (7, (nI 600)), (8, (nI 0)), (9, nS)]
noncomputable def ob24 : AObj := oR 5 [(nU 2), (nU 0), (nU 0), (nU 0), (nU 0), (nU 2), (nU 2), (nU 0), (nU 0), (nU 0), (nU 0), (nU 1), (nU 8), (nU 0), (nU 69), (nU 0), (nU 0), (nU 30), (nU 0), (nU 1), (nU 0), (nU 0), (nU 64), (nU 17), (nU 102), (nU 204), (nU 10), (nU 0), (nU 0), (nU 1), (nU 10), (nU 0), (nU 0), (nU 2), (nU 228), (nU 148), (nU 0), (nU 9), (nU 0), (nU 10), (nU 158), (nU 208), (nU 104), (nU 105), (nU 0), (nU 0), (nU 0), (nU 0), (nU 0), (nU 0), (nU 0), (nU 0), (nU 0), (nU 0), (nU 0), (nU 0), (nU 0), (nU 0), (nU 0), (nU 0)]
noncomputable def h5 : List (Nat × AObj) := h4 ++ (d4 ++ [(6, ob20), (627, (oR 199 [(nI 0), nS]))])
noncomputable def d5 : List (Nat × AObj) := [(6, ob21), (11, ob22), (570, ob23), (627, (oR 199 [(nI 1), (.sl 770 0 60 none)])), (770, ob24)]
noncomputable def l5 : Leaf := ⟨(.tup []), d5, 775, []⟩
noncomputable def g5 : Stage := ⟨720, [(.ptr 6 0), (.agg [(nI 0), (.sl 713 0 60 none)]), (.fn (.func 146) [] [(.ptr 630 0), (.ptr 629 0)])], h5, [[]], rgs0, 6, [], [l5], .done l5.v l5.st⟩
noncomputable def ob25 : AObj := uO ob21 [(5, (.sl 627 0 0 none))]
noncomputable def ob26 : AObj := uO ob25 [(3, (nW 368800899))]
noncomputable def ob27 : AObj := uO ob17 [(23, (nI 2)), (34, (nI 1))]
noncomputable def ob28 : AObj := oS 166 [(nW 0), (nI 9), nF, (nW 0), (nI 0), (.sl 863 0 1 none), (nI 0)]
noncomputable def ob29 : AObj := oR 39 [(nW 167772161), (nI 58516), (nW 167772162), (nI 9), (.sl 856 0 2 none)]
noncomputable def h6 : List (Nat × AObj) := h5 ++ (d5 ++ [(6, ob25), (627, (oR 199 [(nI 0), nS]))])
noncomputable def d6 : List (Nat × AObj) := [(6, ob26), (51, ob27), (131, ob28), (856, (oR 5 [(nU 104), (nU 105)])), (863, ob29)]
noncomputable def l6 : Leaf := ⟨(.tup []), d6, 864, []⟩
noncomputable def g6 : Stage := ⟨777, [(.ptr 6 0), (.agg [(nI 1), (.sl 770 0 60 none)]), (.fn (.func 146) [] [(.ptr 630 0), (.ptr 629 0)])], h6, [[]], rgs0, 6, [], [l6], .done l6.v l6.st⟩
noncomputable def ob30 : AObj := uO ob26 [(2, (nI 1)), (3, (nW 486256185))]
noncomputable def h7 : List (Nat × AObj) := h6 ++ (d6 ++ [])
noncomputable def d7 : List (Nat × AObj) := [(6, ob30)]
noncomputable def l7 : Leaf := ⟨(.tup []), d7, 872, []⟩
noncomputable def g7 : Stage := ⟨864, [(.ptr 6 0), (.fn (.func 146) [] [(.ptr 630 0), (.ptr 629 0)])], h7, [[]], rgs0, 6, [], [l7], .done l7.v l7.st⟩
noncomputable def ob31 : AObj := uO ob30 [(2, (nI 2)), (3, (nW 267834847))]
noncomputable def h8 : List (Nat × AObj) := h7 ++ (d7 ++ [])
noncomputable def d8 : List (Nat × AObj) := [(6, ob31)]
noncomputable def l8 : Leaf := ⟨(.tup []), d8, 880, []⟩
noncomputable def g8 : Stage := ⟨872, [(.ptr 6 0), (.fn (.func 146) [] [(.ptr 630 0), (.ptr 629 0)])], h8, [[]], rgs0, 6, [], [l8], .done l8.v l8.st⟩
noncomputable def ob32 : AObj := uO ob31 [(3, (nW 180171308))]
noncomputable def ob33 : AObj := uO ob28 [(5, (.emp 863 0 5))]
noncomputable def ob34 : AObj := oR 69 [(nI 0), (nI 0), (nI 2), (nW 167772161), (nI 58516), (.sl 856 0 2 none)]
noncomputable def h9 : List (Nat × AObj) := h8 ++ (d8 ++ [])
noncomputable def d9 : List (Nat × AObj) := [(6, ob32), (131, ob33), (906, ob34), (908, (oR 3 [(nI 1)]))]
noncomputable def l9 : Leaf := ⟨(.tup [(.sl 906 0 1 none), (.sl 908 0 1 none), (nI 0)]), d9, 909, []⟩
noncomputable def g9 : Stage := ⟨882, [(.ptr 6 0), (.agg [(nI 1), (nI 1), (nI 9), (nI 0), (nI 0), (nW 0), (nI 0), (nI 9), nS, (nI 0), (nI 0), (nI 0), (nI 0), (nU 0)])], h9, [[]], rgs0, 6, [], [l9], .done l9.v l9.st⟩

end Go.Proofs.YtnhpfkjblnclnaaGreat.ktop
