/-
  WorldDatagrams: how its world stands where a round begins.
-/
import Derived.Test.YtmifojdpdbjodaaGreatRdh
import Derived.Test.YtmifojdpdbjodaaGreatPlJ
import Derived.Test.YtmifojdpdbjodaaGreatK24
import Derived.Test.YtmifojdpdbjodaaGreatSpu
set_option linter.unusedVariables false
set_option linter.unusedSimpArgs false
namespace Go.Proofs.YtmifojdpdbjodaaGreat
open Go

noncomputable def bodyF : Code := match Tryz.prog.funcs[3]? with
  | some f => f.body.getD .skip
  | none => .skip
noncomputable def rgtN (n : Nat) (c : Code) : Code := Nat.rec (motive := fun _ => Code) c (fun _ ih => rgtC ih) n
noncomputable def preL : List Code := [lftC (rgtN 4 bodyF), lftC (rgtN 5 bodyF), lftC (rgtN 6 bodyF), lftC (rgtN 7 bodyF), lftC (rgtN 8 bodyF), lftC (rgtN 9 bodyF), lftC (rgtN 10 bodyF), lftC (lftC (rgtN 11 bodyF))]
noncomputable def loopC : Code := innC (innC (rgtC (lftC (rgtN 11 bodyF))))
noncomputable def roundC : Code := innC (lftC (rgtC loopC))
noncomputable def nextC : Code := rgtC (rgtC loopC)
noncomputable def postC : Code := rgtC (rgtN 11 bodyF)
noncomputable def loopS : Code := innC (innC (rgtC (lftC (rgtN 3 bodyF))))
noncomputable def nextS : Code := rgtC (rgtC loopS)
noncomputable def ihA : EvT := ev Tryz.prog plansJ sumsK24 (nat_lit 100000) 100000
noncomputable def callA : CallT := callF Tryz.prog sumsK24 ihA
noncomputable def evR (I : Nat) (u : AV) : Code → St → Ts → K → R := evC Tryz.prog (fun id => plansJ.pl 3 id) I u callA ihA 3 148
noncomputable def baseO : List (Nat × AObj) := [(6, oS 58 [(.ptr 46 0), (.ptr 86 0), (.int .i64 (.var 2)), (.int .u32 (.var 3)), nT, (.sl 626 0 0 none)]), (10, .map [((nI 0), ((.ptr 191 0), 0))] 1), (11, oS 137 [(nU 2), (nU 0), (nU 0), (nU 0), (nU 0), (nU 1), (nW 167772161), (nI 24), (.map 570), (.raw (.map none)), nS, nS, (.ptr 18 0), nP, (nI 1), (.ptr 12 0), nS, (.map 189), (.map 10), (nI 0), (.raw (.map none)), (.raw (.map none)), (.raw (.map none)), (nI 1), (.int .i64 (.var 4)), (nI 0), (nI 0), (nI 1), (nI 0), (nI 0), (nI 0), (nI 0), (nI 0), (nI 0), (nI 0), (nI 0), (nI 0), (nI 0), (nI 0), (nI 0), (nW 0), (.int .i32 (.lit (.ofNat 0))), (nW 0), (.raw (.map none)), nS, (.int .i64 (.var 5)), (.map 13)]), (12, oS 154 [(nI 10), (nI 20), (nI 10), (nI 0)]), (13, .map [((nI 1), ((.fn (.func 32) [] []), 0)), ((nI 2), ((.fn (.func 33) [] []), 1)), ((nI 17), ((.fn (.func 34) [] []), 2)), ((nI 6), ((.fn (.func 35) [] []), 3))] 4), (18, oS 101 [nS, (.ptr 19 0), nP]), (19, oS 101 [nS, (.ptr 20 0), nP]), (20, oS 101 [nS, (.ptr 21 0), nP]), (21, oS 101 [nS, nP, (.ptr 22 0)]), (22, oS 101 [nS, (.ptr 23 0), nP]), (23, oS 101 [nS, nP, (.ptr 24 0)]), (24, oS 101 [nS, (.ptr 25 0), nP]), (25, oS 101 [nS, (.ptr 26 0), nP]), (26, oS 101 [nS, (.ptr 27 0), nP]), (27, oS 101 [nS, (.ptr 28 0), nP]), (28, oS 101 [nS, (.ptr 29 0), nP]), (29, oS 101 [nS, (.ptr 30 0), nP]), (30, oS 101 [nS, (.ptr 31 0), nP]), (31, oS 101 [nS, (.ptr 32 0), nP]), (32, oS 101 [nS, (.ptr 33 0), nP]), (33, oS 101 [nS, (.ptr 34 0), nP]), (34, oS 101 [nS, (.ptr 35 0), nP]), (35, oS 101 [nS, (.ptr 36 0), nP]), (36, oS 101 [nS, (.ptr 37 0), nP]), (37, oS 101 [nS, (.ptr 38 0), nP]), (38, oS 101 [nS, (.ptr 39 0), nP]), (39, oS 101 [nS, (.ptr 40 0), nP]), (40, oS 101 [nS, (.ptr 41 0), nP]), (41, oS 101 [(.sl 44 0 1 none), nP, nP]), (44, oR 196 [(nW 167772160), (nI 24), (nW 0), (nI 0)]), (45, .map [((nI 0), ((.iface 322 (.ptr 156 0)), 0))] 1), (46, oS 82 [(.ptr 11 0), (.map 45), nS]), (50, .map [((nI 0), ((.ptr 131 0), 0))] 1), (52, oS 154 [(nI 10), (nI 20), (nI 10), (nI 0)]), (53, .map [((nI 1), ((.fn (.func 32) [] []), 0)), ((nI 2), ((.fn (.func 33) [] []), 1)), ((nI 17), ((.fn (.func 34) [] []), 2)), ((nI 6), ((.fn (.func 35) [] []), 3))] 4), (58, oS 101 [nS, (.ptr 59 0), nP]), (59, oS 101 [nS, (.ptr 60 0), nP]), (60, oS 101 [nS, (.ptr 61 0), nP]), (61, oS 101 [nS, nP, (.ptr 62 0)]), (62, oS 101 [nS, (.ptr 63 0), nP]), (63, oS 101 [nS, nP, (.ptr 64 0)]), (64, oS 101 [nS, (.ptr 65 0), nP]), (65, oS 101 [nS, (.ptr 66 0), nP]), (66, oS 101 [nS, (.ptr 67 0), nP]), (67, oS 101 [nS, (.ptr 68 0), nP]), (68, oS 101 [nS, (.ptr 69 0), nP]), (69, oS 101 [nS, (.ptr 70 0), nP]), (70, oS 101 [nS, (.ptr 71 0), nP]), (71, oS 101 [nS, (.ptr 72 0), nP]), (72, oS 101 [nS, (.ptr 73 0), nP]), (73, oS 101 [nS, (.ptr 74 0), nP]), (74, oS 101 [nS, (.ptr 75 0), nP]), (75, oS 101 [nS, (.ptr 76 0), nP]), (76, oS 101 [nS, (.ptr 77 0), nP]), (77, oS 101 [nS, (.ptr 78 0), nP]), (78, oS 101 [nS, (.ptr 79 0), nP]), (79, oS 101 [nS, (.ptr 80 0), nP]), (80, oS 101 [nS, (.ptr 81 0), nP]), (81, oS 101 [(.sl 84 0 1 none), nP, nP]), (84, oR 196 [(nW 167772160), (nI 24), (nW 0), (nI 0)]), (85, .map [((nI 0), ((.iface 322 (.ptr 103 0)), 0))] 1), (86, oS 82 [(.ptr 51 0), (.map 85), nS]), (103, oS 324 [(nI 0), nF, nT, (nW 0), (.int .i64 (.var 1)), nF, nF, (nI 0), nF, (nW 0), (nI 0)]), (129, .map [((nI 0), ((.ptr 130 0), 0))] 1), (130, oS 248 [(nW 0), (.int .i64 (.var 1)), nF, (nW 0), (nI 0)]), (131, oS 183 [(nW 0), (.int .i64 (.var 1)), nF, (nW 0), (nI 0), (.emp 862 0 5), (nI 0)]), (156, oS 324 [(nI 0), nF, nT, (nW 0), (nI 58516), nF, nF, (nI 0), nF, (nW 0), (nI 0)]), (189, .map [((nI 0), ((.ptr 190 0), 0))] 1), (190, oS 248 [(nW 0), (nI 58516), nF, (nW 0), (nI 0)]), (191, oS 183 [(nW 0), (nI 58516), nF, (nW 0), (nI 0), nS, (nI 0)]), (569, oS 299 [nT, (nU 2), (nU 0), (nU 0), (nU 0), (nU 0), (nU 2), (nI 600), (nI 0), nS]), (570, .map [((nW 167772162), ((.ptr 569 0), 0))] 1), (626, .cells 0 .nil none 70 true), (671, oS 299 [nT, (nU 2), (nU 0), (nU 0), (nU 0), (nU 0), (nU 1), (nI 600), (nI 0), nS]), (672, .map [((nW 167772161), ((.ptr 671 0), 0))] 1), (862, .cells 0 .nil none 174 true)]
noncomputable def hostO (m l : AV) : AObj := oS 137 [(nU 2), (nU 0), (nU 0), (nU 0), (nU 0), (nU 2), (nW 167772162), (nI 24), (.map 672), m, l, nS, (.ptr 58 0), nP, (nI 1), (.ptr 52 0), nS, (.map 129), (.map 50), (nI 0), (.raw (.map none)), (.raw (.map none)), (.raw (.map none)), (.int .i64 (.var 6)), (nI 1), (nI 0), (nI 0), (nI 0), (nI 0), (.int .i64 (.var 7)), (.int .i64 (.var 8)), (nI 0), (nI 0), (nI 0), (.int .i64 (.var 9)), (nI 0), (nI 0), (nI 0), (nI 0), (nI 0), (nW 0), (.int .i32 (.lit (.ofNat 0))), (nW 0), (.raw (.map none)), nS, (nI 1), (.map 53)]
/-- none was cut so far; j were -/
noncomputable def ownO : Nat → List (Nat × AObj)
  | 0 => [(51, hostO (.raw (.map none)) nS)]
  | j + 1 => [(51, hostO (.map 700) (.sl 701 0 0 none)), (700, .map [] (j + 1)), (701, .cells 0 .nil none 308 true)]
noncomputable def ordO : Nat → List Nat
  | 0 => [6, 46, 86, 626, 11, 45, 51, 85, 570, 18, 12, 189, 10, 13, 156, 672, 58, 52, 129, 50, 53, 103, 569, 19, 190, 191, 671, 59, 130, 131, 20, 60, 862, 21, 61, 22, 62, 23, 63, 24, 64, 25, 65, 26, 66, 27, 67, 28, 68, 29, 69, 30, 70, 31, 71, 32, 72, 33, 73, 34, 74, 35, 75, 36, 76, 37, 77, 38, 78, 39, 79, 40, 80, 41, 81, 44, 84]
  | _ + 1 => [6, 46, 86, 626, 11, 45, 51, 85, 570, 18, 12, 189, 10, 13, 156, 672, 58, 52, 129, 50, 53, 103, 569, 19, 190, 191, 671, 59, 130, 131, 20, 60, 862, 21, 61, 22, 62, 23, 63, 24, 64, 25, 65, 26, 66, 27, 67, 28, 68, 29, 69, 30, 70, 31, 71, 32, 72, 33, 73, 34, 74, 35, 75, 36, 76, 37, 77, 38, 78, 39, 79, 40, 80, 41, 81, 44, 84, 700, 701]
noncomputable def tmW : List (Nat × AV) := [(0, (.int .i64 (.var 1))), (1, (.osl 300 304 303)), (9, (.ptr 6 0)), (11, (.int .i64 (.var 30)))]
def rgW (i0 i1 lo hi p : Int) : List (Int × Int) := [(0, 0), (1, 65535), (0, 60), (0, 4294967295), (0, 400), (0, 400), (0, 400), (0, 400), (0, 400), (0, 400), (0, 0), (0, 0), (0, 0), (0, 0), (0, 0), (0, 0), (0, 0), (0, 0), (0, 0), (0, 0), (0, 0), (0, 0), (0, 0), (0, 0), (0, 0), (0, 0), (0, 0), (0, 0), (0, 0), (0, p), (i0, i1), (0, 0), (lo, hi)]
noncomputable def patW (j : Nat) : Pat := { nx := 900, hp := baseO ++ ownO j, ord := ordO j, wit := 6, tm := tmW, rg := rgW 0 10 0 0 0 }
noncomputable def patI : Pat := { nx := 900, hp := [(6, oS 58 [(.ptr 46 0), (.ptr 86 0), (nI 0), (nW 377401575), nT, nS]), (10, .map [] 0), (11, oS 137 [(nU 2), (nU 0), (nU 0), (nU 0), (nU 0), (nU 1), (nW 167772161), (nI 24), (.raw (.map none)), (.raw (.map none)), nS, nS, (.ptr 18 0), nP, (nI 1), (.ptr 12 0), nS, (.raw (.map none)), (.map 10), (nI 0), (.raw (.map none)), (.raw (.map none)), (.raw (.map none)), (nI 0), (nI 0), (nI 0), (nI 0), (nI 0), (nI 0), (nI 0), (nI 0), (nI 0), (nI 0), (nI 0), (nI 0), (nI 0), (nI 0), (nI 0), (nI 0), (nI 0), (nW 0), (.int .i32 (.lit (.ofNat 0))), (nW 0), (.raw (.map none)), nS, (nI 1), (.map 13)]), (12, oS 154 [(nI 10), (nI 20), (nI 10), (nI 0)]), (13, .map [((nI 1), ((.fn (.func 32) [] []), 0)), ((nI 2), ((.fn (.func 33) [] []), 1)), ((nI 17), ((.fn (.func 34) [] []), 2)), ((nI 6), ((.fn (.func 35) [] []), 3))] 4), (18, oS 101 [nS, (.ptr 19 0), nP]), (19, oS 101 [nS, (.ptr 20 0), nP]), (20, oS 101 [nS, (.ptr 21 0), nP]), (21, oS 101 [nS, nP, (.ptr 22 0)]), (22, oS 101 [nS, (.ptr 23 0), nP]), (23, oS 101 [nS, nP, (.ptr 24 0)]), (24, oS 101 [nS, (.ptr 25 0), nP]), (25, oS 101 [nS, (.ptr 26 0), nP]), (26, oS 101 [nS, (.ptr 27 0), nP]), (27, oS 101 [nS, (.ptr 28 0), nP]), (28, oS 101 [nS, (.ptr 29 0), nP]), (29, oS 101 [nS, (.ptr 30 0), nP]), (30, oS 101 [nS, (.ptr 31 0), nP]), (31, oS 101 [nS, (.ptr 32 0), nP]), (32, oS 101 [nS, (.ptr 33 0), nP]), (33, oS 101 [nS, (.ptr 34 0), nP]), (34, oS 101 [nS, (.ptr 35 0), nP]), (35, oS 101 [nS, (.ptr 36 0), nP]), (36, oS 101 [nS, (.ptr 37 0), nP]), (37, oS 101 [nS, (.ptr 38 0), nP]), (38, oS 101 [nS, (.ptr 39 0), nP]), (39, oS 101 [nS, (.ptr 40 0), nP]), (40, oS 101 [nS, (.ptr 41 0), nP]), (41, oS 101 [(.sl 44 0 1 none), nP, nP]), (44, oR 196 [(nW 167772160), (nI 24), (nW 0), (nI 0)]), (45, .map [((nI 0), ((.iface 322 (.ptr 156 0)), 0))] 1), (46, oS 82 [(.ptr 11 0), (.map 45), nS]), (50, .map [((nI 0), ((.ptr 131 0), 0))] 1), (51, oS 137 [(nU 2), (nU 0), (nU 0), (nU 0), (nU 0), (nU 2), (nW 167772162), (nI 24), (.raw (.map none)), (.raw (.map none)), nS, nS, (.ptr 58 0), nP, (nI 1), (.ptr 52 0), nS, (.map 129), (.map 50), (nI 0), (.raw (.map none)), (.raw (.map none)), (.raw (.map none)), (nI 0), (nI 0), (nI 0), (nI 0), (nI 0), (nI 0), (nI 0), (nI 0), (nI 0), (nI 0), (nI 0), (nI 0), (nI 0), (nI 0), (nI 0), (nI 0), (nI 0), (nW 0), (.int .i32 (.lit (.ofNat 0))), (nW 0), (.raw (.map none)), nS, (nI 1), (.map 53)]), (52, oS 154 [(nI 10), (nI 20), (nI 10), (nI 0)]), (53, .map [((nI 1), ((.fn (.func 32) [] []), 0)), ((nI 2), ((.fn (.func 33) [] []), 1)), ((nI 17), ((.fn (.func 34) [] []), 2)), ((nI 6), ((.fn (.func 35) [] []), 3))] 4), (58, oS 101 [nS, (.ptr 59 0), nP]), (59, oS 101 [nS, (.ptr 60 0), nP]), (60, oS 101 [nS, (.ptr 61 0), nP]), (61, oS 101 [nS, nP, (.ptr 62 0)]), (62, oS 101 [nS, (.ptr 63 0), nP]), (63, oS 101 [nS, nP, (.ptr 64 0)]), (64, oS 101 [nS, (.ptr 65 0), nP]), (65, oS 101 [nS, (.ptr 66 0), nP]), (66, oS 101 [nS, (.ptr 67 0), nP]), (67, oS 101 [nS, (.ptr 68 0), nP]), (68, oS 101 [nS, (.ptr 69 0), nP]), (69, oS 101 [nS, (.ptr 70 0), nP]), (70, oS 101 [nS, (.ptr 71 0), nP]), (71, oS 101 [nS, (.ptr 72 0), nP]), (72, oS 101 [nS, (.ptr 73 0), nP]), (73, oS 101 [nS, (.ptr 74 0), nP]), (74, oS 101 [nS, (.ptr 75 0), nP]), (75, oS 101 [nS, (.ptr 76 0), nP]), (76, oS 101 [nS, (.ptr 77 0), nP]), (77, oS 101 [nS, (.ptr 78 0), nP]), (78, oS 101 [nS, (.ptr 79 0), nP]), (79, oS 101 [nS, (.ptr 80 0), nP]), (80, oS 101 [nS, (.ptr 81 0), nP]), (81, oS 101 [(.sl 84 0 1 none), nP, nP]), (84, oR 196 [(nW 167772160), (nI 24), (nW 0), (nI 0)]), (85, .map [((nI 0), ((.iface 322 (.ptr 103 0)), 0))] 1), (86, oS 82 [(.ptr 51 0), (.map 85), nS]), (103, oS 324 [(nI 0), nF, nT, (nW 0), (.int .i64 (.var 1)), nF, nF, (nI 0), nF, (nW 0), (nI 0)]), (129, .map [((nI 0), ((.ptr 130 0), 0))] 1), (130, oS 248 [(nW 0), (.int .i64 (.var 1)), nF, (nW 0), (nI 0)]), (131, oS 183 [(nW 0), (.int .i64 (.var 1)), nF, (nW 0), (nI 0), nS, (nI 0)]), (156, oS 324 [(nI 0), nF, nF, (nW 0), (nI 0), nF, nF, (nI 0), nF, (nW 0), (nI 0)])], ord := [6, 46, 86, 11, 45, 51, 85, 18, 12, 10, 13, 156, 58, 52, 129, 50, 53, 103, 19, 59, 130, 131, 20, 60, 21, 61, 22, 62, 23, 63, 24, 64, 25, 65, 26, 66, 27, 67, 28, 68, 29, 69, 30, 70, 31, 71, 32, 72, 33, 73, 34, 74, 35, 75, 36, 76, 37, 77, 38, 78, 39, 79, 40, 80, 41, 81, 44, 84], wit := 6, tm := tmW, rg := rgW 0 0 0 0 0 }
noncomputable def tmS : List (Nat × AV) := [(0, (.int .i64 (.var 1))), (1, (.osl 300 304 303)), (5, (.int .i64 (.var 3))), (6, (.int .i64 (.var 30)))]
def rgS (i0 i1 hi : Int) : List (Int × Int) := [(0, 0), (1, 65535), (0, 0), (0, 20971520), (0, 0), (0, 0), (0, 0), (0, 0), (0, 0), (0, 0), (0, 0), (0, 0), (0, 0), (0, 0), (0, 0), (0, 0), (0, 0), (0, 0), (0, 0), (0, 0), (0, 0), (0, 0), (0, 0), (0, 0), (0, 0), (0, 0), (0, 0), (0, 0), (0, 0), (0, 0), (i0, i1), (0, 0), (0, hi)]
noncomputable def stepP (k : Nat) (o : AObj) : Option AV := match o with
  | .cells _ c d _ _ => celA c d k
  | .map es _ => (es[k]?).map (·.2.1)
  | _ => none
noncomputable def refOf (v : AV) : Option Nat := match v with
  | .ptr i _ => some i
  | .sl i _ _ _ => some i
  | .map i => some i
  | .emp i _ _ => some i
  | _ => none
noncomputable def pathV (h : Tr AObj) (l : List Nat) : Option AV → Option AV := List.rec (motive := fun _ => Option AV → Option AV) (fun v => v) (fun k _ ih v => ih (v.bind fun v => (refOf v).bind fun i => (h.get i).bind (stepP k))) l
noncomputable def rowT (o : AObj) : Option TypeId := match o with
  | .cells _ _ _ T true => some T
  | _ => none
/-- less is told of that row -/
noncomputable def lessP (l : List Nat) (s : St) (t : Ts) (κ : St → R) : R := optK ((pathV s.hp l (t.get 9)).bind refOf) 970 fun i => optK ((s.hp.get i).bind rowT) 971 fun T => κ ⟨s.hp.set i (.cells (nat_lit 0) .nil none T true), s.nx, s.pc⟩
theorem rowT_eq {o : AObj} {T : TypeId} (h : rowT o = some T) : ∃ n c d, o = .cells n c d T true := by
  unfold rowT at h
  split at h
  · cases h; exact ⟨_, _, _, rfl⟩
  · cases h
theorem lessP_inv {D : Dn} {l : List Nat} {s : St} {t : Ts} {κ : St → R} (h : lessP l s t κ ∈ D) : ∃ s', κ s' ∈ D ∧ s'.pc = s.pc ∧ ∀ {P ρ w0 φ w}, Gm P ρ w0 φ s w → Gm P ρ w0 φ s' w := by
  obtain ⟨i, _, h1⟩ := optK_inv h
  obtain ⟨T, hT, h2⟩ := optK_inv h1
  simp only [Option.bind_eq_some_iff] at hT
  obtain ⟨o, ho, hT⟩ := hT
  obtain ⟨n, c, d, rfl⟩ := rowT_eq hT
  refine ⟨_, h2, rfl, fun {P ρ w0 φ w} hg => ?_⟩
  obtain ⟨p, arr, fz, hp, hc⟩ := hg.hp.obj _ _ ho
  exact hg.upd ho rfl hp (.refl _ _) ⟨p, arr, fz, hp, ⟨hc.blk, hc.size, by have := hc.le; show p.sh + 0 ≤ p.sz; omega, fun e => (by cases e), hc.es, hc.fr, fun i hi => absurd hi (Nat.not_lt_zero _)⟩⟩
/-- a number that goes up by B at most -/
def grwB (k : Nat) (B : Nat) (e : SI) : Bool := match e with
  | .lit (.ofNat c) => Nat.ble c B
  | .var i => Nat.beq i k
  | .bin .add .i64 (.var i) (.lit (.ofNat c)) => Nat.beq i k && Nat.ble c B
  | _ => false
def nilN (t : Tr Nat) : Bool := match t with
  | .nil => true
  | _ => false
noncomputable def letR (r : Ren) (k : Nat) : SI := optD (.lit (.ofNat (nat_lit 0))) (r.si.get k)
def in32 (o : Option (Int × Int)) : Bool := match o with
  | some (a, b) => decide (0 ≤ a ∧ b ≤ 4294967295)
  | none => false
/-- the letters of the next round -/
noncomputable def grwW (rg : List (Int × Int)) (r : Ren) : Bool := [4, 5, 6, 7, 8, 9].all (fun k => grwB k 30 (letR r k)) && (grwB 2 2 (letR r 2) && (SI.beq (letR r 1) (.var 1) && (SI.beq (letR r 30) (.bin .add .i64 (.var 30) (.lit (.ofNat 1))) && (in32 (rngS rg (letR r 3)) && (nilN r.rw)))))
noncomputable def matW (j : Nat) (s : St) (t : Ts) : R := matchP (patW j) 148 s t (.fail 972) fun r => Bool.rec (motive := fun _ => R) (.fail 973) (.done (.int .i64 (.lit (.ofNat j))) ⟨.nil, nat_lit 0, ⟨s.pc.l, [], []⟩⟩) (grwW s.pc.rg r)
noncomputable def endW : Nat → St → Ts → R
  | 0, s, t => lessP [5] s t fun s => lessP [1, 0, 18, 0, 5] s t fun s => matW 0 s t
  | j + 1, s, t => lessP [5] s t fun s => lessP [1, 0, 18, 0, 5] s t fun s => lessP [1, 0, 10] s t fun s => matW (j + 1) s t
noncomputable def endN (j : Nat) (e : Ex) (s : St) (t : Ts) : R := Ex.rec (motive := fun _ => R) (endW j s t) (fun _ => .fail 974) (.fail 975) e
noncomputable def isT (v : Option AV) : Bool := match v with
  | some (.bool (.lit b)) => b
  | _ => false
/-- the law is done with, and true -/
noncomputable def lostR (s : St) (t : Ts) : R := Bool.rec (motive := fun _ => R) (.fail 978) (.done (.int .i64 (.lit (.ofNat 99))) ⟨.nil, nat_lit 0, ⟨s.pc.l, [], []⟩⟩) (isT (t.get 4) && isN (t.get 148))
noncomputable def endR (j : Nat) (e : Ex) (s : St) (t : Ts) : R := Ex.rec (motive := fun _ => R) (ihA 3 148 nextC s t (endN j)) (fun _ => .fail 976) (lostR s t) e
noncomputable def blcR (j : Nat) (u : AV) (e : Ex) (s : St) (t : Ts) : R := Ex.rec (motive := fun _ => R) (evR 30 u (lftC (rgtC loopC)) s t (endR j)) (fun _ => .fail 979) (.fail 977) e
/-- a round out of a pattern, to where j' were cut -/
noncomputable def bodyR (p : Pat) (j' : Nat) (u : AV) (pcs : List (SB × Bool)) (rg : List (Int × Int)) : R := ihA 3 148 (lftC loopC) ⟨p.h, p.nx, ⟨pcs, [[]], rg⟩⟩ (p.ts 148) (blcR j' u)
noncomputable def finR (e : Ex) (s : St) (t : Ts) : R := Ex.rec (motive := fun _ => R) (lostR s t) (fun _ => .fail 980) (.fail 981) e
noncomputable def outR (e : Ex) (s : St) (t : Ts) : R := Ex.rec (motive := fun _ => R) (.fail 982) (fun i => Bool.rec (motive := fun _ => R) (.fail 983) (ihA 3 148 (lftC postC) s t finR) (Nat.beq i (nat_lit 2))) (.fail 984) e
/-- no datagram is left -/
noncomputable def exitR (p : Pat) (pcs : List (SB × Bool)) (rg : List (Int × Int)) : R := ihA 3 148 (lftC loopC) ⟨p.h, p.nx, ⟨pcs, [[]], rg⟩⟩ (p.ts 148) outR
noncomputable def allE (r : R) (acc : List (SB × Bool)) : Bool := Option.rec (motive := fun _ => Bool) false (fun _ => true) (endsR r acc)
/-- there is one more; there is none -/
noncomputable def moreF (b : Bool) : List (SB × Bool) := [(.cmp .lss (.var 30) (.var 304), b), (.cmp .leq (.lit (.ofNat (nat_lit 0))) (.var 304), true)]
/-- the world's beginning -/
noncomputable def iniR (e : Ex) (s : St) (t : Ts) : R := Ex.rec (motive := fun _ => R) (matchP patI 148 s t (.fail 985) fun r => Bool.rec (motive := fun _ => R) (.fail 986) (.done (.int .i64 (.lit (.ofNat 0))) ⟨.nil, nat_lit 0, ⟨s.pc.l, [], []⟩⟩) (SI.beq (letR r 1) (.var 1) && (SI.beq (letR r 30) (.lit (.ofNat 0)) && nilN r.rw))) (fun _ => .fail 987) (lostR s t) e
/-- sums of lengths: the state at the head of the first loop -/
noncomputable def patS : Pat := { nx := 0, hp := [], ord := [], wit := 0, tm := tmS, rg := rgS 0 10 0 }
noncomputable def preX (e : Ex) (s : St) (t : Ts) : R := Ex.rec (motive := fun _ => R) (.fail 995) (fun i => Bool.rec (motive := fun _ => R) (.fail 996) (evL ihA 3 148 preL s t iniR) (Nat.beq i (nat_lit 0))) (.fail 997) e
/-- all lengths are summed up -/
noncomputable def preR (rg : List (Int × Int)) : R := ihA 3 148 (lftC loopS) ⟨patS.h, patS.nx, ⟨moreF false, [[]], rg⟩⟩ (patS.ts 148) preX
noncomputable def sumN (e3 e30 : SI) (e : Ex) (s : St) (t : Ts) : R := Ex.rec (motive := fun _ => R) (matchP patS 148 s t (.fail 988) fun r => Bool.rec (motive := fun _ => R) (.fail 998) (.done (.int .i64 (.lit (.ofNat 0))) ⟨.nil, nat_lit 0, ⟨s.pc.l, [], []⟩⟩) (SI.beq (letR r 1) (.var 1) && (SI.beq (letR r 3) e3 && (SI.beq (letR r 30) e30 && nilN r.rw)))) (fun _ => .fail 989) (.fail 990) e
noncomputable def sumB (e3 : SI) (e : Ex) (s : St) (t : Ts) : R := Ex.rec (motive := fun _ => R) (ihA 3 148 nextS s t (sumN e3 (.bin .add .i64 (.var 30) (.lit (.ofNat 1))))) (fun _ => .fail 991) (.fail 992) e
noncomputable def sumA (u : AV) (e3 : SI) (e : Ex) (s : St) (t : Ts) : R := Ex.rec (motive := fun _ => R) (evR 30 u (lftC (rgtC loopS)) s t (sumB e3)) (fun _ => .fail 993) (.fail 994) e
/-- one length more -/
noncomputable def sumR (u : AV) (e3 : SI) (pcs : List (SB × Bool)) (rg : List (Int × Int)) : R := ihA 3 148 (lftC loopS) ⟨patS.h, patS.nx, ⟨pcs, [[]], rg⟩⟩ (patS.ts 148) (sumA u e3)
noncomputable def begL : List Code := [lftC bodyF, lftC (rgtN 1 bodyF), lftC (rgtN 2 bodyF), lftC (lftC (rgtN 3 bodyF))]
def tenF : List (SB × Bool) := [(.cmp .lss (.lit (.ofNat 10)) (.var 304), false), (.cmp .leq (.lit (.ofNat (nat_lit 0))) (.var 304), true)]
/-- the beginning -/
noncomputable def begR (rg : List (Int × Int)) : R := evL ihA 3 148 begL ⟨.nil, nat_lit 0, ⟨tenF, [[]], rg⟩⟩ (tsOf 148 [.int .i64 (.var 1), .osl 300 304 303]) (sumN (.lit (.ofNat 0)) (.lit (.ofNat 0)))
noncomputable def pp1 : List (SB × Bool) := padP 32 29 (.ofNat 18) (.ofNat 0) (.ofNat 42) (.ofNat 28) (.ofNat 8) (.var 32)
noncomputable def pp2 : List (SB × Bool) := padP 32 29 (.ofNat 1498) (.negSucc 1479) (.negSucc 1437) (.negSucc 1451) (.negSucc 1471) (nA 32 (.negSucc 1479))
noncomputable def pp3 : List (SB × Bool) := padP 32 29 (.ofNat 2978) (.negSucc 2959) (.negSucc 2917) (.negSucc 2931) (.negSucc 2951) (nA 32 (.negSucc 2959))
noncomputable def pp4 : List (SB × Bool) := padP 32 29 (.ofNat 4458) (.negSucc 4439) (.negSucc 4397) (.negSucc 4411) (.negSucc 4431) (nA 32 (.negSucc 4439))
noncomputable def pp5 : List (SB × Bool) := padP 32 29 (.ofNat 5938) (.negSucc 5919) (.negSucc 5877) (.negSucc 5891) (.negSucc 5911) (nA 32 (.negSucc 5919))
noncomputable def pp6 : List (SB × Bool) := padP 32 29 (.ofNat 7418) (.negSucc 7399) (.negSucc 7357) (.negSucc 7371) (.negSucc 7391) (nA 32 (.negSucc 7399))
noncomputable def pp7 : List (SB × Bool) := padP 32 29 (.ofNat 8898) (.negSucc 8879) (.negSucc 8837) (.negSucc 8851) (.negSucc 8871) (nA 32 (.negSucc 8879))
noncomputable def pp8 : List (SB × Bool) := padP 32 29 (.ofNat 10378) (.negSucc 10359) (.negSucc 10317) (.negSucc 10331) (.negSucc 10351) (nA 32 (.negSucc 10359))
noncomputable def pp9 : List (SB × Bool) := padP 32 29 (.ofNat 11858) (.negSucc 11839) (.negSucc 11797) (.negSucc 11811) (.negSucc 11831) (nA 32 (.negSucc 11839))
noncomputable def pp10 : List (SB × Bool) := padP 32 29 (.ofNat 13338) (.negSucc 13319) (.negSucc 13277) (.negSucc 13291) (.negSucc 13311) (nA 32 (.negSucc 13319))
noncomputable def pp11 : List (SB × Bool) := padP 32 29 (.ofNat 14818) (.negSucc 14799) (.negSucc 14757) (.negSucc 14771) (.negSucc 14791) (nA 32 (.negSucc 14799))
noncomputable def pp12 : List (SB × Bool) := padP 32 29 (.ofNat 16298) (.negSucc 16279) (.negSucc 16237) (.negSucc 16251) (.negSucc 16271) (nA 32 (.negSucc 16279))
noncomputable def pp13 : List (SB × Bool) := padP 32 29 (.ofNat 17778) (.negSucc 17759) (.negSucc 17717) (.negSucc 17731) (.negSucc 17751) (nA 32 (.negSucc 17759))
noncomputable def pp14 : List (SB × Bool) := padP 32 29 (.ofNat 19258) (.negSucc 19239) (.negSucc 19197) (.negSucc 19211) (.negSucc 19231) (nA 32 (.negSucc 19239))
noncomputable abbrev okF (p : Pat) (j' : Nat) (pp : List (SB × Bool)) (i0 i1 lo hi pd : Int) : Bool := allE (bodyR p j' (.fsl 32 zeroS zeroS (.var 32)) (moreF true ++ pp) (rgW i0 i1 lo hi pd)) (moreF true ++ pp)
noncomputable abbrev okZ (p : Pat) (j : Nat) (i0 i1 : Int) : Bool := allE (bodyR p j (.osl 628 32 631) (moreF true ++ [(.cmp .eql (.var 630) zeroS, false)]) (rgW i0 i1 0 0 0)) (moreF true ++ [(.cmp .eql (.var 630) zeroS, false)])
noncomputable abbrev okN (p : Pat) (j : Nat) (i0 i1 : Int) : Bool := allE (bodyR p j (.raw (.slice none 0 0)) (moreF true) (rgW i0 i1 0 0 0)) (moreF true)
noncomputable abbrev okX (p : Pat) (i0 i1 : Int) : Bool := allE (exitR p (moreF false) (rgW i0 i1 0 0 0)) (moreF false)

end Go.Proofs.YtmifojdpdbjodaaGreat
