/-
  HubPairs: how its hubs stand where a round begins.
-/
import Derived.Test.YtooebogidjejoaaGreatRdi
import Derived.Test.YtooebogidjejoaaGreatK18
set_option linter.unusedVariables false
set_option linter.unusedSimpArgs false
namespace Go.Proofs.YtooebogidjejoaaGreat
open Go

noncomputable def bodyF : Code := match Tryz.prog.funcs[3]? with
  | some f => f.body.getD .skip
  | none => .skip
noncomputable def rgtN (n : Nat) (c : Code) : Code := Nat.rec (motive := fun _ => Code) c (fun _ ih => rgtC ih) n
noncomputable def begL : List Code := [lftC bodyF, lftC (rgtN 1 bodyF), lftC (rgtN 2 bodyF), lftC (rgtN 3 bodyF), lftC (rgtN 4 bodyF), lftC (rgtN 5 bodyF), lftC (rgtN 6 bodyF), lftC (lftC (rgtN 7 bodyF))]
noncomputable def loopO : Code := innC (innC (rgtC (lftC (rgtN 7 bodyF))))
noncomputable def midO : List Code := [lftC (rgtN 8 bodyF), lftC (lftC (rgtN 9 bodyF))]
noncomputable def loopS : Code := innC (innC (rgtC (lftC (rgtN 9 bodyF))))
noncomputable def midS : Code := lftC (lftC (rgtN 10 bodyF))
noncomputable def loopR : Code := innC (innC (rgtC (lftC (rgtN 10 bodyF))))
noncomputable def postC : Code := rgtN 11 bodyF
noncomputable def headC (c : Code) : Code := lftC c
noncomputable def blkC (c : Code) : Code := lftC (rgtC c)
noncomputable def nextC (c : Code) : Code := rgtC (rgtC c)
noncomputable def plH (id : Nat) : Option Plan := Bool.rec (motive := fun _ => Option Plan) (plans.pl 3 id) (some [([0, 1, 2, 5, 6, 3, 4, 7, 8], [9, 10], []), ([11, 12, 13, 14, 15, 16], [], [])]) (Nat.beq id 23)
noncomputable def ihA : EvT := ev Tryz.prog plans sumsK18 (nat_lit 100000) 100000
noncomputable def callA : CallT := callF Tryz.prog sumsK18 ihA
noncomputable def evR (I : SI) (u : AV) : Code → St → Ts → K → R := evC Tryz.prog plH I u callA ihA 3 193
noncomputable def frc {α : Type} (j : Nat) (κ : Nat → Nat → Nat → Nat → Nat → Nat → Nat → Nat → α) : α := forceN (Nat.add (Nat.mul 24 j) (nat_lit 20)) fun b => forceN (Nat.add 100 j) fun p => forceN (Nat.mul 7 j) fun s => forceN (Nat.succ s) fun s1 => forceN (Nat.add s (nat_lit 4097)) fun s3 => forceN (Nat.add (nat_lit 33) j) fun r => forceN (Nat.succ j) fun i1 => forceN (Nat.succ i1) fun i2 => κ b p s s1 s3 r i1 i2
noncomputable def upL {α : Type} (f : Nat → List α) : Nat → Nat → List α := Nat.rec (motive := fun _ => Nat → List α) (fun _ => []) (fun _ ih k => f k ++ ih (Nat.succ k))
noncomputable def aO (j : Nat) : List (Nat × AObj) := frc j fun b p s s1 s3 r i1 i2 => [(b, oS 75 [(.ptr (Nat.add b (nat_lit 1)) 0), (nI i1), (nW 1), (nI p), (nW 2), (nI 80), nP, nT, nF]), ((Nat.add b (nat_lit 1)), oS 100 [(nW 1), (nI p), (nW 2), (nI 80), (nW s), (nI 1460), (nI 4096), (nI 4096), (nI 1), nF, (nI 0), (nI 4), nF, (nI 0), nF, (nW s1), (nW s1), (nW s1), (.ptr (Nat.add b (nat_lit 3)) 0), nF, (nW 0), (nI 4096), (nW 0), (nW s1), (nI 1), (nI 1), (nI 1460), nT, (nW 1), (.ptr (Nat.add b (nat_lit 5)) 0), nS, nF, nF, (nW 0), (nW 4097), nT, (nI 8), (nI 2), (nI 0), (.ptr (Nat.add b (nat_lit 6)) 0), nF, (nW s), (nI 0), nP, nP, nP, nP, (nI 0), (nI 0), (nI 0)]), ((Nat.add b (nat_lit 2)), oB 4096 [] (some (nU 0)) 5 false), ((Nat.add b (nat_lit 3)), oS 136 [(.sl (Nat.add b (nat_lit 2)) 0 4096 (some 4096)), (nI 0), (nI 0)]), ((Nat.add b (nat_lit 4)), oB 4096 [] (some (nU 0)) 5 false), ((Nat.add b (nat_lit 5)), oS 136 [(.sl (Nat.add b (nat_lit 4)) 0 4096 (some 4096)), (nI 0), (nI 0)]), ((Nat.add b (nat_lit 6)), oS 149 [(nI 1460), (nI 2920), (nI 65535), (nI 0), (nW 0), nF, (.fn (.func 116) [(.ptr (Nat.add b (nat_lit 6)) 0)] [])])]
noncomputable def bO (j : Nat) : List (Nat × AObj) := frc j fun b p s s1 s3 r i1 i2 => [((Nat.add b (nat_lit 10)), oS 75 [(.ptr (Nat.add b (nat_lit 11)) 0), (nI i2), (nW 2), (nI 80), (nW 1), (nI p), (.ptr 8 0), nF, nT]), ((Nat.add b (nat_lit 11)), oS 100 [(nW 2), (nI 80), (nW 1), (nI p), (nW 0), (nI 1460), (nI 4096), (nI 4096), (nI 1), nF, (nI 0), (nI 4), nF, (nI 0), nF, (nW 1), (nW 1), (nW 1), (.ptr (Nat.add b (nat_lit 13)) 0), nF, (nW 0), (nI 4096), (nW s1), (nW 1), (nI 1), (nI 1), (nI 1460), nT, (nW s1), (.ptr (Nat.add b (nat_lit 15)) 0), nS, nF, nF, (nW 0), (nW s3), nT, (nI 8), (nI 2), (nI 0), (.ptr (Nat.add b (nat_lit 16)) 0), nF, (nW 0), (nI 1), nP, nP, nP, nP, (nI 0), (nI 0), (nI 0)]), ((Nat.add b (nat_lit 12)), oB 4096 [] (some (nU 0)) 5 false), ((Nat.add b (nat_lit 13)), oS 136 [(.sl (Nat.add b (nat_lit 12)) 0 4096 (some 4096)), (nI 0), (nI 0)]), ((Nat.add b (nat_lit 14)), oB 4096 [] (some (nU 0)) 5 false), ((Nat.add b (nat_lit 15)), oS 136 [(.sl (Nat.add b (nat_lit 14)) 0 4096 (some 4096)), (nI 0), (nI 0)]), ((Nat.add b (nat_lit 16)), oS 149 [(nI 1460), (nI 2920), (nI 65535), (nI 0), (nW 0), nF, (.fn (.func 116) [(.ptr (Nat.add b (nat_lit 16)) 0)] [])])]
noncomputable def aS (j : Nat) : List (Nat × AObj) := frc j fun b p s s1 s3 r i1 i2 => [(b, oS 75 [(.ptr (Nat.add b (nat_lit 1)) 0), (nI i1), (nW 1), (nI p), (nW 2), (nI 80), nP, nT, nF]), ((Nat.add b (nat_lit 1)), oS 100 [(nW 1), (nI p), (nW 2), (nI 80), (nW s), (nI 1460), (nI 4096), (nI 4096), (nI 1), nF, (nI 0), (nI 4), nF, (nI 0), nF, (nW s1), (.int .u32 (.bin .add .u32 (.var r) (.lit (.ofNat s1)))), (.int .u32 (.bin .add .u32 (.var r) (.lit (.ofNat s1)))), (.ptr (Nat.add b (nat_lit 3)) 0), nF, (nW 0), (nI 4096), (nW 0), (nW s1), (nI 1), (nI 1), (nI 1460), nT, (nW 1), (.ptr (Nat.add b (nat_lit 5)) 0), nS, nF, nF, (nW 0), (nW 4097), nT, (nI 8), (nI 2), (nI 0), (.ptr (Nat.add b (nat_lit 6)) 0), nT, (nW s1), (nI 2), (.ptr (Nat.add b (nat_lit 7)) 0), nP, nP, nP, (nI 0), (nI 0), (nI 0)]), ((Nat.add b (nat_lit 2)), .rope [(.row r (.lit (.ofNat 0)) (.var r)), (.fil (.bin .sub .i64 (.lit (.ofNat 4096)) (.var r)) (.lit (.ofNat 0)))] 5 false), ((Nat.add b (nat_lit 3)), oS 136 [(.sl (Nat.add b (nat_lit 2)) 0 4096 (some 4096)), (nI 0), (.int .i64 (.var r))]), ((Nat.add b (nat_lit 4)), oB 4096 [] (some (nU 0)) 5 false), ((Nat.add b (nat_lit 5)), oS 136 [(.sl (Nat.add b (nat_lit 4)) 0 4096 (some 4096)), (nI 0), (nI 0)]), ((Nat.add b (nat_lit 6)), oS 149 [(nI 1460), (nI 2920), (nI 65535), (nI 0), (nW 0), nF, (.fn (.func 116) [(.ptr (Nat.add b (nat_lit 6)) 0)] [])]), ((Nat.add b (nat_lit 7)), oS 3 [(nI 12)])]
noncomputable def bS (j : Nat) : List (Nat × AObj) := frc j fun b p s s1 s3 r i1 i2 => [((Nat.add b (nat_lit 10)), oS 75 [(.ptr (Nat.add b (nat_lit 11)) 0), (nI i2), (nW 2), (nI 80), (nW 1), (nI p), (.ptr 8 0), nF, nT]), ((Nat.add b (nat_lit 11)), oS 100 [(nW 2), (nI 80), (nW 1), (nI p), (nW 0), (nI 1460), (nI 4096), (nI 4096), (nI 1), nF, (nI 0), (nI 4), nF, (nI 0), nF, (nW 1), (nW 1), (nW 1), (.ptr (Nat.add b (nat_lit 13)) 0), nF, (nW 0), (nI 4096), (nW s1), (nW 1), (nI 1), (nI 1), (nI 1460), nT, (.int .u32 (.bin .add .u32 (.var r) (.lit (.ofNat s1)))), (.ptr (Nat.add b (nat_lit 15)) 0), (.emp (Nat.add b (nat_lit 17)) 0 2), nF, nF, (nW 0), (nW s3), nT, (nI 8), (nI 2), (nI 0), (.ptr (Nat.add b (nat_lit 16)) 0), nF, (nW 0), (nI 1), nP, (.ptr (Nat.add b (nat_lit 19)) 0), nP, nP, (nI 0), (nI 0), (nI 1)]), ((Nat.add b (nat_lit 12)), oB 4096 [] (some (nU 0)) 5 false), ((Nat.add b (nat_lit 13)), oS 136 [(.sl (Nat.add b (nat_lit 12)) 0 4096 (some 4096)), (nI 0), (nI 0)]), ((Nat.add b (nat_lit 14)), .rope [(.row r (.lit (.ofNat 0)) (.var r)), (.fil (.bin .sub .i64 (.lit (.ofNat 4096)) (.var r)) (.lit (.ofNat 0)))] 5 false), ((Nat.add b (nat_lit 15)), oS 136 [(.sl (Nat.add b (nat_lit 14)) 0 4096 (some 4096)), (nI 0), (.int .i64 (.var r))]), ((Nat.add b (nat_lit 16)), oS 149 [(nI 1460), (nI 2920), (nI 65535), (nI 0), (nW 0), nF, (.fn (.func 116) [(.ptr (Nat.add b (nat_lit 16)) 0)] [])]), ((Nat.add b (nat_lit 17)), oR 161 [(nI 0), (.ssl (Nat.add b (nat_lit 18)) (.lit (.ofNat 0)) (.lit (.ofNat 0)) (.var r) none)]), ((Nat.add b (nat_lit 18)), .rope [(.row r (.lit (.ofNat 0)) (.var r))] 5 true), ((Nat.add b (nat_lit 19)), oS 3 [(nI 6)])]
noncomputable def bR (j : Nat) : List (Nat × AObj) := frc j fun b p s s1 s3 r i1 i2 => [((Nat.add b (nat_lit 10)), oS 75 [(.ptr (Nat.add b (nat_lit 11)) 0), (nI i2), (nW 2), (nI 80), (nW 1), (nI p), nP, nT, nT]), ((Nat.add b (nat_lit 11)), oS 100 [(nW 2), (nI 80), (nW 1), (nI p), (nW 0), (nI 1460), (nI 4096), (nI 4096), (nI 1), nF, (nI 0), (nI 4), nF, (nI 0), nF, (nW 1), (nW 1), (nW 1), (.ptr (Nat.add b (nat_lit 13)) 0), nF, (nW 0), (nI 4096), (nW s1), (nW 1), (nI 1), (nI 1), (nI 1460), nT, (.int .u32 (.bin .add .u32 (.var r) (.lit (.ofNat s1)))), (.ptr (Nat.add b (nat_lit 15)) 0), (.emp (Nat.add b (nat_lit 17)) 0 2), nF, nF, (nW 0), (nW s3), nT, (nI 8), (nI 2), (nI 0), (.ptr (Nat.add b (nat_lit 16)) 0), nF, (nW 0), (nI 1), nP, (.ptr (Nat.add b (nat_lit 19)) 0), nP, nP, (nI 0), (nI 0), (nI 1)]), ((Nat.add b (nat_lit 12)), oB 4096 [] (some (nU 0)) 5 false), ((Nat.add b (nat_lit 13)), oS 136 [(.sl (Nat.add b (nat_lit 12)) 0 4096 (some 4096)), (nI 0), (nI 0)]), ((Nat.add b (nat_lit 14)), .rope [(.row r (.lit (.ofNat 0)) (.var r)), (.fil (.bin .sub .i64 (.lit (.ofNat 4096)) (.var r)) (.lit (.ofNat 0)))] 5 false), ((Nat.add b (nat_lit 15)), oS 136 [(.sl (Nat.add b (nat_lit 14)) 0 4096 (some 4096)), (.int .i64 (.bin .rem .i64 (.var r) (.lit (.ofNat 4096)))), (nI 0)]), ((Nat.add b (nat_lit 16)), oS 149 [(nI 1460), (nI 2920), (nI 65535), (nI 0), (nW 0), nF, (.fn (.func 116) [(.ptr (Nat.add b (nat_lit 16)) 0)] [])]), ((Nat.add b (nat_lit 17)), oR 161 [(nI 0), (.ssl (Nat.add b (nat_lit 18)) (.lit (.ofNat 0)) (.lit (.ofNat 0)) (.var r) none)]), ((Nat.add b (nat_lit 18)), .rope [(.row r (.lit (.ofNat 0)) (.var r))] 5 true), ((Nat.add b (nat_lit 19)), oS 3 [(nI 6)])]
noncomputable def bId (j k : Nat) : AV := forceN (Nat.add (Nat.add (Nat.mul 24 j) (nat_lit 20)) k) fun b => .ptr b 0
noncomputable def lnI (n k : Nat) : AV := forceN (Nat.add n k) fun n => nI n
noncomputable def hubA (n : Nat) : List (Nat × AObj) := [(0, oS 28 [nI n, .map 2, .map 3, .map 4]), (2, .map (upL (fun j => [(lnI j 1, bId j 0, j)]) n 0) n), (3, .map (upL (fun j => [(.agg [nW 1, lnI 100 j, nW 2, nI 80], bId j 0, j)]) n 0) n), (4, .map [] 0), (10, oR 3 (upL (fun j => [lnI j 1]) n 0))]
/-- m wait for Accept, from number i on -/
noncomputable def hubB (n m i : Nat) : List (Nat × AObj) := [(1, oS 28 [lnI n 1, .map 5, .map 6, .map 7]), (5, .map (upL (fun j => [(lnI j 2, bId j 10, j)]) n 0) n), (6, .map (upL (fun j => [(.agg [nW 2, nI 80, nW 1, lnI 100 j], bId j 10, j)]) n 0) n), (7, .map [(nI 1, .ptr 8 0, 0)] 1), (8, oS 58 [nI 1, nI 80, nI 32, nW 0, nI m, .sl 9 0 m none]), (9, oR 67 (upL (fun j => [bId j 10]) m i ++ upL (fun _ => [nP]) i 0))]
noncomputable def hubA0 : List (Nat × AObj) := [(0, oS 28 [nI 0, .raw (.map none), .raw (.map none), .raw (.map none)])]
noncomputable def hubB0 : List (Nat × AObj) := [(1, oS 28 [nI 1, .map 5, .map 6, .map 7]), (5, .map [] 0), (6, .map [] 0), (7, .map [(nI 1, .ptr 8 0, 0)] 1), (8, oS 58 [nI 1, nI 80, nI 32, nW 0, nI 0, nS])]
noncomputable def hubs (n : Nat) : List (Nat × AObj) := Nat.rec (hubA0 ++ hubB0) (fun k _ => forceN (Nat.succ k) fun n => hubA n ++ hubB n n 0) n
noncomputable def hubsR (n i : Nat) : List (Nat × AObj) := Nat.rec hubB0 (fun k _ => forceN (Nat.succ k) fun n => forceN (Nat.sub n i) fun m => hubB n m i) n
noncomputable def ordA (n : Nat) : List Nat := Nat.rec [0] (fun _ _ => [0, 2, 3]) n
noncomputable def ordB (n : Nat) : List Nat := Nat.rec [1, 5, 6, 7, 8] (fun _ _ => [1, 5, 6, 7, 8, 9]) n
noncomputable def ordP (l : List Nat) (j : Nat) : List Nat := forceN (Nat.add (Nat.mul 24 j) (nat_lit 20)) fun b => l.map fun k => Nat.add b k
noncomputable def oA : List Nat := [0, 1, 3, 5, 6]
noncomputable def oB_ : List Nat := [10, 11, 13, 15, 16]
noncomputable def oBS : List Nat := [10, 11, 13, 15, 16, 17]
noncomputable def idsV (n : Nat) : AV := Nat.rec nS (fun k _ => forceN (Nat.succ k) fun n => .sl 10 0 n none) n
noncomputable def outV : AV := .osl 300 304 303
noncomputable def patO (n : Nat) : Pat := { nx := 900, hp := hubs n ++ upL (fun j => aO j ++ bO j) n 0, ord := ordA n ++ ordB n ++ upL (ordP (oA ++ oB_)) n 0, wit := 0, tm := [(0, outV), (3, .ptr 0 0), (4, .ptr 1 0), (5, nI 1), (7, idsV n), (8, nI n)], rg := [] }
noncomputable def numV (m : Nat) : AV := Nat.rec (nM 0) (fun k _ => nI k) m
/-- m are yet to be sent -/
noncomputable def patS (n m : Nat) : Pat := { nx := 900, hp := hubs n ++ (upL (fun j => aO j ++ bO j) m 0 ++ forceN (Nat.sub n m) fun d => upL (fun j => aS j ++ bS j) d m), ord := ordA n ++ ordB n ++ (upL (ordP (oA ++ oB_)) m 0 ++ forceN (Nat.sub n m) fun d => upL (ordP (oA ++ oBS)) d m), wit := 0, tm := [(0, outV), (3, .ptr 0 0), (4, .ptr 1 0), (5, nI 1), (7, idsV n), (12, numV m)], rg := [] }
/-- i were accepted -/
noncomputable def patR (n i : Nat) : Pat := { nx := 900, hp := hubsR n i ++ (upL bR i 0 ++ forceN (Nat.sub n i) fun d => upL bS d i), ord := ordB n ++ upL (ordP oBS) n 0, wit := 1, tm := [(0, outV), (4, .ptr 1 0), (5, nI 1), (16, nI i)], rg := [] }
noncomputable def patE (i : Nat) : Pat := { nx := 0, hp := [], ord := [], wit := 0, tm := [(0, outV), (8, nI i)], rg := [] }
noncomputable def upR (f : Nat → Int × Int) : Nat → Nat → List (Int × Int) := Nat.rec (motive := fun _ => Nat → List (Int × Int)) (fun _ => []) (fun _ ih k => f k :: ih (Nat.succ k))
noncomputable def zR : Int × Int := (.ofNat 0, .ofNat 0)
noncomputable def cR (a b : Int × Int) (c : Bool) : Int × Int := Bool.rec b a c
/-- rows 33 .. are of 1 to 1000 bytes; row 33 + i is of lo to hi bytes -/
noncomputable def rgN (n : Nat) : List (Int × Int) := upR (fun k => cR zR (cR (.ofNat 1, .ofNat 1000) zR (Nat.blt k (Nat.add 33 n))) (Nat.blt k 33)) 63 0
noncomputable def rgI (i : Nat) (lo hi : Int) : List (Int × Int) := upR (fun k => cR zR (cR (lo, hi) (.ofNat 0, .ofNat 9223372036854775807) (Nat.beq k (Nat.add 33 i))) (Nat.blt k 33)) 63 0
noncomputable def isT (v : Option AV) : Bool := match v with
  | some (.bool (.lit b)) => b
  | _ => false
noncomputable def okEnd (s : St) : R := .done (.int .i64 (.lit (.ofNat 0))) ⟨.nil, nat_lit 0, ⟨s.pc.l, [], []⟩⟩
/-- the law is done with, and true -/
noncomputable def lostR (s : St) (t : Ts) : R := Bool.rec (motive := fun _ => R) (.fail 978) (okEnd s) (isT (t.get 2) && isN (t.get 193))
def nilQ {α : Type} (t : Tr α) : Bool := match t with
  | .nil => true
  | _ => false
noncomputable def rowsI : List Nat := [32, 33, 34, 35, 36, 37, 38, 39, 40, 41, 42, 43, 44, 45, 46, 47, 48, 49, 50, 51, 52, 53, 54, 55, 56, 57, 58, 59, 60, 61, 62, 63]
noncomputable def idnR (r : Ren) : Bool := nilQ r.si && rowsI.all fun a => Nat.beq (r.row a) a
noncomputable def matE (p : Pat) (s : St) (t : Ts) : R := matchP p 193 s t (.fail 972) fun r => Bool.rec (motive := fun _ => R) (.fail 973) (okEnd s) (idnR r)
noncomputable def onN (κ : St → Ts → R) (e : Ex) (s : St) (t : Ts) : R := Ex.rec (motive := fun _ => R) (κ s t) (fun _ => .fail 974) (.fail 975) e
noncomputable def onNR (κ : St → Ts → R) (e : Ex) (s : St) (t : Ts) : R := Ex.rec (motive := fun _ => R) (κ s t) (fun _ => .fail 974) (lostR s t) e
noncomputable def onX (k : Nat) (κ : St → Ts → R) (e : Ex) (s : St) (t : Ts) : R := Ex.rec (motive := fun _ => R) (.fail 976) (fun i => Bool.rec (motive := fun _ => R) (.fail 977) (κ s t) (Nat.beq i k)) (.fail 979) e
noncomputable def begS (p : Pat) (pcs : List (SB × Bool)) (rg : List (Int × Int)) : St := ⟨p.h, p.nx, ⟨pcs, [[]], rg⟩⟩
/-- a round of a loop, from pattern to pattern -/
noncomputable def bodyR (c : Code) (p p' : Pat) (I : SI) (u : AV) (pcs : List (SB × Bool)) (rg : List (Int × Int)) : R := ihA 3 193 (headC c) (begS p pcs rg) (p.ts 193) (onN fun s t => evR I u (blkC c) s t (onNR fun s t => ihA 3 193 (nextC c) s t (onN fun s t => matE p' s t)))
noncomputable def allE (r : R) (acc : List (SB × Bool)) : Bool := Option.rec (motive := fun _ => Bool) false (fun _ => true) (endsR r acc)
noncomputable def moreF (i : Nat) (b : Bool) : List (SB × Bool) := [(.cmp .lss (.lit (.ofNat i)) (.var 304), b), (.cmp .leq (.lit (.ofNat (nat_lit 0))) (.var 304), true)]
noncomputable def lastF (n : Nat) : List (SB × Bool) := (.cmp .eql (.lit (.ofNat n)) (.var 304), true) :: moreF n false
noncomputable def m18C : Code := lftC (rgtN 8 bodyF)
noncomputable def r20C : Code := lftC (lftC (rgtN 9 bodyF))
noncomputable def r26C : Code := lftC (lftC (rgtN 10 bodyF))
/-- the number of rows less one -/
noncomputable def setM (m : Nat) (s : St) (t : Ts) (κ : Ts → R) : R := Bool.rec (motive := fun _ => R) (.fail 980) (κ (t.set 12 (numV m))) (match t.get 12 with | some (.int .i64 (.bin .add .i64 (.var 304) (.lit (.negSucc 0)))) => true | _ => false)
noncomputable def rowU (i : Nat) : AV := forceN (Nat.add 33 i) fun a => .fsl a zeroS zeroS (.var a)
noncomputable def oslU (i : Nat) : AV := forceN (Nat.add 33 i) fun a => .osl (Nat.add 500 (Nat.mul 4 a)) a (Nat.add 503 (Nat.mul 4 a))
noncomputable abbrev hpO (i : Nat) : Bool := allE (bodyR loopO (patO i) (patO (Nat.succ i)) (.lit (.ofNat i)) (rowU i) (moreF i true) (rgI i (.ofNat 1) (.ofNat 1000))) (moreF i true)
/-- a round in which all is told -/
noncomputable def onL (e : Ex) (s : St) (t : Ts) : R := Ex.rec (motive := fun _ => R) (.fail 981) (fun _ => .fail 974) (lostR s t) e
noncomputable def bodyL (c : Code) (p : Pat) (I : SI) (u : AV) (pcs : List (SB × Bool)) (rg : List (Int × Int)) : R := ihA 3 193 (headC c) (begS p pcs rg) (p.ts 193) (onN fun s t => evR I u (blkC c) s t onL)
noncomputable abbrev hpL (i : Nat) : Bool := allE (bodyL loopO (patE i) (.lit (.ofNat i)) (oslU i) (moreF i true) (rgI i (.ofNat 1001) (.ofNat 9223372036854775807))) (moreF i true)
noncomputable abbrev hpE (i : Nat) : Bool := allE (bodyL loopO (patE i) (.lit (.ofNat i)) (rowU i) (moreF i true) (rgI i (.ofNat 0) (.ofNat 0))) (moreF i true)
noncomputable abbrev hpZ (i : Nat) : Bool := allE (bodyL loopO (patE i) (.lit (.ofNat i)) (oslU i) (moreF i true) (rgI i (.ofNat 0) (.ofNat 0))) (moreF i true)
noncomputable def exO (n : Nat) : R := ihA 3 193 (headC loopO) (begS (patO n) (lastF n) (rgN n)) ((patO n).ts 193) (onX 0 fun s t => ihA 3 193 m18C s t (onN fun s t => ihA 3 193 r20C s t (onN fun s t => setM n s t fun t => matE (patS n n) s t)))
noncomputable abbrev hpX (n : Nat) : Bool := allE (exO n) (lastF n)
noncomputable abbrev hpS (n m : Nat) : Bool := allE (bodyR loopS (patS n (Nat.succ m)) (patS n m) (.lit (.ofNat m)) (rowU m) [] (rgN n)) []
noncomputable def exS (n : Nat) : R := ihA 3 193 (headC loopS) (begS (patS n 0) [] (rgN n)) ((patS n 0).ts 193) (onX 2 fun s t => ihA 3 193 r26C s t (onN fun s t => matE (patR n 0) s t))
noncomputable abbrev hpY (n : Nat) : Bool := allE (exS n) []
noncomputable abbrev hpR (n i : Nat) : Bool := allE (bodyR loopR (patR n i) (patR n (Nat.succ i)) (.lit (.ofNat i)) (rowU i) (moreF i true) (rgN n)) (moreF i true)
noncomputable def exR (n : Nat) : R := ihA 3 193 (headC loopR) (begS (patR n n) (moreF n false) (rgN n)) ((patR n n).ts 193) (onX 4 fun s t => ihA 3 193 (lftC postC) s t (onN fun s t => ihA 3 193 (lftC (rgtC postC)) s t (onN fun s t => lostR s t)))
noncomputable abbrev hpW (n : Nat) : Bool := allE (exR n) (moreF n false)
noncomputable def begP : List Code := [lftC bodyF, lftC (rgtN 1 bodyF), lftC (rgtN 2 bodyF), lftC (rgtN 3 bodyF), lftC (rgtN 4 bodyF), lftC (rgtN 5 bodyF), lftC (rgtN 6 bodyF)]
noncomputable def r9C : Code := lftC (lftC (rgtN 7 bodyF))
def thirtyF : List (SB × Bool) := [(.cmp .lss (.lit (.ofNat 30)) (.var 304), false), (.cmp .leq (.lit (.ofNat (nat_lit 0))) (.var 304), true)]
/-- the beginning -/
noncomputable def begR : R := evL ihA 3 193 begP ⟨.nil, nat_lit 0, ⟨thirtyF, [[]], []⟩⟩ (tsOf 193 [outV]) (onN fun s t => ihA 3 193 r9C s t (onN fun s t => matE (patO 0) s t))

end Go.Proofs.YtooebogidjejoaaGreat
