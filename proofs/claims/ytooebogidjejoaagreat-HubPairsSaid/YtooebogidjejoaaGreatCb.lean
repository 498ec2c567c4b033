/-
  A run reckoned ahead: numbers with letters in them, values, memory; what the reckoning does at each operation. The definitions alone.
  A run reckoned ahead: operations with an effect, code, calls. The definitions alone.
  A run reckoned ahead: the quick figures are the model's; rows by number; values and their places.
  A run reckoned ahead: what stands for what; quiet operations do what was reckoned.
-/
import Derived.Test.YtooebogidjejoaaGreatCa
import Derived.Laws.Cells
import Derived.Laws.Entries
import Derived.ChangeKeysEq
set_option linter.unusedVariables false
set_option linter.unusedSimpArgs false
namespace Go.Proofs.YtooebogidjejoaaGreat
open Go
inductive Tr (α : Type) where
 | nil | node (v : Option α) (l r : Tr α)
section
noncomputable section
inductive Pos where
 | here | left (p : Pos) | right (p : Pos)
def posF (f : Nat) : Nat → Pos := Nat.rec (motive := fun _ => Nat → Pos) (fun _ => .here) (fun _ ih k => Nat.rec (motive := fun _ => Pos) .here (fun k _ => Bool.rec (motive := fun _ => Pos) (.right (ih (Nat.div k (nat_lit 2)))) (.left (ih (Nat.div k (nat_lit 2)))) (Nat.beq (Nat.mod k (nat_lit 2)) (nat_lit 0))) k) f
def posOf (k : Nat) : Pos := posF (Nat.succ k) k
def Tr.getP {α : Type} (p : Pos) : Tr α → Option α := Pos.rec (motive := fun _ => Tr α → Option α)
 (fun t => Tr.rec (motive := fun _ => Option α) none (fun v _ _ _ _ => v) t)
 (fun _ ih t => Tr.rec (motive := fun _ => Option α) none (fun _ l _ _ _ => ih l) t)
 (fun _ ih t => Tr.rec (motive := fun _ => Option α) none (fun _ _ r _ _ => ih r) t) p
def Tr.get {α : Type} (t : Tr α) (k : Nat) : Option α := Tr.getP (posOf k) t
def Tr.setP {α : Type} (x : α) (p : Pos) : Tr α → Tr α := Pos.rec (motive := fun _ => Tr α → Tr α)
 (fun t => Tr.rec (motive := fun _ => Tr α) (.node (some x) .nil .nil) (fun _ l r _ _ => .node (some x) l r) t)
 (fun _ ih t => Tr.rec (motive := fun _ => Tr α) (.node none (ih .nil) .nil) (fun v l r _ _ => .node v (ih l) r) t)
 (fun _ ih t => Tr.rec (motive := fun _ => Tr α) (.node none .nil (ih .nil)) (fun v l r _ _ => .node v l (ih r)) t) p
def Tr.set {α : Type} (t : Tr α) (k : Nat) (x : α) : Tr α := Tr.setP x (posOf k) t
def forceN {α : Type} (n : Nat) (k : Nat → α) : α := Nat.rec (motive := fun _ => α) (k (nat_lit 0)) (fun m _ => k (Nat.succ m)) n
def forceI {α : Type} (n : Int) (k : Int → α) : α := Int.rec (motive := fun _ => α) (fun m => forceN m fun m => k (.ofNat m)) (fun m => forceN m fun m => k (.negSucc m)) n
def forceB {α : Type} (b : Bool) (k : Bool → α) : α := Bool.rec (motive := fun _ => α) (k false) (k true) b
inductive SI where
 | lit (n : Int) | var (i : Nat) | bin (op : BinOp) (k : IntKind) (a b : SI) | conv (k : IntKind) (a : SI) | fold (a : SI)
 | rs (a p : Nat) (o n : SI)
inductive SB where
 | lit (b : Bool) | cmp (op : BinOp) (a b : SI) | not (a : SB)
def binZ (op : BinOp) (k : IntKind) (x y : Int) : Int := match op with
 | .add => k.wrap (x + y)
 | .sub => k.wrap (x - y)
 | .mul => k.wrap (x * y)
 | .quo => k.wrap (x.tdiv y)
 | .rem => x.tmod y
 | .and => k.wrap ((BitVec.ofInt k.bits x &&& BitVec.ofInt k.bits y).toNat : Int)
 | .or => k.wrap ((BitVec.ofInt k.bits x ||| BitVec.ofInt k.bits y).toNat : Int)
 | .xor => k.wrap ((BitVec.ofInt k.bits x ^^^ BitVec.ofInt k.bits y).toNat : Int)
 | .andNot => k.wrap ((BitVec.ofInt k.bits x &&& ~~~ BitVec.ofInt k.bits y).toNat : Int)
 | .shl => k.wrap (x * 2 ^ (min y.toNat k.bits))
 | .shr => x.fdiv (2 ^ (min y.toNat k.bits))
 | _ => 0
def cmpZ (op : BinOp) (x y : Int) : Bool := match op with
 | .eql => x == y
 | .neq => x != y
 | .lss => decide (x < y)
 | .leq => decide (x ≤ y)
 | .gtr => decide (x > y)
 | .geq => decide (x ≥ y)
 | _ => false
def foldZ (n : Int) : Int := if 65535 < n then foldZ ((n % 65536 + n / 65536 + 9223372036854775808) % 18446744073709551616 - 9223372036854775808) else n
termination_by if n < 9223372036854775808 then n.toNat else 18446744073709551616
decreasing_by
 by_cases hn : n < 9223372036854775808
 ·have h1 : 0 ≤ n % 65536 + n / 65536 := by omega
  have h2 : n % 65536 + n / 65536 < n := by omega
  rw [Int.emod_eq_of_lt (by omega) (by omega)]
  rw [if_pos (by omega), if_pos hn]
  omega
 ·rw [if_neg hn]
  split <;> omega
def rowIx (a i : Nat) : Nat := 1000 + 64 * i + a
def rowB (ρ : Nat → Int) (a i : Nat) : Int := IntKind.u8.wrap (ρ (rowIx a i))
def rsZ (ρ : Nat → Int) (a p o : Nat) : Nat → Int
 | 0 => 0
 | n + 1 => rsZ ρ a p o n + rowB ρ a (o + n) * (if (p + n) % 2 = 0 then 256 else 1)
def SI.ev (ρ : Nat → Int) : SI → Int
 | .lit n => n
 | .var i => ρ i
 | .bin op k a b => binZ op k (a.ev ρ) (b.ev ρ)
 | .conv k a => k.wrap (a.ev ρ)
 | .fold a => foldZ (a.ev ρ)
 | .rs a p o n => rsZ ρ a p (o.ev ρ).toNat (n.ev ρ).toNat
def SB.ev (ρ : Nat → Int) : SB → Bool
 | .lit b => b
 | .cmp op a b => cmpZ op (a.ev ρ) (b.ev ρ)
 | .not a => !(a.ev ρ)
def modF (k : IntKind) : Int := match k with
 | .i8 | .u8 => .ofNat (nat_lit 256)
 | .i16 | .u16 => .ofNat (nat_lit 65536)
 | .i32 | .u32 => .ofNat (nat_lit 4294967296)
 | .i64 | .u64 => .ofNat (nat_lit 18446744073709551616)
def halfF (k : IntKind) : Int := match k with
 | .i8 => .ofNat (nat_lit 128)
 | .i16 => .ofNat (nat_lit 32768)
 | .i32 => .ofNat (nat_lit 2147483648)
 | .i64 => .ofNat (nat_lit 9223372036854775808)
 | _ => .ofNat (nat_lit 0)
def bitsF (k : IntKind) : Nat := match k with
 | .i8 | .u8 => nat_lit 8
 | .i16 | .u16 => nat_lit 16
 | .i32 | .u32 => nat_lit 32
 | .i64 | .u64 => nat_lit 64
def wrapF (k : IntKind) (n : Int) : Int := Int.sub (Int.emod (Int.add n (halfF k)) (modF k)) (halfF k)
def lowF (k : IntKind) (n : Int) : Nat := Int.toNat (Int.emod n (modF k))
def bltF (a b : Int) : Bool := Int.rec (motive := fun _ => Int → Bool) (fun x b => Int.rec (motive := fun _ => Bool) (fun y => Nat.blt x y) (fun _ => false) b) (fun x b => Int.rec (motive := fun _ => Bool) (fun _ => true) (fun y => Nat.blt y x) b) a b
def beqF (a b : Int) : Bool := Int.rec (motive := fun _ => Int → Bool) (fun x b => Int.rec (motive := fun _ => Bool) (fun y => Nat.beq x y) (fun _ => false) b) (fun x b => Int.rec (motive := fun _ => Bool) (fun _ => false) (fun y => Nat.beq x y) b) a b
def minF (a b : Nat) : Nat := Bool.rec (motive := fun _ => Nat) b a (Nat.ble a b)
def notF (b : Bool) : Bool := Bool.rec (motive := fun _ => Bool) true false b
def topF (k : IntKind) : Nat := IntKind.rec (motive := fun _ => Nat) (nat_lit 128) (nat_lit 32768) (nat_lit 2147483648) (nat_lit 9223372036854775808) (nat_lit 256) (nat_lit 65536) (nat_lit 4294967296) (nat_lit 18446744073709551616) k
def modN (k : IntKind) : Nat := IntKind.rec (motive := fun _ => Nat) (nat_lit 256) (nat_lit 65536) (nat_lit 4294967296) (nat_lit 18446744073709551616) (nat_lit 256) (nat_lit 65536) (nat_lit 4294967296) (nat_lit 18446744073709551616) k
def finF (k : IntKind) (n : Nat) : Int := Bool.rec (motive := fun _ => Int) (wrapF k (.ofNat n)) (.ofNat n) (Nat.blt n (topF k))
def convF (k : IntKind) (x : Int) : Int := Int.rec (motive := fun _ => Int) (fun n => finF k n) (fun n => wrapF k (.negSucc n)) x
def addF (k : IntKind) (x y : Int) : Int := Int.rec (motive := fun _ => Int) (fun a => Int.rec (motive := fun _ => Int) (fun b => finF k (Nat.add a b)) (fun b => wrapF k (Int.add (.ofNat a) (.negSucc b))) y) (fun a => wrapF k (Int.add (.negSucc a) y)) x
def subF (k : IntKind) (x y : Int) : Int := Int.rec (motive := fun _ => Int) (fun a => Int.rec (motive := fun _ => Int) (fun b => Bool.rec (motive := fun _ => Int) (wrapF k (Int.sub (.ofNat a) (.ofNat b))) (finF k (Nat.sub a b)) (Nat.ble b a)) (fun b => wrapF k (Int.sub (.ofNat a) (.negSucc b))) y) (fun a => wrapF k (Int.sub (.negSucc a) y)) x
def mulF (k : IntKind) (x y : Int) : Int := Int.rec (motive := fun _ => Int) (fun a => Int.rec (motive := fun _ => Int) (fun b => finF k (Nat.mul a b)) (fun b => wrapF k (Int.mul (.ofNat a) (.negSucc b))) y) (fun a => wrapF k (Int.mul (.negSucc a) y)) x
def lowQ (k : IntKind) (x : Int) : Nat := Int.rec (motive := fun _ => Nat) (fun a => Nat.mod a (modN k)) (fun a => lowF k (.negSucc a)) x
def shrF (x : Int) (n : Nat) : Int := Int.rec (motive := fun _ => Int) (fun a => .ofNat (Nat.div a (Nat.pow (nat_lit 2) n))) (fun a => Int.fdiv (.negSucc a) (.ofNat (Nat.pow (nat_lit 2) n))) x
def binF (op : BinOp) (k : IntKind) (x y : Int) : Int := BinOp.rec (motive := fun _ => IntKind → Int → Int → Int) (fun k x y => addF k x y) (fun k x y => subF k x y) (fun k x y => mulF k x y) (fun k x y => convF k (Int.tdiv x y)) (fun k x y => Int.tmod x y) (fun k x y => finF k (Nat.land (lowQ k x) (lowQ k y))) (fun k x y => finF k (Nat.lor (lowQ k x) (lowQ k y))) (fun k x y => finF k (Nat.xor (lowQ k x) (lowQ k y))) (fun k x y => mulF k x (.ofNat (Nat.pow (nat_lit 2) (minF (Int.toNat y) (bitsF k))))) (fun k x y => shrF x (minF (Int.toNat y) (bitsF k))) (fun k x y => finF k (Nat.land (lowQ k x) (Nat.sub (Nat.sub (modN k) (nat_lit 1)) (lowQ k y)))) (fun _ _ _ => .ofNat (nat_lit 0)) (fun _ _ _ => .ofNat (nat_lit 0)) (fun _ _ _ => .ofNat (nat_lit 0)) (fun _ _ _ => .ofNat (nat_lit 0)) (fun _ _ _ => .ofNat (nat_lit 0)) (fun _ _ _ => .ofNat (nat_lit 0)) op k x y
def cmpF (op : BinOp) (x y : Int) : Bool := BinOp.rec (motive := fun _ => Int → Int → Bool) (fun _ _ => false) (fun _ _ => false) (fun _ _ => false) (fun _ _ => false) (fun _ _ => false) (fun _ _ => false) (fun _ _ => false) (fun _ _ => false) (fun _ _ => false) (fun _ _ => false) (fun _ _ => false) (fun x y => beqF x y) (fun x y => notF (beqF x y)) (fun x y => bltF x y) (fun x y => notF (bltF y x)) (fun x y => bltF y x) (fun x y => notF (bltF x y)) op x y
def kindN (k : IntKind) : Nat := IntKind.rec (motive := fun _ => Nat) (nat_lit 0) (nat_lit 1) (nat_lit 2) (nat_lit 3) (nat_lit 4) (nat_lit 5) (nat_lit 6) (nat_lit 7) k
def kindEq (a b : IntKind) : Bool := Nat.beq (kindN a) (kindN b)
def SI.beq : SI → SI → Bool
 | .lit a, .lit b => beqF a b
 | .var a, .var b => Nat.beq a b
 | .bin o k a b, .bin o' k' a' b' => decide (o = o') && (kindEq k k' && (SI.beq a a' && SI.beq b b'))
 | .conv k a, .conv k' a' => kindEq k k' && SI.beq a a'
 | .fold a, .fold b => SI.beq a b
 | .rs a p o n, .rs a' p' o' n' => Nat.beq a a' && (Nat.beq p p' && (SI.beq o o' && SI.beq n n'))
 | _, _ => false
def SB.beq : SB → SB → Bool
 | .lit a, .lit b => a == b
 | .cmp o a b, .cmp o' a' b' => decide (o = o') && (SI.beq a a' && SI.beq b b')
 | .not a, .not b => SB.beq a b
 | _, _ => false
def linX (k : IntKind) (a : SI) : SI := match a with
 | .bin .add k' x (.lit c) => Bool.rec (motive := fun _ => SI) (.bin .add k' x (.lit c)) x (Nat.ble (bitsF k) (bitsF k'))
 | a => a
def linC (k : IntKind) (a : SI) : Int := match a with
 | .bin .add k' _ (.lit c) => Bool.rec (motive := fun _ => Int) (.ofNat (nat_lit 0)) c (Nat.ble (bitsF k) (bitsF k'))
 | _ => .ofNat (nat_lit 0)
def addC {α : Type} (k : IntKind) (a : SI) (c : Int) (κ : SI → α) : α := forceI (wrapF k (Int.add (linC k a) c)) fun n => κ (.bin .add k (linX k a) (.lit n))
def subT {α : Type} (k : IntKind) (a b : SI) (κ : SI → α) : α := match b with
 | .bin .add k' p q => Bool.rec (motive := fun _ => α) (κ (.bin .sub k a (.bin .add k' p q))) (forceI (wrapF k (Int.sub (linC k a) (linC k p))) fun n => κ (.bin .sub k (.lit n) q)) (kindEq k k' && SI.beq (linX k a) (linX k p))
 | b => κ (.bin .sub k a b)
def subS {α : Type} (k : IntKind) (a b : SI) (κ : SI → α) : α := Bool.rec (motive := fun _ => α) (subT k a b κ) (forceI (wrapF k (Int.sub (linC k a) (linC k b))) fun n => κ (.lit n)) (SI.beq (linX k a) (linX k b))
def minK (k : IntKind) : Int := IntKind.rec (motive := fun _ => Int) (.negSucc (nat_lit 127)) (.negSucc (nat_lit 32767)) (.negSucc (nat_lit 2147483647)) (.negSucc (nat_lit 9223372036854775807)) (.ofNat (nat_lit 0)) (.ofNat (nat_lit 0)) (.ofNat (nat_lit 0)) (.ofNat (nat_lit 0)) k
def maxK (k : IntKind) : Int := IntKind.rec (motive := fun _ => Int) (.ofNat (nat_lit 127)) (.ofNat (nat_lit 32767)) (.ofNat (nat_lit 2147483647)) (.ofNat (nat_lit 9223372036854775807)) (.ofNat (nat_lit 255)) (.ofNat (nat_lit 65535)) (.ofNat (nat_lit 4294967295)) (.ofNat (nat_lit 18446744073709551615)) k
def leF (a b : Int) : Bool := notF (bltF b a)
def subKd (a b : IntKind) : Bool := leF (minK b) (minK a) && leF (maxK a) (maxK b)
def ringB (op : BinOp) : Bool := match op with
 | .add | .sub | .mul => true
 | _ => false
def convC {α : Type} (k : IntKind) (a : SI) (κ : SI → α) : α := match a with
 | .conv k' y => Bool.rec (motive := fun _ => α) (Bool.rec (motive := fun _ => α) (κ (.conv k (.conv k' y))) (κ (.conv k y)) (Nat.ble (bitsF k) (bitsF k'))) (κ (.conv k' y)) (subKd k' k)
 | .bin op k' x y => Bool.rec (motive := fun _ => α) (κ (.conv k (.bin op k' x y))) (κ (.bin op k' x y)) (kindEq k k' && ringB op)
 | a => κ (.conv k a)
def isUns (k : IntKind) : Bool := IntKind.rec (motive := fun _ => Bool) false false false false true true true true k
def bitsG {α : Type} (f : Nat) : SI → Nat → Nat → (SI → Nat → Nat → α) → α := Nat.rec (motive := fun _ => SI → Nat → Nat → (SI → Nat → Nat → α) → α) (fun x lo n κ => κ x lo n) (fun _ ih x lo n κ => match x with
 | .conv k z => Bool.rec (motive := fun _ => α) (κ (.conv k z) lo n) (ih z lo n κ) (Nat.ble (Nat.add lo n) (bitsF k))
 | .bin .shr k z (.lit (.ofNat s)) => Bool.rec (motive := fun _ => α) (κ (.bin .shr k z (.lit (.ofNat s))) lo n) (forceN (Nat.add lo s) fun m => ih z m n κ) (Nat.blt s (bitsF k))
 | x => κ x lo n) f
def bitsB {α : Type} (x : SI) (lo n : Nat) (κ : SI → Nat → Nat → α) : α := bitsG (nat_lit 4) x lo n κ
def bits1 {α : Type} (k : IntKind) (y : SI) (no : α) (κ : SI → Nat → Nat → α) : α := Bool.rec (motive := fun _ => α) no (match y with
 | .bin .shr k2 x (.lit (.ofNat s)) => Bool.rec (motive := fun _ => α) (bitsB y (nat_lit 0) (bitsF k) κ) (bitsB x s (bitsF k) κ) (Nat.blt s (bitsF k2))
 | y => bitsB y (nat_lit 0) (bitsF k) κ) (isUns k)
def bits2 {α : Type} (x y : SI) (lo n lo' n' s : Nat) (no : α) (κ : SI → Nat → Nat → α) : α := Bool.rec (motive := fun _ => α) no (forceN (Nat.add n n') fun m => κ y lo' m) (SI.beq x y && (Nat.beq lo (Nat.add lo' n') && (Nat.beq s n' && Nat.ble (Nat.add n n') (nat_lit 32))))
def wide32 (k : IntKind) : Bool := IntKind.rec (motive := fun _ => Bool) false false false true false false true true k
def shlOf (a : SI) : Option (IntKind × SI × Nat) := match a with
 | .bin .shl k x (.lit (.ofNat s)) => some (k, x, s)
 | _ => none
def bitsOf {α : Type} : Nat → SI → α → (SI → Nat → Nat → α) → α := fun f => Nat.rec (motive := fun _ => SI → α → (SI → Nat → Nat → α) → α) (fun _ no _ => no) (fun _ ih e no κ => match e with
 | .conv k y => bits1 k y no κ
 | .bin .or k a b => match shlOf a with
  | some p => Bool.rec (motive := fun _ => α) no (ih p.2.1 no fun x lo n => ih b no fun y lo' n' => bits2 x y lo n lo' n' p.2.2 no κ) (wide32 k && kindEq k p.1)
  | none => no
 | _ => no) f
def canon {α : Type} (k : IntKind) (x : SI) (lo : Nat) (κ : SI → α) : α := Bool.rec (motive := fun _ => α) (Bool.rec (motive := fun _ => α) (κ (.conv k (.bin .shr .i64 x (.lit (.ofNat lo))))) (κ (.conv k (.bin .shr .u32 x (.lit (.ofNat lo))))) (Nat.blt lo (nat_lit 32))) (convC k x κ) (Nat.beq lo (nat_lit 0))
def orW {α : Type} (e : SI) (κ : SI → α) (x : SI) (lo n : Nat) : α := Bool.rec (motive := fun _ => α) (Bool.rec (motive := fun _ => α) (κ e) (canon .u32 x lo κ) (Nat.beq n (nat_lit 32) && Nat.blt lo (nat_lit 64))) (canon .u16 x lo κ) (Nat.beq n (nat_lit 16) && Nat.blt lo (nat_lit 64))
def orS {α : Type} (k : IntKind) (a b : SI) (κ : SI → α) : α := match a with
 | .lit (.ofNat 0) => convC k b κ
 | a => match b with
  | .lit (.ofNat 0) => convC k a κ
  | b => bitsOf (nat_lit 6) (.bin .or k a b) (κ (.bin .or k a b)) (orW (.bin .or k a b) κ)
def binS {α : Type} (op : BinOp) (k : IntKind) (a b : SI) (κ : SI → α) : α := match op with
 | .or => orS k a b κ
 | .shr => match b with
  | .lit (.ofNat 0) => κ a
  | b => κ (.bin .shr k a b)
 | .add => match b with
  | .lit y => addC k a y κ
  | b => match a with
   | .lit x => addC k b x κ
   | a => κ (.bin .add k a b)
 | .sub => match b with
  | .lit y => addC k a (Int.neg y) κ
  | b => subS k a b κ
 | op => κ (.bin op k a b)
def binL {α : Type} (b : SI) : BinOp → IntKind → Int → (SI → α) → α := SI.rec (motive := fun _ => BinOp → IntKind → Int → (SI → α) → α) (fun y op k x κ => forceI (binF op k x y) fun n => κ (.lit n)) (fun i op k x κ => binS op k (.lit x) (.var i) κ) (fun o k' a b _ _ op k x κ => binS op k (.lit x) (.bin o k' a b) κ) (fun k' a _ op k x κ => binS op k (.lit x) (.conv k' a) κ) (fun a _ op k x κ => binS op k (.lit x) (.fold a) κ) (fun a p o n _ _ op k x κ => binS op k (.lit x) (.rs a p o n) κ) b
def binK {α : Type} (op : BinOp) (k : IntKind) (a b : SI) (κ : SI → α) : α := SI.rec (motive := fun _ => BinOp → IntKind → SI → (SI → α) → α) (fun x op k b κ => binL b op k x κ) (fun i op k b2 κ => binS op k (.var i) b2 κ) (fun o k' a b _ _ op k b2 κ => binS op k (.bin o k' a b) b2 κ) (fun k' a _ op k b2 κ => binS op k (.conv k' a) b2 κ) (fun a _ op k b2 κ => binS op k (.fold a) b2 κ) (fun a p o n _ _ op k b2 κ => binS op k (.rs a p o n) b2 κ) a op k b κ
def convK {α : Type} (k : IntKind) (a : SI) (κ : SI → α) : α := SI.rec (motive := fun _ => IntKind → (SI → α) → α) (fun x k κ => forceI (convF k x) fun n => κ (.lit n)) (fun i k κ => κ (.conv k (.var i))) (fun o k' a b _ _ k κ => κ (.conv k (.bin o k' a b))) (fun k' a _ k κ => convC k (.conv k' a) κ) (fun a _ k κ => κ (.conv k (.fold a))) (fun a p o n _ _ k κ => κ (.conv k (.rs a p o n))) a k κ
def cmpG {α : Type} (op : BinOp) (a b : SI) (κ : SB → α) : α := Bool.rec (motive := fun _ => α) (κ (.cmp op a b)) (forceB (cmpF op (.ofNat (nat_lit 0)) (.ofNat (nat_lit 0))) fun c => κ (.lit c)) (SI.beq a b)
def cmpL {α : Type} (b : SI) : BinOp → Int → (SB → α) → α := SI.rec (motive := fun _ => BinOp → Int → (SB → α) → α) (fun y op x κ => forceB (cmpF op x y) fun c => κ (.lit c)) (fun i op x κ => κ (.cmp op (.lit x) (.var i))) (fun o k' a b _ _ op x κ => κ (.cmp op (.lit x) (.bin o k' a b))) (fun k' a _ op x κ => κ (.cmp op (.lit x) (.conv k' a))) (fun a _ op x κ => κ (.cmp op (.lit x) (.fold a))) (fun a p o n _ _ op x κ => κ (.cmp op (.lit x) (.rs a p o n))) b
def cmpK {α : Type} (op : BinOp) (a b : SI) (κ : SB → α) : α := SI.rec (motive := fun _ => BinOp → SI → (SB → α) → α) (fun x op b κ => cmpL b op x κ) (fun i op b2 κ => cmpG op (.var i) b2 κ) (fun o k' a b _ _ op b2 κ => cmpG op (.bin o k' a b) b2 κ) (fun k' a _ op b2 κ => cmpG op (.conv k' a) b2 κ) (fun a _ op b2 κ => cmpG op (.fold a) b2 κ) (fun a p o n _ _ op b2 κ => cmpG op (.rs a p o n) b2 κ) a op b κ
def notK {α : Type} (a : SB) (κ : SB → α) : α := SB.rec (motive := fun _ => (SB → α) → α) (fun b κ => κ (.lit (notF b))) (fun op a b κ => κ (.not (.cmp op a b))) (fun a _ κ => κ (.not (.not a))) a κ
def foldF (k : Nat) (n : Int) : Int := Nat.rec (motive := fun _ => Int → Int) (fun n => n) (fun _ ih n => Bool.rec (motive := fun _ => Int) n (ih (Int.add (Int.emod n (.ofNat (nat_lit 65536))) (Int.ediv n (.ofNat (nat_lit 65536))))) (bltF (.ofNat (nat_lit 65535)) n)) k n
def nthI (l : List Int) (i : Nat) : Int := match l, i with
 | [], _ => .ofNat (nat_lit 0)
 | x :: _, 0 => x
 | _ :: l, i + 1 => nthI l i
def SI.evF (smp : List Int) : SI → Int
 | .lit n => n
 | .var i => nthI smp i
 | .bin op k a b => forceI (binF op k (a.evF smp) (b.evF smp)) fun n => n
 | .conv k a => forceI (wrapF k (a.evF smp)) fun n => n
 | .fold a => forceI (foldF (nat_lit 8) (a.evF smp)) fun n => n
 | .rs _ _ _ _ => .ofNat (nat_lit 0)
def SB.evF (smp : List Int) : SB → Bool
 | .lit b => b
 | .cmp op a b => cmpF op (a.evF smp) (b.evF smp)
 | .not a => notF (a.evF smp)
inductive AV where
 | int (k : IntKind) (e : SI)
 | bool (b : SB)
 | ptr (id off : Nat)
 | sl (id off len : Nat) (cap : Option Nat)
 | emp (id off0 off : Nat)
 | map (id : Nat)
 | fn (f : Fn) (first captured : List AV)
 | iface (t : TypeId) (v : AV)
 | agg (l : List AV)
 | tup (l : List AV)
 | raw (v : Value)
 | opq (v : Value)
 | osl (p k c : Nat)
 | dfr (f : AV) (args : List AV) (rest : AV)
 | em0 (id off0 off : Nat)
 | ssl (id : Nat) (o0 off len : SI) (cap : Option SI)
 | fsl (a : Nat) (o0 off len : SI)
def undefA : AV := .tup []
def ofCell (v : Value) : AV := match v with
 | .int k n => .int k (.lit n)
 | .bool b => .bool (.lit b)
 | v => .raw v
def ofValue (v : Value) : AV := match v with
 | .agg cs => .agg (cs.toList.map ofCell)
 | .tuple cs => .tup (cs.toList.map ofCell)
 | v => ofCell v
structure Pl where
 blk : Nat
 sh : Nat
 sz : Nat
 es : Nat
def Pl.room (p : Pl) (off : Nat) : Nat := (p.sz - (p.sh + off)) / p.es
def fBlk (a : Nat) : Nat := 500 + 4 * a
def fOff (a : Nat) : Nat := 501 + 4 * a
def fCap (a : Nat) : Nat := 502 + 4 * a
def fMark (a : Nat) : Nat := 503 + 4 * a
def adrL (ρ : Nat → Int) (p : Nat) : Option Addr := if ρ (p + 2) = 0 then none else some ⟨(ρ p).toNat, (ρ (p + 1)).toNat, if ρ (p + 2) = 1 then none else some (ρ (p + 2) - 2).toNat⟩
mutual
def conc (φ : List Pl) (ρ : Nat → Int) : AV → Option Value
 | .int k e => some (.int k (e.ev ρ))
 | .bool b => some (.bool (b.ev ρ))
 | .ptr id off => (φ[id]?).map fun p => .pointer (some ⟨p.blk, p.sh + off, none⟩)
 | .sl id off len cap => (φ[id]?).map fun p => .slice (some ⟨p.blk, p.sh + off, none⟩) len (cap.getD (p.room off))
 | .emp id off0 off => (φ[id]?).map fun p => if p.room off = 0 then .slice (some ⟨p.blk, p.sh + off0, none⟩) 0 0 else .slice (some ⟨p.blk, p.sh + off, none⟩) 0 (p.room off)
 | .map id => (φ[id]?).map fun p => .map (some p.blk)
 | .fn f a b => (concL φ ρ a).bind fun a => (concL φ ρ b).map fun b => .func f a.toArray b.toArray
 | .iface t v => (conc φ ρ v).map (.iface t)
 | .agg l => (concL φ ρ l).map fun l => .agg l.toArray
 | .tup l => (concL φ ρ l).map fun l => .tuple l.toArray
 | .raw v => some v
 | .opq v => some v
 | .osl p k c => some (.slice (adrL ρ p) (ρ k).toNat (ρ c).toNat)
 | .dfr _ _ _ => some undef
 | .em0 id off0 off => (φ[id]?).map fun p => .slice (some ⟨p.blk, p.sh + (if p.room off = 0 then off0 else off), none⟩) 0 0
 | .ssl id o0 off len cap => (φ[id]?).map fun p => match cap with
  | some c => .slice (some ⟨p.blk, p.sh + (off.ev ρ).toNat, none⟩) (len.ev ρ).toNat (c.ev ρ).toNat
  | none => if (len.ev ρ).toNat = 0 ∧ p.room (off.ev ρ).toNat = 0 then .slice (some ⟨p.blk, p.sh + (o0.ev ρ).toNat, none⟩) 0 0 else .slice (some ⟨p.blk, p.sh + (off.ev ρ).toNat, none⟩) (len.ev ρ).toNat (p.room (off.ev ρ).toNat)
 | .fsl a o0 off len => if ρ (fMark a) = 1 ∧ 0 ≤ ρ a ∧ (ρ a).toNat ≤ (ρ (fCap a)).toNat then some (.slice (some ⟨(ρ (fBlk a)).toNat, (ρ (fOff a)).toNat + (if (ρ (fCap a)).toNat ≤ (off.ev ρ).toNat then (o0.ev ρ).toNat else (off.ev ρ).toNat), none⟩) (len.ev ρ).toNat ((ρ (fCap a)).toNat - (off.ev ρ).toNat)) else none
def concL (φ : List Pl) (ρ : Nat → Int) : List AV → Option (List Value)
 | [] => some []
 | v :: l => (conc φ ρ v).bind fun x => (concL φ ρ l).map fun y => x :: y
end
def rawOk (v : Value) : Bool := match v with
 | .agg _ | .tuple _ => false
 | _ => true
def cellsK {α : Type} (no : α) (v : AV) (κ : List AV → α) : α := AV.rec (motive_1 := fun _ => α → (List AV → α) → α) (motive_2 := fun _ => Unit) (fun k e _ κ => κ [.int k e]) (fun b _ κ => κ [.bool b]) (fun i o _ κ => κ [.ptr i o]) (fun a b c d _ κ => κ [.sl a b c d]) (fun a b c _ κ => κ [.emp a b c]) (fun i _ κ => κ [.map i]) (fun f a b _ _ _ κ => κ [.fn f a b]) (fun t v _ _ κ => κ [.iface t v]) (fun l _ _ κ => κ l) (fun _ _ no _ => no) (fun v no κ => Bool.rec (motive := fun _ => α) no (κ [.raw v]) (rawOk v)) (fun _ no _ => no) (fun p k c _ κ => κ [.osl p k c]) (fun _ _ _ _ _ _ no _ => no) (fun a b c _ κ => κ [.em0 a b c]) (fun i a b c d _ κ => κ [.ssl i a b c d]) (fun a b c d _ κ => κ [.fsl a b c d]) () (fun _ _ _ _ => ()) v no κ
def oneB (v : AV) : Bool := AV.rec (motive_1 := fun _ => Bool) (motive_2 := fun _ => Unit) (fun _ _ => true) (fun _ => true) (fun _ _ => true) (fun _ _ _ _ => true) (fun _ _ _ => true) (fun _ => true) (fun _ _ _ _ _ => true) (fun _ _ _ => true) (fun _ _ => false) (fun _ _ => false) (fun v => rawOk v) (fun _ => false) (fun _ _ _ => true) (fun _ _ _ _ _ _ => false) (fun _ _ _ => true) (fun _ _ _ _ _ => true) (fun _ _ _ _ => true) () (fun _ _ _ _ => ()) v
inductive Ch where
 | bs (l : List SI)
 | fil (n v : SI)
 | row (a : Nat) (o n : SI)
inductive AObj where
 | cells (n : Nat) (c : Tr AV) (d : Option AV) (elem : TypeId) (row : Bool)
 | map (es : List (AV × AV × Nat)) (clk : Nat)
 | iter (m : Option Nat) (since : Nat) (seen : List Nat) (last : Nat)
 | rope (cs : List Ch) (elem : TypeId) (row : Bool)
 | dead
structure PC where
 l : List (SB × Bool)
 smp : List (List Int)
 rg : List (Int × Int)
structure St where
 hp : Tr AObj
 nx : Nat
 pc : PC
inductive R where
 | done (v : AV) (s : St)
 | fail (why : Nat)
 | dead
 | fork (c : SB) (a b : R)
structure Dn where
 ρ : Nat → Int
 V : AV
 S : St
def R.ends (D : Dn) (r : R) : Prop := R.rec (motive := fun _ => Prop) (fun v s => v = D.V ∧ s = D.S) (fun _ => False) False (fun c _ _ a b => (c.ev D.ρ = true ∧ a) ∨ (c.ev D.ρ = false ∧ b)) r
instance : Membership R Dn := ⟨fun D r => r.ends D⟩
def lookB (l : List (SB × Bool)) (c : SB) : Option Bool := match l with
 | [] => none
 | x :: l => Bool.rec (motive := fun _ => Option Bool) (lookB l c) (some x.2) (SB.beq x.1 c)
def partS (c : SB) (l : List (List Int)) : (List (List Int) → List (List Int) → R) → R :=
 List.rec (motive := fun _ => (List (List Int) → List (List Int) → R) → R) (fun κ => κ [] []) (fun x _ ih κ => ih fun a b => List.rec (motive := fun _ => R) (κ (x :: a) (x :: b)) (fun _ _ _ => Bool.rec (motive := fun _ => R) (κ a (x :: b)) (κ (x :: a) b) (SB.evF x c)) x) l
def brS (κ : Bool → PC → R) (b : Bool) (c : SB) (l : List (SB × Bool)) (rg : List (Int × Int)) (smp : List (List Int)) : R := match smp with
 | [] => .dead
 | x :: smp => κ b ⟨(c, b) :: l, x :: smp, rg⟩
def frkS (κ : Bool → PC → R) (c : SB) (l : List (SB × Bool)) (rg : List (Int × Int)) (a b : List (List Int)) : R := .fork c (brS κ true c l rg a) (brS κ false c l rg b)
def nthR (l : List (Int × Int)) (i : Nat) : Option (Int × Int) := List.rec (motive := fun _ => Nat → Option (Int × Int)) (fun _ => none) (fun x _ ih i => Nat.rec (motive := fun _ => Option (Int × Int)) (some x) (fun i _ => ih i) i) l i
def anyR (k : IntKind) : Option (Int × Int) := some (minK k, maxK k)
def fitR (k : IntKind) (l h : Int) : Option (Int × Int) := forceI l fun l => forceI h fun h => Bool.rec (motive := fun _ => Option (Int × Int)) (anyR k) (some (l, h)) (leF (minK k) l && leF h (maxK k))
def opt1 {α : Type} (a : Option (Int × Int)) (no : Option α) (κ : Int → Int → Option α) : Option α := Option.rec (motive := fun _ => Option α) no (fun x => κ x.1 x.2) a
def opt1' {α : Type} (a : Option (Int × Int)) (no : α) (κ : Int → Int → α) : α := Option.rec (motive := fun _ => α) no (fun x => κ x.1 x.2) a
def pos0 (a : Int) : Bool := notF (bltF a (.ofNat (nat_lit 0)))
def binR0 (op : BinOp) (k : IntKind) (la ha lb hb : Int) : Option (Int × Int) := match op with
 | .add => fitR k (Int.add la lb) (Int.add ha hb)
 | .sub => fitR k (Int.sub la hb) (Int.sub ha lb)
 | .mul => Bool.rec (motive := fun _ => Option (Int × Int)) (anyR k) (fitR k (Int.mul la lb) (Int.mul ha hb)) (pos0 la && pos0 lb)
 | .and => Bool.rec (motive := fun _ => Option (Int × Int)) (anyR k) (some (.ofNat (nat_lit 0), hb)) (pos0 lb && leF hb (maxK k))
 | .shr => Bool.rec (motive := fun _ => Option (Int × Int)) none (forceI (shrF la (minF (Int.toNat lb) (bitsF k))) fun l => forceI (shrF ha (minF (Int.toNat lb) (bitsF k))) fun h => some (l, h)) (pos0 la && (beqF lb hb && leF la ha))
 | .or | .xor | .andNot => anyR k
 | .shl => Bool.rec (motive := fun _ => Option (Int × Int)) (anyR k) (fitR k (Int.mul la (.ofNat (Nat.pow (nat_lit 2) (minF (Int.toNat lb) (bitsF k))))) (Int.mul ha (.ofNat (Nat.pow (nat_lit 2) (minF (Int.toNat lb) (bitsF k)))))) (pos0 la && (pos0 lb && (beqF lb hb && leF hb (.ofNat (nat_lit 62)))))
 | .quo => Bool.rec (motive := fun _ => Option (Int × Int)) none (fitR k (Int.tdiv la lb) (Int.tdiv ha lb)) (pos0 la && (beqF lb hb && bltF (.ofNat (nat_lit 0)) lb))
 | .rem => Bool.rec (motive := fun _ => Option (Int × Int)) none (forceI (Int.sub lb (.ofNat (nat_lit 1))) fun h => some (.ofNat (nat_lit 0), h)) (pos0 la && (beqF lb hb && bltF (.ofNat (nat_lit 0)) lb))
 | _ => none
def isAN (op : BinOp) : Bool := match op with
 | .andNot => true
 | _ => false
def floorP (a : Int) (j : Nat) : Int := Int.sub a (Int.emod a (.ofNat (Nat.pow (nat_lit 2) j)))
def binR2 (op : BinOp) (k : IntKind) (la ha lb hb : Int) (j : Nat) : Option (Int × Int) := Bool.rec (motive := fun _ => Option (Int × Int)) (binR0 op k la ha lb hb) (forceI (floorP la j) fun l => forceI (floorP ha j) fun h => some (l, h)) (isAN op && (pos0 la && (leF ha (maxK k) && (beqF lb hb && (beqF (Int.add lb (.ofNat (nat_lit 1))) (.ofNat (Nat.pow (nat_lit 2) j)) && Nat.blt j (nat_lit 63))))))
def binR1 (op : BinOp) (k : IntKind) (la ha lb hb : Int) : Option (Int × Int) := Bool.rec (motive := fun _ => Option (Int × Int)) (binR2 op k la ha lb hb (Nat.log2 (Int.toNat (Int.add lb (.ofNat (nat_lit 1)))))) (forceI (binF op k la lb) fun n => some (n, n)) (beqF la ha && beqF lb hb)
def isAN0 (op : BinOp) : Bool := match op with
 | .and => true
 | _ => false
def cplF (k : IntKind) (m : Int) : Int := Int.sub (maxK k) m
def hiB (op : BinOp) (k : IntKind) (lb hb n : Int) : Bool := isAN0 op && (isUns k && (beqF lb hb && (pos0 lb && (pos0 n && beqF (Int.add n (.ofNat (nat_lit 1))) (.ofNat (Nat.pow (nat_lit 2) (Nat.log2 (Int.toNat (Int.add n (.ofNat (nat_lit 1)))))))))))
def binR (op : BinOp) (k : IntKind) (la ha lb hb : Int) : Option (Int × Int) := Bool.rec (motive := fun _ => Option (Int × Int)) (binR1 op k la ha lb hb) (forceI (cplF k lb) fun n => binR1 .andNot k la ha n n) (hiB op k lb hb (cplF k lb))
def rngS (rg : List (Int × Int)) (e : SI) : Option (Int × Int) := SI.rec (motive := fun _ => Option (Int × Int))
 (fun n => some (n, n)) (fun i => nthR rg i)
 (fun op k _ _ a b => opt1 a none fun la ha => opt1 b none fun lb hb => binR op k la ha lb hb)
 (fun k _ a => opt1 a (anyR k) fun l h => fitR k l h)
 (fun _ a => opt1 a none fun l h => Bool.rec (motive := fun _ => Option (Int × Int)) none (Bool.rec (motive := fun _ => Option (Int × Int)) (some (Bool.rec (motive := fun _ => Int) (.ofNat (nat_lit 0)) (.ofNat (nat_lit 1)) (leF (.ofNat (nat_lit 1)) l), .ofNat (nat_lit 65535))) (some (l, h)) (leF h (.ofNat (nat_lit 65535)))) (pos0 l && leF h (maxK .i64)))
 (fun _ _ _ _ _ b => opt1 b none fun lb hb => Bool.rec (motive := fun _ => Option (Int × Int)) none (forceI (Int.mul hb (.ofNat (nat_lit 65280))) fun h => some (.ofNat (nat_lit 0), h)) (pos0 hb)) e
def strip (rg : List (Int × Int)) (a : SI) : SI := SI.rec (motive := fun _ => SI) (fun n => .lit n) (fun i => .var i) (fun op k a b _ _ => .bin op k a b) (fun k a ih => opt1' (rngS rg a) (.conv k a) fun l h => Bool.rec (motive := fun _ => SI) (.conv k a) ih (leF (minK k) l && leF h (maxK k))) (fun a _ => .fold a) (fun a p o n _ _ => .rs a p o n) a
def linR {α : Type} (rg : List (Int × Int)) (a : SI) (κ : SI → Int → α) : α := match a with
 | .bin .add k x (.lit c) => match rngS rg x with
  | some r => forceI (Int.add r.1 c) fun l => forceI (Int.add r.2 c) fun h => Bool.rec (motive := fun _ => α) (κ a (.ofNat (nat_lit 0))) (κ x c) (leF (minK k) l && leF h (maxK k))
  | none => κ a (.ofNat (nat_lit 0))
 | a => κ a (.ofNat (nat_lit 0))
def cmpR (op : BinOp) (la ha lb hb : Int) : Option Bool := match op with
 | .lss => Bool.rec (motive := fun _ => Option Bool) (Bool.rec (motive := fun _ => Option Bool) none (some false) (leF hb la)) (some true) (bltF ha lb)
 | .leq => Bool.rec (motive := fun _ => Option Bool) (Bool.rec (motive := fun _ => Option Bool) none (some false) (bltF hb la)) (some true) (leF ha lb)
 | .gtr => Bool.rec (motive := fun _ => Option Bool) (Bool.rec (motive := fun _ => Option Bool) none (some false) (leF ha lb)) (some true) (bltF hb la)
 | .geq => Bool.rec (motive := fun _ => Option Bool) (Bool.rec (motive := fun _ => Option Bool) none (some false) (bltF ha lb)) (some true) (leF hb la)
 | .eql => Bool.rec (motive := fun _ => Option Bool) (Bool.rec (motive := fun _ => Option Bool) none (some true) (leF ha la && (leF hb lb && beqF la lb))) (some false) (bltF ha lb || bltF hb la)
 | .neq => Bool.rec (motive := fun _ => Option Bool) (Bool.rec (motive := fun _ => Option Bool) none (some false) (leF ha la && (leF hb lb && beqF la lb))) (some true) (bltF ha lb || bltF hb la)
 | _ => none
def isCmp (op : BinOp) : Bool := match op with
 | .lss | .leq | .gtr | .geq | .eql | .neq => true
 | _ => false
def linM (rg : List (Int × Int)) (a : SI) : Option (SI × Int) := match a with
 | .bin .sub k (.lit c) y => match rngS rg y with
  | some r => Bool.rec (motive := fun _ => Option (SI × Int)) none (linR rg (strip rg y) fun x d => forceI (Int.sub c d) fun n => some (x, n)) (leF (minK k) (Int.sub c r.2) && leF (Int.sub c r.1) (maxK k))
  | none => none
 | _ => none
def decM (rg : List (Int × Int)) (op : BinOp) (a b : SI) : Option Bool := match linM rg a with
 | some p => match linM rg b with
  | some q => Bool.rec (motive := fun _ => Option Bool) none (forceB (cmpF op p.2 q.2) fun c => some c) (SI.beq p.1 q.1 && isCmp op)
  | none => none
 | none => none
def rngC (rg : List (Int × Int)) (a : SI) : Option (Int × Int) := match a with
 | .conv k (.bin .sub k' x y) => Bool.rec (motive := fun _ => Option (Int × Int)) (rngS rg (.conv k (.bin .sub k' x y))) (opt1 (rngS rg x) (anyR k) fun la ha => opt1 (rngS rg y) (anyR k) fun lb hb => fitR k (Int.sub la hb) (Int.sub ha lb)) (Nat.ble (bitsF k) (bitsF k'))
 | a => rngS rg a
def decC (rg : List (Int × Int)) (op : BinOp) (a b : SI) : Option Bool := match opt1 (rngC rg a) none (fun la ha => opt1 (rngC rg b) none fun lb hb => cmpR op la ha lb hb) with
 | some b => some b
 | none => linR rg (strip rg a) fun x cx => linR rg (strip rg b) fun y cy => Bool.rec (motive := fun _ => Option Bool) (decM rg op (strip rg a) (strip rg b)) (forceB (cmpF op cx cy) fun c => some c) (SI.beq x y && isCmp op)
def decR (rg : List (Int × Int)) (c : SB) : Option Bool := SB.rec (motive := fun _ => Option Bool) (fun _ => none) (fun op a b => decC rg op a b) (fun _ ih => Option.rec (motive := fun _ => Option Bool) none (fun b => some (notF b)) ih) c
def xorB (b f : Bool) : Bool := Bool.rec (motive := fun _ => Bool) b (notF b) f
def normC (op : BinOp) (a b : SI) : SB × Bool := match op with
 | .neq => (.cmp .eql a b, true)
 | .leq => (.cmp .lss b a, true)
 | .gtr => (.cmp .lss b a, false)
 | .geq => (.cmp .lss a b, true)
 | op => (.cmp op a b, false)
def normB (rg : List (Int × Int)) (c : SB) : SB × Bool := SB.rec (motive := fun _ => SB × Bool) (fun b => (.lit b, false)) (fun op a b => normC op (strip rg a) (strip rg b)) (fun _ ih => (ih.1, notF ih.2)) c
def decN (pc : PC) (κ : Bool → PC → R) (c : SB) (f : Bool) : R := match lookB pc.l c with
 | some b => κ (xorB b f) pc
 | none => partS c pc.smp (frkS (fun b => κ (xorB b f)) c pc.l pc.rg)
def decP (pc : PC) (c : SB) (κ : Bool → PC → R) : R := match decR pc.rg c with
 | some b => κ b pc
 | none => match lookB pc.l c with
  | some b => κ b pc
  | none => match normB pc.rg c with
   | (c, f) => decN pc κ c f
def decK (pc : PC) (c : SB) (κ : Bool → PC → R) : R := SB.rec (motive := fun _ => PC → (Bool → PC → R) → R) (fun b pc κ => κ b pc) (fun op a b pc κ => decP pc (.cmp op a b) κ) (fun a _ pc κ => decP pc (.not a) κ) c pc κ
abbrev Ts := Tr AV
def Ts.nil : Ts := Tr.nil
def Ts.get (t : Ts) (d : Nat) : Option AV := Tr.getP (posOf d) t
def Ts.getK (t : Ts) (d : Nat) (κ : AV → R) : R := Option.rec (motive := fun _ => R) (.fail 1) κ (Tr.getP (posOf d) t)
def Ts.put (d : Nat) (v : AV) (t : Ts) : Ts := Tr.setP v (posOf d) t
def tsF (l : List AV) : Nat → Ts → Ts := List.rec (motive := fun _ => Nat → Ts → Ts) (fun _ t => t) (fun v _ ih n t => ih (Nat.succ n) (Ts.put n v t)) l
def skel (d : Nat) : Ts := Nat.rec (motive := fun _ => Ts) Tr.nil (fun _ x => .node none x x) d
def tsOf (sz : Nat) (l : List AV) : Ts := tsF l (nat_lit 0) (skel (Nat.succ (Nat.log2 sz)))
abbrev opdT (t : Ts) (κ : AV → R) (d : Nat) : R := t.getK d κ
abbrev opd (t : Ts) (o : Operand) (κ : AV → R) : R := Operand.rec (motive := fun _ => R) (opdT t κ) (fun v => κ (ofValue v)) (fun _ => .fail 2) (fun f => κ (.fn (.func f) [] [])) o
abbrev opds (t : Ts) (l : List Operand) (κ : List AV → R) : R := match l with
 | [] => κ []
 | o :: l => opd t o fun v => opds t l fun vs => κ (v :: vs)
def intV (v : AV) : Nat → (IntKind → SI → R) → R := AV.rec (motive_1 := fun _ => Nat → (IntKind → SI → R) → R) (motive_2 := fun _ => Unit) (fun k e _ κ => κ k e) (fun _ => fun n _ => .fail n) (fun _ _ => fun n _ => .fail n) (fun _ _ _ _ => fun n _ => .fail n) (fun _ _ _ => fun n _ => .fail n) (fun _ => fun n _ => .fail n) (fun _ _ _ _ _ => fun n _ => .fail n) (fun _ _ _ => fun n _ => .fail n) (fun _ _ => fun n _ => .fail n) (fun _ _ => fun n _ => .fail n) (fun _ => fun n _ => .fail n) (fun _ => fun n _ => .fail n) (fun _ _ _ => fun n _ => .fail n) (fun _ _ _ _ _ _ => fun n _ => .fail n) (fun _ _ _ => fun n _ => .fail n) (fun _ _ _ _ _ => fun n _ => .fail n) (fun _ _ _ _ => fun n _ => .fail n) () (fun _ _ _ _ => ()) v
def boolV (v : AV) : Nat → (SB → R) → R := AV.rec (motive_1 := fun _ => Nat → (SB → R) → R) (motive_2 := fun _ => Unit) (fun _ _ => fun n _ => .fail n) (fun b _ κ => κ b) (fun _ _ => fun n _ => .fail n) (fun _ _ _ _ => fun n _ => .fail n) (fun _ _ _ => fun n _ => .fail n) (fun _ => fun n _ => .fail n) (fun _ _ _ _ _ => fun n _ => .fail n) (fun _ _ _ => fun n _ => .fail n) (fun _ _ => fun n _ => .fail n) (fun _ _ => fun n _ => .fail n) (fun _ => fun n _ => .fail n) (fun _ => fun n _ => .fail n) (fun _ _ _ => fun n _ => .fail n) (fun _ _ _ _ _ _ => fun n _ => .fail n) (fun _ _ _ => fun n _ => .fail n) (fun _ _ _ _ _ => fun n _ => .fail n) (fun _ _ _ _ => fun n _ => .fail n) () (fun _ _ _ _ => ()) v
def ptrV (v : AV) : Nat → (Nat → Nat → R) → R := AV.rec (motive_1 := fun _ => Nat → (Nat → Nat → R) → R) (motive_2 := fun _ => Unit) (fun _ _ => fun n _ => .fail n) (fun _ => fun n _ => .fail n) (fun i o _ κ => κ i o) (fun _ _ _ _ => fun n _ => .fail n) (fun _ _ _ => fun n _ => .fail n) (fun _ => fun n _ => .fail n) (fun _ _ _ _ _ => fun n _ => .fail n) (fun _ _ _ => fun n _ => .fail n) (fun _ _ => fun n _ => .fail n) (fun _ _ => fun n _ => .fail n) (fun _ => fun n _ => .fail n) (fun _ => fun n _ => .fail n) (fun _ _ _ => fun n _ => .fail n) (fun _ _ _ _ _ _ => fun n _ => .fail n) (fun _ _ _ => fun n _ => .fail n) (fun _ _ _ _ _ => fun n _ => .fail n) (fun _ _ _ _ => fun n _ => .fail n) () (fun _ _ _ _ => ()) v
def asInt (v : AV) (κ : IntKind → SI → R) : R := intV v (nat_lit 3) κ
def litI (e : SI) : Nat → (Int → R) → R := SI.rec (motive := fun _ => Nat → (Int → R) → R) (fun n _ κ => κ n) (fun _ n _ => .fail n) (fun _ _ _ _ _ _ n _ => .fail n) (fun _ _ _ n _ => .fail n) (fun _ _ n _ => .fail n) (fun _ _ _ _ _ _ n _ => .fail n) e
def natI (n : Int) : Nat → (Nat → R) → R := Int.rec (motive := fun _ => Nat → (Nat → R) → R) (fun n _ κ => κ n) (fun _ w _ => .fail w) n
def asLitK (κ : Nat → R) (e : SI) : R := litI e (nat_lit 4) fun n => natI n (nat_lit 4) κ
def asNat (v : AV) (κ : Nat → R) : R := intV v (nat_lit 5) fun _ e => asLitK κ e
def asBoolA (v : AV) (κ : SB → R) : R := boolV v (nat_lit 6) κ
section
variable (P : Program)
def aggOf (T : TypeId) : Option (Option Nat) := match P.underlying T with
 | some (.struct _) | some (.array _ _) => (P.info? T).map fun i => some i.size
 | some _ => some none
 | none => none
def sizeA (T : TypeId) : Option Nat := (P.info? T).map fun i => i.size
def zeroA (T : TypeId) : Option AV := match P.info? T with
 | some i => i.zero.map ofValue
 | none => none
def fieldA (T : TypeId) (f : Nat) : Option (Nat × TypeId) := match P.underlying T with
 | some (.struct fs) => (fs[f]?).map fun f => (f.offset, f.type)
 | _ => none
def fieldPlaceA (T : TypeId) (f : Nat) : Option Nat := match fieldA P T f with
 | some (o, t) => match sizeA P t with
  | some n => Bool.rec (motive := fun _ => Option Nat) (some o) none (Nat.beq n (nat_lit 0))
  | none => none
 | none => none
inductive IxK where | arr (n : Nat) (elem size : Nat) | sli (elem size : Nat)
def ixOf (T : TypeId) : Option IxK := match P.underlying T with
 | some (.array n e) => (sizeA P e).map fun s => .arr n e s
 | some (.slice e) => (sizeA P e).map fun s => .sli e s
 | _ => none
def intOfT (T : TypeId) : Option IntKind := match P.underlying T with
 | some (.int k) => some k
 | _ => none
end
def optK {β : Type} (o : Option β) (why : Nat) (κ : β → R) : R := Option.rec (motive := fun _ => R) (.fail why) κ o
abbrev OK := Nat → Tr AV → Option AV → TypeId → Bool → R
def obK (κ : OK) (o : AObj) : R := AObj.rec (motive := fun _ => OK → R) (fun n c d T r κ => κ n c d T r) (fun _ _ _ => .fail 10) (fun _ _ _ _ _ => .fail 10) (fun _ _ _ _ => .fail 10) (fun _ => .fail 10) o κ
def objK (h : Tr AObj) (id : Nat) (κ : OK) : R := optK (h.get id) 11 (obK κ)
def cellK (c : Tr AV) (d : Option AV) (off : Nat) (κ : AV → R) : R := Option.rec (motive := fun _ => R) (optK d 13 κ) κ (c.get off)
def ld1 (κ : AV → R) (off : Nat) (n : Nat) (c : Tr AV) (d : Option AV) (T : TypeId) (r : Bool) : R := Bool.rec (motive := fun _ => R) (.fail 12) (cellK c d off κ) (Nat.blt off n)
def ldN (c : Tr AV) (d : Option AV) (off : Nat) (m : Nat) : (List AV → R) → R :=
 Nat.rec (motive := fun _ => Nat → (List AV → R) → R) (fun _ κ => κ []) (fun _ ih off κ => cellK c d off fun v => ih (Nat.succ off) fun l => κ (v :: l)) m off
def ldA (κ : AV → R) (off m : Nat) (n : Nat) (c : Tr AV) (d : Option AV) (T : TypeId) (r : Bool) : R := Bool.rec (motive := fun _ => R) (.fail 15) (ldN c d off m fun l => κ (.agg l)) (Nat.ble (Nat.add off m) n)
def big62 : Int := .ofNat (nat_lit 2305843009213693952)
def zeroS : SI := .lit (.ofNat (nat_lit 0))
def natS (n : Nat) : SI := .lit (.ofNat n)
def isZ (e : SI) : Bool := SI.rec (motive := fun _ => Bool) (fun n => beqF n (.ofNat (nat_lit 0))) (fun _ => false) (fun _ _ _ _ _ _ => false) (fun _ _ _ => false) (fun _ _ => false) (fun _ _ _ _ _ _ => false) e
def nnB (rg : List (Int × Int)) (e : SI) : Bool := opt1' (rngS rg e) false fun l h => pos0 l && leF h big62
def leD (pc : PC) (a b : SI) (κ : Bool → PC → R) : R := cmpK .leq a b fun c => decK pc c κ
def linF (a : SI) (κ0 : Int → R) (κp κm : SI → Int → R) : R := match a with
 | .lit n => κ0 n
 | .bin .add .i64 x (.lit c) => κp x c
 | .bin .sub .i64 (.lit c) (.bin .add .i64 x (.lit d)) => forceI (Int.sub c d) fun n => κm x n
 | .bin .sub .i64 (.lit c) x => κm x c
 | a => κp a (.ofNat (nat_lit 0))
def litF (n : Int) (κ : SI → R) : R := forceI (wrapF .i64 n) fun n => κ (.lit n)
def mnF (n : Int) (x : SI) (κ : SI → R) : R := forceI (wrapF .i64 n) fun n => κ (.bin .sub .i64 (.lit n) x)
def adF (x : SI) (n : Int) (κ : SI → R) : R := forceI (wrapF .i64 n) fun n => κ (.bin .add .i64 x (.lit n))
def plL (a b : SI) (κ : SI → R) : R := linF a (fun n => linF b (fun m => litF (Int.add n m) κ) (fun _ _ => binK .add .i64 a b κ) fun y d => mnF (Int.add n d) y κ)
 (fun x c => linF b (fun _ => binK .add .i64 a b κ) (fun y d => adF (.bin .add .i64 x y) (Int.add c d) κ) fun y d => Bool.rec (motive := fun _ => R) (binK .add .i64 a b κ) (litF (Int.add c d) κ) (SI.beq x y))
 (fun x c => linF b (fun m => mnF (Int.add c m) x κ) (fun y d => Bool.rec (motive := fun _ => R) (binK .add .i64 a b κ) (litF (Int.add c d) κ) (SI.beq x y)) fun _ _ => binK .add .i64 a b κ)
def mnL (a b : SI) (κ : SI → R) : R := linF a (fun n => linF b (fun m => litF (Int.sub n m) κ) (fun y d => mnF (Int.sub n d) y κ) fun y d => adF y (Int.sub n d) κ)
 (fun x c => linF b (fun _ => binK .sub .i64 a b κ) (fun y d => Bool.rec (motive := fun _ => R) (binK .sub .i64 a b κ) (litF (Int.sub c d) κ) (SI.beq x y)) fun _ _ => binK .sub .i64 a b κ)
 (fun x c => linF b (fun m => mnF (Int.sub c m) x κ) (fun _ _ => binK .sub .i64 a b κ) fun y d => Bool.rec (motive := fun _ => R) (binK .sub .i64 a b κ) (litF (Int.sub c d) κ) (SI.beq x y))
def plE (pc : PC) (a b : SI) (κ : SI → R) : R := Bool.rec (motive := fun _ => R) (.fail 400) (Bool.rec (motive := fun _ => R) (Bool.rec (motive := fun _ => R) (plL a b κ) (κ b) (isZ a)) (κ a) (isZ b)) (nnB pc.rg a && nnB pc.rg b)
def subX (x y : SI) : Option SI := match x with
 | .bin .add .i64 u v => Bool.rec (motive := fun _ => Option SI) (Bool.rec (motive := fun _ => Option SI) none (some u) (SI.beq v y)) (some v) (SI.beq u y)
 | _ => none
def mnX (pc : PC) (a b : SI) (κ : SI → R) : R := linF a (fun _ => mnL a b κ) (fun x c => linF b (fun _ => mnL a b κ) (fun y d => match subX x y with
  | some e => Bool.rec (motive := fun _ => R) (adF e (Int.sub c d) κ) (κ e) (beqF c d && nnB pc.rg e)
  | none => mnL a b κ) fun _ _ => mnL a b κ) fun _ _ => mnL a b κ
def mnE (pc : PC) (a b : SI) (κ : SI → R) : R := Bool.rec (motive := fun _ => R) (.fail 401) (Bool.rec (motive := fun _ => R) (Bool.rec (motive := fun _ => R) (mnX pc a b κ) (κ zeroS) (SI.beq a b)) (κ a) (isZ b)) (nnB pc.rg a && nnB pc.rg b)
def lenSI (l : List SI) : Nat := List.rec (motive := fun _ => Nat) (nat_lit 0) (fun _ _ n => Nat.succ n) l
def lenH (c : Ch) (κ : SI → R) : R := Ch.rec (motive := fun _ => R) (fun l => forceN (lenSI l) fun n => κ (natS n)) (fun n _ => κ n) (fun _ _ n => κ n) c
def takeS (l : List SI) (n : Nat) (κ : List SI → R) : R := Nat.rec (motive := fun _ => List SI → (List SI → R) → R) (fun _ κ => κ []) (fun _ ih l κ => List.rec (motive := fun _ => R) (.fail 403) (fun v l _ => ih l fun r => κ (v :: r)) l) n l κ
def dropS (l : List SI) (n : Nat) (κ : List SI → R) : R := Nat.rec (motive := fun _ => List SI → R) (fun l => κ l) (fun _ ih l => List.rec (motive := fun _ => R) (.fail 404) (fun _ l _ => ih l) l) n l
def litN (e : SI) (κ : Nat → R) : R := litI e (nat_lit 405) fun n => natI n (nat_lit 405) κ
def cutC (c : Ch) (n : SI) (κ : Ch → R) : R := Ch.rec (motive := fun _ => R) (fun l => litN n fun n => takeS l n fun l => κ (.bs l)) (fun _ v => κ (.fil n v)) (fun a o _ => κ (.row a o n)) c
def tailC (c : Ch) (pc : PC) (n : SI) (κ : Ch → R) : R := Ch.rec (motive := fun _ => R) (fun l => litN n fun n => dropS l n fun l => κ (.bs l)) (fun m v => mnE pc m n fun m => κ (.fil m v)) (fun a o m => plE pc o n fun o => mnE pc m n fun m => κ (.row a o m)) c
def dropR (cs : List Ch) : SI → PC → (List Ch → PC → R) → R := List.rec (motive := fun _ => SI → PC → (List Ch → PC → R) → R) (fun a pc κ => Bool.rec (motive := fun _ => R) (.fail 406) (κ [] pc) (isZ a))
 (fun c cs ih a pc κ => Bool.rec (motive := fun _ => R) (lenH c fun m => Bool.rec (motive := fun _ => R) (.fail 407) (leD pc m a fun b pc => Bool.rec (motive := fun _ => R) (tailC c pc a fun c => κ (c :: cs) pc) (mnE pc a m fun a => ih a pc κ) b) (nnB pc.rg m && nnB pc.rg a)) (κ (c :: cs) pc) (isZ a)) cs
def nilR (rg : List (Int × Int)) (e : SI) : Bool := opt1' (rngS rg e) false fun l h => beqF l (.ofNat (nat_lit 0)) && beqF h (.ofNat (nat_lit 0))
def takeR (cs : List Ch) : SI → PC → (List Ch → PC → R) → R := List.rec (motive := fun _ => SI → PC → (List Ch → PC → R) → R) (fun n pc κ => Bool.rec (motive := fun _ => R) (.fail 408) (κ [] pc) (isZ n || nilR pc.rg n))
 (fun c cs ih n pc κ => Bool.rec (motive := fun _ => R) (lenH c fun m => Bool.rec (motive := fun _ => R) (.fail 409) (leD pc m n fun b pc => Bool.rec (motive := fun _ => R) (cutC c n fun c => κ [c] pc) (mnE pc n m fun n => ih n pc fun r pc => κ (c :: r) pc) b) (nnB pc.rg m && nnB pc.rg n)) (κ [] pc) (isZ n)) cs
def byteS (l : List AV) : (List SI → R) → R := List.rec (motive := fun _ => (List SI → R) → R) (fun κ => κ []) (fun v _ ih κ => intV v (nat_lit 410) fun k e => Bool.rec (motive := fun _ => R) (.fail 411) (ih fun r => κ (e :: r)) (kindEq k .u8)) l
def nilT (c : Tr AV) : Bool := Tr.rec (motive := fun _ => Bool) true (fun _ _ _ _ _ => false) c
def defU (d : Option AV) : Option SI := match d with
 | some (.int .u8 e) => some e
 | _ => none
def cellR (c : Tr AV) (d : Option AV) (off len : Nat) (κ : List Ch → R) : R := match defU d with
 | some e => Bool.rec (motive := fun _ => R) (ldN c d off len fun l => byteS l fun es => κ [.bs es]) (κ [.fil (natS len) e]) (nilT c)
 | none => ldN c d off len fun l => byteS l fun es => κ [.bs es]
def osl0 (rg : List (Int × Int)) (x : AV) : Bool := match x with
 | .osl _ k _ => nilR rg (.var k)
 | _ => false
def readO (o : AObj) (pc : PC) (off len : SI) (κ : List Ch → PC → R) : R := match o with
 | .rope cs T r => dropR cs off pc fun cs pc => takeR cs len pc κ
 | .cells n c d T r => litN off fun off => litN len fun len => Bool.rec (motive := fun _ => R) (.fail 412) (cellR c d off len fun cs => κ cs pc) (Nat.ble (Nat.add off len) n)
 | _ => .fail 413
def readR (h : Tr AObj) (pc : PC) (x : AV) (κ : List Ch → PC → R) : R := match x with
 | .sl id off len _ => optK (h.get id) 414 fun o => readO o pc (natS off) (natS len) κ
 | .ssl id _ off len _ => optK (h.get id) 414 fun o => readO o pc off len κ
 | .fsl a _ off len => plE pc off len fun e => leD pc e (.var a) fun b pc => Bool.rec (motive := fun _ => R) (.fail 415) (κ [.row a off len] pc) (b && (Nat.ble (nat_lit 32) a && Nat.blt a (nat_lit 64)))
 | .raw (.slice none 0 0) => κ [] pc
 | .emp _ _ _ => κ [] pc
 | .em0 _ _ _ => κ [] pc
 | .osl p k c => Bool.rec (motive := fun _ => R) (.fail 416) (κ [] pc) (osl0 pc.rg (.osl p k c))
 | _ => .fail 416
def lenS (pc : PC) (x : AV) (κ : SI → R) : R := match x with
 | .sl _ _ len _ => κ (natS len)
 | .ssl _ _ _ len _ => Bool.rec (motive := fun _ => R) (.fail 417) (κ len) (nnB pc.rg len)
 | .fsl _ _ _ len => Bool.rec (motive := fun _ => R) (.fail 417) (κ len) (nnB pc.rg len)
 | .raw (.slice none 0 0) => κ zeroS
 | .emp _ _ _ => κ zeroS
 | .em0 _ _ _ => κ zeroS
 | .osl p k c => Bool.rec (motive := fun _ => R) (.fail 418) (κ zeroS) (osl0 pc.rg (.osl p k c))
 | _ => .fail 418
def isRope (o : Option AObj) : Bool := match o with
 | some (.rope _ _ _) => true
 | _ => false
def ropy (h : Tr AObj) (x : AV) : Bool := match x with
 | .ssl _ _ _ _ _ => true
 | .fsl _ _ _ _ => true
 | .sl id _ _ _ => isRope (h.get id)
 | _ => false
def isOsl (x : AV) : Bool := match x with
 | .osl _ _ _ => true
 | _ => false
def isSlV (x : AV) : Bool := match x with
 | .sl _ _ len (some c) => Nat.ble len c
 | .raw (.slice none 0 0) => true
 | _ => false
def litV (v : Option AV) : Bool := match v with
 | none => true
 | some (.int _ (.lit _)) => true
 | _ => false
def canS (id : Nat) (o0 off len : SI) (cap : Option SI) : AV := .ssl id o0 off len cap
def optS (v : Option AV) (d : SI) (κ : SI → R) : R := match v with
 | some v => intV v (nat_lit 419) fun _ e => κ e
 | none => κ d
def ordK (pc : PC) (l h c : SI) (κ : PC → R) : R := Bool.rec (motive := fun _ => R) (.fail 420) (leD pc l h fun b pc => Bool.rec (motive := fun _ => R) (.fail 421) (leD pc h c fun b pc => Bool.rec (motive := fun _ => R) (.fail 422) (κ pc) b) b) (nnB pc.rg l && (nnB pc.rg h && nnB pc.rg c))
def byteK (cs : List Ch) : Nat → (SI → R) → R := List.rec (motive := fun _ => Nat → (SI → R) → R) (fun _ _ => .fail 438) (fun c cs ih i κ => Ch.rec (motive := fun _ => R) (fun l => Bool.rec (motive := fun _ => R) (forceN (Nat.sub i (lenSI l)) fun i => ih i κ) (dropS l i fun l => List.rec (motive := fun _ => R) (.fail 439) (fun e _ _ => κ e) l) (Nat.blt i (lenSI l))) (fun _ _ => .fail 440) (fun _ _ _ => .fail 440) c) cs
def lenY (P : Program) (T : TypeId) (x : AV) (pc : PC) (κ : AV → PC → R) : R := match P.underlying T with
 | some (.slice _) => lenS pc x fun e => κ (.int .i64 e) pc
 | _ => .fail 441
def ldR (κ : AV → R) (w : Option Nat) (off : Nat) (o : AObj) : R := match o with
 | .rope cs _ _ => Option.rec (motive := fun _ => R) (byteK cs off fun e => κ (.int .u8 e)) (fun _ => .fail 442) w
 | o => obK (Option.rec (motive := fun _ => OK) (ld1 κ off) (ldA κ off) w) o
def loadP (h : Tr AObj) (κ : AV → R) (w : Option Nat) (id off : Nat) : R := forceN off fun off => optK (h.get id) 11 (ldR κ w off)
def loadV (h : Tr AObj) (κ : AV → R) (w : Option Nat) (v : AV) : R := ptrV v (nat_lit 16) (loadP h κ w)
def loadA (P : Program) (h : Tr AObj) (T : TypeId) (v : AV) (κ : AV → R) : R := optK (aggOf P T) 17 fun w => loadV h κ w v
section
variable (P : Program)
def fnB (f : Fn) : Bool := match f with
 | .func _ => true
 | _ => false
def nilB (v : AV) : Bool := AV.rec (motive_1 := fun _ => Bool) (motive_2 := fun _ => Unit) (fun _ _ => false) (fun _ => false) (fun _ _ => true) (fun _ _ _ _ => true) (fun _ _ _ => true) (fun _ => true) (fun f _ _ _ _ => fnB f) (fun _ _ _ => true) (fun _ _ => false) (fun _ _ => false) (fun _ => false) (fun _ => false) (fun _ _ _ => false) (fun _ _ _ _ _ _ => false) (fun _ _ _ => true) (fun _ _ _ _ _ => true) (fun _ _ _ _ => true) () (fun _ _ _ _ => ()) v
def nilA (κ : AV → R) (v : AV) : R := Bool.rec (motive := fun _ => R) (.fail 20) (κ v) (nilB v)
def isNilV (v : Value) : Bool := match v with
 | .pointer none | .slice none _ _ | .map none | .nilFunc | .nilIface => true
 | _ => false
def nilP (x : AV) : Option Bool := match x with
 | .ptr _ _ => some false
 | .raw (.pointer none) => some true
 | _ => none
def nilS (x : AV) : Option Bool := match x with
 | .sl _ _ _ _ => some false
 | .emp _ _ _ => some false
 | .em0 _ _ _ => some false
 | .ssl _ _ _ _ _ => some false
 | .fsl _ _ _ _ => some false
 | .raw (.slice none _ _) => some true
 | _ => none
def nilM (x : AV) : Option Bool := match x with
 | .map _ => some false
 | .raw (.map none) => some true
 | _ => none
def nilF (x : AV) : Option Bool := match x with
 | .fn _ _ _ => some false
 | .raw .nilFunc => some true
 | _ => none
def nil2 (nx ny : Option Bool) (both : R) (κ : SB → R) : R := optK nx 21 fun bx => optK ny 22 fun by_ => Bool.rec (motive := fun _ => R) (Bool.rec (motive := fun _ => R) both (κ (.lit false)) bx) (κ (.lit bx)) by_
def ptrEq (h : Tr AObj) (x y : AV) (κ : SB → R) : R := match x with
 | .ptr i o => match y with
  | .ptr j q => objK h i fun _ _ _ _ r => objK h j fun _ _ _ _ r' => Bool.rec (motive := fun _ => R) (κ (.lit (Nat.beq i j && Nat.beq o q))) (.fail 24) (r || r')
  | _ => .fail 24
 | _ => .fail 24
def strEq (v w : Value) (κ : Bool → R) : R := match v with
 | .string a => match w with
  | .string b => κ (a.data.toList == b.data.toList)
  | _ => .fail 26
 | _ => .fail 26
def eqB (a b : SB) (κ : SB → R) : R := match a with
 | .lit a => Bool.rec (motive := fun _ => R) (notK b κ) (κ b) a
 | a => match b with
  | .lit b => Bool.rec (motive := fun _ => R) (notK a κ) (κ a) b
  | _ => .fail 23
def plainInt (T : TypeId) : Bool := match P.underlying T with
 | some (.int _) => true
 | _ => false
def oneCellT (T : TypeId) : Bool := match P.info? T with
 | some i => Nat.beq i.size (nat_lit 1)
 | none => false
def fieldsFlat (fs : List Field) : Nat → Bool := List.rec (motive := fun _ => Nat → Bool) (fun _ => true) (fun f _ ih n => (f.name != "_") && (plainInt P f.type && (Nat.beq f.offset n && ih (Nat.succ n)))) fs
def flatT (T : TypeId) : Option Nat := match P.underlying T with
 | some (.struct fs) => Bool.rec (motive := fun _ => Option Nat) none (some fs.size) (fieldsFlat P fs.toList (nat_lit 0) && notF (P.stoodInHeld T))
 | some (.array n e) => Bool.rec (motive := fun _ => Option Nat) none (some n) (plainInt P e && oneCellT P e)
 | _ => none
def lenC (l : List AV) : Nat := List.rec (motive := fun _ => Nat) (nat_lit 0) (fun _ _ n => Nat.succ n) l
def aggV (v : AV) (n : Nat) (κ : List AV → R) : R := match v with
 | .agg l => κ l
 | _ => .fail n
def eqCells (l : List AV) : List AV → PC → (Bool → PC → R) → R := List.rec (motive := fun _ => List AV → PC → (Bool → PC → R) → R) (fun m pc κ => match m with
  | [] => κ true pc
  | _ => .fail 201) (fun x _ ih m pc κ => match m with
  | [] => .fail 201
  | y :: m => asInt x fun k a => asInt y fun k' b => Bool.rec (motive := fun _ => R) (.fail 202) (cmpK .eql a b fun c => decK pc c fun b pc => Bool.rec (motive := fun _ => R) (κ false pc) (ih m pc κ) b) (kindEq k k')) l
def litB (c : SB) (κ : Bool → R) : R := match c with
 | .lit b => κ b
 | _ => .fail 205
def eqLits (l : List AV) : List AV → (Bool → R) → R := List.rec (motive := fun _ => List AV → (Bool → R) → R) (fun m κ => match m with
  | [] => κ true
  | _ => .fail 201) (fun x _ ih m κ => match m with
  | [] => .fail 201
  | y :: m => asInt x fun k a => asInt y fun k' b => Bool.rec (motive := fun _ => R) (.fail 202) (cmpK .eql a b fun c => litB c fun b => Bool.rec (motive := fun _ => R) (κ false) (ih m κ) b) (kindEq k k')) l
def eqFlat (T : TypeId) (x y : AV) (κ : SB → R) : R := optK (flatT P T) 203 fun n => Bool.rec (motive := fun _ => R) (.fail 204) (aggV x (nat_lit 206) fun l => aggV y (nat_lit 206) fun m => Bool.rec (motive := fun _ => R) (.fail 207) (eqLits l m fun b => κ (.lit b)) (Nat.beq (lenC l) n)) (notF (P.eqGuardType P.depth T))
def oslP (x : AV) : Option Nat := match x with
 | .osl p _ _ => some p
 | _ => none
def nilSl (x y : AV) (κ : SB → R) : R := Option.rec (motive := fun _ => R) (nil2 (nilS x) (nilS y) (.fail 25) κ) (fun p => optK (nilS y) 25 fun b => Bool.rec (motive := fun _ => R) (.fail 25) (forceN (Nat.add p (nat_lit 2)) fun q => κ (.cmp .eql (.var q) zeroS)) b) (oslP x)
def eqA (T : TypeId) (d : TypeDesc) (h : Tr AObj) (x y : AV) (κ : SB → R) : R := match d with
 | .struct _ => eqFlat P T x y κ
 | .array _ _ => eqFlat P T x y κ
 | .bool => match x with
  | .bool a => match y with
   | .bool b => eqB a b κ
   | _ => .fail 23
  | _ => .fail 23
 | .pointer e => Bool.rec (motive := fun _ => R) (nil2 (nilP x) (nilP y) (ptrEq h x y κ) κ) (.fail 29) (match sizeA P e with | some n => Nat.beq n (nat_lit 0) | none => true)
 | .slice _ => nilSl x y κ
 | .map _ _ => nil2 (nilM x) (nilM y) (.fail 25) κ
 | .func _ _ _ => nil2 (nilF x) (nilF y) (.fail 25) κ
 | .string => match x with
  | .raw v => match y with
   | .raw w => strEq v w fun b => κ (.lit b)
   | _ => .fail 26
  | _ => .fail 26
 | _ => .fail 27
def eqD (T : TypeId) (h : Tr AObj) (x y : AV) (κ : SB → R) : R := optK (P.underlying T) 28 fun d => eqA P T d h x y κ
def boolK (κ : AV → R) (b : SB) : R := κ (.bool b)
def intK (κ : AV → R) (k : IntKind) (e : SI) : R := κ (.int k e)
def arith (op : BinOp) (x y : AV) (κ : AV → R) : R := asInt x fun k a => asInt y fun k' b => Bool.rec (motive := fun _ => R) (.fail 30) (binK op k a b (intK κ k)) (kindEq k k')
def nz (e : SI) (κ : R) : R := match e with
 | .lit n => Bool.rec (motive := fun _ => R) κ (.fail 31) (beqF n (.ofNat (nat_lit 0)))
 | _ => .fail 32
def divA (op : BinOp) (x y : AV) (κ : AV → R) : R := asInt x fun k a => asInt y fun k' b => Bool.rec (motive := fun _ => R) (.fail 30) (nz b (binK op k a b (intK κ k))) (kindEq k k')
def nn (e : SI) (κ : R) : R := match e with
 | .lit (.ofNat n) => κ
 | _ => .fail 33
def shiftA (op : BinOp) (x y : AV) (κ : AV → R) : R := asInt x fun k a => asInt y fun _ b => nn b (binK op k a b (intK κ k))
def compare (op : BinOp) (x y : AV) (κ : AV → R) : R := asInt x fun k a => asInt y fun k' b => Bool.rec (motive := fun _ => R) (.fail 34) (cmpK op a b (boolK κ)) (kindEq k k')
def eqlA (T : TypeId) (h : Tr AObj) (x y : AV) (κ : AV → R) : R := match x with
 | .int k a => compare .eql x y κ
 | x => eqD P T h x y (boolK κ)
def neqA (T : TypeId) (h : Tr AObj) (x y : AV) (κ : AV → R) : R := match x with
 | .int k a => compare .neq x y κ
 | x => eqD P T h x y fun b => notK b (boolK κ)
def binA (op : BinOp) (T : TypeId) (h : Tr AObj) (x y : AV) (κ : AV → R) : R := BinOp.rec (motive := fun _ => Program → TypeId → Tr AObj → AV → AV → (AV → R) → R) (fun P T h x y κ => arith .add x y κ) (fun P T h x y κ => arith .sub x y κ) (fun P T h x y κ => arith .mul x y κ) (fun P T h x y κ => divA .quo x y κ) (fun P T h x y κ => divA .rem x y κ) (fun P T h x y κ => arith .and x y κ) (fun P T h x y κ => arith .or x y κ) (fun P T h x y κ => arith .xor x y κ) (fun P T h x y κ => shiftA .shl x y κ) (fun P T h x y κ => shiftA .shr x y κ) (fun P T h x y κ => arith .andNot x y κ) (fun P T h x y κ => eqlA P T h x y κ) (fun P T h x y κ => neqA P T h x y κ) (fun P T h x y κ => compare .lss x y κ) (fun P T h x y κ => compare .leq x y κ) (fun P T h x y κ => compare .gtr x y κ) (fun P T h x y κ => compare .geq x y κ) op P T h x y κ
def onesI (k : IntKind) : Int := match k with
 | .i8 | .i16 | .i32 | .i64 => .negSucc (nat_lit 0)
 | .u8 => .ofNat (nat_lit 255)
 | .u16 => .ofNat (nat_lit 65535)
 | .u32 => .ofNat (nat_lit 4294967295)
 | .u64 => .ofNat (nat_lit 18446744073709551615)
def unA (op : UnOp) (x : AV) (κ : AV → R) : R := match op with
 | .xor => asInt x fun k a => binK .xor k (.lit (onesI k)) a (intK κ k)
 | .neg => asInt x fun k a => binK .sub k (.lit (.ofNat (nat_lit 0))) a (intK κ k)
 | .not => asBoolA x fun b => notK b (boolK κ)
 | _ => .fail 35
def convA (src dst : TypeId) (x : AV) (κ : AV → R) : R := optK (P.underlying src) 36 fun _ => optK (intOfT P dst) 37 fun k => asInt x fun _ a => convK k a (intK κ k)
def bytesOfL (l : List AV) : (List Nat → R) → R := List.rec (motive := fun _ => (List Nat → R) → R) (fun κ => κ []) (fun v _ ih κ => intV v (nat_lit 271) fun k e => Bool.rec (motive := fun _ => R) (.fail 272) (asLitK (fun n => ih fun r => κ (n :: r)) e) (kindEq k .u8)) l
def strOf (ns : List Nat) : ByteArray := ⟨(ns.map fun n => UInt8.ofNat n).toArray⟩
def isBytesT (T : TypeId) : Bool := match P.underlying T with
 | some (.slice e) => match P.underlying e with
  | some (.int .u8) => true
  | _ => false
 | _ => false
def isStrT (T : TypeId) : Bool := match P.underlying T with
 | some .string => true
 | _ => false
def convS (src dst : TypeId) (h : Tr AObj) (x : AV) (κ : AV → R) : R := Bool.rec (motive := fun _ => R) (.fail 273) (match x with
 | .sl id off len _ => objK h id fun n c d T r => Bool.rec (motive := fun _ => R) (.fail 274) (ldN c d off len fun l => bytesOfL l fun ns => κ (.raw (.string (strOf ns)))) (Nat.ble (Nat.add off len) n)
 | .raw (.slice none _ _) => κ (.raw (.string (strOf [])))
 | _ => .fail 275) (isBytesT P src && isStrT P dst)
def convQ (src dst : TypeId) (h : Tr AObj) (x : AV) (κ : AV → R) : R := match x with
 | .int k e => convA P src dst (.int k e) κ
 | x => convS P src dst h x κ
def sing1 (rg : List (Int × Int)) (e : SI) : SI := opt1' (rngS rg e) e fun l h => Bool.rec (motive := fun _ => SI) e (.lit l) (leF h l)
def singS (rg : List (Int × Int)) (e : SI) : SI := SI.rec (motive := fun _ => SI) (fun n => .lit n) (fun i => sing1 rg (.var i)) (fun o k a b _ _ => sing1 rg (.bin o k a b)) (fun k a _ => sing1 rg (.conv k a)) (fun a _ => sing1 rg (.fold a)) (fun a p o n _ _ => sing1 rg (.rs a p o n)) e
def litR (rg : List (Int × Int)) (v : AV) (κ : AV → R) : R := match v with
 | .int k e => κ (.int k (singS rg e))
 | v => κ v
def varK {α : Type} (a : SI) (no : α) (κ : Nat → α) : α := SI.rec (motive := fun _ => α) (fun _ => no) (fun i => κ i) (fun _ _ _ _ _ _ => no) (fun _ _ _ => no) (fun _ _ => no) (fun _ _ _ _ _ _ => no) a
def isAdd (op : BinOp) : Bool := BinOp.rec (motive := fun _ => Bool) true false false false false false false false false false false false false false false false false op
def isSub (op : BinOp) : Bool := BinOp.rec (motive := fun _ => Bool) false true false false false false false false false false false false false false false false false op
def fitK {α : Type} (rg : List (Int × Int)) (k : IntKind) (a : SI) (no : α) (κ : SI → α) : α := opt1' (rngS rg a) no fun l h => Bool.rec (motive := fun _ => α) no (κ a) (leF (minK k) l && leF h (maxK k))
def linB (a : SI) : Bool := match a with
 | .bin .add _ (.var _) (.lit _) => true
 | _ => false
def linK {α : Type} (rg : List (Int × Int)) (k : IntKind) (a : SI) (κ : SI → α) : α := Bool.rec (motive := fun _ => α) (κ (.conv k a)) (opt1' (rngS rg a) (κ (.conv k a)) fun l h => Bool.rec (motive := fun _ => α) (κ (.conv k a)) (κ a) (leF (minK k) l && leF h (maxK k))) (linB a && notF (kindEq k .u8))
def wrpK {α : Type} (rg : List (Int × Int)) (k : IntKind) (a b : SI) (no : α) (κ : SI → α) : α := match b with
 | .lit c => opt1' (rngS rg a) no fun l h => forceI (Int.sub c (modF k)) fun n => Bool.rec (motive := fun _ => α) no (κ (.bin .add .i64 a (.lit n))) (leF (minK k) (Int.add l n) && leF (Int.add h n) (maxK k))
 | _ => no
def stripB {α : Type} (rg : List (Int × Int)) (op : BinOp) (k : IntKind) (a b : SI) (κ : SI → α) : α := Bool.rec (motive := fun _ => α) (Bool.rec (motive := fun _ => α) (Bool.rec (motive := fun _ => α) (κ (.bin op k a b)) (wrpK rg k a b (κ (.bin op k a b)) κ) (isAdd op && (isUns k && Nat.ble (bitsF k) (nat_lit 32)))) (fitK rg k a (κ (.bin op k a b)) κ) (isAdd op && isZ b)) (κ zeroS) (isSub op && SI.beq a b)
def stripK {α : Type} (rg : List (Int × Int)) (e : SI) : (SI → α) → α := SI.rec (motive := fun _ => (SI → α) → α) (fun n κ => κ (.lit n)) (fun i κ => κ (.var i)) (fun op k a b _ _ κ => stripB rg op k a b κ) (fun k a _ κ => varK a (linK rg k a κ) fun i => opt1' (nthR rg i) (κ (.conv k a)) fun l h => Bool.rec (motive := fun _ => α) (κ (.conv k a)) (κ (.var i)) (leF (minK k) l && leF h (maxK k))) (fun a _ κ => κ (.fold a)) (fun a p o n _ _ κ => κ (.rs a p o n)) e
def fitV (rg : List (Int × Int)) (v : AV) (κ : AV → R) : R := match v with
 | .int k e => stripK rg e fun e => κ (.int k e)
 | v => κ v
def isShift (op : BinOp) : Bool := BinOp.rec (motive := fun _ => Bool) false false false false false false false false true true false false false false false false false op
def ptrK (κ : AV → R) (id off o : Nat) : R := forceN (Nat.add off o) fun n => κ (.ptr id n)
def fldAddr (T : TypeId) (f : Nat) (x : AV) (κ : AV → R) : R := ptrV x (nat_lit 39) fun id off => optK (fieldPlaceA P T f) 38 fun o => ptrK κ id off o
def takeA (l : List AV) (n : Nat) (κ : List AV → R) : R :=
 Nat.rec (motive := fun _ => List AV → (List AV → R) → R) (fun _ κ => κ []) (fun _ ih l κ => List.rec (motive := fun _ => R) (.fail 40) (fun v l _ => ih l fun r => κ (v :: r)) l) n l κ
def dropA (l : List AV) (n : Nat) : List AV := Nat.rec (motive := fun _ => List AV → List AV) (fun l => l) (fun _ ih l => List.rec (motive := fun _ => List AV) [] (fun _ l _ => ih l) l) n l
def headK (κ : AV → R) (l : List AV) : R := match l with
 | [] => .fail 41
 | v :: _ => κ v
def partA (T : TypeId) (l : List AV) (off : Nat) (κ : AV → R) : R := optK (aggOf P T) 42 fun w => match w with
 | none => headK κ (dropA l off)
 | some n => takeA (dropA l off) n fun r => κ (.agg r)
def fldA (T : TypeId) (f : Nat) (x : AV) (κ : AV → R) : R := match x with
 | .agg l => optK (fieldA P T f) 43 fun p => partA P p.2 l p.1 κ
 | _ => .fail 44
def ixAddr (T : TypeId) (x i : AV) (κ : AV → R) : R := asNat i fun i => optK (ixOf P T) 45 fun d => match d with
 | .arr n e s => match x with
  | .ptr id off => Bool.rec (motive := fun _ => R) (.fail 46) (ptrK κ id off (Nat.mul i s)) (Nat.blt i n)
  | _ => .fail 47
 | .sli e s => match x with
  | .sl id off len _ => Bool.rec (motive := fun _ => R) (.fail 48) (ptrK κ id off (Nat.mul i s)) (Nat.blt i len)
  | _ => .fail 49
def ixB (T : TypeId) (x : AV) (i : Nat) (κ : AV → R) : R := optK (ixOf P T) 50 fun d => match d with
 | .arr n e s => match x with
  | .agg l => Bool.rec (motive := fun _ => R) (.fail 51) (partA P e l (Nat.mul i s) κ) (Nat.blt i n)
  | _ => .fail 52
 | .sli _ _ => .fail 53
def ixS (x : AV) (i : Nat) (κ : AV → R) : R := match x with
 | .raw (.string b) => match b[i]? with
  | some c => forceN c.toNat fun n => κ (.int .u8 (.lit (.ofNat n)))
  | none => .fail 58
 | _ => .fail 58
def ixA (T : TypeId) (x i : AV) (κ : AV → R) : R := asNat i fun i => Bool.rec (motive := fun _ => R) (ixB P T x i κ) (ixS x i κ) (isStrT P T)
def optNat (v : Option AV) (d : Nat) (κ : Nat → R) : R := match v with
 | some v => asNat v κ
 | none => κ d
def roomK (h : Tr AObj) (e s id off : Nat) (cap : Option Nat) (κ : Nat → Bool → R) : R := match cap with
 | some c => κ c true
 | none => objK h id fun n _ _ T r => Bool.rec (motive := fun _ => R) (.fail 57) (κ (Nat.div (Nat.sub n off) s) false) (Nat.beq T e && r)
def slK (κ : AV → R) (id off l h : Nat) (c : Option Nat) : R := forceN off fun off => forceN (Nat.sub h l) fun n => κ (.sl id off n c)
def atF (off l s c : Nat) : Nat := Bool.rec (motive := fun _ => Nat) (Nat.add off (Nat.mul l s)) off (Nat.beq c l)
def sliceK (κ : AV → R) (id off s l hi c : Nat) (known : Bool) : R :=
 Bool.rec (motive := fun _ => R) (.fail 54) (Bool.rec (motive := fun _ => R)
   (Bool.rec (motive := fun _ => R) (slK κ id (Nat.add off (Nat.mul l s)) l hi none) (forceN (Nat.add off (Nat.mul l s)) fun o => κ (.emp id off o)) (Nat.beq l c))
   (forceN (Nat.sub c l) fun m' => slK κ id (atF off l s c) l hi (some m')) known) (Nat.ble l hi && Nat.ble hi c)
def slEl (κ : AV → R) (h : Tr AObj) (e s : Nat) (lo hi : Option AV) (id off len : Nat) (cap : Option Nat) : R :=
 optNat lo (nat_lit 0) fun l => optNat hi len fun hi => roomK h e s id off cap fun c known => sliceK κ id off s l hi c known
def slice3 (κ : AV → R) (h : Tr AObj) (e s : Nat) (lo hi : Option AV) (mx : AV) (id off : Nat) (cap : Option Nat) : R :=
 optNat lo (nat_lit 0) fun l => optK hi 208 fun hi => asNat hi fun hi => asNat mx fun m => roomK h e s id off cap fun c _ => Bool.rec (motive := fun _ => R) (.fail 209) (sliceK κ id off s l hi m true) (Nat.ble m c)
def slice0 (lo hi : Option AV) (mx : AV) (κ : R) : R := optNat lo (nat_lit 0) fun l => optK hi 208 fun hi => asNat hi fun hi => asNat mx fun m => Bool.rec (motive := fun _ => R) (.fail 57) κ (Nat.beq l (nat_lit 0) && (Nat.beq hi (nat_lit 0) && Nat.beq m (nat_lit 0)))
def sliceA (T : TypeId) (h : Tr AObj) (x : AV) (lo hi mx : Option AV) (κ : AV → R) : R := optK (ixOf P T) 59 fun d => match mx with
 | some m => match d with
  | .sli e s => match x with
   | .sl id off _ cap => slice3 κ h e s lo hi m id off cap
   | .emp id off0 off => slice0 lo hi m (κ (.em0 id off0 off))
   | .em0 id off0 off => slice0 lo hi m (κ (.em0 id off0 off))
   | _ => .fail 55
  | _ => .fail 55
 | none => match d with
  | .arr n e s => match x with
   | .ptr id off => slEl κ h e s lo hi id off n (some n)
   | _ => .fail 60
  | .sli e s => match x with
   | .sl id off len cap => slEl κ h e s lo hi id off len cap
   | .raw (.slice _ 0 0) => optNat lo (nat_lit 0) fun l => optNat hi (nat_lit 0) fun hi => Bool.rec (motive := fun _ => R) (.fail 56) (κ x) (Nat.beq l (nat_lit 0) && Nat.beq hi (nat_lit 0))
   | .emp _ _ _ => optNat lo (nat_lit 0) fun l => optNat hi (nat_lit 0) fun hi => Bool.rec (motive := fun _ => R) (.fail 56) (κ x) (Nat.beq l (nat_lit 0) && Nat.beq hi (nat_lit 0))
   | .em0 _ _ _ => optNat lo (nat_lit 0) fun l => optNat hi (nat_lit 0) fun hi => Bool.rec (motive := fun _ => R) (.fail 56) (κ x) (Nat.beq l (nat_lit 0) && Nat.beq hi (nat_lit 0))
   | _ => .fail 61
def nthK (κ : AV → R) (l : List AV) (n : Nat) : R := headK κ (dropA l n)
def extA (x : AV) (n : Nat) (κ : AV → R) : R := match x with
 | .tup l => nthK κ l n
 | _ => .fail 62
def lenA (T : TypeId) (x : AV) (κ : AV → R) : R := match P.underlying T with
 | some (.slice _) => match x with
  | .sl _ _ len _ => κ (.int .i64 (.lit (.ofNat len)))
  | .emp _ _ _ => κ (.int .i64 (.lit (.ofNat (nat_lit 0))))
  | .em0 _ _ _ => κ (.int .i64 (.lit (.ofNat (nat_lit 0))))
  | .raw (.slice _ n _) => κ (.int .i64 (.lit (.ofNat n)))
  | _ => .fail 63
 | some (.string) => match x with
  | .raw (.string s) => κ (.int .i64 (.lit (.ofNat s.size)))
  | _ => .fail 64
 | some (.array n _) => κ (.int .i64 (.lit (.ofNat n)))
 | _ => .fail 65
def maxE (x : SI) (c : Int) : SI := .bin .andNot .i64 (.bin .sub .i64 (.lit c) x) (.bin .shr .i64 (.bin .sub .i64 (.lit c) x) (.lit (.ofNat (nat_lit 63))))
def lookX (e : SI) (l : List (SB × Bool)) : Option SI := match l with
 | [] => none
 | (.cmp .eql a z, true) :: l => Bool.rec (motive := fun _ => Option SI) (lookX e l) (some z) (SI.beq a e)
 | _ :: l => lookX e l
def maxY (pc : PC) (b : SI) : Option SI := match linM pc.rg b with
 | some p => lookX (maxE p.1 p.2) pc.l
 | none => none
def fit64 (rg : List (Int × Int)) (b : SI) : Bool := opt1' (rngS rg b) false fun l h => leF (minK .i64) l && leF h (maxK .i64)
def maxX (less : Bool) (k : IntKind) (a b : SI) (pc : PC) : Option SI := Bool.rec (motive := fun _ => Option SI) (Bool.rec (motive := fun _ => Option SI) none (maxY pc b) (isZ a && (kindEq k .i64 && fit64 pc.rg b))) none less
def tieB (rg : List (Int × Int)) (a b : SI) : Bool := match a with
 | .lit n => match b with
  | .var i => opt1' (rngS rg (.var i)) false fun l h => beqF l n && beqF h n
  | _ => false
 | _ => false
def mmA (less : Bool) (x y : AV) (pc : PC) (κ : AV → PC → R) : R := asInt x fun k a => asInt y fun _ b => match maxX less k a b pc with
 | some z => κ (.int k z) pc
 | none => Bool.rec (motive := fun _ => R) (Bool.rec (motive := fun _ => R)
  (cmpK .gtr b a fun c => decK pc c fun c pc => κ (Bool.rec (motive := fun _ => AV) (.int k a) (.int k b) c) pc)
  (cmpK .lss b a fun c => decK pc c fun c pc => κ (Bool.rec (motive := fun _ => AV) (.int k a) (.int k b) c) pc) less) (κ (.int k b) pc) (tieB pc.rg a b)
def mmL (less : Bool) (l : List AV) : AV → PC → (AV → PC → R) → R :=
 List.rec (motive := fun _ => AV → PC → (AV → PC → R) → R) (fun x pc κ => κ x pc) (fun y _ ih x pc κ => mmA less x y pc fun v pc => ih v pc κ) l
def lenE (es : List (AV × AV × Nat)) : Nat := List.rec (motive := fun _ => Nat) (nat_lit 0) (fun _ _ n => Nat.succ n) es
def mapK (h : Tr AObj) (id : Nat) (κ : List (AV × AV × Nat) → Nat → R) : R := optK (h.get id) 93 fun o => match o with
 | .map es c => κ es c
 | _ => .fail 94
def lenM (T : TypeId) (h : Tr AObj) (x : AV) (κ : AV → R) : R := match P.underlying T with
 | some (.map _ _) => match x with
  | .map id => mapK h id fun es _ => forceN (lenE es) fun n => κ (.int .i64 (.lit (.ofNat n)))
  | .raw (.map none) => κ (.int .i64 (.lit (.ofNat (nat_lit 0))))
  | _ => .fail 66
 | _ => lenA P T x κ
def lenQ (T : TypeId) (h : Tr AObj) (x : AV) (pc : PC) (κ : AV → PC → R) : R := match x with
 | .osl p k c => match P.underlying T with
  | some (.slice _) => decK pc (.cmp .leq (.lit (.ofNat (nat_lit 0))) (.var k)) fun b pc => Bool.rec (motive := fun _ => R) (.fail 66) (Bool.rec (motive := fun _ => R) (κ (.int .i64 (.var k)) pc) (κ (.int .i64 zeroS) pc) (nilR pc.rg (.var k))) b
  | _ => .fail 66
 | .ssl id a b c d => lenY P T (.ssl id a b c d) pc κ
 | .fsl a b c d => lenY P T (.fsl a b c d) pc κ
 | x => lenM P T h x fun v => κ v pc
def bltQ (b : Builtin) (Ts : Array TypeId) (h : Tr AObj) (l : List AV) (pc : PC) (κ : AV → PC → R) : R := match b with
 | .len => match l with
  | [x] => optK (Ts[0]?) 66 fun T => lenQ P T h x pc κ
  | _ => .fail 66
 | .min => match l with
  | x :: l => mmL true l x pc κ
  | [] => .fail 67
 | .max => match l with
  | x :: l => mmL false l x pc κ
  | [] => .fail 67
 | _ => .fail 68
def dropN (n : Nat) : List AV → (List AV → R) → R := Nat.rec (motive := fun _ => List AV → (List AV → R) → R) (fun l κ => κ l) (fun _ ih l κ => List.rec (motive := fun _ => R) (.fail 71) (fun _ l _ => ih l κ) l) n
def appL (c r : List AV) : (List AV → R) → R := List.rec (motive := fun _ => (List AV → R) → R) (fun κ => κ r) (fun x _ ih κ => ih fun l => κ (x :: l)) c
def putL (c : List AV) (n i : Nat) : List AV → (List AV → R) → R := Nat.rec (motive := fun _ => List AV → (List AV → R) → R) (fun l κ => dropN n l fun r => appL c r κ) (fun _ ih l κ => List.rec (motive := fun _ => R) (.fail 71) (fun x l _ => ih l fun r => κ (x :: r)) l) i
def fillA (places : Nat → Option (Nat × Nat)) : List (Nat × AV) → List AV → (List AV → R) → R
 | [], l, κ => κ l
 | (i, v) :: rest, l, κ => optK (places i) 69 fun p => cellsK (.fail 70) v fun c => Bool.rec (motive := fun _ => R) (.fail 71) (putL c p.2 p.1 l fun l => fillA places rest l κ) (Nat.beq c.length p.2)
def placesA (T : TypeId) : Option (List (Nat × Nat)) := match P.underlying T with
 | some (.struct fs) => fs.toList.mapM fun f => (P.info? f.type).map fun i => (f.offset, i.size)
 | _ => none
abbrev opdParts (t : Ts) : List (Nat × Operand) → (List (Nat × AV) → R) → R
 | [], κ => κ []
 | (i, o) :: l, κ => opd t o fun v => opdParts t l fun r => κ ((i, v) :: r)
abbrev buildA (T : TypeId) (t : Ts) (parts : Array (Nat × Operand)) (κ : AV → R) : R := optK (zeroA P T) 72 fun z => cellsK (.fail 73) z fun z => opdParts t parts.toList fun ps => match P.underlying T with
 | some (.struct _) => optK (placesA P T) 76 fun pl => fillA (fun i => pl[i]?) ps z fun l => κ (.agg l)
 | some (.array _ e) => optK (sizeA P e) 74 fun s => fillA (fun i => some (i * s, s)) ps z fun l => κ (.agg l)
 | _ => .fail 75
inductive KeyD where
 | int | str | flat (n : Nat)
def keyD (T : TypeId) : Option KeyD := match P.underlying T with
 | some (.int _) => some .int
 | some .string => some .str
 | _ => match flatT P T with
  | some n => some (.flat n)
  | none => none
def rawV (v : AV) (n : Nat) (κ : Value → R) : R := match v with
 | .raw v => κ v
 | _ => .fail n
def strV (v : Value) (n : Nat) (κ : R) : R := match v with
 | .string _ => κ
 | _ => .fail n
def keyOk (d : KeyD) (k : AV) (κ : R) : R := KeyD.rec (motive := fun _ => R) (intV k (nat_lit 91) fun _ _ => κ) (rawV k (nat_lit 92) fun v => strV v (nat_lit 92) κ) (fun n => aggV k (nat_lit 93) fun l => Bool.rec (motive := fun _ => R) (.fail 94) κ (Nat.beq (lenC l) n)) d
def keyEq (d : KeyD) (x y : AV) (pc : PC) (κ : Bool → PC → R) : R := KeyD.rec (motive := fun _ => R) (eqCells [x] [y] pc κ) (rawV x (nat_lit 92) fun v => rawV y (nat_lit 92) fun w => strEq v w fun b => forceB b fun b => κ b pc) (fun _ => aggV x (nat_lit 93) fun l => aggV y (nat_lit 93) fun m => eqCells l m pc κ) d
def findK (d : KeyD) (k : AV) (es : List (AV × AV × Nat)) : Nat → PC → (Option (Nat × AV) → PC → R) → R :=
 List.rec (motive := fun _ => Nat → PC → (Option (Nat × AV) → PC → R) → R) (fun _ pc κ => κ none pc) (fun e _ ih i pc κ => keyEq d k e.1 pc fun b pc => Bool.rec (motive := fun _ => R) (ih (Nat.succ i) pc κ) (κ (some (i, e.2.1)) pc) b) es
def mapTyA (T : TypeId) : Option (KeyD × TypeId) := match P.underlying T with
 | some (.map k e) => (keyD P k).map fun k => (k, e)
 | _ => none
def lkE (ok : Bool) (e : TypeId) (κ : AV → PC → R) (r : Option (Nat × AV)) (pc : PC) : R := match r with
 | some x => κ (Bool.rec (motive := fun _ => AV) x.2 (.tup [x.2, .bool (.lit true)]) ok) pc
 | none => optK (zeroA P e) 95 fun z => κ (Bool.rec (motive := fun _ => AV) z (.tup [z, .bool (.lit false)]) ok) pc
def lookA (T : TypeId) (h : Tr AObj) (x i : AV) (ok : Bool) (pc : PC) (κ : AV → PC → R) : R := optK (mapTyA P T) 96 fun p => keyOk p.1 i (match x with
 | .map id => mapK h id fun es _ => findK p.1 i es (nat_lit 0) pc (lkE P ok p.2 κ)
 | .raw (.map none) => lkE P ok p.2 κ none pc
 | _ => .fail 99)
def spanK (h : Tr AObj) (e : TypeId) (pc : PC) (id : Nat) (off len : SI) (κ : PC → R) : R := optK (h.get id) 443 fun o => match o with
 | .rope cs T r => readO (.rope cs T r) pc off len fun _ pc => κ pc
 | .cells n c d T r => Bool.rec (motive := fun _ => R) (.fail 444) (readO (.cells n c d T r) pc off len fun _ pc => κ pc) (Nat.beq T e && r)
 | _ => .fail 445
def posR (rg : List (Int × Int)) (e : SI) : Bool := opt1' (rngS rg e) false fun l _ => leF (.ofNat (nat_lit 1)) l
def sslE (pc : PC) (id : Nat) (o0 off off' len : SI) (κ : AV → PC → R) : R := Bool.rec (motive := fun _ => R) (Bool.rec (motive := fun _ => R) (leD pc (natS (nat_lit 1)) len fun b pc => κ (.ssl id (Bool.rec (motive := fun _ => SI) o0 off b) off' zeroS none) pc) (κ (.ssl id off off' zeroS none) pc) (posR pc.rg len)) (κ (.ssl id o0 off' zeroS none) pc) (isZ len)
def openL (rg : List (Int × Int)) (len l : SI) : Bool := posR rg len && notF (Option.rec (motive := fun _ => Bool) false (fun _ => true) (decR rg (.cmp .leq len l)))
def sslU (h : Tr AObj) (e : TypeId) (id : Nat) (o0 off len : SI) (pc : PC) (l hi : SI) (κ : AV → PC → R) : R := spanK h e pc id off len fun pc => ordK pc l hi len fun pc => Bool.rec (motive := fun _ => R)
 (plE pc off l fun off' => Bool.rec (motive := fun _ => R) (leD pc len l fun b pc => Bool.rec (motive := fun _ => R) (mnE pc hi l fun n => κ (.ssl id off off' n none) pc) (sslE pc id o0 off off' len κ) b) (mnE pc hi l fun n => κ (.ssl id off off' n none) pc) (openL pc.rg len l))
 (Bool.rec (motive := fun _ => R) (κ (.ssl id (Bool.rec (motive := fun _ => SI) o0 off (posR pc.rg len)) off hi none) pc) (κ (.ssl id o0 off zeroS none) pc) (isZ len)) (isZ l)
def sslC (id : Nat) (off c : SI) (pc : PC) (l h : SI) (κ : AV → PC → R) : R := ordK pc l h c fun pc => Bool.rec (motive := fun _ => R)
 (leD pc c l fun b pc => Bool.rec (motive := fun _ => R) (plE pc off l fun off' => mnE pc h l fun n => mnE pc c l fun m => κ (.ssl id off off' n (some m)) pc) (κ (.ssl id off off zeroS (some zeroS)) pc) b)
 (κ (.ssl id off off h (some c)) pc) (isZ l)
def sslM (h : Tr AObj) (e : TypeId) (id : Nat) (off len : SI) (pc : PC) (l hi m : SI) (κ : AV → PC → R) : R := Bool.rec (motive := fun _ => R) (.fail 424) (spanK h e pc id off len fun pc => Bool.rec (motive := fun _ => R) (ordK pc (natS (nat_lit 1)) hi len fun pc => κ (.ssl id off off hi (some hi)) pc) (κ (.ssl id off off zeroS (some zeroS)) pc) (isZ hi && posR pc.rg len)) (isZ l && SI.beq hi m)
def fslU (a : Nat) (o0 off len : SI) (pc : PC) (l h : SI) (κ : AV → PC → R) : R := plE pc off len fun e => leD pc e (.var a) fun b pc => Bool.rec (motive := fun _ => R) (.fail 425) (ordK pc l h len fun pc => Bool.rec (motive := fun _ => R)
 (leD pc (natS (nat_lit 1)) l fun b pc => Bool.rec (motive := fun _ => R) (.fail 426) (plE pc off l fun off' => mnE pc h l fun n => κ (.fsl a off off' n) pc) b)
 (κ (.fsl a o0 off h) pc) (isZ l)) (b && (Nat.ble (nat_lit 32) a && Nat.blt a (nat_lit 64)))
def hasB (o : Option AV) : Bool := Option.rec (motive := fun _ => Bool) false (fun _ => true) o
def sliceR (T : TypeId) (h : Tr AObj) (pc : PC) (x : AV) (lo hi0 mx : Option AV) (κ : AV → PC → R) : R := optK (ixOf P T) 427 fun d => match d with
 | .sli e s => Bool.rec (motive := fun _ => R) (.fail 428) (optS lo zeroS fun l => match x with
  | .ssl id o0 off len none => optS hi0 len fun hi => match mx with
   | none => sslU h e id o0 off len pc l hi κ
   | some m => Bool.rec (motive := fun _ => R) (.fail 446) (intV m (nat_lit 429) fun _ m => sslM h e id off len pc l hi m κ) (hasB hi0)
  | .ssl id o0 off len (some c) => optS hi0 len fun hi => match mx with
   | none => sslC id off c pc l hi κ
   | some m => .fail 430
  | .sl id off len none => optS hi0 (natS len) fun hi => match mx with
   | none => sslU h e id (natS off) (natS off) (natS len) pc l hi κ
   | some m => Bool.rec (motive := fun _ => R) (.fail 446) (intV m (nat_lit 429) fun _ m => sslM h e id (natS off) (natS len) pc l hi m κ) (hasB hi0)
  | .sl id off len (some c) => optS hi0 (natS len) fun hi => match mx with
   | none => sslC id (natS off) (natS c) pc l hi κ
   | some m => .fail 430
  | .fsl a o0 off len => optS hi0 len fun hi => match mx with
   | none => fslU a o0 off len pc l hi κ
   | some m => .fail 430
  | .osl p k c => optS hi0 zeroS fun hi => match mx with
   | none => Bool.rec (motive := fun _ => R) (.fail 447) (κ (.osl p k c) pc) (osl0 pc.rg (.osl p k c) && (nilR pc.rg l && nilR pc.rg hi))
   | some m => .fail 430
  | _ => .fail 431) (Nat.beq s (nat_lit 1))
 | _ => .fail 432
def isSym (x : AV) : Bool := match x with
 | .ssl _ _ _ _ _ => true
 | .fsl _ _ _ _ => true
 | .osl _ _ _ => true
 | _ => false
def sliceX (T : TypeId) (h : Tr AObj) (pc : PC) (x : AV) (lo hi mx : Option AV) (κ : AV → PC → R) : R := Bool.rec (motive := fun _ => R) (sliceR P T h pc x lo hi mx κ) (sliceA P T h x lo hi mx fun v => κ v pc) (notF (isSym x) && (litV lo && (litV hi && litV mx)))
def ixR (T : TypeId) (pc : PC) (x i : AV) (κ : AV → PC → R) : R := optK (ixOf P T) 433 fun d => match d with
 | .sli e s => match x with
  | .ssl id _ off len _ => asNat i fun i => litN off fun off => Bool.rec (motive := fun _ => R) (.fail 434) (leD pc (natS (Nat.succ i)) len fun b pc => Bool.rec (motive := fun _ => R) (.fail 435) (forceN (Nat.add off i) fun n => κ (.ptr id n) pc) b) (Nat.beq s (nat_lit 1))
  | _ => .fail 436
 | _ => .fail 437
def in01 (rg : List (Int × Int)) (e : SI) : Bool := match rngS rg e with
 | some (l, h) => beqF l (.ofNat (nat_lit 0)) && beqF h (.ofNat (nat_lit 1))
 | none => false
def ix01 (pc : PC) (i : AV) (κ : AV → PC → R) : R := match i with
 | .int k e => Bool.rec (motive := fun _ => R) (κ (.int k e) pc) (decK pc (.cmp .eql e (.lit (.ofNat (nat_lit 0)))) fun b pc => κ (.int k (.lit (Bool.rec (motive := fun _ => Int) (.ofNat (nat_lit 1)) (.ofNat (nat_lit 0)) b))) pc) (in01 pc.rg e)
 | i => κ i pc
def ixX (T : TypeId) (pc : PC) (x i : AV) (κ : AV → PC → R) : R := Bool.rec (motive := fun _ => R) (ix01 pc i fun i pc => ixAddr P T x i fun v => κ v pc) (ixR P T pc x i κ) (isSym x)
def lastN (l : List Nat) : Option Nat := List.rec (motive := fun _ => Option Nat) none (fun n r ih => match r with
 | [] => some n
 | _ => ih) l
def bornK (n : Nat) (es : List (AV × AV × Nat)) (κ : AV → R) : R := List.rec (motive := fun _ => R) (.fail 250) (fun e _ ih => Bool.rec (motive := fun _ => R) ih (κ (.tup [e.1, e.2.1])) (Nat.beq e.2.2 n)) es
def entI (h : Tr AObj) (κ : AV → R) (o : AObj) : R := match o with
 | .iter m _ seen last => optK m 251 fun i => optK (lastN seen) 252 fun n => mapK h i fun es c => Bool.rec (motive := fun _ => R) (.fail 253) (bornK n es κ) (Nat.beq c last)
 | _ => .fail 254
def entA (h : Tr AObj) (x : AV) (κ : AV → R) : R := ptrV x (nat_lit 255) fun id off => Bool.rec (motive := fun _ => R) (.fail 256) (optK (h.get id) 257 (entI h κ)) (Nat.beq off (nat_lit 0))
def ifaceA (T : TypeId) (x : AV) (κ : AV → R) : R := optK (P.underlying T) 210 fun d => match d with
 | .interface _ => .fail 211
 | _ => κ (.iface T x)
def asHit (ok : Bool) (v : AV) (κ : AV → R) : R := κ (Bool.rec (motive := fun _ => AV) v (.tup [v, .bool (.lit true)]) ok)
def asMiss (T : TypeId) (ok : Bool) (κ : AV → R) : R := Bool.rec (motive := fun _ => R) (.fail 212) (optK (zeroA P T) 213 fun z => κ (.tup [z, .bool (.lit false)])) ok
def isSomeF {α : Type} (o : Option α) : Bool := Option.rec (motive := fun _ => Bool) false (fun _ => true) o
def asTo (T : TypeId) (ok : Bool) (t : TypeId) (x v : AV) (κ : AV → R) (d : TypeDesc) : R := match d with
 | .interface want => optK (P.info? t) 214 fun i => Bool.rec (motive := fun _ => R) (asHit ok x κ) (asMiss P T ok κ) (isSomeF (Instr.missingMethod want i.methods))
 | _ => Bool.rec (motive := fun _ => R) (asMiss P T ok κ) (asHit ok v κ) (Nat.beq t T)
def assertA (x : AV) (T : TypeId) (ok : Bool) (κ : AV → R) : R := optK (P.underlying T) 215 fun d => match x with
 | .iface t v => asTo P T ok t (.iface t v) v κ d
 | .raw .nilIface => asMiss P T ok κ
 | _ => .fail 216
def methA (t : TypeId) (name : String) : Option FuncId := match P.info? t with
 | some i => match i.methods.find? (·.name == name) with
  | some m => match m.path.toList with
   | [] => match m.func with
    | some (f, pr) => match P.underlying t with
     | some (.pointer _) => Bool.rec (motive := fun _ => Option FuncId) none (some f) pr
     | some _ => Bool.rec (motive := fun _ => Option FuncId) (some f) none pr
     | none => none
    | none => none
   | _ => none
  | none => none
 | none => none
def methB (t : TypeId) (name : String) : Option (FuncId × TypeId × Nat) := match P.info? t with
 | some i => match i.methods.find? (·.name == name) with
  | some m => match m.path.toList with
   | [st] => match m.func with
    | some (f, true) => match fieldA P st.struct st.index with
     | some (_, ft) => match P.underlying ft with
      | some (.pointer _) => none
      | some _ => Bool.rec (motive := fun _ => Option (FuncId × TypeId × Nat)) none (some (f, st.struct, st.index)) st.deref
      | none => none
     | none => none
    | _ => none
   | _ => none
  | none => none
 | none => none
def isNilC (o : Operand) : Bool := match o with
 | .const .nilIface => true
 | _ => false
def nilI (x : AV) : Option Bool := match x with
 | .iface _ _ => some false
 | .raw .nilIface => some true
 | _ => none
def eqNil (op : BinOp) (T : TypeId) (x : AV) (κ : AV → R) : R := optK (P.underlying T) 260 fun d => match d with
 | .interface _ => optK (nilI x) 261 fun b => match op with
  | .eql => κ (.bool (.lit b))
  | .neq => κ (.bool (.lit (notF b)))
  | _ => .fail 262
 | _ => .fail 263
def isAggV (x : AV) : Bool := match x with
 | .agg _ => true
 | _ => false
def isEqOp (op : BinOp) : Bool := match op with
 | .eql | .neq => true
 | _ => false
def eqlB (op : BinOp) (b : Bool) : Bool := match op with
 | .eql => b
 | _ => notF b
def eqP (op : BinOp) (T : TypeId) (x y : AV) (pc : PC) (κ : AV → PC → R) : R := optK (flatT P T) 203 fun n => Bool.rec (motive := fun _ => R) (.fail 204) (aggV x (nat_lit 206) fun l => aggV y (nat_lit 206) fun m => Bool.rec (motive := fun _ => R) (.fail 207) (eqCells l m pc fun b pc => κ (.bool (.lit (eqlB op b))) pc) (Nat.beq (lenC l) n)) (notF (P.eqGuardType P.depth T))
abbrev binN (op : BinOp) (T : TypeId) (h : Tr AObj) (nl : Bool) (x y : AV) (κ : AV → R) : R := Bool.rec (motive := fun _ => R) (binA P op T h x y κ) (eqNil P op T x κ) nl
abbrev binM (op : BinOp) (T : TypeId) (h : Tr AObj) (nl : Bool) (x : AV) (pc : PC) (κ : AV → PC → R) (y : AV) : R := binN P op T h nl x y fun v => fitV pc.rg v fun v => κ v pc
def bopQ (op : BinOp) (T : TypeId) (h : Tr AObj) (nl : Bool) (x y : AV) (pc : PC) (κ : AV → PC → R) : R := Bool.rec (motive := fun _ => R) (Bool.rec (motive := fun _ => R) (binM P op T h nl x pc κ y) (litR pc.rg y (binM P op T h nl x pc κ)) (isShift op)) (eqP P op T x y pc κ) (isEqOp op && isAggV x)
abbrev qCall (h : Tr AObj) (t : Ts) (pc : PC) (κ : AV → PC → R) (c : Call) : R := match c.callee with
 | .builtin b => opds t c.args.toList fun l => bltQ P b c.argTypes h l pc κ
 | _ => .fail 80
abbrev evQ (h : Tr AObj) (t : Ts) (pc : PC) (op : Op) (κ : AV → PC → R) : R :=
 Op.rec (motive := fun _ => Program → Tr AObj → Ts → PC → (AV → PC → R) → R)
  (fun x P h t pc κ => opd t x fun v => κ v pc)
  (fun x P h t pc κ => opd t x fun v => κ v pc)
  (fun c a b P h t pc κ => opd t c fun c => opd t a fun a => opd t b fun b => asBoolA c fun c => decK pc c fun c pc => κ (Bool.rec (motive := fun _ => AV) b a c) pc)
  (fun _ _ _ _ _ _ => .fail 8103)
  (fun _ _ _ _ _ _ _ => .fail 8104)
  (fun T parts P h t pc κ => buildA P T t parts fun v => κ v pc)
  (fun _ _ _ _ _ _ _ _ => .fail 8106)
  (fun _ _ _ _ _ _ _ _ _ => .fail 8107)
  (fun T a P h t pc κ => opd t a fun v => loadA P h T v fun v => κ v pc)
  (fun _ _ _ _ _ _ _ _ => .fail 8109)
  (fun _ _ _ _ _ _ => .fail 8110)
  (fun _ _ _ _ _ _ => .fail 8111)
  (fun x P h t pc κ => opd t x fun v => nilA (fun v => κ v pc) v)
  (fun op T x oy _ P h t pc κ => opd t x fun x => opd t oy fun y => bopQ P op T h (isNilC oy) x y pc κ)
  (fun op _ x P h t pc κ => opd t x fun x => unA op x fun v => κ v pc)
  (fun src dst x P h t pc κ => opd t x fun x => convQ P src dst h x fun v => fitV pc.rg v fun v => κ v pc)
  (fun _ _ _ _ _ _ _ => .fail 8116)
  (fun T x P h t pc κ => opd t x fun x => ifaceA P T x fun v => κ v pc)
  (fun fn first captured P h t pc κ => opds t first.toList fun a => opds t captured.toList fun b => κ (.fn fn a b) pc)
  (fun _ _ _ _ _ _ _ => .fail 8119)
  (fun _ _ _ _ _ _ _ => .fail 8120)
  (fun _ _ _ _ _ _ _ _ => .fail 8121)
  (fun T x lo hi mx P h t pc κ => opd t x fun x => opds t lo.toList fun lo' => opds t hi.toList fun hi' => opds t mx.toList fun mx' => sliceX P T h pc x lo'.head? hi'.head? mx'.head? κ)
  (fun T x f P h t pc κ => opd t x fun x => fldAddr P T f x fun v => κ v pc)
  (fun T x f P h t pc κ => opd t x fun x => fldA P T f x fun v => κ v pc)
  (fun T x i P h t pc κ => opd t x fun x => opd t i fun i => litR pc.rg i fun i => ixX P T pc x i κ)
  (fun T x i P h t pc κ => opd t x fun x => opd t i fun i => litR pc.rg i fun i => ixA P T x i fun v => κ v pc)
  (fun T x i ok P h t pc κ => opd t x fun x => opd t i fun i => lookA P T h x i ok pc κ)
  (fun _ _ _ _ _ _ _ _ _ => .fail 8128)
  (fun _ _ _ _ _ _ _ _ => .fail 8129)
  (fun _ _ _ _ _ _ _ _ _ => .fail 8130)
  (fun _ _ _ _ _ _ _ => .fail 8131)
  (fun _ _ _ _ _ _ _ => .fail 8132)
  (fun x P h t pc κ => opd t x fun x => entA h x fun v => κ v pc)
  (fun x _ T ok P h t pc κ => opd t x fun x => assertA P x T ok fun v => κ v pc)
  (fun x n P h t pc κ => opd t x fun x => extA x n fun v => κ v pc)
  (fun c P h t pc κ => qCall P h t pc κ c)
  (fun _ _ _ _ _ _ => .fail 8137)
  (fun _ _ _ _ _ _ => .fail 8138)
  (fun _ _ _ _ _ _ => .fail 8139)
  (fun _ _ _ _ _ _ _ => .fail 8140)
  (fun _ _ _ _ _ _ _ _ => .fail 8141)
  (fun _ _ _ _ _ _ _ => .fail 8142)
  op P h t pc κ
end
end
end
end Go.Proofs.YtooebogidjejoaaGreat
namespace Go.Proofs.YtooebogidjejoaaGreat
open Go
noncomputable section
def setL (c : Tr AV) (off : Nat) (l : List AV) : Tr AV := List.rec (motive := fun _ => Nat → Tr AV → Tr AV) (fun _ c => c) (fun v _ ih off c => ih (Nat.succ off) (c.set off v)) l off c
def trOf (l : List AV) : Tr AV := setL .nil (nat_lit 0) l
def lenL (l : List AV) : Nat := List.rec (motive := fun _ => Nat) (nat_lit 0) (fun _ _ n => Nat.succ n) l
def allOne (l : List AV) : Bool := List.rec (motive := fun _ => Bool) true (fun v _ b => Bool.rec (motive := fun _ => Bool) false b (oneB v)) l
def newK (s : St) (n : Nat) (c : Tr AV) (d : Option AV) (T : TypeId) (row : Bool) (κ : Nat → St → R) : R := St.rec (motive := fun _ => R) (fun hp nx pc => forceN nx fun nx => κ nx ⟨hp.set nx (.cells n c d T row), Nat.succ nx, pc⟩) s
def newL (s : St) (l : List AV) (T : TypeId) (row : Bool) (κ : Nat → St → R) : R := Bool.rec (motive := fun _ => R) (.fail 100) (forceN (lenL l) fun n => newK s n (trOf l) none T row κ) (allOne l)
def stP (s : St) (id off : Nat) (l : List AV) (κ : St → R) (n : Nat) (c : Tr AV) (d : Option AV) (T : TypeId) (r : Bool) : R :=
 Bool.rec (motive := fun _ => R) (.fail 101) (Bool.rec (motive := fun _ => R) (.fail 102) (St.rec (motive := fun _ => R) (fun hp nx pc => κ ⟨hp.set id (.cells n (setL c off l) d T r), nx, pc⟩) s) (Nat.ble (Nat.add off (lenL l)) n)) (allOne l)
def storeL (s : St) (id off : Nat) (l : List AV) (κ : St → R) : R := objK s.hp id (stP s id off l κ)
section
variable (P : Program)
def sizeK (T : TypeId) (l : List AV) (κ : R) : R := optK (sizeA P T) 103 fun n => Bool.rec (motive := fun _ => R) (.fail 104) κ (Nat.beq (lenL l) n)
def storeA (T : TypeId) (s : St) (a v : AV) (κ : St → R) : R := ptrV a (nat_lit 106) fun id off => cellsK (.fail 105) v fun l => sizeK P T l (storeL s id off l κ)
def ptr0 (κ : AV → St → R) (id : Nat) (s : St) : R := κ (.ptr id (nat_lit 0)) s
def allocA (T : TypeId) (s : St) (κ : AV → St → R) : R := optK (zeroA P T) 107 fun z => cellsK (.fail 108) z fun l => newL s l T false (ptr0 κ)
def boxA (T : TypeId) (v : AV) (s : St) (κ : AV → St → R) : R := cellsK (.fail 109) v fun l => newL s l T false (ptr0 κ)
def repL (z : List AV) (n : Nat) : List AV := Nat.rec (motive := fun _ => List AV) [] (fun _ r => z ++ r) n
def buildS (T : TypeId) (len : Nat) (t : Ts) (parts : Array (Nat × Operand)) (s : St) (κ : AV → St → R) : R := optK (ixOf P T) 110 fun d => match d with
 | .sli e sz => Bool.rec (motive := fun _ => R) (.fail 111) (optK (zeroA P e) 112 fun z => cellsK (.fail 113) z fun z => opdParts t parts.toList fun ps =>
   Bool.rec (motive := fun _ => R) (.fail 114) (fillA (fun i => some (i * sz, sz)) ps (repL z len) fun l => newL s l e false fun id s => κ (.sl id (nat_lit 0) len (some len)) s) (Nat.beq (lenL z) sz)) (Nat.ble (Nat.mul len sz) (nat_lit 16777216) && !(Nat.beq sz (nat_lit 0)))
 | _ => .fail 115
def bytesA (T : TypeId) : Option Nat := (P.info? T).map fun i => i.bytes
def makeS (T : TypeId) (l c : AV) (s : St) (κ : AV → St → R) : R := asNat l fun l => asNat c fun c => optK (ixOf P T) 116 fun d => match d with
 | .sli e sz => optK (bytesA P e) 117 fun by_ => Bool.rec (motive := fun _ => R) (.fail 118) (optK (zeroA P e) 119 fun z => cellsK (.fail 120) z fun z => match z with
   | [v] => Bool.rec (motive := fun _ => R) (.fail 121) (newK s c .nil (some v) e false fun id s => κ (.sl id (nat_lit 0) l (some c)) s) (oneB v && Nat.beq sz (nat_lit 1))
   | z => Bool.rec (motive := fun _ => R) (.fail 122) (newL s (repL z c) e false fun id s => κ (.sl id (nat_lit 0) l (some c)) s) (Nat.beq (lenL z) sz && !(Nat.beq sz (nat_lit 0)))) (Nat.ble l c && (Nat.ble (Nat.mul by_ c) (nat_lit 281474976710656) && Nat.ble c (nat_lit 9223372036854775807)))
 | _ => .fail 123
def firstK (h : Tr AObj) (s n : Nat) (x : AV) (κ : List AV → R) : R := match x with
 | .sl id off _ _ => objK h id fun m c d _ _ => Bool.rec (motive := fun _ => R) (.fail 124) (ldN c d off (Nat.mul n s) κ) (Nat.ble (Nat.add off (Nat.mul n s)) m)
 | .emp _ _ _ => Bool.rec (motive := fun _ => R) (.fail 124) (κ []) (Nat.beq n (nat_lit 0))
 | .em0 _ _ _ => Bool.rec (motive := fun _ => R) (.fail 124) (κ []) (Nat.beq n (nat_lit 0))
 | .raw (.slice none _ _) => Bool.rec (motive := fun _ => R) (.fail 124) (κ []) (Nat.beq n (nat_lit 0))
 | .raw (.string b) => Bool.rec (motive := fun _ => R) (.fail 124) (κ ((b.data.toList.take n).map fun x => .int .u8 (.lit (.ofNat x.toNat)))) (Nat.beq s (nat_lit 1))
 | _ => .fail 125
def lenOfK (x : AV) (κ : Nat → R) : R := match x with
 | .sl _ _ len _ => κ len
 | .emp _ _ _ => κ (nat_lit 0)
 | .em0 _ _ _ => κ (nat_lit 0)
 | .raw (.slice _ n _) => κ n
 | .raw (.string b) => κ b.size
 | _ => .fail 126
def copyD (s : St) (d : AV) (n : Nat) (κ : AV → St → R) (l : List AV) : R := match d with
 | .sl id off _ _ => storeL s id off l fun s => κ (.int .i64 (.lit (.ofNat n))) s
 | .emp _ _ _ => κ (.int .i64 (.lit (.ofNat n))) s
 | .em0 _ _ _ => κ (.int .i64 (.lit (.ofNat n))) s
 | .raw (.slice none _ _) => κ (.int .i64 (.lit (.ofNat n))) s
 | _ => .fail 128
def isNilT (c : Tr AV) : Bool := Tr.rec (motive := fun _ => Bool) true (fun _ _ _ _ _ => false) c
def litU (v : Option AV) : Option Int := match v with
 | some (.int .u8 (.lit n)) => some n
 | _ => none
def eqU (a b : Option Int) : Bool := match a with
 | some x => match b with
  | some y => beqF x y
  | none => false
 | none => false
def same0 (s : St) (d x : AV) (n : Nat) (no yes : R) : R := match d with
 | .sl j o _ _ => match x with
  | .sl i q _ _ => objK s.hp j fun m c e _ _ => objK s.hp i fun m' c' e' _ _ => Bool.rec (motive := fun _ => R) no (Bool.rec (motive := fun _ => R) no yes (Nat.ble (Nat.add o n) m && Nat.ble (Nat.add q n) m')) (isNilT c && (isNilT c' && eqU (litU e) (litU e')))
  | _ => no
 | _ => no
def copyG (sz n : Nat) (s : St) (d x : AV) (κ : AV → St → R) : R := firstK s.hp sz n x (copyD s d n κ)
def copyA (T : TypeId) (s : St) (d x : AV) (κ : AV → St → R) : R := optK (ixOf P T) 127 fun t => match t with
 | .sli e sz => lenOfK x fun m => lenOfK d fun dl => forceN (minF m dl) fun n => Bool.rec (motive := fun _ => R) (copyG sz n s d x κ) (same0 s d x n (copyG sz n s d x κ) (κ (.int .i64 (.lit (.ofNat n))) s)) (Nat.beq sz (nat_lit 1))
 | _ => .fail 129
def killS (s : St) (id : Nat) : St := St.rec (motive := fun _ => St) (fun hp nx pc => ⟨hp.set id .dead, nx, pc⟩) s
def growOk (e : TypeId) (sz need : Nat) : Bool := match bytesA P e with
 | some by_ => match zeroA P e with
  | some z => cellsK false z fun zl => Nat.beq (lenL zl) sz && (!(Nat.beq by_ (nat_lit 0)) && (Nat.blt (nat_lit 0) sz && (Nat.ble (Nat.mul (Nat.add (Nat.mul (nat_lit 2) need) (nat_lit 1000)) by_) (nat_lit 281474976710656))))
  | none => false
 | none => false
def growK (s : St) (e : TypeId) (sz need : Nat) (old new : List AV) (κ : AV → St → R) : R := Bool.rec (motive := fun _ => R) (.fail 127) (newL s (old ++ new) e true fun id s => κ (.sl id (nat_lit 0) need none) s) (growOk P e sz need)
def appC (e : TypeId) (sz n : Nat) (s : St) (κ : AV → St → R) (l : List AV) (id off len c : Nat) : R := forceN (Nat.add len n) fun m => Bool.rec (motive := fun _ => R)
 (firstK s.hp sz len (.sl id off len (some c)) fun old => growK P s e sz m old l κ)
 (storeL s id (Nat.add off (Nat.mul len sz)) l fun s => κ (.sl id off m (some c)) s) (Nat.ble m c)
def growT (s : St) (id : Nat) (e : TypeId) (sz m k : Nat) (c : Tr AV) (d : Option AV) (l : List AV) (κ : AV → St → R) : R := Bool.rec (motive := fun _ => R) (.fail 127) (forceN (Nat.add k (lenL l)) fun n => newK (killS s id) n (setL c k l) d e true fun id s => κ (.sl id (nat_lit 0) m none) s) (growOk P e sz m && allOne l)
def appU (e : TypeId) (sz n : Nat) (s : St) (κ : AV → St → R) (l : List AV) (id off len : Nat) : R := forceN (Nat.add len n) fun m => objK s.hp id fun k c d T r => Bool.rec (motive := fun _ => R) (.fail 128)
 (Bool.rec (motive := fun _ => R)
  (Bool.rec (motive := fun _ => R) (.fail 130) (storeL s id (Nat.add off (Nat.mul len sz)) l fun s => κ (.sl id off m none) s) (Nat.ble (Nat.add off (Nat.mul m sz)) k))
  (Bool.rec (motive := fun _ => R) (firstK s.hp sz len (.sl id off len none) fun old => growK P (killS s id) e sz m old l κ) (growT P s id e sz m k c d l κ) (Nat.beq off (nat_lit 0))) (Nat.beq (Nat.add off (Nat.mul len sz)) k)) (Nat.beq T e && r)
def appE (e : TypeId) (sz n : Nat) (s : St) (κ : AV → St → R) (l : List AV) (id off : Nat) : R := objK s.hp id fun k _ _ T r => Bool.rec (motive := fun _ => R) (.fail 131) (growK P (killS s id) e sz n [] l κ) (Nat.ble k off && (Nat.beq T e && r))
def appK (e : TypeId) (sz n : Nat) (s : St) (x : AV) (κ : AV → St → R) (l : List AV) : R := match x with
 | .raw (.slice none 0 0) => Bool.rec (motive := fun _ => R) (growK P s e sz n [] l κ) (κ x s) (Nat.beq n (nat_lit 0))
 | .sl id off len (some c) => appC P e sz n s κ l id off len c
 | .sl id off len none => appU P e sz n s κ l id off len
 | .emp id _ off => Bool.rec (motive := fun _ => R) (appE P e sz n s κ l id off) (κ x s) (Nat.beq n (nat_lit 0))
 | .em0 id off0 off => Bool.rec (motive := fun _ => R) (growK P s e sz n [] l κ) (κ x s) (Nat.beq n (nat_lit 0))
 | _ => .fail 132
def notIntT (T : Option TypeId) : Bool := match T with
 | some T => match P.underlying T with
  | some (.int _) => false
  | some _ => true
  | none => false
 | none => false
def shK (e : TypeId) (sz n : Nat) (s : St) (κ : AV → St → R) (id : Nat) : R := objK s.hp id fun k c d _ _ => Bool.rec (motive := fun _ => R) (.fail 124) (Bool.rec (motive := fun _ => R) (.fail 127) (forceN (Nat.mul n sz) fun m => newK s m c d e true fun id s => κ (.sl id (nat_lit 0) n none) s) (growOk P e sz n)) (Nat.ble (Nat.mul n sz) k)
def appG (e : TypeId) (sz n : Nat) (s : St) (x y : AV) (κ : AV → St → R) : R := firstK s.hp sz n y (appK P e sz n s x κ)
def appN (e : TypeId) (sz n : Nat) (s : St) (x y : AV) (κ : AV → St → R) : R := match x with
 | .raw (.slice none 0 0) => match y with
  | .sl id off len cap => Bool.rec (motive := fun _ => R) (appG P e sz n s (.raw (.slice none 0 0)) (.sl id off len cap) κ) (shK P e sz n s κ id) (Nat.beq off (nat_lit 0) && notF (Nat.beq n (nat_lit 0)))
  | y => appG P e sz n s (.raw (.slice none 0 0)) y κ
 | x => appG P e sz n s x y κ
def appA (Ts : Array TypeId) (s : St) (x y : AV) (κ : AV → St → R) : R := optK (Ts[0]?) 133 fun T => optK (ixOf P T) 134 fun t => match t with
 | .sli e sz => Bool.rec (motive := fun _ => R) (.fail 135) (lenOfK y fun n => appN P e sz n s x y κ) (notIntT P (Ts[1]?))
 | _ => .fail 138
def newP (s : St) (o : AObj) (κ : Nat → St → R) : R := St.rec (motive := fun _ => R) (fun hp nx pc => forceN nx fun nx => κ nx ⟨hp.set nx o, Nat.succ nx, pc⟩) s
def isU8 (e : TypeId) : Bool := match intOfT P e with
 | some .u8 => true
 | _ => false
def zeroU (e : TypeId) : Bool := match zeroA P e with
 | some (.int .u8 (.lit (.ofNat 0))) => true
 | _ => false
def oneU (e : TypeId) : Bool := match bytesA P e with
 | some 1 => true
 | _ => false
def byteT (e sz : TypeId) : Bool := isU8 P e && (Nat.beq sz (nat_lit 1) && (oneU P e && zeroU P e))
def ltB (rg : List (Int × Int)) (e : SI) : Bool := opt1' (rngS rg e) false fun l h => pos0 l && leF h (.ofNat (nat_lit 1099511627776))
def makeR (T : TypeId) (l c : AV) (s : St) (κ : AV → St → R) : R := intV l (nat_lit 450) fun _ l => intV c (nat_lit 450) fun _ c => optK (ixOf P T) 451 fun d => match d with
 | .sli e sz => Bool.rec (motive := fun _ => R) (.fail 452) (newP s (.rope [.fil l zeroS] e false) fun id s => κ (.ssl id zeroS zeroS l (some l)) s) (SI.beq l c && (ltB s.pc.rg l && byteT P e sz))
 | _ => .fail 453
def makeX (T : TypeId) (l c : AV) (s : St) (κ : AV → St → R) : R := Bool.rec (motive := fun _ => R) (makeR P T l c s κ) (makeS P T l c s κ) (litV (some l) && litV (some c))
def appCh (a : List Ch) : List Ch → (List Ch → R) → R := List.rec (motive := fun _ => List Ch → (List Ch → R) → R) (fun b κ => κ b) (fun c _ ih b κ => ih b fun r => κ (c :: r)) a
def wrtC (s : St) (pc : PC) (id : Nat) (off n : SI) (cs ws : List Ch) (T : TypeId) (r : Bool) (κ : St → R) : R := takeR ws off pc fun a pc => plE pc off n fun e => dropR ws e pc fun b pc => appCh cs b fun cb => appCh a cb fun all => κ ⟨s.hp.set id (.rope all T r), s.nx, pc⟩
def one1 (T : TypeId) (r : Bool) : Bool := Bool.rec (motive := fun _ => Bool) true (match sizeA P T with | some n => Nat.beq n (nat_lit 1) | none => false) r
def wrtR (s : St) (pc : PC) (id : Nat) (off n : SI) (cs : List Ch) (κ : St → R) : R := optK (s.hp.get id) 454 fun o => match o with
 | .rope ws T r => wrtC s pc id off n cs ws T r κ
 | .cells m c d T r => Bool.rec (motive := fun _ => R) (.fail 455) (cellR c d (nat_lit 0) m fun ws => wrtC s pc id off n cs ws T r κ) (one1 P T r)
 | _ => .fail 456
def avsB (l : List SI) : List AV := List.rec (motive := fun _ => List AV) [] (fun e _ r => .int .u8 e :: r) l
def appSI (a : List SI) : List SI → (List SI → R) → R := List.rec (motive := fun _ => List SI → (List SI → R) → R) (fun b κ => κ b) (fun c _ ih b κ => ih b fun r => κ (c :: r)) a
def bsOf (cs : List Ch) (no : R) : (List SI → R) → R := List.rec (motive := fun _ => (List SI → R) → R) (fun κ => κ []) (fun c _ ih κ => Ch.rec (motive := fun _ => R) (fun l => ih fun r => appSI l r κ) (fun _ _ => no) (fun _ _ _ => no) c) cs
def wrtL (s : St) (pc : PC) (id off : Nat) (n : SI) (cs : List Ch) (κ : St → R) : R := bsOf cs (wrtR P s pc id (natS off) n cs κ) fun l => Bool.rec (motive := fun _ => R) (storeL ⟨s.hp, s.nx, pc⟩ id off (avsB l) κ) (wrtR P s pc id (natS off) n cs κ) (isRope (s.hp.get id))
def copyW (s : St) (pc : PC) (d x : AV) (n : SI) (κ : AV → St → R) : R := readR s.hp pc x fun cs pc => takeR cs n pc fun cs pc => match d with
 | .sl id off _ _ => wrtL P s pc id off n cs fun s => κ (.int .i64 n) s
 | .ssl id _ off _ _ => wrtR P s pc id off n cs fun s => κ (.int .i64 n) s
 | _ => .fail 457
def copyN (s : St) (pc : PC) (d x : AV) (n : SI) (κ : AV → St → R) : R := Bool.rec (motive := fun _ => R) (copyW P s pc d x n κ) (κ (.int .i64 zeroS) ⟨s.hp, s.nx, pc⟩) (isZ n)
def copyR (T : TypeId) (s : St) (d x : AV) (κ : AV → St → R) : R := optK (ixOf P T) 458 fun t => match t with
 | .sli e sz => Bool.rec (motive := fun _ => R) (.fail 459) (lenS s.pc x fun lx => lenS s.pc d fun ld => leD s.pc lx ld fun b pc => copyN P s pc d x (Bool.rec (motive := fun _ => SI) ld lx b) κ) (Nat.beq sz (nat_lit 1))
 | _ => .fail 460
def copyX (T : TypeId) (s : St) (d x : AV) (κ : AV → St → R) : R := Bool.rec (motive := fun _ => R) (copyA P T s d x κ) (copyR P T s d x κ) (ropy s.hp d || (ropy s.hp x || (isOsl d || isOsl x)))
def totR (cs : List Ch) (pc : PC) : (SI → R) → R := List.rec (motive := fun _ => (SI → R) → R) (fun κ => κ zeroS) (fun c _ ih κ => lenH c fun m => ih fun t => plE pc m t κ) cs
def growR (s : St) (e : TypeId) (m : SI) (cs : List Ch) (κ : AV → St → R) : R := Bool.rec (motive := fun _ => R) (.fail 461) (newP s (.rope cs e true) fun id s => κ (.ssl id zeroS zeroS m none) s) (ltB s.pc.rg m)
def growX (s : St) (e : TypeId) (m : SI) (cs : List Ch) (κ : AV → St → R) : R := bsOf cs (growR s e m cs κ) fun l => forceN (lenSI l) fun n => Bool.rec (motive := fun _ => R) (growR s e m cs κ) (growK P s e (nat_lit 1) n [] (avsB l) κ) (SI.beq m (natS n))
def endK (o : AObj) (e : TypeId) (pc : PC) (off len : SI) (κ : PC → R) : R := match o with
 | .rope cs T r => Bool.rec (motive := fun _ => R) (.fail 463) (totR cs pc fun t => plE pc off len fun q => leD pc t q fun b pc => Bool.rec (motive := fun _ => R) (.fail 464) (κ pc) b) (Nat.beq T e && r)
 | .cells n c d T r => Bool.rec (motive := fun _ => R) (.fail 463) (plE pc off len fun q => leD pc (natS n) q fun b pc => Bool.rec (motive := fun _ => R) (.fail 464) (κ pc) b) (Nat.beq T e && r)
 | _ => .fail 465
def appT (e : TypeId) (s : St) (pc : PC) (id : Nat) (off len ny : SI) (cy : List Ch) (κ : AV → St → R) : R := optK (s.hp.get id) 462 fun o => endK o e pc off len fun pc => readO o pc off len fun cx pc => plE pc len ny fun m => appCh cx cy fun cs => growX P (killS ⟨s.hp, s.nx, pc⟩ id) e m cs κ
def appW (e : TypeId) (s : St) (pc : PC) (x : AV) (ny : SI) (cy : List Ch) (κ : AV → St → R) : R := match x with
 | .raw (.slice none 0 0) => growX P ⟨s.hp, s.nx, pc⟩ e ny cy κ
 | .sl id off 0 (some 0) => growX P ⟨s.hp, s.nx, pc⟩ e ny cy κ
 | .sl id off len none => appT P e s pc id (natS off) (natS len) ny cy κ
 | .ssl id _ off len none => Bool.rec (motive := fun _ => R) (appT P e s pc id off len ny cy κ) (.fail 466) (isZ len)
 | _ => .fail 467
def zeroX (e : TypeId) (s : St) (pc : PC) (x : AV) (κ : AV → St → R) : R := match x with
 | .ssl id o0 off len none => spanK s.hp e pc id off len fun pc => κ (.ssl id o0 off len none) ⟨s.hp, s.nx, pc⟩
 | .sl id off len none => spanK s.hp e pc id (natS off) (natS len) fun pc => κ (.sl id off len none) ⟨s.hp, s.nx, pc⟩
 | x => Bool.rec (motive := fun _ => R) (.fail 472) (κ x ⟨s.hp, s.nx, pc⟩) (isSlV x)
def posL (rg : List (Int × Int)) (x : AV) : Bool := match x with
 | .sl _ _ len none => Nat.ble (nat_lit 1) len
 | .ssl _ _ _ len none => opt1' (rngS rg len) false fun l _ => leF (.ofNat (nat_lit 1)) l
 | _ => false
def openB (rg : List (Int × Int)) (x : AV) (ny : SI) : Bool := posL rg x && notF (isSomeF (decR rg (.cmp .leq ny zeroS)))
def appZ (e : TypeId) (s : St) (pc : PC) (x : AV) (ny : SI) (cy : List Ch) (κ : AV → St → R) : R := match x with
 | .sl id off len none => appT P e s pc id (natS off) (natS len) ny cy κ
 | .ssl id _ off len none => appT P e s pc id off len ny cy κ
 | _ => .fail 479
def appR (Ts : Array TypeId) (s : St) (x y : AV) (κ : AV → St → R) : R := optK (Ts[0]?) 468 fun T => optK (ixOf P T) 469 fun t => match t with
 | .sli e sz => Bool.rec (motive := fun _ => R) (.fail 470) (readR s.hp s.pc y fun cy pc => lenS pc y fun ny => Bool.rec (motive := fun _ => R) (leD pc ny zeroS fun b pc => Bool.rec (motive := fun _ => R) (appW P e s pc x ny cy κ) (zeroX e s pc x κ) b) (appZ P e s pc x ny cy κ) (openB pc.rg x ny)) (notIntT P (Ts[1]?) && byteT P e sz)
 | _ => .fail 471
def app0K (e sz : TypeId) (s : St) (x : AV) (κ : AV → St → R) : R := match x with
 | .sl id off len none => objK s.hp id fun k c d T r => Bool.rec (motive := fun _ => R) (.fail 473) (κ (.sl id off len none) s) (Nat.beq T e && (r && Nat.ble (Nat.add off (Nat.mul len sz)) k))
 | x => Bool.rec (motive := fun _ => R) (.fail 474) (κ x s) (isSlV x)
def app0 (Ts : Array TypeId) (s : St) (x : AV) (κ : AV → St → R) : R := optK (Ts[0]?) 475 fun T => optK (ixOf P T) 476 fun t => match t with
 | .sli e sz => Bool.rec (motive := fun _ => R) (.fail 477) (app0K e sz s x κ) (notIntT P (Ts[1]?))
 | _ => .fail 478
def nil0 (y : AV) : Bool := match y with
 | .raw (.slice none 0 0) => true
 | _ => false
def slX (x : AV) : Bool := match x with
 | .sl _ _ _ _ => true
 | _ => false
def intTy (T : Option TypeId) : Bool := match T with
 | some T => match P.underlying T with
  | some (.int _) => true
  | _ => false
 | none => false
def mkOk (rg : List (Int × Int)) (e : SI) : Bool := opt1' (rngS rg e) false fun l h => leF (.ofNat (nat_lit 1)) l && leF h (.ofNat (nat_lit 1099511627776))
def appI (Ts : Array TypeId) (s : St) (x y : AV) (κ : AV → St → R) : R := optK (Ts[0]?) 480 fun T => optK (ixOf P T) 481 fun t => match t with
 | .sli e sz => match y with
  | .int _ n => Bool.rec (motive := fun _ => R) (.fail 482) (appW P e s s.pc x n [.fil n zeroS] κ) (intTy P (Ts[1]?) && (byteT P e sz && mkOk s.pc.rg n))
  | _ => .fail 483
 | _ => .fail 481
def appX (Ts : Array TypeId) (s : St) (x y : AV) (κ : AV → St → R) : R := Bool.rec (motive := fun _ => R) (Bool.rec (motive := fun _ => R) (Bool.rec (motive := fun _ => R) (appA P Ts s x y κ) (appR P Ts s x y κ) (ropy s.hp x || ropy s.hp y)) (app0 P Ts s x κ) (osl0 s.pc.rg y || (nil0 y && slX x))) (appI P Ts s x y κ) (intTy P (Ts[1]?))
def bytesL (b : ByteArray) : List AV := b.data.toList.map fun x => .int .u8 (.lit (.ofNat x.toNat))
def strBytes (src T : TypeId) (x : AV) (s : St) (κ : AV → St → R) : R := match P.underlying src with
 | some .string => optK (ixOf P T) 139 fun t => match t with
  | .sli e sz => Bool.rec (motive := fun _ => R) (.fail 140) (match x with
    | .raw (.string b) => forceN b.size fun n => newL s (bytesL b) e true fun id s => κ (.sl id (nat_lit 0) n none) s
    | _ => .fail 141) ((match intOfT P e with | some .u8 => true | _ => false) && Nat.beq sz (nat_lit 1))
  | _ => .fail 142
 | _ => .fail 155
def markK (src dst : TypeId) (s : St) (κ : AV → St → R) (id off len : Nat) (cap : Option Nat) : R := optK (ixOf P dst) 190 fun t => match t with
 | .sli e sz => optK (P.underlying src) 193 fun _ => objK s.hp id fun n c d T r => Bool.rec (motive := fun _ => R) (.fail 191) (κ (.sl id off len cap) ⟨s.hp.set id (.cells n c d T true), s.nx, s.pc⟩)
   (Nat.beq src dst && ((match intOfT P e with | some .u8 => true | _ => false) && (notF r && (match sizeA P T with | some m => Nat.beq m (nat_lit 1) | none => false))))
 | _ => .fail 192
def convE (src dst : TypeId) (x : AV) (s : St) (κ : AV → St → R) : R := match x with
 | .sl id off len cap => markK P src dst s κ id off len cap
 | x => strBytes P src dst x s κ
def mapNew (s : St) (κ : AV → St → R) : R := match s with
 | .mk hp nx pc => forceN nx fun nx => κ (.map nx) ⟨hp.set nx (.map [] (nat_lit 0)), Nat.succ nx, pc⟩
def modL (es : List (AV × AV × Nat)) (i : Nat) (v : AV) : List (AV × AV × Nat) := es.modify i fun e => (e.1, v, e.2.2)
def putM (id : Nat) (es : List (AV × AV × Nat)) (c : Nat) (s : St) (pc : PC) (κ : St → R) : R := κ ⟨s.hp.set id (.map es c), s.nx, pc⟩
def setE (id : Nat) (k v : AV) (es : List (AV × AV × Nat)) (c : Nat) (s : St) (κ : St → R) (r : Option (Nat × AV)) (pc : PC) : R := match r with
 | some x => putM id (modL es x.1 v) c s pc κ
 | none => putM id (es ++ [(k, v, c)]) (Nat.succ c) s pc κ
def mapSet (T : TypeId) (s : St) (m k v : AV) (κ : St → R) : R := optK (mapTyA P T) 143 fun p => keyOk p.1 k (match m with
 | .map id => mapK s.hp id fun es c => findK p.1 k es (nat_lit 0) s.pc (setE id k v es c s κ)
 | _ => .fail 145)
def cutL (es : List (AV × AV × Nat)) : Nat → List (AV × AV × Nat) := List.rec (motive := fun _ => Nat → List (AV × AV × Nat)) (fun _ => []) (fun e es ih i => Nat.rec (motive := fun _ => List (AV × AV × Nat)) es (fun i _ => e :: ih i) i) es
def delE (id : Nat) (es : List (AV × AV × Nat)) (c : Nat) (s : St) (κ : St → R) (r : Option (Nat × AV)) (pc : PC) : R := match r with
 | some x => putM id (cutL es x.1) c s pc κ
 | none => putM id es c s pc κ
def mapDel (T : TypeId) (s : St) (m k : AV) (κ : AV → St → R) : R := optK (mapTyA P T) 220 fun p => keyOk p.1 k (match m with
 | .map id => mapK s.hp id fun es c => findK p.1 k es (nat_lit 0) s.pc (delE id es c s (κ (.tup [])))
 | .raw (.map none) => κ (.tup []) s
 | _ => .fail 221)
def clearA (T : TypeId) (s : St) (x : AV) (κ : AV → St → R) : R := optK (P.underlying T) 222 fun d => match d with
 | .slice e => match x with
  | .raw (.slice none _ _) => κ (.tup []) s
  | .emp _ _ _ => κ (.tup []) s
  | .em0 _ _ _ => κ (.tup []) s
  | .sl id off len _ => Bool.rec (motive := fun _ => R) (optK (zeroA P e) 223 fun z => cellsK (.fail 224) z fun z => storeL s id off (repL z len) (κ (.tup []))) (κ (.tup []) s) (Nat.beq len (nat_lit 0))
  | _ => .fail 225
 | _ => .fail 226
def newO (s : St) (o : AObj) (κ : Nat → St → R) : R := St.rec (motive := fun _ => R) (fun hp nx pc => forceN nx fun nx => κ nx ⟨hp.set nx o, Nat.succ nx, pc⟩) s
def rangeA (T : TypeId) (s : St) (x : AV) (κ : AV → St → R) : R := optK (P.underlying T) 230 fun d => match d with
 | .map _ _ => match x with
  | .map id => mapK s.hp id fun _ c => newO s (.iter (some id) c [] c) (ptr0 κ)
  | .raw (.map none) => newO s (.iter none (nat_lit 0) [] (nat_lit 0)) (ptr0 κ)
  | _ => .fail 231
 | _ => .fail 232
def memN (n : Nat) (l : List Nat) : Bool := List.rec (motive := fun _ => Bool) false (fun m _ b => Bool.rec (motive := fun _ => Bool) b true (Nat.beq m n)) l
def leftL (seen : List Nat) (es : List (AV × AV × Nat)) : List (AV × AV × Nat) := List.rec (motive := fun _ => List (AV × AV × Nat)) [] (fun e _ ih => Bool.rec (motive := fun _ => List (AV × AV × Nat)) (e :: ih) ih (memN e.2.2 seen)) es
def allLate (last : Nat) (es : List (AV × AV × Nat)) : Bool := List.rec (motive := fun _ => Bool) true (fun e _ ih => Nat.ble last e.2.2 && ih) es
def goneB (seen : List Nat) (last : Nat) (es : List (AV × AV × Nat)) : Bool := match seen with
 | [] => false
 | _ => match es with
  | [] => false
  | es => allLate last es
def overK (κ : AV → R) : R := κ (.tup [.bool (.lit false)])
def nextE (id i since : Nat) (seen : List Nat) (clk : Nat) (s : St) (κ : AV → St → R) (l : List (AV × AV × Nat)) : R := match l with
 | [] => overK fun v => κ v s
 | [e] => Bool.rec (motive := fun _ => R) (.fail 233) (κ (.tup [.bool (.lit true), e.1, e.2.1]) ⟨s.hp.set id (.iter (some i) since (seen ++ [e.2.2]) clk), s.nx, s.pc⟩) (Nat.blt e.2.2 since)
 | _ => .fail 234
def nextI (id : Nat) (s : St) (κ : AV → St → R) (o : AObj) : R := match o with
 | .iter m since seen last => match m with
  | none => overK fun v => κ v s
  | some i => mapK s.hp i fun es c => Bool.rec (motive := fun _ => R) (nextE id i since seen c s κ (leftL seen es)) (.fail 235) (goneB seen last es)
 | _ => .fail 236
def nextA (isStr : Bool) (s : St) (x : AV) (κ : AV → St → R) : R := ptrV x (nat_lit 237) fun id off => Bool.rec (motive := fun _ => R) (.fail 238) (optK (s.hp.get id) 239 (nextI id s κ)) (notF isStr && Nat.beq off (nat_lit 0))
abbrev CallT := FuncId → List AV → St → (AV → St → R) → R
def fnG (f : Fn) : (FuncId → R) → R := match f with
 | .func g => fun κ => κ g
 | _ => fun _ => .fail 150
def fnV (v : AV) : (FuncId → List AV → List AV → R) → R := AV.rec (motive_1 := fun _ => (FuncId → List AV → List AV → R) → R) (motive_2 := fun _ => Unit) (fun _ _ => fun _ => .fail 150) (fun _ => fun _ => .fail 150) (fun _ _ => fun _ => .fail 150) (fun _ _ _ _ => fun _ => .fail 150) (fun _ _ _ => fun _ => .fail 150) (fun _ => fun _ => .fail 150) (fun f a b _ _ κ => fnG f fun g => κ g a b) (fun _ _ _ => fun _ => .fail 150) (fun _ _ => fun _ => .fail 150) (fun _ _ => fun _ => .fail 150) (fun _ => fun _ => .fail 150) (fun _ => fun _ => .fail 150) (fun _ _ _ => fun _ => .fail 150) (fun _ _ _ _ _ _ => fun _ => .fail 150) (fun _ _ _ => fun _ => .fail 150) (fun _ _ _ _ _ => fun _ => .fail 150) (fun _ _ _ _ => fun _ => .fail 150) () (fun _ _ _ _ => ()) v
def ifaceV (v : AV) (κ : TypeId → AV → R) : R := match v with
 | .iface t v => κ t v
 | _ => .fail 157
def callM (call : CallT) (s : St) (name : String) (args : List AV) (κ : AV → St → R) (r : AV) : R := ifaceV r fun t v => match methA P t name with
 | some f => call f (v :: args) s κ
 | none => optK (methB P t name) 158 fun b => ptrV v (nat_lit 159) fun id off => optK (fieldPlaceA P b.2.1 b.2.2) 163 fun o => forceN (Nat.add off o) fun n => call b.1 (.ptr id n :: args) s κ
def callV (call : CallT) (s : St) (args : List AV) (κ : AV → St → R) (f : AV) : R := fnV f fun g a b => call g (a ++ (args ++ b)) s κ
abbrev skipK (κ : AV → St → R) (s : St) : R := κ undefA s
abbrev quietK (P : Program) (s : St) (t : Ts) (op : Op) (κ : AV → St → R) : R := St.rec (motive := fun _ => R) (fun hp nx pc => evQ P hp t pc op fun v pc => κ v ⟨hp, nx, pc⟩) s
abbrev blt2 (s : St) (t : Ts) (op : Op) (c : Call) (κ : AV → St → R) (b : Builtin) : R := match b with
 | .append => opds t c.args.toList fun l => match l with
  | [x, y] => appX P c.argTypes s x y κ
  | _ => .fail 151
 | .copy => opds t c.args.toList fun l => match l with
  | [x, y] => optK (c.argTypes[0]?) 152 fun T => copyX P T s x y κ
  | _ => .fail 153
 | .delete => opds t c.args.toList fun l => match l with
  | [x, y] => optK (c.argTypes[0]?) 240 fun T => mapDel P T s x y κ
  | _ => .fail 241
 | .clear => opds t c.args.toList fun l => match l with
  | [x] => optK (c.argTypes[0]?) 242 fun T => clearA P T s x κ
  | _ => .fail 243
 | _ => quietK P s t op κ
abbrev mkMap (s : St) (κ : AV → St → R) (r : Option Operand) : R := match r with
 | none => mapNew s κ
 | some _ => .fail 154
abbrev cvt (s : St) (t : Ts) (κ : AV → St → R) (src dst : TypeId) (x : Operand) : R := match intOfT P dst with
 | some _ => quietK P s t (.convert src dst x) κ
 | none => Bool.rec (motive := fun _ => R) (opd t x fun x => convE P src dst x s κ) (quietK P s t (.convert src dst x) κ) (isStrT P dst)
abbrev calE (call : CallT) (s : St) (t : Ts) (κ : AV → St → R) (c : Call) : R := match c.callee with
 | .value f => opd t f fun f => opds t c.args.toList fun l => callV call s l κ f
 | .builtin b => blt2 P s t (.call c) c κ b
 | .invoke r name => opd t r fun r => opds t c.args.toList fun l => callM P call s name l κ r
abbrev evOp (call : CallT) (s : St) (t : Ts) (κ : AV → St → R) (op : Op) : R :=
 Op.rec (motive := fun _ => Program → CallT → St → Ts → (AV → St → R) → R)
  (fun x0 P call s t κ => quietK P s t (.move x0) κ)
  (fun x0 P call s t κ => quietK P s t (.assign x0) κ)
  (fun x0 x1 x2 P call s t κ => quietK P s t (.pick x0 x1 x2) κ)
  (fun T P call s t κ => allocA P T s κ)
  (fun T v P call s t κ => opd t v fun v => boxA T v s κ)
  (fun x0 x1 P call s t κ => quietK P s t (.build x0 x1) κ)
  (fun T n parts P call s t κ => buildS P T n t parts s κ)
  (fun T m k v P call s t κ => opd t m fun m => opd t k fun k => opd t v fun v => mapSet P T s m k v (skipK κ))
  (fun x0 x1 P call s t κ => quietK P s t (.load x0 x1) κ)
  (fun T a v P call s t κ => opd t a fun a => opd t v fun v => storeA P T s a v (skipK κ))
  (fun x0 P call s t κ => quietK P s t (.ready x0) κ)
  (fun x0 P call s t κ => quietK P s t (.waits x0) κ)
  (fun x0 P call s t κ => quietK P s t (.nilCheck x0) κ)
  (fun x0 x1 x2 x3 x4 P call s t κ => quietK P s t (.binOp x0 x1 x2 x3 x4) κ)
  (fun x0 x1 x2 P call s t κ => quietK P s t (.unOp x0 x1 x2) κ)
  (fun src dst x P call s t κ => cvt P s t κ src dst x)
  (fun x0 x1 P call s t κ => quietK P s t (.sliceToArrayPointer x0 x1) κ)
  (fun x0 x1 P call s t κ => quietK P s t (.makeInterface x0 x1) κ)
  (fun x0 x1 x2 P call s t κ => quietK P s t (.makeFunc x0 x1 x2) κ)
  (fun T r P call s t κ => mkMap s κ r)
  (fun x0 x1 P call s t κ => quietK P s t (.makeChan x0 x1) κ)
  (fun T l c P call s t κ => opd t l fun l => opd t c fun c => makeX P T l c s κ)
  (fun x0 x1 x2 x3 x4 P call s t κ => quietK P s t (.slice x0 x1 x2 x3 x4) κ)
  (fun x0 x1 x2 P call s t κ => quietK P s t (.fieldAddr x0 x1 x2) κ)
  (fun x0 x1 x2 P call s t κ => quietK P s t (.field x0 x1 x2) κ)
  (fun x0 x1 x2 P call s t κ => quietK P s t (.indexAddr x0 x1 x2) κ)
  (fun x0 x1 x2 P call s t κ => quietK P s t (.index x0 x1 x2) κ)
  (fun x0 x1 x2 x3 P call s t κ => quietK P s t (.lookup x0 x1 x2 x3) κ)
  (fun T m k v P call s t κ => opd t m fun m => opd t k fun k => opd t v fun v => mapSet P T s m k v (skipK κ))
  (fun x0 x1 x2 P call s t κ => quietK P s t (.mapEntry x0 x1 x2) κ)
  (fun x0 x1 x2 x3 P call s t κ => quietK P s t (.entryStore x0 x1 x2 x3) κ)
  (fun T x P call s t κ => opd t x fun x => rangeA P T s x κ)
  (fun x str P call s t κ => opd t x fun x => nextA str s x κ)
  (fun x0 P call s t κ => quietK P s t (.entry x0) κ)
  (fun x0 x1 x2 x3 P call s t κ => quietK P s t (.typeAssert x0 x1 x2 x3) κ)
  (fun x0 x1 P call s t κ => quietK P s t (.extract x0 x1) κ)
  (fun c P call s t κ => calE P call s t κ c)
  (fun x0 P call s t κ => quietK P s t (.go x0) κ)
  (fun x0 P call s t κ => quietK P s t (.defer x0) κ)
  (fun x0 P call s t κ => quietK P s t (.panic x0) κ)
  (fun x0 x1 P call s t κ => quietK P s t (.send x0 x1) κ)
  (fun x0 x1 x2 P call s t κ => quietK P s t (.recv x0 x1 x2) κ)
  (fun x0 x1 P call s t κ => quietK P s t (.select x0 x1) κ)
  op P call s t κ
abbrev putK (sz : Nat) (t : Ts) (v : AV) (κ : Ts → R) (d : Option Tmp) : R := Option.rec (motive := fun _ => R) (κ t) (fun d => Bool.rec (motive := fun _ => R) (.fail 160) (κ (Ts.put d v t)) (Nat.blt d sz)) d
def wantB (pc : PC) (want : Bool) (κ : Bool → PC → R) (v : AV) : R := AV.rec (motive_1 := fun _ => PC → Bool → (Bool → PC → R) → R) (motive_2 := fun _ => Unit) (fun _ _ => fun pc _ κ => κ false pc) (fun b pc want κ => decK pc b fun b pc => κ (b == want) pc) (fun _ _ => fun pc _ κ => κ false pc) (fun _ _ _ _ => fun pc _ κ => κ false pc) (fun _ _ _ => fun pc _ κ => κ false pc) (fun _ => fun pc _ κ => κ false pc) (fun _ _ _ _ _ => fun pc _ κ => κ false pc) (fun _ _ _ => fun pc _ κ => κ false pc) (fun _ _ => fun pc _ κ => κ false pc) (fun _ _ => fun pc _ κ => κ false pc) (fun _ _ _ _ => .fail 161) (fun _ _ _ _ => .fail 161) (fun _ _ _ => fun pc _ κ => κ false pc) (fun _ _ _ _ _ _ => fun _ _ _ => .fail 161) (fun _ _ _ => fun pc _ κ => κ false pc) (fun _ _ _ _ _ => fun pc _ κ => κ false pc) (fun _ _ _ _ => fun pc _ κ => κ false pc) () (fun _ _ _ _ => ()) v pc want κ
inductive Asm where
 | no | yes (g : Nat) (w : Bool) (d : Nat) (b : Bool)
abbrev wantG (ops : Array Oper) (t : Ts) (pc : PC) (κ : Asm → Bool → PC → R) (g : Nat × Bool) : R := Option.rec (κ .no false pc) (fun d => t.getK d (wantB pc g.2 fun b pc => κ (.yes g.1 g.2 d b) b pc)) ((ops[g.1]?).bind (·.dst))
def eqB2 (a b : Bool) : Bool := Bool.rec (motive := fun _ => Bool) (notF b) b a
abbrev asmG (m : Asm) (g : Nat × Bool) (no : R) (yes : Bool → R) : R := Asm.rec (motive := fun _ => R) no (fun g' w _ b => Bool.rec (motive := fun _ => R) no (yes b) (Nat.beq g' g.1 && eqB2 w g.2)) m
abbrev asmD (m : Asm) (d : Option Tmp) : Asm := Asm.rec (motive := fun _ => Asm) .no (fun g w e b => Option.rec (motive := fun _ => Asm) (.yes g w e b) (fun d => Bool.rec (motive := fun _ => Asm) (.yes g w e b) .no (Nat.beq d e)) d) m
abbrev setB (m : Asm) (b : Bool) : Asm := Asm.rec (motive := fun _ => Asm) .no (fun g w d _ => .yes g w d b) m
abbrev wantK (ops : Array Oper) (t : Ts) (pc : PC) (m : Asm) (κ : Asm → Bool → PC → R) (g : Option (Nat × Bool)) : R := Option.rec (motive := fun _ => R) (κ .no true pc) (fun g => asmG m g (wantG ops t pc κ g) (fun b => κ m b pc)) g
abbrev RK := St → Ts → R
abbrev doneK (sz : Nat) (t : Ts) (d : Option Tmp) (κ : RK) (v : AV) (s : St) : R := putK sz t v (κ s) d
abbrev isDef (op : Op) : Bool := match op with
 | .defer _ => true
 | _ => false
abbrev restD (sz : Nat) (t : Ts) : AV := Option.rec (motive := fun _ => AV) undefA (fun v => v) (t.get sz)
abbrev dfrC (sz : Nat) (s : St) (t : Ts) (κ : RK) (c : Call) : R := match c.callee with
 | .value f => opd t f fun f => opds t c.args.toList fun l => fnV f fun g a b => κ s (Ts.put sz (.dfr (.fn (.func g) [] b) (a ++ l) (restD sz t)) t)
 | _ => .fail 244
abbrev dfrK (sz : Nat) (s : St) (t : Ts) (d : Option Tmp) (κ : RK) (op : Op) : R := match op with
 | .defer c => Option.rec (motive := fun _ => R) (dfrC sz s t κ c) (fun _ => .fail 245) d
 | _ => .fail 246
abbrev opE (call : CallT) (sz : Nat) (o : Oper) (s : St) (t : Ts) (κ κd : RK) : R := Bool.rec (motive := fun _ => R) (evOp P call s t (doneK sz t o.dst κ) o.op) (dfrK sz s t o.dst κd o.op) (isDef o.op)
abbrev opW (call : CallT) (sz : Nat) (o : Oper) (s : St) (t : Ts) (κ : Asm → RK) (m : Asm) (b : Bool) (pc : PC) : R :=
 St.rec (motive := fun _ => R) (fun hp nx _ => Bool.rec (motive := fun _ => R) (putK sz t undefA (κ (asmD (setB m false) o.dst) ⟨hp, nx, pc⟩) o.dst) (opE P call sz o ⟨hp, nx, pc⟩ t (κ (asmD (setB m true) o.dst)) (κ .no)) b) s
abbrev opG (ops : Array Oper) (call : CallT) (sz : Nat) (m : Asm) (s : St) (t : Ts) (κ : Asm → RK) (o : Oper) : R := Option.rec (motive := fun _ => R) (opE P call sz o s t (κ .no) (κ .no)) (fun g => St.rec (motive := fun _ => R) (fun _ _ pc => asmG m g (wantG ops t pc (opW P call sz o s t κ) g) (fun b => opW P call sz o s t κ m b pc)) s) o.guard
abbrev evOps (ops : Array Oper) (call : CallT) (sz : Nat) (l : List Oper) : Asm → St → Ts → RK → R :=
 List.rec (motive := fun _ => Asm → St → Ts → RK → R) (fun _ s t κ => κ s t) (fun o _ ih m s t κ => opG P ops call sz m s t (fun m s t => ih m s t κ) o) l
abbrev qW (sz : Nat) (h : Tr AObj) (o : Oper) (t : Ts) (κ : Asm → Ts → PC → R) (m : Asm) (b : Bool) (pc : PC) : R :=
 Bool.rec (motive := fun _ => R) (putK sz t undefA (fun t => κ (asmD (setB m false) o.dst) t pc) o.dst) (evQ P h t pc o.op fun v pc => putK sz t v (fun t => κ (asmD (setB m true) o.dst) t pc) o.dst) b
abbrev evQs (ops : Array Oper) (sz : Nat) (h : Tr AObj) (l : List Oper) : Asm → Ts → PC → (Ts → PC → R) → R :=
 List.rec (motive := fun _ => Asm → Ts → PC → (Ts → PC → R) → R) (fun _ t pc κ => κ t pc) (fun o _ ih m t pc κ => wantK ops t pc m (qW P sz h o t fun m t pc => ih m t pc κ) o.guard) l
def optEqN (a : Option Nat) (n : Nat) : Bool := match a with
 | some m => Nat.beq m n
 | none => false
end
mutual
def AV.beq : AV → AV → Bool
 | .int k a, .int k' b => decide (k = k') && SI.beq a b
 | .bool a, .bool b => SB.beq a b
 | .ptr i o, .ptr j q => Nat.beq i j && Nat.beq o q
 | .sl i o n c, .sl j q m d => Nat.beq i j && (Nat.beq o q && (Nat.beq n m && (match c with | none => d.isNone | some c => optEqN d c)))
 | .emp i o n, .emp j q m => Nat.beq i j && (Nat.beq o q && Nat.beq n m)
 | .em0 i o n, .em0 j q m => Nat.beq i j && (Nat.beq o q && Nat.beq n m)
 | .map i, .map j => Nat.beq i j
 | .fn (.func f) a b, .fn (.func g) c d => Nat.beq f g && (AV.beqL a c && AV.beqL b d)
 | .ssl i a b c d, .ssl j a' b' c' d' => Nat.beq i j && (SI.beq a a' && (SI.beq b b' && (SI.beq c c' && (match d with | none => d'.isNone | some x => (match d' with | none => false | some y => SI.beq x y)))))
 | .osl i a b, .osl j a' b' => Nat.beq i j && (Nat.beq a a' && Nat.beq b b')
 | .fsl i a b c, .fsl j a' b' c' => Nat.beq i j && (SI.beq a a' && (SI.beq b b' && SI.beq c c'))
 | .agg l, .agg m => AV.beqL l m
 | .tup l, .tup m => AV.beqL l m
 | .iface t a, .iface u b => Nat.beq t u && AV.beq a b
 | .raw v, .raw w => match v, w with
  | .pointer none, .pointer none => true
  | .slice none a b, .slice none c d => Nat.beq a c && Nat.beq b d
  | .map none, .map none => true
  | .nilFunc, .nilFunc => true
  | .nilIface, .nilIface => true
  | .string a, .string b => a.data.toList == b.data.toList
  | _, _ => false
 | _, _ => false
def AV.beqL : List AV → List AV → Bool
 | [], [] => true
 | a :: l, b :: m => AV.beq a b && AV.beqL l m
 | _, _ => false
end
section
variable (P : Program)
abbrev holdsK (t : Ts) (d : Option Tmp) (v : AV) (κ : R) : R := Option.rec (motive := fun _ => R) κ (fun d => t.getK d fun u => Bool.rec (motive := fun _ => R) (.fail 171) κ (AV.beq u v)) d
abbrev agK (h : Tr AObj) (o : Oper) (t : Ts) (κ : Asm → PC → R) (m : Asm) (b : Bool) (pc : PC) : R :=
 Bool.rec (motive := fun _ => R) (holdsK t o.dst undefA (κ (setB m false) pc)) (evQ P h t pc o.op fun v pc => holdsK t o.dst v (κ (setB m true) pc)) b
abbrev again (ops : Array Oper) (h : Tr AObj) (t : Ts) (l : List Oper) : Asm → PC → (PC → R) → R :=
 List.rec (motive := fun _ => Asm → PC → (PC → R) → R) (fun _ pc κ => κ pc) (fun o _ ih m pc κ => wantK ops t pc m (agK P h o t fun m pc => ih m pc κ) o.guard) l
abbrev agnK (ops : Array Oper) (l : List Nat) (κ : RK) (s : St) (t : Ts) : R := St.rec (motive := fun _ => R) (fun hp nx pc => again P ops hp t (pick ops l) .no pc fun pc => κ ⟨hp, nx, pc⟩ t) s
abbrev evPart (ops : Array Oper) (call : CallT) (sz : Nat) (x : List Nat × List Nat × List Nat) (s : St) (t : Ts) (κ : RK) : R :=
 St.rec (motive := fun _ => R) (fun hp nx pc => evQs P ops sz hp (pick ops x.1) .no t pc fun t pc => evOps P ops call sz (pick ops x.2.1) .no ⟨hp, nx, pc⟩ t (agnK P ops x.2.2 κ)) s
abbrev evMix (ops : Array Oper) (call : CallT) (sz : Nat) (p : Plan) : St → Ts → RK → R :=
 List.rec (motive := fun _ => St → Ts → RK → R) (fun s t κ => κ s t) (fun x _ ih s t κ => evPart P ops call sz x s t fun s t => ih s t κ) p
def mixOk (ops : Array Oper) (p : Plan) : Bool := mixB ops p && (!p.isEmpty && decide (planN p = ops.size))
inductive Ex where
 | normal | exit (id : Nat) | ret
abbrev K := Ex → St → Ts → R
abbrev EvT := FuncId → Nat → Code → St → Ts → K → R
structure Acc where
 f : Nat
 slot : Nat
 e0 : SI
 hi : SI
 K : Nat
 keep : List Nat
 pcs : List (SB × Bool)
 rg : List (Int × Int)
 soft : Bool := false
 fk : List SB := []
structure Acp where
 tmp : Bool
 id : Nat
 off : Nat
 k : IntKind
 K : Nat
 step : SI
 v0 : Int
 lo : Int
 hi : Int
structure Acd where
 f : Nat
 n : Nat
 keep : List Nat
 ps : List Acp
structure Plans where
 pl : FuncId → Nat → Option Plan
 ac : List Acc := []
 ad : List Acd := []
 jn : List (Nat × Nat) := []
def SI.fr (K : Nat) (e : SI) : Bool := SI.rec (motive := fun _ => Bool) (fun _ => true) (fun i => notF (Nat.beq i K)) (fun _ _ _ _ a b => a && b) (fun _ _ a => a) (fun _ a => a) (fun _ _ _ _ a b => Nat.blt K (nat_lit 32) && (a && b)) e
def SB.fr (K : Nat) (c : SB) : Bool := SB.rec (motive := fun _ => Bool) (fun _ => true) (fun _ a b => SI.fr K a && SI.fr K b) (fun _ a => a) c
mutual
def AV.fr (K : Nat) : AV → Bool
 | .int _ e => SI.fr K e
 | .bool b => SB.fr K b
 | .fn _ a b => AV.frL K a && AV.frL K b
 | .iface _ v => AV.fr K v
 | .agg l => AV.frL K l
 | .tup l => AV.frL K l
 | .osl p k c => Nat.blt K (nat_lit 32) && (Nat.ble (nat_lit 32) p && (Nat.ble (nat_lit 32) c && notF (Nat.beq k K)))
 | .dfr _ _ _ => false
 | .ptr _ _ => true
 | .sl _ _ _ _ => true
 | .emp _ _ _ => true
 | .em0 _ _ _ => true
 | .map _ => true
 | .raw _ => true
 | .opq _ => true
 | .ssl _ a b c d => SI.fr K a && (SI.fr K b && (SI.fr K c && (match d with | none => true | some x => SI.fr K x)))
 | .fsl j a b c => Nat.blt K (nat_lit 32) && (Nat.ble (nat_lit 32) j && (SI.fr K a && (SI.fr K b && SI.fr K c)))
def AV.frL (K : Nat) : List AV → Bool
 | [] => true
 | v :: l => AV.fr K v && AV.frL K l
end
def optB {α : Type} (p : α → Bool) (o : Option α) : Bool := match o with
 | none => true
 | some x => p x
def Tr.all {α : Type} (p : α → Bool) (t : Tr α) : Bool := Tr.rec (motive := fun _ => Bool) true (fun v _ _ l r => optB p v && (l && r)) t
def entFr (K : Nat) (es : List (AV × AV × Nat)) : Bool := es.all fun e => AV.fr K e.1 && AV.fr K e.2.1
def Ch.fr (K : Nat) (c : Ch) : Bool := match c with
 | .bs l => l.all (SI.fr K)
 | .fil n v => SI.fr K n && SI.fr K v
 | .row _ o n => Nat.blt K (nat_lit 32) && (SI.fr K o && SI.fr K n)
def AObj.fr (K : Nat) (o : AObj) : Bool := match o with
 | .cells _ c d _ _ => Tr.all (AV.fr K) c && optB (AV.fr K) d
 | .map es _ => entFr K es
 | .iter _ _ _ _ => true
 | .rope cs _ _ => cs.all (Ch.fr K)
 | .dead => true
def siL : List SI → List SI → Bool
 | [], [] => true
 | a :: l, b :: m => SI.beq a b && siL l m
 | _, _ => false
def Ch.beq (a b : Ch) : Bool := match a with
 | .bs l => (match b with | .bs m => siL l m | _ => false)
 | .fil n v => (match b with | .fil n' v' => SI.beq n n' && SI.beq v v' | _ => false)
 | .row j o n => (match b with | .row j' o' n' => Nat.beq j j' && (SI.beq o o' && SI.beq n n') | _ => false)
def chL : List Ch → List Ch → Bool
 | [], [] => true
 | a :: l, b :: m => Ch.beq a b && chL l m
 | _, _ => false
def optE {α : Type} (q : α → α → Bool) (a b : Option α) : Bool := match a with
 | none => (match b with | none => true | some _ => false)
 | some x => (match b with | none => false | some y => q x y)
def Tr.eqB {α : Type} (q : α → α → Bool) (t : Tr α) : Tr α → Bool := Tr.rec (motive := fun _ => Tr α → Bool) (fun u => match u with | .nil => true | .node _ _ _ => false) (fun v _ _ l r u => match u with | .nil => false | .node v' l' r' => optE q v v' && (l l' && r r')) t
def Tr.leB {α : Type} (q : α → α → Bool) (t : Tr α) : Tr α → Bool := Tr.rec (motive := fun _ => Tr α → Bool) (fun _ => true) (fun v _ _ l r u => match u with | .nil => false | .node v' l' r' => (match v with | none => true | some x => (match v' with | none => false | some y => q x y)) && (l l' && r r')) t
def entEq (a : List (AV × AV × Nat)) : List (AV × AV × Nat) → Bool := match a with
 | [] => fun b => match b with | [] => true | _ :: _ => false
 | e :: l => fun b => match b with | [] => false | e' :: l' => AV.beq e.1 e'.1 && (AV.beq e.2.1 e'.2.1 && (Nat.beq e.2.2 e'.2.2 && entEq l l'))
def AObj.beq (a b : AObj) : Bool := match a with
 | .cells n c d T r => (match b with | .cells n' c' d' T' r' => Nat.beq n n' && (Nat.beq T T' && ((r == r') && (optE AV.beq d d' && Tr.eqB AV.beq c c'))) | _ => false)
 | .map es k => (match b with | .map es' k' => Nat.beq k k' && entEq es es' | _ => false)
 | .iter m x l y => (match b with | .iter m' x' l' y' => (m == m') && (Nat.beq x x' && ((l == l') && Nat.beq y y')) | _ => false)
 | .rope cs T r => (match b with | .rope cs' T' r' => Nat.beq T T' && ((r == r') && chL cs cs') | _ => false)
 | .dead => (match b with | .dead => true | _ => false)
def pcB (l : List (SB × Bool)) : List (SB × Bool) → Bool := match l with
 | [] => fun m => match m with | [] => true | _ :: _ => false
 | a :: l => fun m => match m with | [] => false | b :: m => SB.beq a.1 b.1 && ((a.2 == b.2) && pcB l m)
def rgB (l : List (Int × Int)) : List (Int × Int) → Bool := match l with
 | [] => fun m => match m with | [] => true | _ :: _ => false
 | a :: l => fun m => match m with | [] => false | b :: m => beqF a.1 b.1 && (beqF a.2 b.2 && rgB l m)
def keepTs (t : Ts) (l : List Nat) : Ts := match l with
 | [] => .nil
 | d :: l => match t.get d with
  | some v => Ts.put d v (keepTs t l)
  | none => keepTs t l
def isDone (r : R) : Bool := R.rec (motive := fun _ => Bool) (fun _ _ => true) (fun _ => false) false (fun _ _ _ _ _ => false) r
abbrev seqK (ih : EvT) (f sz : Nat) (b : Code) (κ : K) (e : Ex) (s : St) (t : Ts) : R := Ex.rec (motive := fun _ => R) (ih f sz b s t κ) (fun i => κ (.exit i) s t) (κ .ret s t) e
abbrev cndB (ih : EvT) (f sz : Nat) (a b : Code) (s : St) (t : Ts) (κ : K) (c : Bool) (pc : PC) : R := St.rec (motive := fun _ => R) (fun hp nx _ => Bool.rec (motive := fun _ => R) (ih f sz b ⟨hp, nx, pc⟩ t κ) (ih f sz a ⟨hp, nx, pc⟩ t κ) c) s
abbrev cndK (ih : EvT) (f sz : Nat) (a b : Code) (s : St) (t : Ts) (κ : K) (v : AV) : R := boolV v (nat_lit 180) fun c => St.rec (motive := fun _ => R) (fun _ _ pc => decK pc c (cndB ih f sz a b s t κ)) s
def jnOf (l : List (Nat × Nat)) (f : Nat) : Option Nat := List.rec (motive := fun _ => Option Nat) none (fun x _ r => Bool.rec (motive := fun _ => Option Nat) r (some x.2) (Nat.beq x.1 f)) l
def sumE (e : SI) : SI := .bin .sub .i64 (.lit (.ofNat (nat_lit 65535))) (.fold e)
def sumJ (e : SI) : SI := .bin .sub .i64 (.lit (.ofNat (nat_lit 65535))) (.bin .rem .i64 (.fold e) (.lit (.ofNat (nat_lit 65535))))
def jnV (v : AV) : Option SI := match v with
 | .bool (.cmp .eql (.bin .sub .i64 (.lit (.ofNat 65535)) (.fold e)) (.lit (.ofNat 0))) => some e
 | _ => none
def sameB (s : St) (sz : Nat) (t1 : Ts) (s' : St) (t' : Ts) : Bool := Tr.leB AObj.beq s.hp s'.hp && (Nat.beq s.nx s'.nx && (Tr.leB AV.beq t1 t' && (Option.isNone (t'.get sz) && pcB s'.pc.l s.pc.l)))
def isSum (o : Option AV) (e : SI) : Bool := match o with
 | some (.int .i64 x) => SI.beq x (sumE e)
 | _ => false
def joinB (κ : K) (d sz : Nat) (e : SI) (s : St) (t : Ts) (x : Ex) (s' : St) (t' : Ts) : R := match x with
 | .normal => Bool.rec (motive := fun _ => R) (.fail 321) (κ .normal s (Ts.put d (.int .i64 (sumJ e)) t)) (sameB s sz t s' t')
 | _ => .fail 322
def joinA (ih : EvT) (f sz : Nat) (b : Code) (κ : K) (d : Nat) (e : SI) (s : St) (t : Ts) (x : Ex) (s' : St) (t' : Ts) : R := match x with
 | .normal => Bool.rec (motive := fun _ => R) (.fail 323) (ih f sz b s t (joinB κ d sz e s t)) (sameB s sz (Ts.put d (.int .i64 (.lit (.ofNat (nat_lit 65535)))) t) s' t')
 | _ => .fail 324
def jnB (d sz : Nat) (s : St) (t : Ts) (e : SI) : Bool := isSum (t.get d) e && (nnB s.pc.rg e && (Nat.blt d sz && Option.isNone (t.get sz)))
def cndJ (jn : List (Nat × Nat)) (ih : EvT) (f sz : Nat) (a b : Code) (s : St) (t : Ts) (κ : K) (v : AV) : R := Option.rec (motive := fun _ => R) (cndK ih f sz a b s t κ v) (fun d => Option.rec (motive := fun _ => R) (cndK ih f sz a b s t κ v) (fun e => Bool.rec (motive := fun _ => R) (cndK ih f sz a b s t κ v) (ih f sz a s t (joinA ih f sz b κ d e s t)) (jnB d sz s t e)) (jnV v)) (jnOf jn f)
abbrev blkX (id : Nat) (κ : K) (s : St) (t : Ts) (j : Nat) : R := Bool.rec (motive := fun _ => R) (κ (.exit j) s t) (κ .normal s t) (Nat.beq j id)
abbrev blkK (id : Nat) (κ : K) (e : Ex) (s : St) (t : Ts) : R := Ex.rec (motive := fun _ => R) (κ .normal s t) (blkX id κ s t) (κ .ret s t) e
abbrev loopK (r : St → Ts → R) (κ : K) (e : Ex) (s : St) (t : Ts) : R := Ex.rec (motive := fun _ => R) (r s t) (fun i => κ (.exit i) s t) (κ .ret s t) e
def accEnd (s : St) (l : List (SB × Bool)) (sz : Nat) (t1 : Ts) (e : Ex) (s' : St) (t' : Ts) : R := match e with
 | .normal => Bool.rec (motive := fun _ => R) (.fail 301) (.done undefA ⟨.nil, 0, ⟨[], [], []⟩⟩) (Tr.leB AObj.beq s.hp s'.hp && (Tr.leB AV.beq t1 t' && (Option.isNone (t'.get sz) && pcB s'.pc.l l)))
 | _ => .fail 302
def accT (ih : EvT) (f sz : Nat) (c : Code) (a : Acc) (s : St) (t0 : Ts) : R := ih f sz c ⟨s.hp, s.nx, ⟨a.pcs ++ s.pc.l, s.pc.smp, s.pc.rg⟩⟩ (Ts.put a.slot (.int .i64 (.var a.K)) t0) (accEnd s (a.pcs ++ s.pc.l) sz (Ts.put a.slot (.int .i64 (.bin .add .i64 (.var a.K) (.lit (.ofNat (nat_lit 1))))) t0))
def failOf (r : R) : R := R.rec (motive := fun _ => R) (fun _ _ => .fail 304) (fun n => .fail n) (.fail 305) (fun _ _ _ _ _ => .fail 306) r
def accB (a : Acc) (sz : Nat) (s : St) (t0 : Ts) : Bool := Nat.blt a.K (nat_lit 32) && (Nat.blt a.slot sz && (Option.isNone (t0.get sz) && (Option.isNone (t0.get a.slot) && (rgB s.pc.rg a.rg && (Tr.all (AObj.fr a.K) s.hp && (Tr.all (AV.fr a.K) t0 && (s.pc.l.all (fun x => SB.fr a.K x.1) && (SI.fr a.K a.e0 && SI.fr a.K a.hi))))))))
def accG (ih : EvT) (f sz : Nat) (c : Code) (a : Acc) (s : St) (t0 : Ts) (r : St → Ts → R) (rest : R) : R := Bool.rec (motive := fun _ => R) (.fail 303) (Bool.rec (motive := fun _ => R) (Bool.rec (motive := fun _ => R) (failOf (accT ih f sz c a s t0)) rest a.soft) (r s (Ts.put a.slot (.int .i64 a.hi) t0)) (isDone (accT ih f sz c a s t0))) (accB a sz s t0)
def accO (a : Acc) (o : Option AV) : Bool := match o with
 | some (.int k e) => kindEq k .i64 && SI.beq e a.e0
 | _ => false
def fkK (l : List SB) (no yes : PC → R) : PC → R := List.rec (motive := fun _ => PC → R) yes (fun c _ ih pc => decK pc c fun b pc => Bool.rec (motive := fun _ => R) (no pc) (ih pc) b) l
def accK (ih : EvT) (f sz : Nat) (c : Code) (t : Ts) (r : St → Ts → R) (alt : St → R) (l : List Acc) : St → R := List.rec (motive := fun _ => St → R) alt (fun a _ rest s => Bool.rec (motive := fun _ => R) (rest s) (Bool.rec (motive := fun _ => R) (rest s) (fkK a.fk (fun pc => rest ⟨s.hp, s.nx, pc⟩) (fun pc => accG ih f sz c a ⟨s.hp, s.nx, pc⟩ (keepTs t a.keep) r (rest ⟨s.hp, s.nx, pc⟩)) s.pc) (accO a (t.get a.slot) && Option.isNone (t.get sz))) (Nat.beq a.f f)) l
def cellB (c : Tr AV) (d : Option AV) (off : Nat) : Option AV := Option.rec (motive := fun _ => Option AV) d (fun v => some v) (c.get off)
def cellAt (h : Tr AObj) (id off : Nat) : Option AV := match h.get id with
 | some (.cells n c d _ _) => Bool.rec (motive := fun _ => Option AV) none (cellB c d off) (Nat.blt off n)
 | _ => none
def putC (h : Tr AObj) (id off : Nat) (v : AV) : Tr AObj := match h.get id with
 | some (.cells n c d T r) => h.set id (.cells n (c.set off v) d T r)
 | _ => h
def putH (l : List (Acp × SI)) : Tr AObj → Tr AObj := List.rec (motive := fun _ => Tr AObj → Tr AObj) (fun h => h) (fun x _ ih h => ih (Bool.rec (motive := fun _ => Tr AObj) (putC h x.1.id x.1.off (.int x.1.k x.2)) h x.1.tmp)) l
def putT (l : List (Acp × SI)) : Ts → Ts := List.rec (motive := fun _ => Ts → Ts) (fun t => t) (fun x _ ih t => ih (Bool.rec (motive := fun _ => Ts) t (Ts.put x.1.id (.int x.1.k x.2) t) x.1.tmp)) l
def varE (l : List Acp) : List (Acp × SI) := List.rec (motive := fun _ => List (Acp × SI)) [] (fun p _ r => (p, .var p.K) :: r) l
def stepE (l : List Acp) : List (Acp × SI) := List.rec (motive := fun _ => List (Acp × SI)) [] (fun p _ r => (p, p.step) :: r) l
def litE (l : List Acp) : List Int → List (Acp × SI) := List.rec (motive := fun _ => List Int → List (Acp × SI)) (fun _ => []) (fun p _ ih vs => List.rec (motive := fun _ => List (Acp × SI)) [] (fun v vs _ => (p, .lit v) :: ih vs) vs) l
def v0s (l : List Acp) : List Int := List.rec (motive := fun _ => List Int) [] (fun p _ r => p.v0 :: r) l
def isLitAt (o : Option AV) (k : IntKind) (v : Int) : Bool := match o with
 | some (.int k' (.lit n)) => kindEq k' k && beqF n v
 | _ => false
def acpAt (h : Tr AObj) (t : Ts) (p : Acp) : Option AV := Bool.rec (motive := fun _ => Option AV) (cellAt h p.id p.off) (t.get p.id) p.tmp
def acdAt (l : List Acp) (h : Tr AObj) (t : Ts) : Bool := List.rec (motive := fun _ => Bool) true (fun p _ r => isLitAt (acpAt h t p) p.k p.v0 && r) l
def lookN (ks : List (Nat × Int)) (i : Nat) : Option Int := List.rec (motive := fun _ => Option Int) none (fun x _ r => Bool.rec (motive := fun _ => Option Int) r (some x.2) (Nat.beq x.1 i)) ks
def opt2 {α : Type} (a b : Option Int) (κ : Int → Int → Option α) : Option α := Option.rec (motive := fun _ => Option α) none (fun x => Option.rec (motive := fun _ => Option α) none (fun y => κ x y) b) a
def evV (ks : List (Nat × Int)) (e : SI) : Option Int := SI.rec (motive := fun _ => Option Int) (fun n => some n) (fun i => lookN ks i) (fun op k _ _ a b => opt2 a b fun x y => forceI (binF op k x y) fun n => some n) (fun k _ a => opt2 a a fun x _ => forceI (wrapF k x) fun n => some n) (fun _ _ => none) (fun _ _ _ _ _ _ => none) e
def zipK (l : List Acp) : List Int → List (Nat × Int) := List.rec (motive := fun _ => List Int → List (Nat × Int)) (fun _ => []) (fun p _ ih vs => List.rec (motive := fun _ => List (Nat × Int)) [] (fun v vs _ => (p.K, v) :: ih vs) vs) l
def stepV (ks : List (Nat × Int)) (l : List Acp) : Option (List Int) := List.rec (motive := fun _ => Option (List Int)) (some []) (fun p _ r => Option.rec (motive := fun _ => Option (List Int)) none (fun v => Option.rec (motive := fun _ => Option (List Int)) none (fun vs => some (v :: vs)) r) (evV ks p.step)) l
def inV (ks : List (Nat × Int)) (l : List Acp) : List Int → Bool := List.rec (motive := fun _ => List Int → Bool) (fun vs => List.rec (motive := fun _ => Bool) true (fun _ _ _ => false) vs) (fun p _ ih vs => List.rec (motive := fun _ => Bool) false (fun v vs _ => leF p.lo v && (leF v p.hi && (eqU (lookN ks p.K) (some v) && ih vs))) vs) l
def iterV (l : List Acp) (n : Nat) : List Int → Option (List Int) := Nat.rec (motive := fun _ => List Int → Option (List Int)) (fun vs => some vs) (fun _ ih vs => Bool.rec (motive := fun _ => Option (List Int)) none (Option.rec (motive := fun _ => Option (List Int)) none (fun vs => ih vs) (stepV (zipK l vs) l)) (inV (zipK l vs) l vs)) n
def setRg (x : Int × Int) (rg : List (Int × Int)) : Nat → List (Int × Int) := match rg with
 | [] => fun _ => []
 | y :: l => fun i => match i with
  | 0 => x :: l
  | i + 1 => y :: setRg x l i
def setRgs (rg : List (Int × Int)) (l : List Acp) : List (Int × Int) := List.rec (motive := fun _ => List (Int × Int)) rg (fun p _ r => setRg (p.lo, p.hi) r p.K) l
def acdB (l : List Acp) (sz : Nat) (s : St) (t0 : Ts) : Bool := Option.isNone (t0.get sz) && List.rec (motive := fun _ => Bool) true (fun p _ r => (Nat.blt p.K (nat_lit 32) && ((Bool.rec (motive := fun _ => Bool) true (Nat.blt p.id sz) p.tmp) && (Tr.all (AObj.fr p.K) s.hp && (Tr.all (AV.fr p.K) t0 && s.pc.l.all (fun x => SB.fr p.K x.1))))) && r) l
def acdEnd (l : List (SB × Bool)) (sz : Nat) (hN : Tr AObj) (tN : Ts) (e : Ex) (s' : St) (t' : Ts) : R := match e with
 | .normal => Bool.rec (motive := fun _ => R) (.fail 311) (.done undefA ⟨.nil, 0, ⟨[], [], []⟩⟩) (Tr.leB AObj.beq hN s'.hp && (Tr.leB AV.beq tN t' && (Option.isNone (t'.get sz) && pcB s'.pc.l l)))
 | _ => .fail 312
def acdT (ih : EvT) (f sz : Nat) (c : Code) (l : List Acp) (s : St) (t0 : Ts) : R := ih f sz c ⟨putH (varE l) s.hp, s.nx, ⟨s.pc.l, s.pc.smp, setRgs s.pc.rg l⟩⟩ (putT (varE l) t0) (acdEnd s.pc.l sz (putH (stepE l) s.hp) (putT (stepE l) t0))
def acdG (ih : EvT) (f sz : Nat) (c : Code) (a : Acd) (s : St) (t0 : Ts) (r : St → Ts → R) : R := Bool.rec (motive := fun _ => R) (.fail 313) (Option.rec (motive := fun _ => R) (.fail 314) (fun vs => Bool.rec (motive := fun _ => R) (failOf (acdT ih f sz c a.ps s t0)) (r ⟨putH (litE a.ps vs) s.hp, s.nx, s.pc⟩ (putT (litE a.ps vs) t0)) (isDone (acdT ih f sz c a.ps s t0))) (iterV a.ps a.n (v0s a.ps))) (acdB a.ps sz s t0)
def acdK (ih : EvT) (f sz : Nat) (c : Code) (s : St) (t : Ts) (r : St → Ts → R) (alt : R) (l : List Acd) : R := List.rec (motive := fun _ => R) alt (fun a _ rest => Bool.rec (motive := fun _ => R) rest (Bool.rec (motive := fun _ => R) rest (acdG ih f sz c a s (keepTs t a.keep) r) (acdAt a.ps s.hp t && Option.isNone (t.get sz))) (Nat.beq a.f f)) l
def loopN (ac : List Acc) (ad : List Acd) (ih : EvT) (f sz : Nat) (c : Code) (κ : K) (m : Nat) : St → Ts → R := Nat.rec (motive := fun _ => St → Ts → R) (fun _ _ => .fail 189) (fun _ r s t => acdK ih f sz c s t r (accK ih f sz c t r (fun s => ih f sz c s t (loopK r κ)) ac s) ad) m
abbrev resL (h : Tr AObj) (t : Ts) (l : List ResultVar) : (List AV → R) → R :=
 List.rec (motive := fun _ => (List AV → R) → R) (fun κ => κ []) (fun r _ ih κ => match r with
  | .tmp d => opdT t (fun v => ih fun l => κ (v :: l)) d
  | .cell d T => opdT t (fun a => loadA P h T a fun v => ih fun l => κ (v :: l)) d) l
abbrev resK (κ : AV → R) (l : List AV) : R := match l with
 | [v] => κ v
 | l => κ (.tup l)
abbrev retR (rs : List ResultVar) (κ : AV → St → R) (s : St) (t : Ts) : R := resL P s.hp t rs (resK fun v => κ v s)
def leaveD (call : CallT) (v : AV) : St → (St → R) → R := AV.rec (motive_1 := fun _ => St → (St → R) → R) (motive_2 := fun _ => Unit) (fun _ _ _ _ => .fail 247) (fun _ _ _ => .fail 247) (fun _ _ _ _ => .fail 247) (fun _ _ _ _ _ _ => .fail 247) (fun _ _ _ _ _ => .fail 247) (fun _ _ _ => .fail 247) (fun _ _ _ _ _ _ _ => .fail 247) (fun _ _ _ _ _ => .fail 247) (fun _ _ _ _ => .fail 247) (fun l _ s κ => match l with | [] => κ s | _ => .fail 247) (fun _ _ _ => .fail 247) (fun _ _ _ => .fail 247) (fun _ _ _ _ _ => .fail 247)
 (fun f args _ _ _ ih s κ => fnV f fun g a b => call g (a ++ (args ++ b)) s fun _ s => ih s κ) (fun _ _ _ _ _ => .fail 247) (fun _ _ _ _ _ _ _ => .fail 247) (fun _ _ _ _ _ _ => .fail 247) () (fun _ _ _ _ => ()) v
abbrev goneK (call : CallT) (sz : Nat) (rs : List ResultVar) (κ : AV → St → R) (s : St) (t : Ts) : R := Option.rec (motive := fun _ => R) (retR P rs κ s t) (fun d => leaveD call d s fun s => retR P rs κ s t) (t.get sz)
abbrev retK (call : CallT) (sz : Nat) (rs : List ResultVar) (κ : AV → St → R) (e : Ex) (s : St) (t : Ts) : R := match e with
 | .exit _ => .fail 181
 | _ => goneK P call sz rs κ s t
def maxF (a b : Nat) : Nat := Bool.rec (motive := fun _ => Nat) a b (Nat.ble a b)
abbrev callT (ih : EvT) (f : FuncId) (c : Code) (s : St) (args : List AV) (κ : Nat → K) (sz : Nat) : R := ih f sz c s (tsOf sz args) (κ sz)
abbrev callX (K : Nat → List ResultVar → (AV → St → R) → Ex → St → Ts → R) (ih : EvT) (f : FuncId) (fn : Func) (args : List AV) (s : St) (κ : AV → St → R) (c : Code) : R :=
 Bool.rec (motive := fun _ => R) (callT ih f c s args (fun sz => K sz fn.results.toList κ) (maxF fn.ntmps (lenL args))) (.fail 182) (fn.name == "runtime.NumGoroutine")
abbrev Sums := FuncId → List AV → St → (AV → St → R) → R → R
abbrev noneK (sz : Nat) (rs : List ResultVar) (κ : AV → St → R) (e : Ex) (s : St) (t : Ts) : R := match e with
 | .exit _ => .fail 181
 | _ => Option.rec (motive := fun _ => R) (retR P rs κ s t) (fun _ => .fail 248) (t.get sz)
def callD (ih : EvT) (f : FuncId) (args : List AV) (s : St) (κ : AV → St → R) : R := optK (P.funcs[f]?) 183 fun fn => optK fn.body 184 (callX (noneK P) ih f fn args s κ)
def callG (ih : EvT) (f : FuncId) (args : List AV) (s : St) (κ : AV → St → R) : R := optK (P.funcs[f]?) 183 fun fn => optK fn.body 184 (callX (retK P (callD P ih)) ih f fn args s κ)
abbrev callF (sm : Sums) (ih : EvT) (f : FuncId) (args : List AV) (s : St) (κ : AV → St → R) : R := sm f args s κ (callG P ih f args s κ)
abbrev regK (κ : K) (s : St) (t : Ts) : R := κ .normal s t
abbrev drawK (sm : Sums) (ih : EvT) (sz : Nat) (ops : Array Oper) (s : St) (t : Ts) (κ : K) (p : Plan) : R := evMix P ops (callF P sm ih) sz p s t (regK κ)
abbrev regC (pl : Plans) (sm : Sums) (ih : EvT) (f sz : Nat) (s : St) (t : Ts) (κ : K) (id : Nat) (ops : Array Oper) (draw : Bool) : R :=
 Bool.rec (motive := fun _ => R) (evOps P ops (callF P sm ih) sz ops.toList .no s t (regK κ)) (optK (pl.pl f id) 186 (drawK P sm ih sz ops s t κ)) draw
abbrev cndC (jn : List (Nat × Nat)) (ih : EvT) (f sz : Nat) (s : St) (t : Ts) (κ : K) (c : Operand) (a b : Code) : R := opd t c (cndJ jn ih f sz a b s t κ)
def evF (pl : Plans) (sm : Sums) (N : Nat) (ih : EvT) (f sz : Nat) (c : Code) (s : St) (t : Ts) (κ : K) : R :=
 Code.rec (motive := fun _ => Program → Plans → Sums → Nat → EvT → Nat → Nat → St → Ts → K → R)
  (fun P pl sm N ih f sz s t κ => κ .normal s t)
  (fun x0 x1 x2 P pl sm N ih f sz s t κ => regC P pl sm ih f sz s t κ x0 x1 x2)
  (fun x0 x1 _ _ P pl sm N ih f sz s t κ => ih f sz x0 s t (seqK ih f sz x1 κ))
  (fun x0 x1 x2 _ _ P pl sm N ih f sz s t κ => cndC pl.jn ih f sz s t κ x0 x1 x2)
  (fun x0 x1 _ P pl sm N ih f sz s t κ => ih f sz x1 s t (blkK x0 κ))
  (fun x0 _ P pl sm N ih f sz s t κ => loopN pl.ac pl.ad ih f sz x0 κ N s t)
  (fun x0 x1 x2 x3 _ _ P pl sm N ih f sz s t κ => .fail 187)
  (fun x0 P pl sm N ih f sz s t κ => κ (.exit x0) s t)
  (fun x0 _ P pl sm N ih f sz s t κ => ih f sz x0 s t κ)
  (fun x0 P pl sm N ih f sz s t κ => κ .normal s t)
  (fun x0 P pl sm N ih f sz s t κ => .fail 187)
  (fun P pl sm N ih f sz s t κ => κ .ret s t)
  (fun x0 P pl sm N ih f sz s t κ => .fail 187)
  c P pl sm N ih f sz s t κ
def ev (pl : Plans) (sm : Sums) (N n : Nat) : EvT := Nat.rec (motive := fun _ => EvT) (fun _ _ _ _ _ _ => .fail 188) (fun _ ih => evF P pl sm N ih) n
def evCall (pl : Plans) (sm : Sums) (n : Nat) : CallT := callG P (ev P pl sm (nat_lit 100000) n)
def s0 (pcs : List (SB × Bool)) (smp : List (List Int)) (rg : List (Int × Int)) : St := ⟨.nil, nat_lit 0, ⟨pcs, smp, rg⟩⟩
end
end
end Go.Proofs.YtooebogidjejoaaGreat
namespace Go.Proofs.YtooebogidjejoaaGreat
open Go
theorem natBeq (a b : Nat) : Nat.beq a b = decide (a = b) := by
 cases h : Nat.beq a b with
 | true => have := Nat.eq_of_beq_eq_true h; simp [this]
 | false => have := Nat.ne_of_beq_eq_false h; simp [this]
theorem natBle (a b : Nat) : Nat.ble a b = decide (a ≤ b) := by
 by_cases h : a ≤ b
 ·rw [Nat.ble_eq_true_of_le h]; simp [h]
 ·have : Nat.ble a b ≠ true := fun e => h (Nat.le_of_ble_eq_true e)
  rw [decide_eq_false h]
  exact Bool.eq_false_iff.2 this
theorem natBlt (a b : Nat) : Nat.blt a b = decide (a < b) := natBle (a + 1) b
def Pos.num : Pos → Nat
 | .here => 0
 | .left p => 2 * p.num + 1
 | .right p => 2 * p.num + 2
theorem posF_num : ∀ (f k : Nat), k < f → (posF f k).num = k
 | 0, k, h => by omega
 | f + 1, 0, h => rfl
 | f + 1, k + 1, h => by
  have hk : (posF f (k / 2)).num = k / 2 := posF_num f (k / 2) (by omega)
  show (Bool.rec (motive := fun _ => Pos) (.right (posF f (k / 2))) (.left (posF f (k / 2))) (Nat.beq (k % 2) 0) : Pos).num = k + 1
  by_cases h2 : k % 2 = 0
  ·rw [show Nat.beq (k % 2) 0 = true by rw [natBeq]; simp [h2]]
   show 2 * (posF f (k / 2)).num + 1 = k + 1
   omega
  ·rw [show Nat.beq (k % 2) 0 = false by rw [natBeq]; simp [h2]]
   show 2 * (posF f (k / 2)).num + 2 = k + 1
   omega
theorem posOf_num (k : Nat) : (posOf k).num = k := posF_num _ _ (Nat.lt_succ_self k)
theorem posOf_inj {j k : Nat} (h : posOf j = posOf k) : j = k := by rw [← posOf_num j, h, posOf_num]
theorem Tr.getP_nil {α : Type} (p : Pos) : Tr.getP p (.nil : Tr α) = none := by cases p <;> rfl
theorem Tr.get_nil {α : Type} (k : Nat) : (Tr.nil : Tr α).get k = none := Tr.getP_nil _
theorem Tr.getP_setP {α : Type} (x : α) : ∀ (p q : Pos) (t : Tr α), (q = p → Tr.getP q (Tr.setP x p t) = some x) ∧ (q ≠ p → Tr.getP q (Tr.setP x p t) = Tr.getP q t)
 | .here, .here, t => ⟨fun _ => by cases t <;> rfl, fun h => absurd rfl h⟩
 | .here, .left q, t => ⟨(nomatch ·), fun _ => by cases t with | nil => exact Tr.getP_nil _ | node v l r => rfl⟩
 | .here, .right q, t => ⟨(nomatch ·), fun _ => by cases t with | nil => exact Tr.getP_nil _ | node v l r => rfl⟩
 | .left p, .here, t => ⟨(nomatch ·), fun _ => by cases t <;> rfl⟩
 | .right p, .here, t => ⟨(nomatch ·), fun _ => by cases t <;> rfl⟩
 | .left p, .right q, t => ⟨(nomatch ·), fun _ => by cases t with | nil => exact Tr.getP_nil _ | node v l r => rfl⟩
 | .right p, .left q, t => ⟨(nomatch ·), fun _ => by cases t with | nil => exact Tr.getP_nil _ | node v l r => rfl⟩
 | .left p, .left q, t => by
  refine ⟨fun h => ?_, fun h => ?_⟩
  ·cases t with
   | nil => exact (Tr.getP_setP x p q .nil).1 (by injection h)
   | node v l r => exact (Tr.getP_setP x p q l).1 (by injection h)
  ·have h : q ≠ p := fun e => h (by rw [e])
   cases t with
   | nil => exact ((Tr.getP_setP x p q .nil).2 h).trans (Tr.getP_nil _)
   | node v l r => exact (Tr.getP_setP x p q l).2 h
 | .right p, .right q, t => by
  refine ⟨fun h => ?_, fun h => ?_⟩
  ·cases t with
   | nil => exact (Tr.getP_setP x p q .nil).1 (by injection h)
   | node v l r => exact (Tr.getP_setP x p q r).1 (by injection h)
  ·have h : q ≠ p := fun e => h (by rw [e])
   cases t with
   | nil => exact ((Tr.getP_setP x p q .nil).2 h).trans (Tr.getP_nil _)
   | node v l r => exact (Tr.getP_setP x p q r).2 h
theorem Tr.get_set {α : Type} (t : Tr α) (k : Nat) (x : α) (j : Nat) : (t.set k x).get j = if j = k then some x else t.get j := by
 by_cases h : j = k
 ·rw [if_pos h]; exact (Tr.getP_setP x _ _ t).1 (by rw [h])
 ·rw [if_neg h]; exact (Tr.getP_setP x _ _ t).2 fun e => h (posOf_inj e)
theorem Ts.get_put (d : Nat) (v : AV) (t : Ts) (e : Nat) : (Ts.put d v t).get e = some v ∧ e = d ∨ (Ts.put d v t).get e = t.get e ∧ e ≠ d ∨ t.get e = none ∧ (Ts.put d v t).get e = none := by
 by_cases h : e = d
 ·exact .inl ⟨(Tr.get_set t d v e).trans (if_pos h), h⟩
 ·exact .inr (.inl ⟨(Tr.get_set t d v e).trans (if_neg h), h⟩)
theorem Ts.get_nil (d : Nat) : Ts.nil.get d = none := Tr.get_nil d
theorem Ts.getK_eq (t : Ts) (d : Nat) (κ : AV → R) : t.getK d κ = match t.get d with | some v => κ v | none => .fail 1 := by
 unfold Ts.getK Ts.get
 cases Tr.getP (posOf d) t <;> rfl
theorem tsF_get : ∀ (l : List AV) (n : Nat) (t : Ts) (d : Nat) (v : AV), (tsF l n t).get d = some v → (n ≤ d ∧ l[d - n]? = some v) ∨ t.get d = some v
 | [], n, t, d, v, h => .inr h
 | u :: l, n, t, d, v, h => by
  have h : (tsF l (n + 1) (Ts.put n u t)).get d = some v := h
  rcases tsF_get l (n + 1) _ d v h with ⟨h1, h2⟩ | h1
  ·exact .inl ⟨by omega, by rw [show d - n = (d - (n + 1)) + 1 by omega]; simpa using h2⟩
  ·rcases Ts.get_put n u t d with ⟨h2, rfl⟩ | ⟨h2, h3⟩ | ⟨h2, h3⟩
   ·rw [h2] at h1; cases h1; exact .inl ⟨Nat.le_refl _, by simp⟩
   ·rw [h2] at h1; exact .inr h1
   ·rw [h3] at h1; cases h1
theorem skel_get (d : Nat) : ∀ p : Pos, Tr.getP p (skel d) = none := by
 induction d with
 | zero => intro p; exact Tr.getP_nil p
 | succ d ih => intro p; cases p with
  | here => rfl
  | left p => exact ih p
  | right p => exact ih p
theorem tsOf_get {sz : Nat} {l : List AV} {d : Nat} {v : AV} (h : (tsOf sz l).get d = some v) : l[d]? = some v := by
 rcases tsF_get l 0 _ d v h with ⟨_, h1⟩ | h1
 ·simpa using h1
 ·rw [show (skel (Nat.succ (Nat.log2 sz))).get d = none from skel_get _ _] at h1; cases h1
theorem forceN_eq {α : Type} (n : Nat) (k : Nat → α) : forceN n k = k n := by cases n <;> rfl
theorem forceI_eq {α : Type} (n : Int) (k : Int → α) : forceI n k = k n := by cases n <;> simp [forceI, forceN_eq]
theorem forceB_eq {α : Type} (b : Bool) (k : Bool → α) : forceB b k = k b := by cases b <;> rfl
theorem wrapF_eq (k : IntKind) (n : Int) : wrapF k n = k.wrap n := by
 cases k <;> simp [wrapF, IntKind.wrap, IntKind.bits, IntKind.signed, halfF, modF] <;>
  (try simp only [show ∀ a b : Int, Int.sub a b = a - b from fun _ _ => rfl, show ∀ a b : Int, Int.add a b = a + b from fun _ _ => rfl, show ∀ a b : Int, Int.emod a b = a % b from fun _ _ => rfl]) <;>
  (try split) <;> omega
theorem bltF_eq (a b : Int) : bltF a b = decide (a < b) := by
 cases a with
 | ofNat x => cases b with
  | ofNat y => rw [show bltF (.ofNat x) (.ofNat y) = Nat.blt x y from rfl, natBlt]; congr 1; apply propext; simp
  | negSucc y => rw [show bltF (.ofNat x) (.negSucc y) = false from rfl]; symm; rw [decide_eq_false_iff_not]; simp only [Int.ofNat_eq_natCast]; omega
 | negSucc x => cases b with
  | ofNat y => rw [show bltF (.negSucc x) (.ofNat y) = true from rfl]; symm; rw [decide_eq_true_eq]; simp only [Int.ofNat_eq_natCast]; omega
  | negSucc y => rw [show bltF (.negSucc x) (.negSucc y) = Nat.blt y x from rfl, natBlt]; congr 1; apply propext; omega
theorem beqF_eq (a b : Int) : beqF a b = decide (a = b) := by
 cases a with
 | ofNat x => cases b with
  | ofNat y => rw [show beqF (.ofNat x) (.ofNat y) = Nat.beq x y from rfl, natBeq]; congr 1; apply propext; simp only [Int.ofNat_eq_natCast]; omega
  | negSucc y => rw [show beqF (.ofNat x) (.negSucc y) = false from rfl]; symm; rw [decide_eq_false_iff_not]; simp only [Int.ofNat_eq_natCast]; omega
 | negSucc x => cases b with
  | ofNat y => rw [show beqF (.negSucc x) (.ofNat y) = false from rfl]; symm; rw [decide_eq_false_iff_not]; simp only [Int.ofNat_eq_natCast]; omega
  | negSucc y => rw [show beqF (.negSucc x) (.negSucc y) = Nat.beq x y from rfl, natBeq]; congr 1; apply propext; omega
theorem notF_eq (b : Bool) : notF b = !b := by cases b <;> rfl
theorem minF_eq (a b : Nat) : minF a b = min a b := by
 unfold minF
 rw [natBle]
 by_cases h : a ≤ b
 ·simp [h, Nat.min_eq_left h]
 ·simp [h]; omega
theorem maxF_eq (a b : Nat) : maxF a b = max a b := by
 unfold maxF
 rw [natBle]
 by_cases h : a ≤ b
 ·simp [h, Nat.max_eq_right h]
 ·simp [h]; omega
theorem bitsF_eq (k : IntKind) : bitsF k = k.bits := by cases k <;> rfl
theorem modF_eq (k : IntKind) : modF k = 2 ^ k.bits := by cases k <;> rfl
theorem lowF_eq (k : IntKind) (x : Int) : lowF k x = (BitVec.ofInt k.bits x).toNat := by
 rw [BitVec.toNat_ofInt]
 unfold lowF
 rw [modF_eq]
 rfl
theorem topF_eq (k : IntKind) (n : Nat) (h : n < topF k) : k.wrap n = n := by
 rw [← wrapF_eq]
 cases k <;> simp only [topF] at h <;> simp only [wrapF, halfF, modF, show ∀ a b : Int, Int.sub a b = a - b from fun _ _ => rfl, show ∀ a b : Int, Int.add a b = a + b from fun _ _ => rfl, show ∀ a b : Int, Int.emod a b = a % b from fun _ _ => rfl, Int.ofNat_eq_natCast] <;> omega
theorem finF_eq (k : IntKind) (n : Nat) : finF k n = k.wrap n := by
 unfold finF
 rw [natBlt]
 by_cases h : n < topF k
 ·simp only [h, decide_true]
  exact (topF_eq k n h).symm
 ·simp only [h, decide_false]
  exact wrapF_eq _ _
theorem convF_eq (k : IntKind) (x : Int) : convF k x = k.wrap x := by
 cases x with
 | ofNat n => exact finF_eq k n
 | negSucc n => exact wrapF_eq _ _
theorem addF_eq (k : IntKind) (x y : Int) : addF k x y = k.wrap (x + y) := by
 cases x with
 | ofNat a => cases y with
  | ofNat b => exact finF_eq k _
  | negSucc b => exact wrapF_eq _ _
 | negSucc a => exact wrapF_eq _ _
theorem subF_eq (k : IntKind) (x y : Int) : subF k x y = k.wrap (x - y) := by
 cases x with
 | ofNat a => cases y with
  | ofNat b =>
   show Bool.rec (motive := fun _ => Int) (wrapF k (Int.sub (.ofNat a) (.ofNat b))) (finF k (a - b)) (Nat.ble b a) = _
   rw [natBle]
   by_cases h : b ≤ a
   ·simp only [h, decide_true]
    rw [finF_eq]
    congr 1
    simp only [Int.ofNat_eq_natCast]
    omega
   ·simp only [h, decide_false]
    exact wrapF_eq _ _
  | negSucc b => exact wrapF_eq _ _
 | negSucc a => exact wrapF_eq _ _
theorem mulF_eq (k : IntKind) (x y : Int) : mulF k x y = k.wrap (x * y) := by
 cases x with
 | ofNat a => cases y with
  | ofNat b => exact finF_eq k _
  | negSucc b => exact wrapF_eq _ _
 | negSucc a => exact wrapF_eq _ _
theorem modN_eq (k : IntKind) : modN k = 2 ^ k.bits := by cases k <;> rfl
theorem lowQ_eq (k : IntKind) (x : Int) : lowQ k x = (BitVec.ofInt k.bits x).toNat := by
 cases x with
 | ofNat a =>
  rw [BitVec.toNat_ofInt]
  show a % modN k = _
  rw [modN_eq]
  rfl
 | negSucc a => exact lowF_eq _ _
theorem shrF_eq (x : Int) (n : Nat) : shrF x n = x.fdiv (2 ^ n) := by
 cases x with
 | ofNat a =>
  show ((a / 2 ^ n : Nat) : Int) = Int.fdiv (a : Int) (2 ^ n)
  rw [Int.fdiv_eq_ediv_of_nonneg _ (by exact Int.le_of_lt (Int.pow_pos (by omega)))]
  rw [Int.natCast_ediv, Int.natCast_pow]
  rfl
 | negSucc a =>
  show Int.fdiv _ _ = _
  rw [show Int.ofNat (Nat.pow 2 n) = (2 : Int) ^ n by rw [Int.ofNat_eq_natCast]; exact Int.natCast_pow 2 n]
theorem binF_eq (op : BinOp) (k : IntKind) (x y : Int) : binF op k x y = binZ op k x y := by
 cases op
 case add => exact addF_eq _ _ _
 case sub => exact subF_eq _ _ _
 case mul => exact mulF_eq _ _ _
 case quo => exact convF_eq _ _
 case rem => rfl
 case and => show finF k _ = _; rw [finF_eq, lowQ_eq, lowQ_eq]; simp only [binZ, BitVec.toNat_and]; rfl
 case or => show finF k _ = _; rw [finF_eq, lowQ_eq, lowQ_eq]; simp only [binZ, BitVec.toNat_or]; rfl
 case xor => show finF k _ = _; rw [finF_eq, lowQ_eq, lowQ_eq]; simp only [binZ, BitVec.toNat_xor]; rfl
 case andNot =>
  show finF k _ = _
  rw [finF_eq, lowQ_eq, lowQ_eq]
  simp only [binZ, BitVec.toNat_and, BitVec.toNat_not, modN_eq]
  rfl
 case shl =>
  show mulF k x (.ofNat (Nat.pow 2 (minF (Int.toNat y) (bitsF k)))) = _
  rw [mulF_eq, minF_eq, bitsF_eq]
  simp only [binZ]
  congr 2
 case shr => show shrF x _ = _; rw [shrF_eq, minF_eq, bitsF_eq]; rfl
 all_goals rfl
theorem cmpF_eq (op : BinOp) (x y : Int) : cmpF op x y = cmpZ op x y := by
 cases op
 case eql => show beqF x y = _; rw [beqF_eq]; rfl
 case neq => show notF (beqF x y) = _; rw [notF_eq, beqF_eq]; rfl
 case lss => show bltF x y = _; rw [bltF_eq]; rfl
 case leq => show notF (bltF y x) = _; rw [notF_eq, bltF_eq, ← decide_not]; simp [cmpZ]
 case gtr => show bltF y x = _; rw [bltF_eq]; rfl
 case geq => show notF (bltF x y) = _; rw [notF_eq, bltF_eq, ← decide_not]; simp [cmpZ]
 all_goals rfl
theorem kindEq_eq (a b : IntKind) : kindEq a b = decide (a = b) := by
 cases a <;> cases b <;> rfl
theorem kindEq_of {a b : IntKind} (h : kindEq a b = true) : a = b := by rw [kindEq_eq] at h; exact of_decide_eq_true h
theorem SI.beq_eq : ∀ (a b : SI), SI.beq a b = true → a = b := by
 intro a
 induction a with
 | lit n => intro b h; cases b <;> simp [SI.beq, beqF_eq, kindEq_eq] at h; rw [h]
 | var i => intro b h; cases b <;> simp [SI.beq, kindEq_eq] at h; rw [h]
 | bin o k a b iha ihb =>
  intro c h
  cases c <;> simp [SI.beq, kindEq_eq] at h
  obtain ⟨rfl, rfl, h1, h2⟩ := h
  rw [iha _ h1, ihb _ h2]
 | conv k a ih =>
  intro c h
  cases c <;> simp [SI.beq, kindEq_eq] at h
  obtain ⟨rfl, h1⟩ := h
  rw [ih _ h1]
 | fold a ih =>
  intro c h
  cases c <;> simp [SI.beq, kindEq_eq] at h
  rw [ih _ h]
 | rs a p o n iho ihn =>
  intro c h
  cases c <;> simp [SI.beq, kindEq_eq] at h
  obtain ⟨rfl, rfl, h1, h2⟩ := h
  rw [iho _ h1, ihn _ h2]
theorem SB.beq_eq : ∀ (a b : SB), SB.beq a b = true → a = b := by
 intro a
 induction a with
 | lit n => intro b h; cases b <;> simp [SB.beq] at h; rw [h]
 | cmp o a b =>
  intro c h
  cases c <;> simp [SB.beq] at h
  obtain ⟨rfl, h1, h2⟩ := h
  rw [SI.beq_eq _ _ h1, SI.beq_eq _ _ h2]
 | not a ih =>
  intro c h
  cases c <;> simp [SB.beq] at h
  rw [ih _ h]
theorem leF_eq (a b : Int) : leF a b = decide (a ≤ b) := by
 unfold leF
 rw [notF_eq, bltF_eq]
 by_cases h : b < a
 ·rw [decide_eq_true h, decide_eq_false (by omega)]; rfl
 ·rw [decide_eq_false h, decide_eq_true (by omega)]; rfl
theorem wrap_rng (k : IntKind) (n : Int) : minK k ≤ k.wrap n ∧ k.wrap n ≤ maxK k := by
 rw [← wrapF_eq]
 cases k <;> simp only [wrapF, halfF, modF, minK, maxK, show ∀ a b : Int, Int.sub a b = a - b from fun _ _ => rfl, show ∀ a b : Int, Int.add a b = a + b from fun _ _ => rfl, show ∀ a b : Int, Int.emod a b = a % b from fun _ _ => rfl, Int.ofNat_eq_natCast, Int.negSucc_eq] <;> omega
theorem wrap_in {k : IntKind} {n : Int} (h : minK k ≤ n ∧ n ≤ maxK k) : k.wrap n = n := by
 rw [← wrapF_eq]
 revert h
 cases k <;> simp only [wrapF, halfF, modF, minK, maxK, show ∀ a b : Int, Int.sub a b = a - b from fun _ _ => rfl, show ∀ a b : Int, Int.add a b = a + b from fun _ _ => rfl, show ∀ a b : Int, Int.emod a b = a % b from fun _ _ => rfl, Int.ofNat_eq_natCast, Int.negSucc_eq] <;> omega
theorem wrap_sub {k k' : IntKind} (h : subKd k' k = true) (n : Int) : k.wrap (k'.wrap n) = k'.wrap n := by
 unfold subKd at h
 simp only [Bool.and_eq_true, leF_eq, decide_eq_true_eq] at h
 have := wrap_rng k' n
 exact wrap_in ⟨by omega, by omega⟩
theorem wrap_narrow {k k' : IntKind} (h : Nat.ble (bitsF k) (bitsF k') = true) (n : Int) : k.wrap (k'.wrap n) = k.wrap n := by
 rw [natBle, decide_eq_true_eq] at h
 simp only [← wrapF_eq]
 revert h
 cases k <;> cases k' <;> simp only [bitsF] <;> intro h <;> first | (exfalso; revert h; decide) | (simp only [wrapF, halfF, modF, show ∀ a b : Int, Int.sub a b = a - b from fun _ _ => rfl, show ∀ a b : Int, Int.add a b = a + b from fun _ _ => rfl, show ∀ a b : Int, Int.emod a b = a % b from fun _ _ => rfl, Int.ofNat_eq_natCast] <;> omega)
theorem wrap_wrap (k : IntKind) (n : Int) : k.wrap (k.wrap n) = k.wrap n := wrap_narrow (by cases k <;> rfl) n
theorem ringB_wrap {op : BinOp} (h : ringB op = true) (k : IntKind) (x y : Int) : k.wrap (binZ op k x y) = binZ op k x y := by
 cases op <;> first | (cases h; done) | exact wrap_wrap k _
theorem convC_spec {α : Type} (k : IntKind) (a : SI) (κ : SI → α) : ∃ e, convC k a κ = κ e ∧ ∀ ρ, e.ev ρ = k.wrap (a.ev ρ) := by
 unfold convC
 split
 ·rename_i k' y
  cases h1 : subKd k' k with
  | true => exact ⟨_, rfl, fun ρ => (wrap_sub h1 _).symm⟩
  | false =>
   cases h2 : Nat.ble (bitsF k) (bitsF k') with
   | true => exact ⟨_, rfl, fun ρ => (wrap_narrow h2 _).symm⟩
   | false => exact ⟨_, rfl, fun ρ => rfl⟩
 ·rename_i op k' x y
  cases h : (kindEq k k' && ringB op) with
  | true =>
   rw [Bool.and_eq_true] at h
   obtain rfl := kindEq_of h.1
   exact ⟨_, rfl, fun ρ => (ringB_wrap h.2 _ _ _).symm⟩
  | false => exact ⟨_, rfl, fun ρ => rfl⟩
 ·exact ⟨_, rfl, fun ρ => rfl⟩
theorem wrap_uns {k : IntKind} (h : isUns k = true) (n : Int) : k.wrap n = n % 2 ^ bitsF k := by
 rw [← wrapF_eq]
 cases k <;> first | (cases h; done) | (simp only [wrapF, halfF, modF, bitsF, show ∀ a b : Int, Int.sub a b = a - b from fun _ _ => rfl, show ∀ a b : Int, Int.add a b = a + b from fun _ _ => rfl, show ∀ a b : Int, Int.emod a b = a % b from fun _ _ => rfl, Int.ofNat_eq_natCast] <;> omega)
theorem shr_div {k : IntKind} {x : Int} {s : Nat} (h : s ≤ k.bits) : binZ .shr k x (Int.ofNat s) = x / 2 ^ s := by
 show Int.fdiv x (2 ^ (min (Int.ofNat s).toNat k.bits)) = _
 rw [show (Int.ofNat s).toNat = s from rfl, Nat.min_eq_left h]
 exact Int.fdiv_eq_ediv_of_nonneg _ (Int.le_of_lt (Int.pow_pos (by omega)))
def BitsAt (e x : SI) (lo n : Nat) : Prop := ∀ ρ, e.ev ρ = (x.ev ρ / 2 ^ lo) % 2 ^ n
theorem wrap_bits {k : IntKind} {z : Int} {lo n : Nat} (h : lo + n ≤ k.bits) : (k.wrap z / 2 ^ lo) % 2 ^ n = (z / 2 ^ lo) % 2 ^ n := by
 have key : ∃ c : Int, k.wrap z = z + c * 2 ^ k.bits := by
  unfold IntKind.wrap
  have hd := Int.mul_ediv_add_emod z (2 ^ k.bits)
  simp only
  split
  ·exact ⟨-(z / 2 ^ k.bits) - 1, by rw [Int.sub_mul, Int.neg_mul, Int.mul_comm (z / 2 ^ k.bits)]; omega⟩
  ·exact ⟨-(z / 2 ^ k.bits), by rw [Int.neg_mul, Int.mul_comm (z / 2 ^ k.bits)]; omega⟩
 obtain ⟨c, hc⟩ := key
 rw [hc]
 have hp : (2 : Int) ^ k.bits = 2 ^ (k.bits - lo - n) * 2 ^ n * 2 ^ lo := by
  rw [← Int.pow_add, ← Int.pow_add]
  congr 1
  omega
 rw [hp, ← Int.mul_assoc, Int.add_mul_ediv_right _ _ (show (2 : Int) ^ lo ≠ 0 by have : (0 : Int) < 2 ^ lo := Int.pow_pos (by omega); omega), ← Int.mul_assoc, Int.add_mul_emod_self_right]
theorem bitsG_spec {α : Type} {κ : SI → Nat → Nat → α} {n : Nat} : ∀ (f : Nat) (x : SI) (lo : Nat), ∃ y lo', bitsG f x lo n κ = κ y lo' n ∧ ∀ ρ, (x.ev ρ / 2 ^ lo) % 2 ^ n = (y.ev ρ / 2 ^ lo') % 2 ^ n
 | 0, x, lo => ⟨x, lo, rfl, fun _ => rfl⟩
 | f + 1, x, lo => by
  cases x with
  | conv k z =>
   show ∃ y lo', Bool.rec (motive := fun _ => α) (κ (.conv k z) lo n) (bitsG f z lo n κ) (Nat.ble (Nat.add lo n) (bitsF k)) = κ y lo' n ∧ _
   cases hb : Nat.ble (Nat.add lo n) (bitsF k) with
   | false => exact ⟨_, _, rfl, fun _ => rfl⟩
   | true =>
    rw [natBle, decide_eq_true_eq, bitsF_eq] at hb
    obtain ⟨y, lo', h1, h2⟩ := bitsG_spec f z lo
    exact ⟨y, lo', h1, fun ρ => (wrap_bits hb).trans (h2 ρ)⟩
  | bin op k z b =>
   by_cases hop : op = .shr
   ·subst hop
    cases b with
    | lit m =>
     cases m with
     | ofNat s =>
      show ∃ y lo', Bool.rec (motive := fun _ => α) (κ (.bin .shr k z (.lit (.ofNat s))) lo n) (forceN (Nat.add lo s) fun m => bitsG f z m n κ) (Nat.blt s (bitsF k)) = κ y lo' n ∧ _
      cases hb : Nat.blt s (bitsF k) with
      | false => exact ⟨_, _, rfl, fun _ => rfl⟩
      | true =>
       rw [natBlt, decide_eq_true_eq, bitsF_eq] at hb
       obtain ⟨y, lo', h1, h2⟩ := bitsG_spec f z (Nat.add lo s)
       refine ⟨y, lo', ?_, fun ρ => Eq.trans ?_ (h2 ρ)⟩
       ·show forceN (Nat.add lo s) (fun m => bitsG f z m n κ) = _
        rw [forceN_eq]; exact h1
       ·show (binZ .shr k (z.ev ρ) (Int.ofNat s) / 2 ^ lo) % 2 ^ n = _
        rw [shr_div (Nat.le_of_lt hb), Int.ediv_ediv_of_nonneg (Int.le_of_lt (Int.pow_pos (by omega))), ← Int.pow_add, Nat.add_comm s lo]
        rfl
     | negSucc m => exact ⟨_, _, rfl, fun _ => rfl⟩
    | _ => exact ⟨_, _, rfl, fun _ => rfl⟩
   ·refine ⟨.bin op k z b, lo, ?_, fun _ => rfl⟩
    cases op <;> first | rfl | exact absurd rfl hop
  | _ => exact ⟨_, _, rfl, fun _ => rfl⟩
theorem bitsB_spec {α : Type} {x : SI} {lo n : Nat} {κ : SI → Nat → Nat → α} : ∃ y lo', bitsB x lo n κ = κ y lo' n ∧ ∀ ρ, (x.ev ρ / 2 ^ lo) % 2 ^ n = (y.ev ρ / 2 ^ lo') % 2 ^ n := bitsG_spec _ _ _
theorem bits1_spec {α : Type} {k : IntKind} {y : SI} {no : α} {κ : SI → Nat → Nat → α} : bits1 k y no κ = no ∨ ∃ x lo n, bits1 k y no κ = κ x lo n ∧ BitsAt (.conv k y) x lo n := by
 unfold bits1
 cases hk : isUns k with
 | false => exact .inl rfl
 | true =>
  right
  have plain : ∀ y : SI, BitsAt (.conv k y) y 0 (bitsF k) := fun y ρ => by
   show k.wrap (y.ev ρ) = _
   rw [wrap_uns hk]
   simp
  split
  ·rename_i k2 x s
   cases hs : Nat.blt s (bitsF k2) with
   | false =>
    obtain ⟨z, lo', h1, h2⟩ := bitsB_spec (x := .bin .shr k2 x (.lit (.ofNat s))) (lo := 0) (n := bitsF k) (κ := κ)
    exact ⟨z, _, _, h1, fun ρ => (plain _ ρ).trans (h2 ρ)⟩
   | true =>
    rw [natBlt, decide_eq_true_eq, bitsF_eq] at hs
    obtain ⟨z, lo', h1, h2⟩ := bitsB_spec (x := x) (lo := s) (n := bitsF k) (κ := κ)
    refine ⟨z, _, _, h1, fun ρ => ?_⟩
    rw [← h2]
    show k.wrap (binZ .shr k2 (x.ev ρ) (Int.ofNat s)) = _
    rw [wrap_uns hk, shr_div (Nat.le_of_lt hs)]
  ·obtain ⟨z, lo', h1, h2⟩ := bitsB_spec (x := y) (lo := 0) (n := bitsF k) (κ := κ)
   exact ⟨z, _, _, h1, fun ρ => (plain _ ρ).trans (h2 ρ)⟩
theorem emod_split (q : Int) (m n : Nat) : q % 2 ^ (n + m) = 2 ^ m * ((q / 2 ^ m) % 2 ^ n) + q % 2 ^ m := by
 have h1 := Int.mul_ediv_add_emod q (2 ^ m)
 have h2 := Int.mul_ediv_add_emod (q / 2 ^ m) (2 ^ n)
 have p1 : (0 : Int) < 2 ^ m := Int.pow_pos (by omega)
 have p2 : (0 : Int) < 2 ^ n := Int.pow_pos (by omega)
 have a1 := Int.emod_nonneg q (show (2 : Int) ^ m ≠ 0 by omega)
 have a2 := Int.emod_lt_of_pos q p1
 have b1 := Int.emod_nonneg (q / 2 ^ m) (show (2 : Int) ^ n ≠ 0 by omega)
 have b2 := Int.emod_lt_of_pos (q / 2 ^ m) p2
 generalize q % 2 ^ m = r at *
 generalize (q / 2 ^ m) % 2 ^ n = s at *
 generalize q / 2 ^ m = u at *
 generalize u / 2 ^ n = v at *
 have hq : q = 2 ^ (n + m) * v + (2 ^ m * s + r) := by
  rw [← h1, ← h2, Int.pow_add, Int.mul_add, Int.add_assoc, ← Int.mul_assoc, Int.mul_comm (2 ^ m) (2 ^ n)]
 have hlt : 2 ^ m * s + r < 2 ^ (n + m) := by
  have : (2 : Int) ^ m * s ≤ 2 ^ m * (2 ^ n - 1) := Int.mul_le_mul_of_nonneg_left (by omega) (by omega)
  rw [Int.mul_sub, Int.mul_one] at this
  rw [Int.pow_add, Int.mul_comm (2 ^ n)]
  omega
 have h0 : 0 ≤ (2 : Int) ^ m * s := Int.mul_nonneg (by omega) b1
 rw [hq, Int.add_comm, Int.add_mul_emod_self_left, Int.emod_eq_of_lt (by omega) hlt]
theorem wide32_bits {k : IntKind} (h : wide32 k = true) : 32 ≤ k.bits ∧ minK k ≤ 0 ∧ 4294967295 ≤ maxK k := by
 cases k <;> first | (cases h; done) | (simp [IntKind.bits, minK, maxK])
theorem or_low {k : IntKind} (hk : wide32 k = true) {a b : Int} {n m : Nat} (ha : 0 ≤ a) (ha' : a < 2 ^ n) (hb : 0 ≤ b) (hb' : b < 2 ^ m) (hnm : n + m ≤ 32) : binZ .or k (binZ .shl k a (Int.ofNat m)) b = 2 ^ m * a + b := by
 obtain ⟨w1, w2, w3⟩ := wide32_bits hk
 obtain ⟨a, rfl⟩ := Int.eq_ofNat_of_zero_le ha
 obtain ⟨b, rfl⟩ := Int.eq_ofNat_of_zero_le hb
 have ea : a < 2 ^ n := by exact_mod_cast ha'
 have eb : b < 2 ^ m := by exact_mod_cast hb'
 have hlt : 2 ^ m * a + b < 2 ^ 32 := by
  have h1 : 2 ^ m * a + b < 2 ^ m * a + 2 ^ m := by omega
  have h2 : 2 ^ m * a + 2 ^ m ≤ 2 ^ m * 2 ^ n := by
   rw [show 2 ^ m * a + 2 ^ m = 2 ^ m * (a + 1) by rw [Nat.mul_add, Nat.mul_one]]
   exact Nat.mul_le_mul_left _ (by omega)
  have h3 : 2 ^ m * 2 ^ n ≤ 2 ^ 32 := by
   rw [← Nat.pow_add]
   exact Nat.pow_le_pow_right (by omega) (by omega)
  omega
 have hlt' : 2 ^ m * a < 2 ^ 32 := by omega
 have hw : ∀ c : Nat, c < 2 ^ 32 → k.wrap (c : Int) = c := fun c hc => wrap_in ⟨by omega, by omega⟩
 have hz : ∀ c : Nat, c < 2 ^ 32 → (BitVec.ofInt k.bits (c : Int)).toNat = c := fun c hc => by
  rw [BitVec.toNat_ofInt]
  have : c < 2 ^ k.bits := Nat.lt_of_lt_of_le hc (Nat.pow_le_pow_right (by omega) w1)
  rw [Int.emod_eq_of_lt (by omega) (by exact_mod_cast this)]
  rfl
 have hs : binZ .shl k (a : Int) (Int.ofNat m) = ((2 ^ m * a : Nat) : Int) := by
  show k.wrap ((a : Int) * 2 ^ (min (Int.ofNat m).toNat k.bits)) = _
  rw [show (Int.ofNat m).toNat = m from rfl, Nat.min_eq_left (by omega)]
  rw [show (a : Int) * 2 ^ m = ((2 ^ m * a : Nat) : Int) by rw [Nat.mul_comm]; simp]
  exact hw _ hlt'
 rw [hs]
 show k.wrap ((BitVec.ofInt k.bits ((2 ^ m * a : Nat) : Int) ||| BitVec.ofInt k.bits (b : Int)).toNat : Int) = _
 rw [BitVec.toNat_or, hz _ hlt', hz _ (by omega), ← Nat.two_pow_add_eq_or_of_lt eb, hw _ hlt]
 simp
theorem bits2_spec {α : Type} {x y : SI} {lo n lo' n' s : Nat} {no : α} {κ : SI → Nat → Nat → α} : bits2 x y lo n lo' n' s no κ = no ∨ (bits2 x y lo n lo' n' s no κ = κ y lo' (n + n') ∧ x = y ∧ lo = lo' + n' ∧ s = n' ∧ n + n' ≤ 32) := by
 unfold bits2
 rw [forceN_eq]
 cases h : (SI.beq x y && (Nat.beq lo (Nat.add lo' n') && (Nat.beq s n' && Nat.ble (Nat.add n n') (nat_lit 32)))) with
 | false => exact .inl rfl
 | true =>
  simp only [Bool.and_eq_true, natBeq, natBle, decide_eq_true_eq] at h
  exact .inr ⟨rfl, SI.beq_eq _ _ h.1, h.2.1, h.2.2.1, h.2.2.2⟩
theorem shlOf_some {a : SI} {p : IntKind × SI × Nat} (h : shlOf a = some p) : a = .bin .shl p.1 p.2.1 (.lit (.ofNat p.2.2)) := by
 unfold shlOf at h
 split at h
 ·cases h; rfl
 ·cases h
theorem bitsOf_spec {α : Type} : ∀ (f : Nat) (e : SI) (no : α) (κ : SI → Nat → Nat → α), bitsOf f e no κ = no ∨ ∃ x lo n, bitsOf f e no κ = κ x lo n ∧ BitsAt e x lo n
 | 0, e, no, κ => .inl rfl
 | f + 1, e, no, κ => by
  cases e with
  | conv k y => exact bits1_spec
  | bin o k a b =>
   cases o
   case or =>
    show (match shlOf a with
     | some p => Bool.rec (motive := fun _ => α) no (bitsOf f p.2.1 no fun x lo n => bitsOf f b no fun y lo' n' => bits2 x y lo n lo' n' p.2.2 no κ) (wide32 k && kindEq k p.1)
     | none => no) = no ∨ ∃ x lo n, (match shlOf a with
     | some p => Bool.rec (motive := fun _ => α) no (bitsOf f p.2.1 no fun x lo n => bitsOf f b no fun y lo' n' => bits2 x y lo n lo' n' p.2.2 no κ) (wide32 k && kindEq k p.1)
     | none => no) = κ x lo n ∧ BitsAt (.bin .or k a b) x lo n
    cases hs : shlOf a with
    | none => exact .inl rfl
    | some p =>
     have ha := shlOf_some hs
     obtain ⟨k2, A, s⟩ := p
     simp only at ha
     subst ha
     cases hb : (wide32 k && kindEq k k2) with
     | false => exact .inl (by simp only [hb])
     | true =>
      simp only [hb]
      simp only [Bool.and_eq_true] at hb
      have hk := kindEq_of hb.2
      subst hk
      rcases bitsOf_spec f A no (fun x lo n => bitsOf f b no fun y lo' n' => bits2 x y lo n lo' n' s no κ) with h | ⟨x, lo, n, h, hx⟩
      ·exact .inl h
      rw [h]
      rcases bitsOf_spec f b no (fun y lo' n' => bits2 x y lo n lo' n' s no κ) with h | ⟨y, lo', n', h, hy⟩
      ·exact .inl h
      rw [h]
      rcases bits2_spec (x := x) (y := y) (lo := lo) (n := n) (lo' := lo') (n' := n') (s := s) (no := no) (κ := κ) with h | ⟨h, rfl, rfl, rfl, hle⟩
      ·exact .inl h
      refine .inr ⟨_, _, _, h, fun ρ => ?_⟩
      show binZ .or k (binZ .shl k (A.ev ρ) (Int.ofNat s)) (b.ev ρ) = _
      rw [hx ρ, hy ρ]
      have p1 : (0 : Int) < 2 ^ n := Int.pow_pos (by omega)
      have p2 : (0 : Int) < 2 ^ s := Int.pow_pos (by omega)
      have p3 : (0 : Int) < 2 ^ lo' := Int.pow_pos (by omega)
      rw [or_low hb.1 (n := n) (m := s) (Int.emod_nonneg _ (by omega)) (Int.emod_lt_of_pos _ p1) (Int.emod_nonneg _ (by omega)) (Int.emod_lt_of_pos _ p2) hle, emod_split, Int.pow_add, Int.ediv_ediv_of_nonneg (by omega)]
   all_goals exact .inl rfl
  | _ => exact .inl rfl
theorem canon_spec {α : Type} {k : IntKind} (hk : isUns k = true) {x : SI} {lo : Nat} {κ : SI → α} (hlo : lo < 64) : ∃ e, canon k x lo κ = κ e ∧ ∀ ρ, e.ev ρ = (x.ev ρ / 2 ^ lo) % 2 ^ bitsF k := by
 unfold canon
 cases h0 : Nat.beq lo (nat_lit 0) with
 | true =>
  rw [natBeq, decide_eq_true_eq] at h0
  have h0 : lo = 0 := h0
  subst h0
  obtain ⟨e, h1, h2⟩ := convC_spec k x κ
  refine ⟨e, h1, fun ρ => ?_⟩
  rw [h2, wrap_uns hk]
  simp
 | false =>
  cases h1 : Nat.blt lo (nat_lit 32) with
  | true =>
   rw [natBlt, decide_eq_true_eq] at h1
   refine ⟨_, rfl, fun ρ => ?_⟩
   show k.wrap (binZ .shr .u32 (x.ev ρ) (Int.ofNat lo)) = _
   rw [wrap_uns hk, shr_div (show lo ≤ 32 from Nat.le_of_lt h1)]
  | false =>
   refine ⟨_, rfl, fun ρ => ?_⟩
   show k.wrap (binZ .shr .i64 (x.ev ρ) (Int.ofNat lo)) = _
   rw [wrap_uns hk, shr_div (show lo ≤ 64 by omega)]
theorem orW_spec {α : Type} {e x : SI} {lo n : Nat} {κ : SI → α} (hb : BitsAt e x lo n) : ∃ u, orW e κ x lo n = κ u ∧ ∀ ρ, u.ev ρ = e.ev ρ := by
 unfold orW
 cases h1 : (Nat.beq n (nat_lit 16) && Nat.blt lo (nat_lit 64)) with
 | true =>
  simp only [Bool.and_eq_true, natBeq, natBlt, decide_eq_true_eq] at h1
  obtain ⟨u, h2, h3⟩ := canon_spec (k := .u16) rfl (x := x) (κ := κ) h1.2
  refine ⟨u, h2, fun ρ => ?_⟩
  rw [h3, hb ρ, h1.1]
  rfl
 | false =>
  cases h2 : (Nat.beq n (nat_lit 32) && Nat.blt lo (nat_lit 64)) with
  | true =>
   simp only [Bool.and_eq_true, natBeq, natBlt, decide_eq_true_eq] at h2
   obtain ⟨u, h3, h4⟩ := canon_spec (k := .u32) rfl (x := x) (κ := κ) h2.2
   refine ⟨u, h3, fun ρ => ?_⟩
   rw [h4, hb ρ, h2.1]
   rfl
  | false => exact ⟨_, rfl, fun _ => rfl⟩
theorem wrap_low (k : IntKind) (y : Int) : k.wrap ((BitVec.ofInt k.bits y).toNat : Int) = k.wrap y := by
 rw [← lowF_eq, ← wrapF_eq, ← wrapF_eq]
 cases k <;> simp only [lowF, wrapF, halfF, modF, show ∀ a b : Int, Int.sub a b = a - b from fun _ _ => rfl, show ∀ a b : Int, Int.add a b = a + b from fun _ _ => rfl, show ∀ a b : Int, Int.emod a b = a % b from fun _ _ => rfl, Int.ofNat_eq_natCast] <;> omega
theorem or_zero_left (k : IntKind) (y : Int) : binZ .or k 0 y = k.wrap y := by
 show k.wrap ((BitVec.ofInt k.bits 0 ||| BitVec.ofInt k.bits y).toNat : Int) = _
 rw [show BitVec.ofInt k.bits 0 = 0#k.bits from by simp, BitVec.zero_or]
 exact wrap_low k y
theorem or_zero_right (k : IntKind) (y : Int) : binZ .or k y 0 = k.wrap y := by
 show k.wrap ((BitVec.ofInt k.bits y ||| BitVec.ofInt k.bits 0).toNat : Int) = _
 rw [show BitVec.ofInt k.bits 0 = 0#k.bits from by simp, BitVec.or_zero]
 exact wrap_low k y
theorem orS_spec {α : Type} (k : IntKind) (a b : SI) (κ : SI → α) : ∃ e, orS k a b κ = κ e ∧ ∀ ρ, e.ev ρ = binZ .or k (a.ev ρ) (b.ev ρ) := by
 unfold orS
 split
 ·obtain ⟨e, h1, h2⟩ := convC_spec k b κ
  exact ⟨e, h1, fun ρ => by rw [h2]; exact (or_zero_left k _).symm⟩
 ·split
  ·obtain ⟨e, h1, h2⟩ := convC_spec k a κ
   exact ⟨e, h1, fun ρ => by rw [h2]; exact (or_zero_right k _).symm⟩
  ·rcases bitsOf_spec 6 (.bin .or k a b) (κ (.bin .or k a b)) (orW (.bin .or k a b) κ) with h | ⟨x, lo, n, h, hx⟩
   ·exact ⟨_, h, fun _ => rfl⟩
   ·obtain ⟨u, h1, h2⟩ := orW_spec (κ := κ) hx
    exact ⟨u, h.trans h1, h2⟩
theorem wrap_add (k : IntKind) (m n : Int) : k.wrap (k.wrap m + n) = k.wrap (m + n) := by
 simp only [← wrapF_eq]
 cases k <;> simp only [wrapF, halfF, modF, show ∀ a b : Int, Int.sub a b = a - b from fun _ _ => rfl, show ∀ a b : Int, Int.add a b = a + b from fun _ _ => rfl, show ∀ a b : Int, Int.emod a b = a % b from fun _ _ => rfl, Int.ofNat_eq_natCast] <;> omega
theorem wrap_rsub (k : IntKind) (m n : Int) : k.wrap (n - k.wrap m) = k.wrap (n - m) := by
 simp only [← wrapF_eq]
 cases k <;> simp only [wrapF, halfF, modF, show ∀ a b : Int, Int.sub a b = a - b from fun _ _ => rfl, show ∀ a b : Int, Int.add a b = a + b from fun _ _ => rfl, show ∀ a b : Int, Int.emod a b = a % b from fun _ _ => rfl, Int.ofNat_eq_natCast] <;> omega
theorem wrap_lsub (k : IntKind) (m n : Int) : k.wrap (k.wrap m - n) = k.wrap (m - n) := by
 simp only [← wrapF_eq]
 cases k <;> simp only [wrapF, halfF, modF, show ∀ a b : Int, Int.sub a b = a - b from fun _ _ => rfl, show ∀ a b : Int, Int.add a b = a + b from fun _ _ => rfl, show ∀ a b : Int, Int.emod a b = a % b from fun _ _ => rfl, Int.ofNat_eq_natCast] <;> omega
theorem lin_spec (k : IntKind) (a : SI) (ρ : Nat → Int) : (linX k a = a ∧ linC k a = 0) ∨ ∃ k', Nat.ble (bitsF k) (bitsF k') = true ∧ a.ev ρ = k'.wrap ((linX k a).ev ρ + linC k a) := by
 unfold linX linC
 split
 ·rename_i k' x c
  cases h : Nat.ble (bitsF k) (bitsF k') with
  | true => exact .inr ⟨k', h, rfl⟩
  | false => exact .inl ⟨rfl, rfl⟩
 ·left
  exact ⟨rfl, rfl⟩
theorem wrap_addN {k k' : IntKind} (h : Nat.ble (bitsF k) (bitsF k') = true) (m n : Int) : k.wrap (k'.wrap m + n) = k.wrap (m + n) := by
 rw [← wrap_add k (k'.wrap m) n, wrap_narrow h, wrap_add]
theorem wrap_rsubN {k k' : IntKind} (h : Nat.ble (bitsF k) (bitsF k') = true) (m n : Int) : k.wrap (n - k'.wrap m) = k.wrap (n - m) := by
 rw [← wrap_rsub k (k'.wrap m) n, wrap_narrow h, wrap_rsub]
theorem lin_wrap (k : IntKind) (a : SI) (ρ : Nat → Int) (n : Int) : k.wrap (a.ev ρ + n) = k.wrap ((linX k a).ev ρ + (linC k a + n)) := by
 rcases lin_spec k a ρ with ⟨h1, h2⟩ | ⟨k', hk, h⟩
 ·rw [h1, h2]; congr 1; omega
 ·rw [h, wrap_addN hk]; congr 1; omega
theorem addC_spec {α : Type} (k : IntKind) (a : SI) (c : Int) (κ : SI → α) : ∃ e, addC k a c κ = κ e ∧ ∀ ρ, e.ev ρ = k.wrap (a.ev ρ + c) := by
 unfold addC
 rw [forceI_eq]
 refine ⟨_, rfl, fun ρ => ?_⟩
 simp only [SI.ev, binZ, wrapF_eq]
 rw [lin_wrap k a ρ c, show (linX k a).ev ρ + k.wrap ((linC k a).add c) = k.wrap ((linC k a).add c) + (linX k a).ev ρ from Int.add_comm _ _, wrap_add]
 congr 1
 show linC k a + c + _ = _
 omega
theorem lin_sub {k : IntKind} {a b : SI} (h : SI.beq (linX k a) (linX k b) = true) (ρ : Nat → Int) : k.wrap (a.ev ρ - b.ev ρ) = k.wrap (Int.sub (linC k a) (linC k b)) := by
 have hx := SI.beq_eq _ _ h
 rw [show a.ev ρ - b.ev ρ = a.ev ρ + (- b.ev ρ) by omega, lin_wrap, hx]
 rcases lin_spec k b ρ with ⟨h1, h2⟩ | ⟨k', hk, h⟩
 ·rw [h1, h2]
  congr 1
  show _ = linC k a - 0
  omega
 ·rw [h]
  rw [show ∀ x y z : Int, x + (y + -z) = (x + y) - z from fun x y z => by omega, wrap_rsubN hk]
  congr 1
  show _ = linC k a - linC k b
  omega
theorem subT_spec {α : Type} (k : IntKind) (a b : SI) (κ : SI → α) : ∃ e, subT k a b κ = κ e ∧ ∀ ρ, e.ev ρ = k.wrap (a.ev ρ - b.ev ρ) := by
 unfold subT
 split
 ·rename_i k' p q
  cases h : (kindEq k k' && SI.beq (linX k a) (linX k p)) with
  | false => exact ⟨_, rfl, fun _ => rfl⟩
  | true =>
   rw [Bool.and_eq_true] at h
   obtain rfl := kindEq_of h.1
   simp only [forceI_eq]
   refine ⟨_, rfl, fun ρ => ?_⟩
   show k.wrap (wrapF k (Int.sub (linC k a) (linC k p)) - q.ev ρ) = k.wrap (a.ev ρ - k.wrap (p.ev ρ + q.ev ρ))
   rw [wrapF_eq, ← lin_sub h.2 ρ, wrap_lsub, wrap_rsub]
   congr 1
   omega
 ·exact ⟨_, rfl, fun _ => rfl⟩
theorem subS_spec {α : Type} (k : IntKind) (a b : SI) (κ : SI → α) : ∃ e, subS k a b κ = κ e ∧ ∀ ρ, e.ev ρ = k.wrap (a.ev ρ - b.ev ρ) := by
 unfold subS
 cases h : SI.beq (linX k a) (linX k b) with
 | false => exact subT_spec k a b κ
 | true =>
  simp only [forceI_eq]
  refine ⟨_, rfl, fun ρ => ?_⟩
  simp only [SI.ev, wrapF_eq]
  exact (lin_sub h ρ).symm
theorem binS_spec {α : Type} (op : BinOp) (k : IntKind) (a b : SI) (κ : SI → α) : ∃ e, binS op k a b κ = κ e ∧ ∀ ρ, e.ev ρ = binZ op k (a.ev ρ) (b.ev ρ) := by
 unfold binS
 split
 ·exact orS_spec k a b κ
 ·split
  ·refine ⟨_, rfl, fun ρ => ?_⟩
   exact (show a.ev ρ = binZ .shr k (a.ev ρ) (Int.ofNat 0) by rw [shr_div (Nat.zero_le _)]; simp)
  ·exact ⟨_, rfl, fun _ => rfl⟩
 ·split
  ·exact addC_spec k a _ κ
  ·split
   ·obtain ⟨e, h1, h2⟩ := addC_spec k _ _ κ
    exact ⟨e, h1, fun ρ => by rw [h2, Int.add_comm]; rfl⟩
   ·exact ⟨_, rfl, fun _ => rfl⟩
 ·split
  ·rename_i y
   obtain ⟨e, h1, h2⟩ := addC_spec k a (Int.neg y) κ
   exact ⟨e, h1, fun ρ => by rw [h2]; rfl⟩
  ·exact subS_spec k a b κ
 ·exact ⟨_, rfl, fun _ => rfl⟩
section
variable {α : Type} {ρ : Nat → Int}
theorem binK_spec (op : BinOp) (k : IntKind) (a b : SI) (κ : SI → α) : ∃ e, binK op k a b κ = κ e ∧ ∀ ρ, e.ev ρ = binZ op k (a.ev ρ) (b.ev ρ) := by
 cases a with
 | lit x =>
  cases b with
  | lit y =>
   show ∃ e, forceI (binF op k x y) (fun n => κ (.lit n)) = κ e ∧ _
   rw [forceI_eq]; exact ⟨_, rfl, fun ρ => binF_eq _ _ _ _⟩
  | var i => exact binS_spec op k (.lit x) (.var i) κ
  | bin o k' u v => exact binS_spec op k (.lit x) (.bin o k' u v) κ
  | conv k' u => exact binS_spec op k (.lit x) (.conv k' u) κ
  | fold u => exact binS_spec op k (.lit x) (.fold u) κ
  | rs u v o n => exact binS_spec op k (.lit x) (.rs u v o n) κ
 | var i => exact binS_spec op k (.var i) b κ
 | bin o k' u v => exact binS_spec op k (.bin o k' u v) b κ
 | conv k' u => exact binS_spec op k (.conv k' u) b κ
 | fold u => exact binS_spec op k (.fold u) b κ
 | rs u v o n => exact binS_spec op k (.rs u v o n) b κ
theorem convK_spec (k : IntKind) (a : SI) (κ : SI → α) : ∃ e, convK k a κ = κ e ∧ ∀ ρ, e.ev ρ = k.wrap (a.ev ρ) := by
 cases a with
 | lit x =>
  show ∃ e, forceI (convF k x) (fun n => κ (.lit n)) = κ e ∧ _
  rw [forceI_eq]; exact ⟨_, rfl, fun ρ => convF_eq _ _⟩
 | conv k' y => exact convC_spec k (.conv k' y) κ
 | _ => exact ⟨_, rfl, fun _ => rfl⟩
theorem cmpG_spec (op : BinOp) (a b : SI) (κ : SB → α) : ∃ e, cmpG op a b κ = κ e ∧ ∀ ρ, e.ev ρ = cmpZ op (a.ev ρ) (b.ev ρ) := by
 unfold cmpG
 cases h : SI.beq a b with
 | false => exact ⟨_, rfl, fun _ => rfl⟩
 | true =>
  simp only [forceB_eq]
  refine ⟨_, rfl, fun ρ => ?_⟩
  rw [SI.beq_eq _ _ h]
  simp only [SB.ev, cmpF_eq]
  cases op <;> simp [cmpZ]
theorem cmpK_spec (op : BinOp) (a b : SI) (κ : SB → α) : ∃ e, cmpK op a b κ = κ e ∧ ∀ ρ, e.ev ρ = cmpZ op (a.ev ρ) (b.ev ρ) := by
 cases a with
 | lit x =>
  cases b with
  | lit y =>
   show ∃ e, forceB (cmpF op x y) (fun c => κ (.lit c)) = κ e ∧ _
   rw [forceB_eq]; exact ⟨_, rfl, fun ρ => cmpF_eq _ _ _⟩
  | _ => exact ⟨_, rfl, fun _ => rfl⟩
 | var i => exact cmpG_spec op (.var i) b κ
 | bin o k' u v => exact cmpG_spec op (.bin o k' u v) b κ
 | conv k' u => exact cmpG_spec op (.conv k' u) b κ
 | fold u => exact cmpG_spec op (.fold u) b κ
 | rs u v o n => exact cmpG_spec op (.rs u v o n) b κ
theorem notK_spec (a : SB) (κ : SB → α) : ∃ e, notK a κ = κ e ∧ ∀ ρ, e.ev ρ = !(a.ev ρ) := by
 cases a with
 | lit b => exact ⟨_, rfl, fun ρ => notF_eq _⟩
 | _ => exact ⟨_, rfl, fun _ => rfl⟩
end
section
variable {φ φ' : List Pl} {ρ : Nat → Int}
theorem pl_mono (h : φ <+: φ') {id : Nat} {p : Pl} (hp : φ[id]? = some p) : φ'[id]? = some p := by
 obtain ⟨t, rfl⟩ := h
 exact List.getElem?_append_left (List.getElem?_eq_some_iff.1 hp).1 ▸ hp
mutual
theorem conc_mono (h : φ <+: φ') : ∀ (v : AV) (x : Value), conc φ ρ v = some x → conc φ' ρ v = some x
 | .int k e, x, hx => by simpa [conc] using hx
 | .bool b, x, hx => by simpa [conc] using hx
 | .ptr id off, x, hx => by
  simp only [conc, Option.map_eq_some_iff] at hx ⊢
  obtain ⟨p, hp, hx⟩ := hx
  exact ⟨p, pl_mono h hp, hx⟩
 | .sl id off len cap, x, hx => by
  simp only [conc, Option.map_eq_some_iff] at hx ⊢
  obtain ⟨p, hp, hx⟩ := hx
  exact ⟨p, pl_mono h hp, hx⟩
 | .emp id a b, x, hx => by
  simp only [conc, Option.map_eq_some_iff] at hx ⊢
  obtain ⟨p, hp, hx⟩ := hx
  exact ⟨p, pl_mono h hp, hx⟩
 | .map id, x, hx => by
  simp only [conc, Option.map_eq_some_iff] at hx ⊢
  obtain ⟨p, hp, hx⟩ := hx
  exact ⟨p, pl_mono h hp, hx⟩
 | .fn f a b, x, hx => by
  simp only [conc, Option.bind_eq_some_iff, Option.map_eq_some_iff] at hx ⊢
  obtain ⟨u, hu, w, hw, hx⟩ := hx
  exact ⟨u, concL_mono h a u hu, w, concL_mono h b w hw, hx⟩
 | .iface t v, x, hx => by
  simp only [conc, Option.map_eq_some_iff] at hx ⊢
  obtain ⟨p, hp, hx⟩ := hx
  exact ⟨p, conc_mono h v p hp, hx⟩
 | .agg l, x, hx => by
  simp only [conc, Option.map_eq_some_iff] at hx ⊢
  obtain ⟨p, hp, hx⟩ := hx
  exact ⟨p, concL_mono h l p hp, hx⟩
 | .tup l, x, hx => by
  simp only [conc, Option.map_eq_some_iff] at hx ⊢
  obtain ⟨p, hp, hx⟩ := hx
  exact ⟨p, concL_mono h l p hp, hx⟩
 | .raw v, x, hx => by simpa [conc] using hx
 | .opq v, x, hx => by simpa [conc] using hx
 | .osl p k c, x, hx => by simpa [conc] using hx
 | .dfr f a r, x, hx => by simpa [conc] using hx
 | .em0 id a b, x, hx => by
  simp only [conc, Option.map_eq_some_iff] at hx ⊢
  obtain ⟨p, hp, hx⟩ := hx
  exact ⟨p, pl_mono h hp, hx⟩
 | .ssl id a b c d, x, hx => by
  simp only [conc, Option.map_eq_some_iff] at hx ⊢
  obtain ⟨p, hp, hx⟩ := hx
  exact ⟨p, pl_mono h hp, hx⟩
 | .fsl a b c d, x, hx => by simpa only [conc] using hx
theorem concL_mono (h : φ <+: φ') : ∀ (v : List AV) (x : List Value), concL φ ρ v = some x → concL φ' ρ v = some x
 | [], x, hx => by simpa [concL] using hx
 | v :: l, x, hx => by
  simp only [concL, Option.bind_eq_some_iff, Option.map_eq_some_iff] at hx ⊢
  obtain ⟨u, hu, w, hw, hx⟩ := hx
  exact ⟨u, conc_mono h v u hu, w, concL_mono h l w hw, hx⟩
end
theorem concL_cons {v : AV} {l : List AV} {xs : List Value} : concL φ ρ (v :: l) = some xs ↔ ∃ x ys, conc φ ρ v = some x ∧ concL φ ρ l = some ys ∧ xs = x :: ys := by
 simp only [concL, Option.bind_eq_some_iff, Option.map_eq_some_iff]
 constructor
 ·rintro ⟨a, h1, b, h2, rfl⟩; exact ⟨a, b, h1, h2, rfl⟩
 ·rintro ⟨a, b, h1, h2, rfl⟩; exact ⟨a, h1, b, h2, rfl⟩
theorem concL_length : ∀ {l : List AV} {xs : List Value}, concL φ ρ l = some xs → xs.length = l.length
 | [], xs, h => by simp [concL] at h; simp [← h]
 | v :: l, xs, h => by
  obtain ⟨x, ys, _, h2, rfl⟩ := concL_cons.1 h
  simp [concL_length h2]
theorem concL_append : ∀ {l m : List AV} {xs : List Value}, concL φ ρ (l ++ m) = some xs ↔ ∃ ys zs, concL φ ρ l = some ys ∧ concL φ ρ m = some zs ∧ xs = ys ++ zs
 | [], m, xs => by simp [concL]
 | v :: l, m, xs => by
  rw [List.cons_append, concL_cons]
  constructor
  ·rintro ⟨x, ys, h1, h2, rfl⟩
   obtain ⟨as, bs, h3, h4, rfl⟩ := concL_append.1 h2
   exact ⟨x :: as, bs, concL_cons.2 ⟨x, as, h1, h3, rfl⟩, h4, rfl⟩
  ·rintro ⟨as, bs, h1, h2, rfl⟩
   obtain ⟨x, ys, h3, h4, rfl⟩ := concL_cons.1 h1
   exact ⟨x, ys ++ bs, h3, concL_append.2 ⟨ys, bs, h4, h2, rfl⟩, rfl⟩
theorem concL_get : ∀ {l : List AV} {xs : List Value} {i : Nat} {v : AV}, concL φ ρ l = some xs → l[i]? = some v → ∃ x, conc φ ρ v = some x ∧ xs[i]? = some x
 | [], xs, i, v, _, h => by simp at h
 | u :: l, xs, i, v, h, hi => by
  obtain ⟨x, ys, h1, h2, rfl⟩ := concL_cons.1 h
  cases i with
  | zero => simp at hi; subst hi; exact ⟨x, h1, rfl⟩
  | succ i => simp at hi; simpa using concL_get h2 hi
theorem concL_drop : ∀ {l : List AV} {xs : List Value} (n : Nat), concL φ ρ l = some xs → concL φ ρ (l.drop n) = some (xs.drop n)
 | l, xs, 0, h => by simpa using h
 | [], xs, n + 1, h => by simp [concL] at h; subst h; simp [concL]
 | v :: l, xs, n + 1, h => by
  obtain ⟨x, ys, h1, h2, rfl⟩ := concL_cons.1 h
  simpa using concL_drop n h2
theorem concL_take : ∀ {l : List AV} {xs : List Value} (n : Nat), concL φ ρ l = some xs → concL φ ρ (l.take n) = some (xs.take n)
 | l, xs, 0, h => by simp [concL]
 | [], xs, n + 1, h => by simp [concL] at h; subst h; simp [concL]
 | v :: l, xs, n + 1, h => by
  obtain ⟨x, ys, h1, h2, rfl⟩ := concL_cons.1 h
  rw [List.take_succ_cons, List.take_succ_cons]
  exact concL_cons.2 ⟨x, _, h1, concL_take n h2, rfl⟩
theorem conc_ofCell (v : Value) : conc φ ρ (ofCell v) = some v := by
 cases v <;> simp [ofCell, conc, SI.ev, SB.ev]
theorem concL_ofCell : ∀ (l : List Value), concL φ ρ (l.map ofCell) = some l
 | [] => rfl
 | v :: l => concL_cons.2 ⟨v, l, conc_ofCell v, concL_ofCell l, rfl⟩
theorem conc_ofValue (v : Value) : conc φ ρ (ofValue v) = some v := by
 unfold ofValue
 split
 ·simp [conc, concL_ofCell]
 ·simp [conc, concL_ofCell]
 ·exact conc_ofCell v
theorem conc_undef : conc φ ρ undefA = some undef := rfl
end
theorem isZ_ev {e : SI} (h : isZ e = true) (ρ : Nat → Int) : e.ev ρ = 0 := by
 cases e with
 | lit n =>
  have h : beqF n (.ofNat (nat_lit 0)) = true := h
  rw [beqF_eq] at h
  have h : n = 0 := of_decide_eq_true h
  rw [h]; rfl
 | var i => cases h
 | bin _ _ _ _ => cases h
 | conv _ _ => cases h
 | fold _ => cases h
 | rs _ _ _ _ => cases h
end Go.Proofs.YtooebogidjejoaaGreat
namespace Go.Proofs.YtooebogidjejoaaGreat
open Go
def live : AObj → Bool
 | .dead => false
 | _ => true
noncomputable def celA (c : Tr AV) (d : Option AV) (i : Nat) : Option AV := match c.get i with
 | some v => some v
 | none => d
inductive EntOk (φ : List Pl) (ρ : Nat → Int) : List (AV × AV × Nat) → List MapEntry → Prop
 | nil : EntOk φ ρ [] []
 | cons {k v : AV} {b : Nat} {l : List (AV × AV × Nat)} {x y : Value} {m : List MapEntry} (hk : conc φ ρ k = some x) (hv : conc φ ρ v = some y) (h : EntOk φ ρ l m) : EntOk φ ρ ((k, v, b) :: l) (⟨x, y, b⟩ :: m)
structure CelOk (P : Program) (φ : List Pl) (ρ : Nat → Int) (w : World) (p : Pl) (arr : Array Value) (fz : Nat × Nat) (n : Nat) (c : Tr AV) (d : Option AV) (T : TypeId) (row : Bool) : Prop where
 blk : w.heap[p.blk]? = some (.cells arr T fz)
 size : arr.size = p.sz
 le : p.sh + n ≤ p.sz
 fix : row = false → p.sh = 0 ∧ p.sz = n ∧ fz = (0, 0) ∧ p.es = 1
 es : row = true → sizeA P T = some p.es ∧ 0 < p.es
 fr : ∀ i, i < p.sz → ¬ (fz.1 ≤ i ∧ i < fz.2)
 cell : ∀ i, i < n → ∃ v x, celA c d i = some v ∧ conc φ ρ v = some x ∧ arr[p.sh + i]? = some x ∧ oneB v = true
def Ch.zs (ρ : Nat → Int) : Ch → List Int
 | .bs l => l.map (SI.ev ρ)
 | .fil n v => List.replicate (n.ev ρ).toNat (v.ev ρ)
 | .row a o n => (List.range (n.ev ρ).toNat).map fun i => rowB ρ a ((o.ev ρ).toNat + i)
def ropeZ (ρ : Nat → Int) (cs : List Ch) : List Int := cs.flatMap (Ch.zs ρ)
structure RopeOk (P : Program) (ρ : Nat → Int) (w : World) (p : Pl) (arr : Array Value) (fz : Nat × Nat) (cs : List Ch) (T : TypeId) (row : Bool) : Prop where
 blk : w.heap[p.blk]? = some (.cells arr T fz)
 size : arr.size = p.sz
 le : p.sh + (ropeZ ρ cs).length ≤ p.sz
 fix : row = false → p.sh = 0 ∧ p.sz = (ropeZ ρ cs).length ∧ fz = (0, 0) ∧ p.es = 1
 es : row = true → sizeA P T = some p.es ∧ 0 < p.es
 e1 : p.es = 1
 fr : ∀ i, i < p.sz → ¬ (fz.1 ≤ i ∧ i < fz.2)
 cell : ∀ i z, (ropeZ ρ cs)[i]? = some z → arr[p.sh + i]? = some (.int .u8 z)
def MapAt (φ : List Pl) : Option Nat → Option Nat → Prop
 | none, none => True
 | some i, some b => ∃ q, φ[i]? = some q ∧ q.blk = b
 | _, _ => False
def ObjOk (P : Program) (φ : List Pl) (ρ : Nat → Int) (w : World) (id : Nat) : AObj → Prop
 | .cells n c d T row => ∃ p arr fz, φ[id]? = some p ∧ CelOk P φ ρ w p arr fz n c d T row
 | .map es clk => ∃ p xs, φ[id]? = some p ∧ w.heap[p.blk]? = some (.map xs clk) ∧ EntOk φ ρ es xs.toList
 | .iter m since seen last => ∃ p m', φ[id]? = some p ∧ p.sh = 0 ∧ MapAt φ m m' ∧ w.heap[p.blk]? = some (.mapIter m' since seen.toArray last)
 | .rope cs T row => ∃ p arr fz, φ[id]? = some p ∧ RopeOk P ρ w p arr fz cs T row
 | .dead => ∃ p, φ[id]? = some p
structure Hp (P : Program) (φ : List Pl) (ρ : Nat → Int) (h : Tr AObj) (w : World) : Prop where
 obj : ∀ id o, h.get id = some o → ObjOk P φ ρ w id o
 sep : ∀ i j o o' p q, h.get i = some o → h.get j = some o' → live o = true → live o' = true → φ[i]? = some p → φ[j]? = some q → p.blk = q.blk → i = j
inductive DfOk (φ : List Pl) (ρ : Nat → Int) : Option AV → List Deferred → Prop
 | none : DfOk φ ρ none []
 | nil : DfOk φ ρ (some undefA) []
 | cons {g : FuncId} {b l : List AV} {rest : AV} {ys xs : List Value} {ds : List Deferred} (hb : concL φ ρ b = some ys) (hl : concL φ ρ l = some xs) (h : DfOk φ ρ (some rest) ds) : DfOk φ ρ (some (.dfr (.fn (.func g) [] b) l rest)) ({ target := .fn (.func g) ys.toArray, args := xs.toArray } :: ds)
theorem DfOk.mono {φ φ' : List Pl} {ρ : Nat → Int} {o : Option AV} {ds : List Deferred} (h : DfOk φ ρ o ds) (hp : φ <+: φ') : DfOk φ' ρ o ds := by
 induction h with
 | none => exact .none
 | nil => exact .nil
 | cons hb hl _ ih => exact .cons (concL_mono hp _ _ hb) (concL_mono hp _ _ hl) ih
structure GA (φ : List Pl) (ρ : Nat → Int) (t : Ts) (sz : Nat) (a : Act) : Prop where
 size : a.tmps.size = sz
 tm : ∀ d v, t.get d = some v → conc φ ρ v = some (a.tmps.getD d undef)
 df : DfOk φ ρ (t.get sz) a.defers
def RgOk (ρ : Nat → Int) (rg : List (Int × Int)) : Prop := ∀ i l h, nthR rg i = some (l, h) → l ≤ ρ i ∧ ρ i ≤ h
structure Holds (ρ : Nat → Int) (pc : PC) : Prop where
 l : ∀ x ∈ pc.l, x.1.ev ρ = x.2
 rg : RgOk ρ pc.rg
structure PcExt (pc pc' : PC) : Prop where
 l : ∃ l, pc'.l = l ++ pc.l
 rg : pc'.rg = pc.rg
theorem PcExt.refl (pc : PC) : PcExt pc pc := ⟨⟨[], rfl⟩, rfl⟩
theorem PcExt.trans {a b c : PC} (h : PcExt a b) (k : PcExt b c) : PcExt a c := by
 obtain ⟨⟨l, hl⟩, h2⟩ := h
 obtain ⟨⟨m, hm⟩, k2⟩ := k
 exact ⟨⟨m ++ l, by rw [hm, hl, List.append_assoc]⟩, k2.trans h2⟩
theorem Holds.of_ext {ρ : Nat → Int} {a b : PC} (h : Holds ρ b) (k : PcExt a b) : Holds ρ a := by
 obtain ⟨⟨l, hl⟩, k2⟩ := k
 refine ⟨fun x hx => h.l x (by rw [hl]; exact List.mem_append_right _ hx), ?_⟩
 rw [← k2]
 exact h.rg
theorem GA.mono {φ φ' : List Pl} {ρ : Nat → Int} {t : Ts} {sz : Nat} {a : Act} (h : GA φ ρ t sz a) (hp : φ <+: φ') : GA φ' ρ t sz a := ⟨h.size, fun d v hv => conc_mono hp _ _ (h.tm d v hv), h.df.mono hp⟩
theorem GA.put {φ : List Pl} {ρ : Nat → Int} {t : Ts} {sz : Nat} {a : Act} (h : GA φ ρ t sz a) {d : Nat} (hd : d < sz) {v : AV} {x : Value} (hx : conc φ ρ v = some x) : GA φ ρ (Ts.put d v t) sz (a.put (some d) x) := by
 refine ⟨by simp [Act.put, h.size], fun e u hu => ?_, ?_⟩
 rotate_left
 ·have hne : sz ≠ d := by omega
  rcases Ts.get_put d v t sz with ⟨_, e⟩ | ⟨h1, _⟩ | ⟨h1, h2⟩
  ·exact absurd e hne
  ·rw [h1]; exact h.df
  ·rw [h2, ← h1]; exact h.df
 simp only [Act.put]
 rcases Ts.get_put d v t e with ⟨h1, rfl⟩ | ⟨h1, he⟩ | ⟨_, h1⟩
 ·rw [h1] at hu
  cases hu
  have : e < a.tmps.size := by rw [h.size]; exact hd
  simp [Array.getD, this, hx]
 ·rw [h1] at hu
  have := h.tm e u hu
  rw [this]
  congr 1
  simp only [Array.getD, Array.size_setIfInBounds, Array.getInternal_eq_getElem]
  split
  ·rw [Array.getElem_setIfInBounds_ne]; exact fun h => he h.symm
  ·rfl
 ·rw [h1] at hu; cases hu
theorem GA.defer {φ : List Pl} {ρ : Nat → Int} {t : Ts} {sz : Nat} {a : Act} (h : GA φ ρ t sz a) {g : FuncId} {b l : List AV} {rest : AV} {ys xs : List Value} (hr : rest = (t.get sz).getD undefA) (hb : concL φ ρ b = some ys) (hl : concL φ ρ l = some xs) :
  GA φ ρ (Ts.put sz (.dfr (.fn (.func g) [] b) l rest) t) sz { a with defers := { target := .fn (.func g) ys.toArray, args := xs.toArray } :: a.defers } := by
 have hget : (Ts.put sz (.dfr (.fn (.func g) [] b) l rest) t).get sz = some (.dfr (.fn (.func g) [] b) l rest) := (Tr.get_set t sz _ sz).trans (if_pos rfl)
 refine ⟨h.size, fun e u hu => ?_, ?_⟩
 ·rcases Ts.get_put sz (.dfr (.fn (.func g) [] b) l rest) t e with ⟨h1, rfl⟩ | ⟨h1, he⟩ | ⟨_, h1⟩
  ·rw [h1] at hu
   cases hu
   show some undef = some (a.tmps.getD e undef)
   rw [Array.getD, dif_neg (by rw [h.size]; omega)]
  ·rw [h1] at hu
   exact h.tm e u hu
  ·rw [h1] at hu; cases hu
 ·rw [hget]
  refine .cons hb hl ?_
  have := h.df
  subst hr
  cases ho : t.get sz with
  | none =>
   rw [ho] at this
   show DfOk φ ρ (some undefA) a.defers
   generalize a.defers = ds at this
   cases this
   exact .nil
  | some v =>
   rw [ho] at this
   exact this
section
variable {D : Dn}
theorem optK_inv {β : Type} {o : Option β} {n : Nat} {κ : β → R} (h : optK o n κ ∈ D) : ∃ b, o = some b ∧ κ b ∈ D := by
 cases o with
 | none => cases h
 | some b => exact ⟨b, rfl, h⟩
theorem brec_inv {n : Nat} {r : R} {c : Bool} (h : Bool.rec (motive := fun _ => R) (.fail n) r c ∈ D) : c = true ∧ r ∈ D := by
 cases c with
 | false => cases h
 | true => exact ⟨rfl, h⟩
theorem brec_cases {r r' : R} {c : Bool} (h : Bool.rec (motive := fun _ => R) r' r c ∈ D) : (c = true ∧ r ∈ D) ∨ (c = false ∧ r' ∈ D) := by
 cases c with
 | false => exact .inr ⟨rfl, h⟩
 | true => exact .inl ⟨rfl, h⟩
theorem intV_inv {v : AV} {n : Nat} {κ : IntKind → SI → R} (h : intV v n κ ∈ D) : ∃ k e, v = .int k e ∧ κ k e ∈ D := by
 cases v <;> first | exact ⟨_, _, rfl, h⟩ | cases h
theorem boolV_inv {v : AV} {n : Nat} {κ : SB → R} (h : boolV v n κ ∈ D) : ∃ b, v = .bool b ∧ κ b ∈ D := by
 cases v <;> first | exact ⟨_, rfl, h⟩ | cases h
theorem ptrV_inv {v : AV} {n : Nat} {κ : Nat → Nat → R} (h : ptrV v n κ ∈ D) : ∃ i o, v = .ptr i o ∧ κ i o ∈ D := by
 cases v <;> first | exact ⟨_, _, rfl, h⟩ | cases h
theorem asInt_inv {v : AV} {κ : IntKind → SI → R} (h : asInt v κ ∈ D) : ∃ k e, v = .int k e ∧ κ k e ∈ D := intV_inv h
theorem asLitK_inv {e : SI} {κ : Nat → R} (h : asLitK κ e ∈ D) : ∃ n, e = .lit (Int.ofNat n) ∧ κ n ∈ D := by
 cases e with
 | lit n => cases n with
  | ofNat n => exact ⟨_, rfl, h⟩
  | negSucc n => cases h
 | _ => cases h
theorem asNat_inv {v : AV} {κ : Nat → R} (h : asNat v κ ∈ D) : ∃ k n, v = .int k (.lit (Int.ofNat n)) ∧ κ n ∈ D := by
 obtain ⟨k, e, rfl, h1⟩ := intV_inv h
 obtain ⟨n, rfl, h2⟩ := asLitK_inv h1
 exact ⟨_, _, rfl, h2⟩
theorem asBoolA_inv {v : AV} {κ : SB → R} (h : asBoolA v κ ∈ D) : ∃ b, v = .bool b ∧ κ b ∈ D := boolV_inv h
theorem lookB_inv {ρ : Nat → Int} {c : SB} {b : Bool} : ∀ {l : List (SB × Bool)}, lookB l c = some b → (∀ x ∈ l, x.1.ev ρ = x.2) → c.ev ρ = b
 | [], h, _ => by cases h
 | x :: l, h, hl => by
  unfold lookB at h
  cases hb : SB.beq x.1 c with
  | true =>
   rw [hb] at h
   have h : some x.2 = some b := h
   cases h
   rw [← SB.beq_eq _ _ hb]
   exact hl x (by simp)
  | false =>
   rw [hb] at h
   exact lookB_inv h fun y hy => hl y (by simp [hy])
theorem partS_inv {c : SB} : ∀ {l : List (List Int)} {κ : List (List Int) → List (List Int) → R}, partS c l κ ∈ D → ∃ a b, κ a b ∈ D
 | [], κ, h => ⟨_, _, h⟩
 | x :: l, κ, h => by
  have h : partS c l (fun a b => List.rec (motive := fun _ => R) (κ (x :: a) (x :: b)) (fun _ _ _ => Bool.rec (motive := fun _ => R) (κ a (x :: b)) (κ (x :: a) b) (SB.evF x c)) x) ∈ D := h
  obtain ⟨a, b, h1⟩ := partS_inv h
  cases x with
  | nil => exact ⟨_, _, h1⟩
  | cons y x =>
   rcases brec_cases (show Bool.rec (motive := fun _ => R) (κ a ((y :: x) :: b)) (κ ((y :: x) :: a) b) (SB.evF (y :: x) c) ∈ D from h1) with ⟨_, h2⟩ | ⟨_, h2⟩
   ·exact ⟨_, _, h2⟩
   ·exact ⟨_, _, h2⟩
theorem brS_inv {κ : Bool → PC → R} {b : Bool} {c : SB} {l : List (SB × Bool)} {rg : List (Int × Int)} {smp : List (List Int)} (h : brS κ b c l rg smp ∈ D) : κ b ⟨(c, b) :: l, smp, rg⟩ ∈ D := by
 unfold brS at h
 split at h
 ·cases h
 ·exact h
theorem fork_inv {c : SB} {a b : R} (h : R.fork c a b ∈ D) : (c.ev D.ρ = true ∧ a ∈ D) ∨ (c.ev D.ρ = false ∧ b ∈ D) := h
theorem pos0_eq (a : Int) : pos0 a = decide (0 ≤ a) := by
 unfold pos0
 rw [notF_eq, bltF_eq]
 by_cases h : a < Int.ofNat 0
 ·rw [decide_eq_true h, decide_eq_false (by simp only [Int.ofNat_eq_natCast] at h; omega)]; rfl
 ·rw [decide_eq_false h, decide_eq_true (by simp only [Int.ofNat_eq_natCast] at h; omega)]; rfl
def In (x : Int) (r : Option (Int × Int)) : Prop := ∀ l h, r = some (l, h) → l ≤ x ∧ x ≤ h
theorem anyR_in (k : IntKind) (n : Int) : In (k.wrap n) (anyR k) := by
 intro l h e
 cases e
 exact wrap_rng k n
theorem fitR_in {k : IntKind} {n a b : Int} (h : a ≤ n ∧ n ≤ b) : In (k.wrap n) (fitR k a b) := by
 unfold fitR
 rw [forceI_eq, forceI_eq]
 cases hb : (leF (minK k) a && leF b (maxK k)) with
 | false => exact anyR_in k n
 | true =>
  simp only [Bool.and_eq_true, leF_eq, decide_eq_true_eq] at hb
  intro l h' e
  cases e
  rw [wrap_in ⟨by omega, by omega⟩]
  exact h
theorem opt1_some {α : Type} {a : Option (Int × Int)} {κ : Int → Int → Option α} {x : α} (h : opt1 a none κ = some x) : ∃ l u, a = some (l, u) ∧ κ l u = some x := by
 cases a with
 | none => cases h
 | some r => exact ⟨r.1, r.2, rfl, h⟩
theorem and_le {k : IntKind} {x y : Int} (h0 : 0 ≤ y) (h1 : y ≤ maxK k) : 0 ≤ k.wrap ((BitVec.ofInt k.bits x &&& BitVec.ofInt k.bits y).toNat : Int) ∧ k.wrap ((BitVec.ofInt k.bits x &&& BitVec.ofInt k.bits y).toNat : Int) ≤ y := by
 have h2 : (BitVec.ofInt k.bits x &&& BitVec.ofInt k.bits y).toNat ≤ (BitVec.ofInt k.bits y).toNat := by
  rw [BitVec.toNat_and]
  exact Nat.and_le_right
 have h3 : ((BitVec.ofInt k.bits y).toNat : Int) = y := by
  rw [BitVec.toNat_ofInt]
  have h4 : y < ((2 ^ k.bits : Nat) : Int) := by
   revert h1
   cases k <;> simp only [maxK, IntKind.bits, Int.ofNat_eq_natCast] <;> omega
  rw [Int.emod_eq_of_lt h0 h4]
  omega
 have h5 : k.wrap ((BitVec.ofInt k.bits x &&& BitVec.ofInt k.bits y).toNat : Int) = ((BitVec.ofInt k.bits x &&& BitVec.ofInt k.bits y).toNat : Int) := wrap_in ⟨by
  have : minK k ≤ 0 := by cases k <;> simp [minK]
  omega, by omega⟩
 rw [h5]
 omega
theorem binR0_in {op : BinOp} {k : IntKind} {x y la ha lb hb : Int} (hx : la ≤ x ∧ x ≤ ha) (hy : lb ≤ y ∧ y ≤ hb) : In (binZ op k x y) (binR0 op k la ha lb hb) := by
 unfold binR0
 split
 ·exact fitR_in ⟨by show la + lb ≤ x + y; omega, by show x + y ≤ ha + hb; omega⟩
 ·exact fitR_in ⟨by show la - hb ≤ x - y; omega, by show x - y ≤ ha - lb; omega⟩
 ·cases h : (pos0 la && pos0 lb) with
  | false => exact anyR_in k _
  | true =>
   simp only [Bool.and_eq_true, pos0_eq, decide_eq_true_eq] at h
   exact fitR_in ⟨Int.mul_le_mul hx.1 hy.1 h.2 (by omega), Int.mul_le_mul hx.2 hy.2 (by omega) (by omega)⟩
 ·cases h : (pos0 lb && leF hb (maxK k)) with
  | false => exact anyR_in k _
  | true =>
   simp only [Bool.and_eq_true, pos0_eq, leF_eq, decide_eq_true_eq] at h
   intro l u e
   cases e
   have := and_le (k := k) (x := x) (y := y) (by omega) (by omega)
   exact ⟨this.1, Int.le_trans this.2 hy.2⟩
 ·cases h : (pos0 la && (beqF lb hb && leF la ha)) with
  | false => intro l u e; cases e
  | true =>
   simp only [Bool.and_eq_true, pos0_eq, leF_eq, beqF_eq, decide_eq_true_eq] at h
   obtain ⟨h1, rfl, h3⟩ := h
   intro l u e
   have e : forceI (shrF la (minF (Int.toNat lb) (bitsF k))) (fun l => forceI (shrF ha (minF (Int.toNat lb) (bitsF k))) fun h => some (l, h)) = some (l, u) := e
   rw [forceI_eq, forceI_eq] at e
   cases e
   have hy' : y = lb := by omega
   subst hy'
   obtain ⟨a, rfl⟩ := Int.eq_ofNat_of_zero_le h1
   obtain ⟨b, rfl⟩ := Int.eq_ofNat_of_zero_le (show 0 ≤ ha by omega)
   obtain ⟨c, rfl⟩ := Int.eq_ofNat_of_zero_le (show 0 ≤ x by omega)
   have hm : minF (Int.toNat y) (bitsF k) = min y.toNat k.bits := by rw [minF_eq]; cases k <;> rfl
   have hf : ∀ z : Nat, shrF (z : Int) (minF (Int.toNat y) (bitsF k)) = ((z / 2 ^ (min y.toNat k.bits) : Nat) : Int) := by
    intro z
    rw [hm]
    rfl
   have hz : binZ .shr k (c : Int) y = ((c / 2 ^ (min y.toNat k.bits) : Nat) : Int) := by
    show Int.fdiv (c : Int) (2 ^ (min y.toNat k.bits)) = _
    rw [Int.fdiv_eq_ediv_of_nonneg _ (by have : (0 : Int) < 2 ^ (min y.toNat k.bits) := Int.pow_pos (by omega); omega)]
    simp
   show shrF (a : Int) _ ≤ binZ .shr k (c : Int) y ∧ binZ .shr k (c : Int) y ≤ shrF (b : Int) _
   rw [hf, hf, hz]
   exact ⟨Int.ofNat_le.2 (Nat.div_le_div_right (by omega)), Int.ofNat_le.2 (Nat.div_le_div_right (by omega))⟩
 ·exact anyR_in k _
 ·exact anyR_in k _
 ·exact anyR_in k _
 ·cases h : (pos0 la && (pos0 lb && (beqF lb hb && leF hb (.ofNat (nat_lit 62))))) with
  | false => exact anyR_in k _
  | true =>
   simp only [Bool.and_eq_true, pos0_eq, leF_eq, beqF_eq, decide_eq_true_eq] at h
   obtain ⟨h1, h2, rfl, h4⟩ := h
   have hy' : y = lb := by omega
   subst hy'
   obtain ⟨c, rfl⟩ := Int.eq_ofNat_of_zero_le h2
   have hz : binZ .shl k x (c : Int) = k.wrap (x * 2 ^ (min c k.bits)) := rfl
   have hp : (0 : Int) < 2 ^ (min c k.bits) := Int.pow_pos (by omega)
   rw [hz]
   have hm : minF (Int.toNat (c : Int)) (bitsF k) = min c k.bits := by rw [minF_eq]; cases k <;> rfl
   refine fitR_in ⟨?_, ?_⟩
   ·show Int.mul la (Int.ofNat (Nat.pow 2 (minF (Int.toNat (c : Int)) (bitsF k)))) ≤ _
    rw [hm, show Int.ofNat (Nat.pow 2 (min c k.bits)) = (2 : Int) ^ (min c k.bits) by rw [Int.ofNat_eq_natCast]; exact Int.natCast_pow 2 _]
    exact Int.mul_le_mul_of_nonneg_right hx.1 (by omega)
   ·show _ ≤ Int.mul ha (Int.ofNat (Nat.pow 2 (minF (Int.toNat (c : Int)) (bitsF k))))
    rw [hm, show Int.ofNat (Nat.pow 2 (min c k.bits)) = (2 : Int) ^ (min c k.bits) by rw [Int.ofNat_eq_natCast]; exact Int.natCast_pow 2 _]
    exact Int.mul_le_mul_of_nonneg_right hx.2 (by omega)
 ·cases h : (pos0 la && (beqF lb hb && bltF (.ofNat (nat_lit 0)) lb)) with
  | false => intro l u e; cases e
  | true =>
   simp only [Bool.and_eq_true, pos0_eq, bltF_eq, beqF_eq, decide_eq_true_eq] at h
   obtain ⟨h1, rfl, h3⟩ := h
   have hy' : y = lb := by omega
   subst hy'
   have h3 : (0 : Int) < y := h3
   refine fitR_in ⟨?_, ?_⟩
   ·show la.tdiv y ≤ x.tdiv y
    rw [Int.tdiv_eq_ediv_of_nonneg h1, Int.tdiv_eq_ediv_of_nonneg (by omega)]
    exact Int.ediv_le_ediv h3 hx.1
   ·show x.tdiv y ≤ ha.tdiv y
    rw [Int.tdiv_eq_ediv_of_nonneg (by omega), Int.tdiv_eq_ediv_of_nonneg (by omega)]
    exact Int.ediv_le_ediv h3 hx.2
 ·cases h : (pos0 la && (beqF lb hb && bltF (.ofNat (nat_lit 0)) lb)) with
  | false => intro l u e; cases e
  | true =>
   simp only [Bool.and_eq_true, pos0_eq, bltF_eq, beqF_eq, decide_eq_true_eq] at h
   obtain ⟨h1, rfl, h3⟩ := h
   intro l u e
   have e : forceI (Int.sub lb (.ofNat (nat_lit 1))) (fun h => some (Int.ofNat (nat_lit 0), h)) = some (l, u) := e
   rw [forceI_eq] at e
   cases e
   have hy' : y = lb := by omega
   subst hy'
   have h3 : (0 : Int) < y := h3
   have hz : binZ .rem k x y = x % y := by
    show x.tmod y = _
    rw [Int.tmod_eq_emod_of_nonneg (by omega)]
   rw [hz]
   exact ⟨Int.emod_nonneg _ (by omega), by show _ ≤ y - 1; have := Int.emod_lt_of_pos x h3; omega⟩
 ·intro l u e; cases e
theorem foldZ_in : ∀ (m : Nat) (n : Int), 0 ≤ n → n < 9223372036854775808 → n < m → 0 ≤ foldZ n ∧ foldZ n ≤ 65535 := by
 intro m
 induction m with
 | zero => intro n h0 hb h1; omega
 | succ m ih =>
  intro n h0 hb h1
  unfold foldZ
  split
  ·rename_i h
   have e : (n % 65536 + n / 65536 + 9223372036854775808) % 18446744073709551616 - 9223372036854775808 = n % 65536 + n / 65536 := by
    rw [Int.emod_eq_of_lt (by omega) (by omega)]; omega
   rw [e]
   exact ih _ (by omega) (by omega) (by omega)
  ·omega
theorem foldZ_pos : ∀ (m : Nat) (n : Int), 0 < n → n < 9223372036854775808 → n < m → 1 ≤ foldZ n := by
 intro m
 induction m with
 | zero => intro n h0 hb h1; omega
 | succ m ih =>
  intro n h0 hb h1
  unfold foldZ
  split
  ·rename_i h
   have e : (n % 65536 + n / 65536 + 9223372036854775808) % 18446744073709551616 - 9223372036854775808 = n % 65536 + n / 65536 := by
    rw [Int.emod_eq_of_lt (by omega) (by omega)]; omega
   rw [e]
   exact ih _ (by omega) (by omega) (by omega)
  ·omega
theorem andNot_mask {k : IntKind} {x : Int} {j : Nat} (h0 : 0 ≤ x) (h1 : x ≤ maxK k) : binZ .andNot k x (2 ^ j - 1) = x - x % 2 ^ j := by
 obtain ⟨n, rfl⟩ := Int.eq_ofNat_of_zero_le h0
 have hw : n < 2 ^ k.bits := by
  revert h1
  cases k <;> simp only [maxK, IntKind.bits, Int.ofNat_eq_natCast] <;> omega
 have hy : ((2 : Int) ^ j - 1) = ((2 ^ j - 1 : Nat) : Int) := by
  have : 0 < 2 ^ j := Nat.pow_pos (by omega)
  rw [Int.ofNat_sub (by omega)]
  simp
 have hb : (BitVec.ofInt k.bits (n : Int) &&& ~~~ BitVec.ofInt k.bits ((2 : Int) ^ j - 1)).toNat = n / 2 ^ j * 2 ^ j := by
  rw [hy, BitVec.ofInt_natCast, BitVec.ofInt_natCast]
  apply Nat.eq_of_testBit_eq
  intro i
  rw [BitVec.testBit_toNat, BitVec.getLsbD_and, BitVec.getLsbD_not, BitVec.getLsbD_ofNat, BitVec.getLsbD_ofNat, Nat.testBit_two_pow_sub_one, ← Nat.shiftRight_eq_div_pow, ← Nat.shiftLeft_eq, Nat.testBit_shiftLeft, Nat.testBit_shiftRight]
  by_cases hi : i < k.bits
  ·by_cases hj : i < j
   ·simp [hi, hj, Nat.not_le.2 hj]
   ·simp [hi, hj, Nat.not_lt.1 hj]
  ·have : n.testBit i = false := Nat.testBit_lt_two_pow (Nat.lt_of_lt_of_le hw (Nat.pow_le_pow_right (by omega) (by omega)))
   by_cases hj : i < j
   ·simp [hi, hj, Nat.not_le.2 hj]
   ·simp [hi, this, Nat.not_lt.1 hj]
 have hle : n / 2 ^ j * 2 ^ j ≤ n := Nat.div_mul_le_self n _
 show k.wrap ((BitVec.ofInt k.bits (n : Int) &&& ~~~ BitVec.ofInt k.bits ((2 : Int) ^ j - 1)).toNat : Int) = _
 have hA : minK k ≤ ((n / 2 ^ j * 2 ^ j : Nat) : Int) := by
  have : minK k ≤ 0 := by cases k <;> simp [minK]
  have : (0 : Int) ≤ ((n / 2 ^ j * 2 ^ j : Nat) : Int) := Int.natCast_nonneg _
  omega
 have hB : ((n / 2 ^ j * 2 ^ j : Nat) : Int) ≤ maxK k := by
  have : ((n / 2 ^ j * 2 ^ j : Nat) : Int) ≤ (n : Int) := Int.ofNat_le.2 hle
  omega
 rw [hb, wrap_in ⟨hA, hB⟩]
 have hm := Nat.div_add_mod n (2 ^ j)
 rw [Nat.mul_comm] at hm
 have hc : ((n % 2 ^ j : Nat) : Int) = (n : Int) % 2 ^ j := by simp
 omega
theorem floorP_mono {a b : Int} {j : Nat} (h : a ≤ b) : a - a % 2 ^ j ≤ b - b % 2 ^ j := by
 have hp : (0 : Int) < 2 ^ j := Int.pow_pos (by omega)
 have h1 := Int.mul_ediv_add_emod a (2 ^ j)
 have h2 := Int.mul_ediv_add_emod b (2 ^ j)
 have h3 : a / 2 ^ j ≤ b / 2 ^ j := Int.ediv_le_ediv hp h
 have h4 : (2 : Int) ^ j * (a / 2 ^ j) ≤ 2 ^ j * (b / 2 ^ j) := Int.mul_le_mul_of_nonneg_left h3 (by omega)
 omega
theorem binR1_in {op : BinOp} {k : IntKind} {x y la ha lb hb : Int} (hx : la ≤ x ∧ x ≤ ha) (hy : lb ≤ y ∧ y ≤ hb) : In (binZ op k x y) (binR1 op k la ha lb hb) := by
 unfold binR1
 cases hs : (beqF la ha && beqF lb hb) with
 | true =>
  simp only [Bool.and_eq_true, beqF_eq, decide_eq_true_eq] at hs
  obtain ⟨rfl, rfl⟩ := hs
  obtain rfl : x = la := by omega
  obtain rfl : y = lb := by omega
  intro l u e
  have e : forceI (binF op k x y) (fun n => some (n, n)) = some (l, u) := e
  rw [forceI_eq, binF_eq] at e
  cases e
  exact ⟨Int.le_refl _, Int.le_refl _⟩
 | false =>
  show In _ (binR2 op k la ha lb hb (Nat.log2 (Int.toNat (Int.add lb 1))))
  generalize Nat.log2 (Int.toNat (Int.add lb 1)) = j
  unfold binR2
  cases h : (isAN op && (pos0 la && (leF ha (maxK k) && (beqF lb hb && (beqF (Int.add lb (.ofNat (nat_lit 1))) (.ofNat (Nat.pow (nat_lit 2) j)) && Nat.blt j (nat_lit 63)))))) with
  | false => exact binR0_in hx hy
  | true =>
   simp only [Bool.and_eq_true, pos0_eq, leF_eq, beqF_eq, decide_eq_true_eq] at h
   obtain ⟨ho, h1, h2, rfl, h4, _⟩ := h
   cases op <;> first | (cases ho; done) | skip
   obtain rfl : y = lb := by omega
   have hy2 : y = 2 ^ j - 1 := by
    have h4 : y + 1 = ((2 ^ j : Nat) : Int) := h4
    have : ((2 ^ j : Nat) : Int) = (2 : Int) ^ j := Int.natCast_pow 2 j
    omega
   intro l u e
   have e : forceI (floorP la j) (fun l => forceI (floorP ha j) fun h => some (l, h)) = some (l, u) := e
   rw [forceI_eq, forceI_eq] at e
   cases e
   rw [hy2, andNot_mask (by omega) (by omega)]
   have hc : ∀ a : Int, floorP a j = a - a % 2 ^ j := fun a => by
    show a - a % ((2 ^ j : Nat) : Int) = _
    rw [Int.natCast_pow]; rfl
   rw [hc, hc]
   exact ⟨floorP_mono hx.1, floorP_mono hx.2⟩
theorem and_cpl {k : IntKind} (hk : isUns k = true) {x m : Int} (h0 : 0 ≤ m) (h1 : 0 ≤ cplF k m) : binZ .and k x m = binZ .andNot k x (cplF k m) := by
 have hmx : maxK k = 2 ^ k.bits - 1 := by cases k <;> first | (cases hk; done) | rfl
 have hc : cplF k m = 2 ^ k.bits - 1 - m := by show maxK k - m = _; rw [hmx]
 rw [hc] at h1 ⊢
 obtain ⟨a, rfl⟩ := Int.eq_ofNat_of_zero_le h0
 have hp : ((2 ^ k.bits : Nat) : Int) = (2 : Int) ^ k.bits := by simp
 have ha : a < 2 ^ k.bits := by
  have : (a : Int) < ((2 ^ k.bits : Nat) : Int) := by rw [hp]; omega
  exact_mod_cast this
 have hn : (2 : Int) ^ k.bits - 1 - (a : Int) = ((2 ^ k.bits - 1 - a : Nat) : Int) := by rw [← hp]; omega
 have key : BitVec.ofInt k.bits (a : Int) = ~~~ BitVec.ofInt k.bits ((2 : Int) ^ k.bits - 1 - (a : Int)) := by
  rw [hn]
  apply BitVec.eq_of_toNat_eq
  rw [BitVec.toNat_not, BitVec.toNat_ofInt, BitVec.toNat_ofInt]
  rw [Int.emod_eq_of_lt (by omega) (by exact_mod_cast ha), Int.emod_eq_of_lt (by omega) (by exact_mod_cast (show 2 ^ k.bits - 1 - a < 2 ^ k.bits by omega))]
  show a = 2 ^ k.bits - 1 - (2 ^ k.bits - 1 - a)
  omega
 show k.wrap ((BitVec.ofInt k.bits x &&& BitVec.ofInt k.bits (a : Int)).toNat : Int) = k.wrap ((BitVec.ofInt k.bits x &&& ~~~ BitVec.ofInt k.bits ((2 : Int) ^ k.bits - 1 - (a : Int))).toNat : Int)
 rw [key]
theorem binR_in {op : BinOp} {k : IntKind} {x y la ha lb hb : Int} (hx : la ≤ x ∧ x ≤ ha) (hy : lb ≤ y ∧ y ≤ hb) : In (binZ op k x y) (binR op k la ha lb hb) := by
 unfold binR
 cases h : hiB op k lb hb (cplF k lb) with
 | false => exact binR1_in hx hy
 | true =>
  unfold hiB at h
  simp only [Bool.and_eq_true, pos0_eq, beqF_eq, decide_eq_true_eq] at h
  obtain ⟨ho, hk, rfl, h1, h2, _⟩ := h
  obtain rfl : y = lb := by omega
  cases op <;> first | (cases ho; done) | skip
  show In _ (forceI (cplF k y) fun n => binR1 .andNot k la ha n n)
  rw [forceI_eq, and_cpl hk h1 h2]
  exact binR1_in hx ⟨Int.le_refl _, Int.le_refl _⟩
theorem rowB_in (ρ : Nat → Int) (a i : Nat) : 0 ≤ rowB ρ a i ∧ rowB ρ a i ≤ 255 := by
 have h := wrap_rng .u8 (ρ (rowIx a i))
 have h1 : minK .u8 = 0 := rfl
 have h2 : maxK .u8 = 255 := rfl
 unfold rowB
 omega
theorem rsZ_in (ρ : Nat → Int) (a p o : Nat) : ∀ n : Nat, 0 ≤ rsZ ρ a p o n ∧ rsZ ρ a p o n ≤ 65280 * n
 | 0 => by simp [rsZ]
 | n + 1 => by
  obtain ⟨h1, h2⟩ := rsZ_in ρ a p o n
  obtain ⟨h3, h4⟩ := rowB_in ρ a (o + n)
  unfold rsZ
  split <;> omega
theorem rngS_in {ρ : Nat → Int} {rg : List (Int × Int)} (hr : RgOk ρ rg) : ∀ e : SI, In (e.ev ρ) (rngS rg e) := by
 intro e
 induction e with
 | lit n => intro l h e; cases e; exact ⟨Int.le_refl _, Int.le_refl _⟩
 | var i => intro l h e; exact hr i l h e
 | bin op k a b iha ihb =>
  intro l h e
  obtain ⟨la, ha, e1, e2⟩ := opt1_some (show opt1 (rngS rg a) none (fun la ha => opt1 (rngS rg b) none fun lb hb => binR op k la ha lb hb) = some (l, h) from e)
  obtain ⟨lb, hb, e3, e4⟩ := opt1_some e2
  exact binR_in (iha _ _ e1) (ihb _ _ e3) _ _ e4
 | conv k a ih =>
  have hd : rngS rg (.conv k a) = opt1 (rngS rg a) (anyR k) fun l h => fitR k l h := rfl
  show In (k.wrap (a.ev ρ)) _
  rw [hd]
  cases hra : rngS rg a with
  | none => exact anyR_in k _
  | some r => exact fitR_in (ih r.1 r.2 hra)
 | fold a ih =>
  intro l h e
  obtain ⟨la, ha, e1, e2⟩ := opt1_some (show opt1 (rngS rg a) none (fun l h => Bool.rec (motive := fun _ => Option (Int × Int)) none (Bool.rec (motive := fun _ => Option (Int × Int)) (some (Bool.rec (motive := fun _ => Int) (.ofNat (nat_lit 0)) (.ofNat (nat_lit 1)) (leF (.ofNat (nat_lit 1)) l), .ofNat (nat_lit 65535))) (some (l, h)) (leF h (.ofNat (nat_lit 65535)))) (pos0 l && leF h (maxK .i64))) = some (l, h) from e)
  have hin := ih la ha e1
  cases hp : (pos0 la && leF ha (maxK .i64)) with
  | false => rw [hp] at e2; cases e2
  | true =>
   rw [hp] at e2
   simp only [Bool.and_eq_true, pos0_eq, leF_eq, decide_eq_true_eq, maxK, Int.ofNat_eq_natCast] at hp
   cases hq : leF ha (.ofNat (nat_lit 65535)) with
   | true =>
    rw [hq] at e2
    have e2 := Option.some.inj (show some (la, ha) = some (l, h) from e2)
    have e3 : la = l := congrArg Prod.fst e2
    have e4 : ha = h := congrArg Prod.snd e2
    rw [leF_eq, decide_eq_true_eq] at hq
    simp only [Int.ofNat_eq_natCast] at hq
    show l ≤ foldZ (a.ev ρ) ∧ foldZ (a.ev ρ) ≤ h
    rw [foldZ, if_neg (by omega)]
    omega
   | false =>
    rw [hq] at e2
    have e2 : some (Bool.rec (motive := fun _ => Int) (.ofNat (nat_lit 0)) (.ofNat (nat_lit 1)) (leF (.ofNat (nat_lit 1)) la), Int.ofNat 65535) = some (l, h) := e2
    have := foldZ_in ((a.ev ρ).toNat + 1) (a.ev ρ) (by omega) (by omega) (by omega)
    have hpos := foldZ_pos ((a.ev ρ).toNat + 1) (a.ev ρ)
    cases h1 : leF (.ofNat (nat_lit 1)) la with
    | true =>
     rw [h1] at e2
     cases e2
     rw [leF_eq, decide_eq_true_eq] at h1
     have h1 : (1 : Int) ≤ la := h1
     exact ⟨hpos (by omega) (by omega) (by omega), this.2⟩
    | false =>
     rw [h1] at e2
     cases e2
     exact ⟨this.1, this.2⟩
 | rs a p o n iho ihn =>
  intro l h e
  obtain ⟨lb, hb, e1, e2⟩ := opt1_some (show opt1 (rngS rg n) none (fun lb hb => Bool.rec (motive := fun _ => Option (Int × Int)) none (forceI (Int.mul hb (.ofNat (nat_lit 65280))) fun h => some (.ofNat (nat_lit 0), h)) (pos0 hb)) = some (l, h) from e)
  have hin := ihn lb hb e1
  cases hp : pos0 hb with
  | false => rw [hp] at e2; cases e2
  | true =>
   rw [hp] at e2
   have e2 : forceI (Int.mul hb (.ofNat (nat_lit 65280))) (fun h => some ((Int.ofNat 0, h) : Int × Int)) = some (l, h) := e2
   rw [forceI_eq] at e2
   cases e2
   rw [pos0_eq, decide_eq_true_eq] at hp
   obtain ⟨h1, h2⟩ := rsZ_in ρ a p (o.ev ρ).toNat (n.ev ρ).toNat
   refine ⟨h1, ?_⟩
   show rsZ ρ a p (o.ev ρ).toNat (n.ev ρ).toNat ≤ hb * 65280
   have h3 : n.ev ρ ≤ hb := hin.2
   omega
theorem two_tests {p q b u v : Bool} (h : Bool.rec (motive := fun _ => Option Bool) (Bool.rec (motive := fun _ => Option Bool) none (some v) q) (some u) p = some b) : (p = true ∧ b = u) ∨ (q = true ∧ b = v) := by
 cases p with
 | true => cases h; exact .inl ⟨rfl, rfl⟩
 | false => cases q with
  | true => cases h; exact .inr ⟨rfl, rfl⟩
  | false => cases h
theorem one_test {p b u : Bool} (h : Bool.rec (motive := fun _ => Option Bool) none (some u) p = some b) : p = true ∧ b = u := by
 cases p with
 | true => cases h; exact ⟨rfl, rfl⟩
 | false => cases h
theorem cmpR_ok {op : BinOp} {x y la ha lb hb : Int} {b : Bool} (hx : la ≤ x ∧ x ≤ ha) (hy : lb ≤ y ∧ y ≤ hb) (h : cmpR op la ha lb hb = some b) : cmpZ op x y = b := by
 cases op
 case lss =>
  rcases two_tests h with ⟨h1, rfl⟩ | ⟨h1, rfl⟩ <;> simp only [leF_eq, bltF_eq, decide_eq_true_eq] at h1
  ·exact decide_eq_true (by omega)
  ·exact decide_eq_false (by omega)
 case leq =>
  rcases two_tests h with ⟨h1, rfl⟩ | ⟨h1, rfl⟩ <;> simp only [leF_eq, bltF_eq, decide_eq_true_eq] at h1
  ·exact decide_eq_true (by omega)
  ·exact decide_eq_false (by omega)
 case gtr =>
  rcases two_tests h with ⟨h1, rfl⟩ | ⟨h1, rfl⟩ <;> simp only [leF_eq, bltF_eq, decide_eq_true_eq] at h1
  ·exact decide_eq_true (by omega)
  ·exact decide_eq_false (by omega)
 case geq =>
  rcases two_tests h with ⟨h1, rfl⟩ | ⟨h1, rfl⟩ <;> simp only [leF_eq, bltF_eq, decide_eq_true_eq] at h1
  ·exact decide_eq_true (by omega)
  ·exact decide_eq_false (by omega)
 case eql =>
  rcases two_tests h with ⟨h1, rfl⟩ | ⟨h1, rfl⟩
  ·simp only [Bool.or_eq_true, bltF_eq, decide_eq_true_eq] at h1
   exact beq_eq_false_iff_ne.2 (by omega)
  ·simp only [Bool.and_eq_true, leF_eq, beqF_eq, decide_eq_true_eq] at h1
   exact beq_iff_eq.2 (by omega)
 case neq =>
  rcases two_tests h with ⟨h1, rfl⟩ | ⟨h1, rfl⟩
  ·simp only [Bool.or_eq_true, bltF_eq, decide_eq_true_eq] at h1
   exact bne_iff_ne.2 (by omega)
  ·simp only [Bool.and_eq_true, leF_eq, beqF_eq, decide_eq_true_eq] at h1
   exact bne_eq_false_iff_eq.2 (by omega)
 all_goals cases h
theorem linR_ok {ρ : Nat → Int} {rg : List (Int × Int)} (hr : RgOk ρ rg) {α : Type} {a : SI} {κ : SI → Int → α} {x : α} (h : linR rg a κ = x) : ∃ y c, κ y c = x ∧ a.ev ρ = y.ev ρ + c := by
 unfold linR at h
 split at h
 ·rename_i k y c
  split at h
  ·rename_i r hy
   rw [forceI_eq, forceI_eq] at h
   have hin := rngS_in hr y r.1 r.2 hy
   cases hb : (leF (minK k) (Int.add r.1 c) && leF (Int.add r.2 c) (maxK k)) with
   | false => rw [hb] at h; exact ⟨_, _, h, by simp⟩
   | true =>
    rw [hb] at h
    simp only [Bool.and_eq_true, leF_eq, decide_eq_true_eq, show ∀ a b : Int, Int.add a b = a + b from fun _ _ => rfl] at hb
    exact ⟨_, _, h, wrap_in (k := k) ⟨by show minK k ≤ y.ev ρ + c; omega, by show y.ev ρ + c ≤ maxK k; omega⟩⟩
  ·exact ⟨_, _, h, by simp⟩
 ·exact ⟨_, _, h, by simp⟩
theorem strip_ev {ρ : Nat → Int} {rg : List (Int × Int)} (hr : RgOk ρ rg) : ∀ e : SI, (strip rg e).ev ρ = e.ev ρ := by
 intro e
 induction e with
 | conv k a ih =>
  show (opt1' (rngS rg a) (.conv k a) fun l h => Bool.rec (motive := fun _ => SI) (.conv k a) (strip rg a) (leF (minK k) l && leF h (maxK k))).ev ρ = _
  cases hra : rngS rg a with
  | none => rfl
  | some r =>
   show (Bool.rec (motive := fun _ => SI) (.conv k a) (strip rg a) (leF (minK k) r.1 && leF r.2 (maxK k))).ev ρ = _
   cases hb : (leF (minK k) r.1 && leF r.2 (maxK k)) with
   | false => rfl
   | true =>
    simp only [Bool.and_eq_true, leF_eq, decide_eq_true_eq] at hb
    have := rngS_in hr a r.1 r.2 hra
    show (strip rg a).ev ρ = k.wrap (a.ev ρ)
    rw [ih, wrap_in ⟨by omega, by omega⟩]
 | _ => rfl
theorem cmpZ_shift {op : BinOp} (h : isCmp op = true) (v a b : Int) : cmpZ op (v + a) (v + b) = cmpZ op a b := by
 cases op <;> simp [isCmp] at h <;> simp [cmpZ] <;> (try (rw [Bool.eq_iff_iff]; simp; done)) <;> (try omega)
theorem linM_ok {ρ : Nat → Int} {rg : List (Int × Int)} (hr : RgOk ρ rg) {a : SI} {x : SI} {n : Int} (h : linM rg a = some (x, n)) : a.ev ρ = n - x.ev ρ := by
 unfold linM at h
 split at h
 ·rename_i k c y
  split at h
  ·rename_i r hy
   cases hb : (leF (minK k) (Int.sub c r.2) && leF (Int.sub c r.1) (maxK k)) with
   | false => rw [hb] at h; cases h
   | true =>
    rw [hb] at h
    simp only [Bool.and_eq_true, leF_eq, decide_eq_true_eq, show ∀ a b : Int, Int.sub a b = a - b from fun _ _ => rfl] at hb
    obtain ⟨z, d, h1, h2⟩ := linR_ok hr h
    have h1 : forceI (Int.sub c d) (fun n => some (z, n)) = some (x, n) := h1
    rw [forceI_eq] at h1
    cases h1
    rw [strip_ev hr] at h2
    have hin := rngS_in hr y r.1 r.2 hy
    have hv : (SI.bin .sub k (.lit c) y).ev ρ = c - y.ev ρ := wrap_in (k := k) ⟨by show minK k ≤ c - y.ev ρ; omega, by show c - y.ev ρ ≤ maxK k; omega⟩
    rw [hv, h2]
    show c - (x.ev ρ + d) = (c - d) - x.ev ρ
    omega
  ·cases h
 ·cases h
theorem decM_ok {ρ : Nat → Int} {rg : List (Int × Int)} (hr : RgOk ρ rg) {op : BinOp} {a b : SI} {c : Bool} (h : decM rg op a b = some c) : cmpZ op (a.ev ρ) (b.ev ρ) = c := by
 unfold decM at h
 split at h
 ·rename_i p hp
  split at h
  ·rename_i q hq
   cases hb : (SI.beq p.1 q.1 && isCmp op) with
   | false => rw [hb] at h; cases h
   | true =>
    rw [hb] at h
    simp only [Bool.and_eq_true] at hb
    have h : forceB (cmpF op p.2 q.2) (fun c => some c) = some c := h
    rw [forceB_eq, cmpF_eq] at h
    cases h
    have hxy := SI.beq_eq _ _ hb.1
    rw [linM_ok hr (x := p.1) (n := p.2) hp, linM_ok hr (x := q.1) (n := q.2) hq, hxy]
    have := cmpZ_shift hb.2 (-(q.1.ev ρ)) p.2 q.2
    rw [show -(q.1.ev ρ) + p.2 = p.2 - q.1.ev ρ by omega, show -(q.1.ev ρ) + q.2 = q.2 - q.1.ev ρ by omega] at this
    exact this
  ·cases h
 ·cases h
theorem rngC_in {ρ : Nat → Int} {rg : List (Int × Int)} (hr : RgOk ρ rg) (a : SI) : In (a.ev ρ) (rngC rg a) := by
 unfold rngC
 split
 ·rename_i k k' x y
  cases hb : Nat.ble (bitsF k) (bitsF k') with
  | false => exact rngS_in hr _
  | true =>
   have hv : (SI.conv k (.bin .sub k' x y)).ev ρ = k.wrap (x.ev ρ - y.ev ρ) := by
    show k.wrap (k'.wrap (x.ev ρ - y.ev ρ)) = _
    exact wrap_narrow hb _
   rw [hv]
   cases hx : rngS rg x with
   | none => exact anyR_in k _
   | some r =>
    cases hy : rngS rg y with
    | none => exact anyR_in k _
    | some q =>
     have h1 := rngS_in hr x r.1 r.2 hx
     have h2 := rngS_in hr y q.1 q.2 hy
     exact fitR_in ⟨by show r.1 - q.2 ≤ _; omega, by show _ ≤ r.2 - q.1; omega⟩
 ·exact rngS_in hr _
theorem decR_ok {ρ : Nat → Int} {rg : List (Int × Int)} (hr : RgOk ρ rg) : ∀ {c : SB} {b : Bool}, decR rg c = some b → c.ev ρ = b := by
 intro c
 induction c with
 | lit b => intro b h; cases h
 | cmp op x y =>
  intro b h
  have h : decC rg op x y = some b := h
  unfold decC at h
  show cmpZ op (x.ev ρ) (y.ev ρ) = b
  split at h
  ·rename_i b' hb
   cases h
   obtain ⟨la, ha, e1, e2⟩ := opt1_some hb
   obtain ⟨lb, hb, e3, e4⟩ := opt1_some e2
   exact cmpR_ok (rngC_in hr x _ _ e1) (rngC_in hr y _ _ e3) e4
  ·obtain ⟨x', cx, h1, ex⟩ := linR_ok hr h
   obtain ⟨y', cy, h2, ey⟩ := linR_ok hr h1
   cases hb : (SI.beq x' y' && isCmp op) with
   | false =>
    rw [hb] at h2
    have := decM_ok hr h2
    rw [strip_ev hr, strip_ev hr] at this
    exact this
   | true =>
    rw [hb] at h2
    simp only [Bool.and_eq_true] at hb
    have h2 : forceB (cmpF op cx cy) (fun c => some c) = some b := h2
    rw [forceB_eq, cmpF_eq] at h2
    cases h2
    have hxy := SI.beq_eq _ _ hb.1
    subst hxy
    rw [strip_ev hr] at ex ey
    rw [ex, ey]
    exact cmpZ_shift hb.2 _ _ _
 | not a ih =>
  intro b h
  cases ha : decR rg a with
  | none =>
   have h : Option.rec (motive := fun _ => Option Bool) none (fun b => some (notF b)) (decR rg a) = some b := h
   rw [ha] at h
   cases h
  | some d =>
   have h : Option.rec (motive := fun _ => Option Bool) none (fun b => some (notF b)) (decR rg a) = some b := h
   rw [ha] at h
   have h : some (notF d) = some b := h
   cases h
   show (!(a.ev ρ)) = notF d
   rw [ih ha, notF_eq]
theorem xorB_eq (b f : Bool) : xorB b f = Bool.xor b f := by cases b <;> cases f <;> rfl
theorem normC_ok (op : BinOp) (a b : SI) (ρ : Nat → Int) : Bool.xor ((normC op a b).1.ev ρ) (normC op a b).2 = cmpZ op (a.ev ρ) (b.ev ρ) := by
 unfold normC
 generalize ha : a.ev ρ = x
 generalize hb : b.ev ρ = y
 have h1 : decide (x ≤ y) = !decide (y < x) := by
  by_cases h : x ≤ y
  ·rw [decide_eq_true h, decide_eq_false (by omega : ¬ y < x)]; rfl
  ·rw [decide_eq_false h, decide_eq_true (by omega : y < x)]; rfl
 have h2 : decide (x ≥ y) = !decide (x < y) := by
  by_cases h : y ≤ x
  ·rw [decide_eq_true (show x ≥ y from h), decide_eq_false (by omega : ¬ x < y)]; rfl
  ·rw [decide_eq_false (show ¬ x ≥ y from h), decide_eq_true (by omega : x < y)]; rfl
 cases op <;> simp only [SB.ev, cmpZ, ha, hb, Bool.xor_true, Bool.xor_false, h1, h2] <;> rfl
theorem normB_ok {ρ : Nat → Int} {rg : List (Int × Int)} (hr : RgOk ρ rg) : ∀ c : SB, Bool.xor ((normB rg c).1.ev ρ) (normB rg c).2 = c.ev ρ
 | .lit b => by show Bool.xor b false = b; simp
 | .cmp op a b => by
  show Bool.xor ((normC op (strip rg a) (strip rg b)).1.ev ρ) _ = cmpZ op (a.ev ρ) (b.ev ρ)
  rw [← strip_ev hr a, ← strip_ev hr b]
  exact normC_ok op _ _ ρ
 | .not a => by
  have := normB_ok hr a
  show Bool.xor ((normB rg a).1.ev ρ) (notF (normB rg a).2) = !(a.ev ρ)
  rw [← this, notF_eq]
  cases (normB rg a).1.ev ρ <;> cases (normB rg a).2 <;> rfl
theorem decN_inv {pc : PC} {c : SB} {f : Bool} {κ : Bool → PC → R} (h : decN pc κ c f ∈ D) : ∃ b pc', κ (Bool.xor b f) pc' ∈ D ∧ PcExt pc pc' ∧ ∀ ρ, Holds ρ pc' → c.ev ρ = b := by
 unfold decN at h
 split at h
 ·rename_i b hb
  rw [xorB_eq] at h
  exact ⟨b, pc, h, .refl _, fun ρ hρ => lookB_inv hb hρ.l⟩
 ·obtain ⟨s1, s2, h1⟩ := partS_inv h
  rcases fork_inv h1 with ⟨_, h2⟩ | ⟨_, h2⟩
  ·have h3 := brS_inv h2
   rw [xorB_eq] at h3
   exact ⟨_, _, h3, ⟨⟨[(c, _)], rfl⟩, rfl⟩, fun ρ hρ => hρ.l (c, _) (List.mem_cons_self ..)⟩
  ·have h3 := brS_inv h2
   rw [xorB_eq] at h3
   exact ⟨_, _, h3, ⟨⟨[(c, _)], rfl⟩, rfl⟩, fun ρ hρ => hρ.l (c, _) (List.mem_cons_self ..)⟩
theorem decP_inv {pc : PC} {c : SB} {κ : Bool → PC → R} (h : decP pc c κ ∈ D) : ∃ b pc', κ b pc' ∈ D ∧ PcExt pc pc' ∧ ∀ ρ, Holds ρ pc' → c.ev ρ = b := by
 unfold decP at h
 split at h
 ·rename_i b hb
  exact ⟨b, pc, h, .refl _, fun ρ hρ => decR_ok hρ.rg hb⟩
 split at h
 ·rename_i b hb
  exact ⟨b, pc, h, .refl _, fun ρ hρ => lookB_inv hb hρ.l⟩
 ·split at h
  rename_i c' f hc
  obtain ⟨b, pc', h1, hx, h2⟩ := decN_inv h
  refine ⟨_, pc', h1, hx, fun ρ hρ => ?_⟩
  have hr : RgOk ρ pc.rg := by rw [← hx.rg]; exact hρ.rg
  have := normB_ok hr c
  rw [hc] at this
  rw [← this, h2 ρ hρ]
theorem decK_inv {pc : PC} {c : SB} {κ : Bool → PC → R} (h : decK pc c κ ∈ D) : ∃ b pc', κ b pc' ∈ D ∧ PcExt pc pc' ∧ ∀ ρ, Holds ρ pc' → c.ev ρ = b := by
 cases c with
 | lit b => exact ⟨_, pc, h, .refl _, fun _ _ => rfl⟩
 | cmp op a b => exact decP_inv h
 | not a => exact decP_inv h
theorem getK_inv {t : Ts} {d : Nat} {κ : AV → R} (h : t.getK d κ ∈ D) : ∃ v, t.get d = some v ∧ κ v ∈ D := by
 rw [Ts.getK_eq] at h
 split at h
 ·exact ⟨_, by assumption, h⟩
 ·cases h
theorem opd_inv {t : Ts} {o : Operand} {κ : AV → R} (h : opd t o κ ∈ D) : ∃ v, κ v ∈ D ∧ ∀ {φ ρ sz a}, GA φ ρ t sz a → conc φ ρ v = some (a.eval o) := by
 cases o with
 | tmp d =>
  obtain ⟨v, h1, h2⟩ := getK_inv (show t.getK d κ ∈ D from h)
  exact ⟨v, h2, fun hg => hg.tm d v h1⟩
 | const v => exact ⟨ofValue v, h, fun _ => conc_ofValue v⟩
 | global g => cases h
 | func f => exact ⟨_, h, fun _ => rfl⟩
theorem opds_inv {t : Ts} : ∀ {l : List Operand} {κ : List AV → R}, opds t l κ ∈ D → ∃ vs, κ vs ∈ D ∧ vs.length = l.length ∧ ∀ {φ ρ sz a}, GA φ ρ t sz a → concL φ ρ vs = some (l.map a.eval)
 | [], κ, h => ⟨[], h, rfl, fun _ => rfl⟩
 | o :: l, κ, h => by
  unfold opds at h
  obtain ⟨v, h1, hv⟩ := opd_inv h
  obtain ⟨vs, h2, hl, hvs⟩ := opds_inv h1
  exact ⟨v :: vs, h2, by simp [hl], fun hg => concL_cons.2 ⟨_, _, hv hg, hvs hg, rfl⟩⟩
end
section
variable {P : Program} {w : World}
theorem run_ti {T : TypeId} {i : TypeInfo} (h : P.info? T = some i) : (typeInfo T).run P w = .ok i w := by
 unfold typeInfo
 rw [Sem.run_bind]
 simp [program, Sem.run, h]
theorem run_isAgg {T : TypeId} {o : Option Nat} (h : aggOf P T = some o) : (isAgg T).run P w = .ok o.isSome w := by
 unfold aggOf at h
 unfold isAgg
 split at h
 ·rename_i fs hu
  rw [Sem.run_bind, run_underlying hu]
  simp only [Option.map_eq_some_iff] at h
  obtain ⟨i, _, rfl⟩ := h
  rfl
 ·rename_i n e hu
  rw [Sem.run_bind, run_underlying hu]
  simp only [Option.map_eq_some_iff] at h
  obtain ⟨i, _, rfl⟩ := h
  rfl
 ·rename_i d h1 h2 hu
  rw [Sem.run_bind, run_underlying hu]
  cases h
  simp only [Result.andThen_ok]
  cases d <;> first | rfl | exact absurd hu (by first | exact h1 _ | exact h2 _ _)
 ·cases h
theorem agg_size {T : TypeId} {n : Nat} (h : aggOf P T = some (some n)) : sizeA P T = some n := by
 unfold aggOf at h
 split at h
 ·simpa [sizeA] using h
 ·simpa [sizeA] using h
 ·cases h
 ·cases h
theorem run_size {T : TypeId} {n : Nat} (h : sizeA P T = some n) : (sizeOf T).run P w = .ok n w := by
 simp only [sizeA, Option.map_eq_some_iff] at h
 obtain ⟨i, hi, rfl⟩ := h
 simp [sizeOf, Sem.run_bind, run_ti hi]
theorem run_zero {T : TypeId} {z : AV} (h : zeroA P T = some z) : ∃ v, (zeroValue T).run P w = .ok v w ∧ ofValue v = z := by
 unfold zeroA at h
 split at h
 ·rename_i i hi
  simp only [Option.map_eq_some_iff] at h
  obtain ⟨v, hv, rfl⟩ := h
  exact ⟨v, by simp [zeroValue, Sem.run_bind, run_ti hi, hv], rfl⟩
 ·cases h
end
theorem add_plain (b o n : Nat) : (⟨b, o, none⟩ : Addr).add n = ⟨b, o + n, none⟩ := by
 unfold Addr.add
 split
 ·subst_vars; rfl
 ·rfl
theorem CelOk.cel {P : Program} {φ : List Pl} {ρ : Nat → Int} {w : World} {p : Pl} {arr : Array Value} {fz : Nat × Nat} {n : Nat} {c : Tr AV} {d : Option AV} {T : TypeId} {row : Bool} (h : CelOk P φ ρ w p arr fz n c d T row) {i : Nat} (hi : i < n) :
  ∃ v x, celA c d i = some v ∧ conc φ ρ v = some x ∧ w.cell? ⟨p.blk, p.sh + i, none⟩ = some x ∧ oneB v = true := by
 obtain ⟨v, x, h1, h2, h3, h4⟩ := h.cell i hi
 refine ⟨v, x, h1, h2, ?_, h4⟩
 unfold World.cell?
 simp [h.blk, h3]
def RunV (P : Program) (φ : List Pl) (ρ : Nat → Int) (w : World) (m : Sem Value) (v : AV) : Prop := ∃ x, conc φ ρ v = some x ∧ m.run P w = .ok x w
theorem RunV.value {P : Program} {φ : List Pl} {ρ : Nat → Int} {w : World} {m : Sem Value} {v : AV} (h : RunV P φ ρ w m v) : ∃ x, conc φ ρ v = some x ∧ (m >>= fun y => pure (Next.value y)).run P w = .ok (.value x) w := by
 obtain ⟨x, h1, h2⟩ := h
 exact ⟨x, h1, by rw [Sem.run_bind, h2]; rfl⟩
section
variable {P : Program} {D : Dn} {h : Tr AObj}
theorem objK_inv {id : Nat} {κ : OK} (hD : objK h id κ ∈ D) : ∃ n c d T r, h.get id = some (.cells n c d T r) ∧ κ n c d T r ∈ D := by
 obtain ⟨o, ho, h1⟩ := optK_inv hD
 cases o with
 | cells n c d T r => exact ⟨_, _, _, _, _, ho, h1⟩
 | map es c => cases h1
 | iter m b l n => cases h1
 | rope cs T r => cases h1
 | dead => cases h1
theorem cellK_inv {c : Tr AV} {d : Option AV} {off : Nat} {κ : AV → R} (hD : cellK c d off κ ∈ D) : ∃ v, celA c d off = some v ∧ κ v ∈ D := by
 unfold cellK at hD
 unfold celA
 cases hc : c.get off with
 | none => rw [hc] at hD; obtain ⟨v, h1, h2⟩ := optK_inv hD; exact ⟨v, h1, h2⟩
 | some v => rw [hc] at hD; exact ⟨v, rfl, hD⟩
theorem ldN_inv {c : Tr AV} {d : Option AV} : ∀ {m off : Nat} {κ : List AV → R}, ldN c d off m κ ∈ D → ∃ l, l.length = m ∧ κ l ∈ D ∧ ∀ i, i < m → celA c d (off + i) = l[i]?
 | 0, off, κ, h => ⟨[], rfl, h, fun i hi => absurd hi (Nat.not_lt_zero _)⟩
 | m + 1, off, κ, h => by
  have h : cellK c d off (fun v => ldN c d (off + 1) m fun l => κ (v :: l)) ∈ D := h
  obtain ⟨v, hv, h1⟩ := cellK_inv h
  obtain ⟨l, hl, h2, hc⟩ := ldN_inv h1
  refine ⟨v :: l, by simp [hl], h2, fun i hi => ?_⟩
  cases i with
  | zero => simpa using hv
  | succ i =>
   have := hc i (by omega)
   rw [show off + (i + 1) = off + 1 + i by omega, this]
   simp
theorem cells_row {φ : List Pl} {ρ : Nat → Int} {w : World} {p : Pl} {arr : Array Value} {fz : Nat × Nat} {n : Nat} {c : Tr AV} {d : Option AV} {T : TypeId} {row : Bool} (hc : CelOk P φ ρ w p arr fz n c d T row) :
  ∀ (l : List AV) (off : Nat), off + l.length ≤ n → (∀ i, i < l.length → celA c d (off + i) = l[i]?) → ∃ xs, concL φ ρ l = some xs ∧ ∀ j x, xs[j]? = some x → w.cell? ((⟨p.blk, p.sh + off, none⟩ : Addr).add j) = some x
 | [], off, _, _ => ⟨[], rfl, fun j x h => by simp at h⟩
 | v :: l, off, hle, hl => by
  simp only [List.length_cons] at hle hl
  obtain ⟨v', x, h1, h2, h3, _⟩ := hc.cel (i := off) (by omega)
  have h0 := hl 0 (by omega)
  simp only [Nat.add_zero, List.getElem?_cons_zero] at h0
  rw [h0] at h1
  cases h1
  obtain ⟨xs, hxs, hcx⟩ := cells_row hc l (off + 1) (by omega) fun i hi => by
   have := hl (i + 1) (by omega)
   rw [show off + 1 + i = off + (i + 1) by omega, this]
   simp
  refine ⟨x :: xs, concL_cons.2 ⟨x, xs, h2, hxs, rfl⟩, fun j y hy => ?_⟩
  cases j with
  | zero => simp at hy; subst hy; simpa [add_plain] using h3
  | succ j =>
   simp at hy
   have := hcx j y hy
   rw [add_plain] at this ⊢
   rw [← this]
   congr 2; omega
theorem lenSI_eq : ∀ l : List SI, lenSI l = l.length
 | [] => rfl
 | _ :: l => congrArg Nat.succ (lenSI_eq l)
theorem dropS_inv {D : Dn} {κ : List SI → R} : ∀ {n : Nat} {l : List SI}, dropS l n κ ∈ D → κ (l.drop n) ∈ D ∧ n ≤ l.length
 | 0, l, h => ⟨h, Nat.zero_le _⟩
 | n + 1, [], h => by cases h
 | n + 1, _ :: l, h => by
  obtain ⟨h1, h2⟩ := dropS_inv (n := n) (l := l) h
  exact ⟨h1, by simp only [List.length_cons]; omega⟩
theorem ropeZ_cons (ρ : Nat → Int) (c : Ch) (cs : List Ch) : ropeZ ρ (c :: cs) = c.zs ρ ++ ropeZ ρ cs := by simp [ropeZ]
theorem ropeZ_nil (ρ : Nat → Int) : ropeZ ρ [] = [] := rfl
theorem byteK_inv {D : Dn} {κ : SI → R} : ∀ {cs : List Ch} {i : Nat}, byteK cs i κ ∈ D → ∃ e, κ e ∈ D ∧ ∀ ρ, (ropeZ ρ cs)[i]? = some (e.ev ρ)
 | [], i, h => by cases h
 | .fil _ _ :: cs, i, h => by cases h
 | .row _ _ _ :: cs, i, h => by cases h
 | .bs l :: cs, i, h => by
  have h : Bool.rec (motive := fun _ => R) (forceN (Nat.sub i (lenSI l)) fun i => byteK cs i κ) (dropS l i fun l => List.rec (motive := fun _ => R) (.fail 439) (fun e _ _ => κ e) l) (Nat.blt i (lenSI l)) ∈ D := h
  rcases brec_cases h with ⟨hb, h1⟩ | ⟨hb, h1⟩
  ·rw [natBlt, lenSI_eq] at hb
   have hb := of_decide_eq_true hb
   obtain ⟨h2, _⟩ := dropS_inv h1
   cases hd : l.drop i with
   | nil => rw [hd] at h2; cases h2
   | cons e r =>
    rw [hd] at h2
    refine ⟨e, h2, fun ρ => ?_⟩
    have he : l[i]? = some e := by
     have := congrArg List.head? hd
     rw [List.head?_drop] at this
     exact this
    rw [ropeZ_cons, List.getElem?_append_left (by simp [Ch.zs]; exact hb)]
    simp [Ch.zs, he]
  ·rw [natBlt, lenSI_eq] at hb
   have hb := of_decide_eq_false hb
   rw [forceN_eq] at h1
   obtain ⟨e, h2, h3⟩ := byteK_inv h1
   refine ⟨e, h2, fun ρ => ?_⟩
   rw [ropeZ_cons, List.getElem?_append_right (by simp [Ch.zs]; omega)]
   have := h3 ρ
   rw [lenSI_eq] at this
   simpa [Ch.zs] using this
theorem load_sound {T : TypeId} {v : AV} {κ : AV → R} (hD : loadA P h T v κ ∈ D) : ∃ u, κ u ∈ D ∧ ∀ {φ ρ w x}, Hp P φ ρ h w → conc φ ρ v = some x → RunV P φ ρ w (Instr.loadAt T x) u := by
 obtain ⟨o, ho, h1⟩ := optK_inv hD
 obtain ⟨id, off, rfl, h1⟩ := ptrV_inv (show ptrV v (nat_lit 16) (loadP h κ o) ∈ D from h1)
 have h1 : loadP h κ o id off ∈ D := h1
 unfold loadP at h1
 rw [forceN_eq] at h1
 obtain ⟨ob, hg, h1⟩ := optK_inv h1
 cases ob with
 | map es c => cases h1
 | iter m b l n => cases h1
 | dead => cases h1
 | rope cs T' r =>
  cases o with
  | some m => cases h1
  | none =>
   obtain ⟨e, h2, h3⟩ := byteK_inv (show byteK cs off (fun e => κ (.int .u8 e)) ∈ D from h1)
   refine ⟨_, h2, fun {φ ρ w x} hp hx => ?_⟩
   obtain ⟨p, arr, fz, hpl, hc⟩ := hp.obj _ _ hg
   simp only [conc, hpl, Option.map_some, Option.some.injEq] at hx
   subst hx
   refine ⟨.int .u8 (e.ev ρ), rfl, ?_⟩
   have hcell : w.cell? ⟨p.blk, p.sh + off, none⟩ = some (.int .u8 (e.ev ρ)) := by
    simp only [World.cell?, hc.blk]
    exact hc.cell off _ (h3 ρ)
   simp only [Instr.loadAt, Instr.sureAddr, loadVar, Sem.run_bind, Sem.run_pure, Result.andThen_ok, run_isAgg ho, Option.isSome_none, Bool.false_eq_true, if_false]
   simp [run_load, hcell]
 | cells n c d T' r =>
 have h2 : (Option.rec (motive := fun _ => OK) (ld1 κ off) (ldA κ off) o) n c d T' r ∈ D := h1
 cases o with
 | none =>
  have h2 : ld1 κ off n c d T' r ∈ D := h2
  unfold ld1 at h2
  obtain ⟨hlt, h3⟩ := brec_inv h2
  obtain ⟨u, hu, h4⟩ := cellK_inv h3
  refine ⟨u, h4, fun {φ ρ w x} hp hx => ?_⟩
  obtain ⟨p, arr, fz, hpl, hc⟩ := hp.obj _ _ hg
  simp only [conc, hpl, Option.map_some, Option.some.injEq] at hx
  subst hx
  rw [natBlt] at hlt
  obtain ⟨v', y, e1, e2, e3, _⟩ := hc.cel (of_decide_eq_true hlt)
  rw [hu] at e1; cases e1
  refine ⟨y, e2, ?_⟩
  simp only [Instr.loadAt, Instr.sureAddr, loadVar, Sem.run_bind, Sem.run_pure, Result.andThen_ok, run_isAgg ho, Option.isSome_none, Bool.false_eq_true, if_false]
  simp [run_load, e3]
 | some m =>
  have h2 : ldA κ off m n c d T' r ∈ D := h2
  unfold ldA at h2
  obtain ⟨hle, h3⟩ := brec_inv h2
  rw [natBle] at hle
  have hle := of_decide_eq_true hle
  obtain ⟨l, hl, h4, hcl⟩ := ldN_inv h3
  refine ⟨_, h4, fun {φ ρ w x} hp hx => ?_⟩
  obtain ⟨p, arr, fz, hpl, hc⟩ := hp.obj _ _ hg
  simp only [conc, hpl, Option.map_some, Option.some.injEq] at hx
  subst hx
  obtain ⟨xs, hxs, hcx⟩ := cells_row hc l off (by rw [hl]; exact hle) (by rw [hl]; exact hcl)
  refine ⟨.agg xs.toArray, by simp [conc, hxs], ?_⟩
  have hr := run_loadCells_list (P := P) (w := w) ⟨p.blk, p.sh + off, none⟩ xs hcx
  have hm : xs.length = m := by rw [concL_length hxs, hl]
  rw [hm] at hr
  simp only [Instr.loadAt, Instr.sureAddr, loadVar, Sem.run_bind, Sem.run_pure, Result.andThen_ok, run_isAgg ho, Option.isSome_some, if_true, run_size (agg_size ho), hr]
end
end Go.Proofs.YtooebogidjejoaaGreat
