/-
  A run reckoned ahead: numbers with letters in them, values, memory; what the reckoning does at each operation. The definitions alone.
-/
import Derived.Test.YticednpolhnneaaGreatMix
set_option linter.unusedVariables false
set_option linter.unusedSimpArgs false
namespace Go.Proofs.YticednpolhnneaaGreat
open Go

/-! rows by number -/
inductive Tr (α : Type) where
  | nil | node (v : Option α) (l r : Tr α)

section
noncomputable section
/-- where a number lies: here, on the left, on the right -/
inductive Pos where
  | here | left (p : Pos) | right (p : Pos)
def posF (f : Nat) : Nat → Pos := Nat.rec (motive := fun _ => Nat → Pos) (fun _ => .here) (fun _ ih k => Nat.rec (motive := fun _ => Pos) .here (fun k _ => Bool.rec (motive := fun _ => Pos) (.right (ih (Nat.div k (nat_lit 2)))) (.left (ih (Nat.div k (nat_lit 2)))) (Nat.beq (Nat.mod k (nat_lit 2)) (nat_lit 0))) k) f
def posOf (k : Nat) : Pos := posF (Nat.succ k) k
def Tr.getP {α : Type} (p : Pos) : Tr α → Option α := Pos.rec (motive := fun _ => Tr α → Option α)
  (fun t => Tr.rec (motive := fun _ => Option α) none (fun v _ _ _ _ => v) t)
  (fun _ ih t => Tr.rec (motive := fun _ => Option α) none (fun _ l _ _ _ => ih l) t)
  (fun _ ih t => Tr.rec (motive := fun _ => Option α) none (fun _ _ r _ _ => ih r) t) p
def Tr.get {α : Type} (t : Tr α) (k : Nat) : Option α := Tr.getP (posOf k) t
def Tr.setP {α : Type} (x : α) (p : Pos) : Tr α → Tr α := Pos.rec (motive := fun _ => Tr α → Tr α)
  (fun t => Tr.rec (motive := fun _ => Tr α) (.node (some x) .nil .nil) (fun _ l r _ _ => .node (some x) l r) t)
  (fun _ ih t => Tr.rec (motive := fun _ => Tr α) (.node none (ih .nil) .nil) (fun v l r _ _ => .node v (ih l) r) t)
  (fun _ ih t => Tr.rec (motive := fun _ => Tr α) (.node none .nil (ih .nil)) (fun v l r _ _ => .node v l (ih r)) t) p
def Tr.set {α : Type} (t : Tr α) (k : Nat) (x : α) : Tr α := Tr.setP x (posOf k) t

/-- a number, reckoned out ahead of what follows -/
def forceN {α : Type} (n : Nat) (k : Nat → α) : α := Nat.rec (motive := fun _ => α) (k (nat_lit 0)) (fun m _ => k (Nat.succ m)) n
def forceI {α : Type} (n : Int) (k : Int → α) : α := Int.rec (motive := fun _ => α) (fun m => forceN m fun m => k (.ofNat m)) (fun m => forceN m fun m => k (.negSucc m)) n
def forceB {α : Type} (b : Bool) (k : Bool → α) : α := Bool.rec (motive := fun _ => α) (k false) (k true) b

/-! numbers with letters -/
inductive SI where
  | lit (n : Int) | var (i : Nat) | bin (op : BinOp) (k : IntKind) (a b : SI) | conv (k : IntKind) (a : SI) | fold (a : SI)
  | rs (a p : Nat) (o n : SI)
inductive SB where
  | lit (b : Bool) | cmp (op : BinOp) (a b : SI) | not (a : SB)

/-- what an operation on numbers gives -/
def binZ (op : BinOp) (k : IntKind) (x y : Int) : Int := match op with
  | .add => k.wrap (x + y)
  | .sub => k.wrap (x - y)
  | .mul => k.wrap (x * y)
  | .quo => k.wrap (x.tdiv y)
  | .rem => x.tmod y
  | .and => k.wrap ((BitVec.ofInt k.bits x &&& BitVec.ofInt k.bits y).toNat : Int)
  | .or => k.wrap ((BitVec.ofInt k.bits x ||| BitVec.ofInt k.bits y).toNat : Int)
  | .xor => k.wrap ((BitVec.ofInt k.bits x ^^^ BitVec.ofInt k.bits y).toNat : Int)
  | .andNot => k.wrap ((BitVec.ofInt k.bits x &&& ~~~ BitVec.ofInt k.bits y).toNat : Int)
  | .shl => k.wrap (x * 2 ^ (min y.toNat k.bits))
  | .shr => x.fdiv (2 ^ (min y.toNat k.bits))
  | _ => 0
def cmpZ (op : BinOp) (x y : Int) : Bool := match op with
  | .eql => x == y
  | .neq => x != y
  | .lss => decide (x < y)
  | .leq => decide (x ≤ y)
  | .gtr => decide (x > y)
  | .geq => decide (x ≥ y)
  | _ => false
/-- sixteen bits of a sum: what is above is added below, over and over -/
def foldZ (n : Int) : Int := if 65535 < n then foldZ ((n % 65536 + n / 65536 + 9223372036854775808) % 18446744073709551616 - 9223372036854775808) else n
termination_by if n < 9223372036854775808 then n.toNat else 18446744073709551616
decreasing_by
  by_cases hn : n < 9223372036854775808
  · have h1 : 0 ≤ n % 65536 + n / 65536 := by omega
    have h2 : n % 65536 + n / 65536 < n := by omega
    rw [Int.emod_eq_of_lt (by omega) (by omega)]
    rw [if_pos (by omega), if_pos hn]
    omega
  · rw [if_neg hn]
    split <;> omega
/-- rows of bytes that are letters: the row a's byte i -/
def rowIx (a i : Nat) : Nat := 1000 + 64 * i + a
def rowB (ρ : Nat → Int) (a i : Nat) : Int := IntKind.u8.wrap (ρ (rowIx a i))
/-- the sum of n of its bytes from o on, by words; p: the first one is a high byte, if that is even -/
def rsZ (ρ : Nat → Int) (a p o : Nat) : Nat → Int
  | 0 => 0
  | n + 1 => rsZ ρ a p o n + rowB ρ a (o + n) * (if (p + n) % 2 = 0 then 256 else 1)
def SI.ev (ρ : Nat → Int) : SI → Int
  | .lit n => n
  | .var i => ρ i
  | .bin op k a b => binZ op k (a.ev ρ) (b.ev ρ)
  | .conv k a => k.wrap (a.ev ρ)
  | .fold a => foldZ (a.ev ρ)
  | .rs a p o n => rsZ ρ a p (o.ev ρ).toNat (n.ev ρ).toNat
def SB.ev (ρ : Nat → Int) : SB → Bool
  | .lit b => b
  | .cmp op a b => cmpZ op (a.ev ρ) (b.ev ρ)
  | .not a => !(a.ev ρ)

/-! the same, quick at figures -/
def modF (k : IntKind) : Int := match k with
  | .i8 | .u8 => .ofNat (nat_lit 256)
  | .i16 | .u16 => .ofNat (nat_lit 65536)
  | .i32 | .u32 => .ofNat (nat_lit 4294967296)
  | .i64 | .u64 => .ofNat (nat_lit 18446744073709551616)
def halfF (k : IntKind) : Int := match k with
  | .i8 => .ofNat (nat_lit 128)
  | .i16 => .ofNat (nat_lit 32768)
  | .i32 => .ofNat (nat_lit 2147483648)
  | .i64 => .ofNat (nat_lit 9223372036854775808)
  | _ => .ofNat (nat_lit 0)
def bitsF (k : IntKind) : Nat := match k with
  | .i8 | .u8 => nat_lit 8
  | .i16 | .u16 => nat_lit 16
  | .i32 | .u32 => nat_lit 32
  | .i64 | .u64 => nat_lit 64
def wrapF (k : IntKind) (n : Int) : Int := Int.sub (Int.emod (Int.add n (halfF k)) (modF k)) (halfF k)
def lowF (k : IntKind) (n : Int) : Nat := Int.toNat (Int.emod n (modF k))
def bltF (a b : Int) : Bool := Int.rec (motive := fun _ => Int → Bool) (fun x b => Int.rec (motive := fun _ => Bool) (fun y => Nat.blt x y) (fun _ => false) b) (fun x b => Int.rec (motive := fun _ => Bool) (fun _ => true) (fun y => Nat.blt y x) b) a b
def beqF (a b : Int) : Bool := Int.rec (motive := fun _ => Int → Bool) (fun x b => Int.rec (motive := fun _ => Bool) (fun y => Nat.beq x y) (fun _ => false) b) (fun x b => Int.rec (motive := fun _ => Bool) (fun _ => false) (fun y => Nat.beq x y) b) a b
def minF (a b : Nat) : Nat := Bool.rec (motive := fun _ => Nat) b a (Nat.ble a b)
def notF (b : Bool) : Bool := Bool.rec (motive := fun _ => Bool) true false b
/-- below this a number stays as it is -/
def topF (k : IntKind) : Nat := IntKind.rec (motive := fun _ => Nat) (nat_lit 128) (nat_lit 32768) (nat_lit 2147483648) (nat_lit 9223372036854775808) (nat_lit 256) (nat_lit 65536) (nat_lit 4294967296) (nat_lit 18446744073709551616) k
def modN (k : IntKind) : Nat := IntKind.rec (motive := fun _ => Nat) (nat_lit 256) (nat_lit 65536) (nat_lit 4294967296) (nat_lit 18446744073709551616) (nat_lit 256) (nat_lit 65536) (nat_lit 4294967296) (nat_lit 18446744073709551616) k
def finF (k : IntKind) (n : Nat) : Int := Bool.rec (motive := fun _ => Int) (wrapF k (.ofNat n)) (.ofNat n) (Nat.blt n (topF k))
def convF (k : IntKind) (x : Int) : Int := Int.rec (motive := fun _ => Int) (fun n => finF k n) (fun n => wrapF k (.negSucc n)) x
def addF (k : IntKind) (x y : Int) : Int := Int.rec (motive := fun _ => Int) (fun a => Int.rec (motive := fun _ => Int) (fun b => finF k (Nat.add a b)) (fun b => wrapF k (Int.add (.ofNat a) (.negSucc b))) y) (fun a => wrapF k (Int.add (.negSucc a) y)) x
def subF (k : IntKind) (x y : Int) : Int := Int.rec (motive := fun _ => Int) (fun a => Int.rec (motive := fun _ => Int) (fun b => Bool.rec (motive := fun _ => Int) (wrapF k (Int.sub (.ofNat a) (.ofNat b))) (finF k (Nat.sub a b)) (Nat.ble b a)) (fun b => wrapF k (Int.sub (.ofNat a) (.negSucc b))) y) (fun a => wrapF k (Int.sub (.negSucc a) y)) x
def mulF (k : IntKind) (x y : Int) : Int := Int.rec (motive := fun _ => Int) (fun a => Int.rec (motive := fun _ => Int) (fun b => finF k (Nat.mul a b)) (fun b => wrapF k (Int.mul (.ofNat a) (.negSucc b))) y) (fun a => wrapF k (Int.mul (.negSucc a) y)) x
def lowQ (k : IntKind) (x : Int) : Nat := Int.rec (motive := fun _ => Nat) (fun a => Nat.mod a (modN k)) (fun a => lowF k (.negSucc a)) x
def shrF (x : Int) (n : Nat) : Int := Int.rec (motive := fun _ => Int) (fun a => .ofNat (Nat.div a (Nat.pow (nat_lit 2) n))) (fun a => Int.fdiv (.negSucc a) (.ofNat (Nat.pow (nat_lit 2) n))) x
def binF (op : BinOp) (k : IntKind) (x y : Int) : Int := BinOp.rec (motive := fun _ => IntKind → Int → Int → Int) (fun k x y => addF k x y) (fun k x y => subF k x y) (fun k x y => mulF k x y) (fun k x y => convF k (Int.tdiv x y)) (fun k x y => Int.tmod x y) (fun k x y => finF k (Nat.land (lowQ k x) (lowQ k y))) (fun k x y => finF k (Nat.lor (lowQ k x) (lowQ k y))) (fun k x y => finF k (Nat.xor (lowQ k x) (lowQ k y))) (fun k x y => mulF k x (.ofNat (Nat.pow (nat_lit 2) (minF (Int.toNat y) (bitsF k))))) (fun k x y => shrF x (minF (Int.toNat y) (bitsF k))) (fun k x y => finF k (Nat.land (lowQ k x) (Nat.sub (Nat.sub (modN k) (nat_lit 1)) (lowQ k y)))) (fun _ _ _ => .ofNat (nat_lit 0)) (fun _ _ _ => .ofNat (nat_lit 0)) (fun _ _ _ => .ofNat (nat_lit 0)) (fun _ _ _ => .ofNat (nat_lit 0)) (fun _ _ _ => .ofNat (nat_lit 0)) (fun _ _ _ => .ofNat (nat_lit 0)) op k x y
def cmpF (op : BinOp) (x y : Int) : Bool := BinOp.rec (motive := fun _ => Int → Int → Bool) (fun _ _ => false) (fun _ _ => false) (fun _ _ => false) (fun _ _ => false) (fun _ _ => false) (fun _ _ => false) (fun _ _ => false) (fun _ _ => false) (fun _ _ => false) (fun _ _ => false) (fun _ _ => false) (fun x y => beqF x y) (fun x y => notF (beqF x y)) (fun x y => bltF x y) (fun x y => notF (bltF y x)) (fun x y => bltF y x) (fun x y => notF (bltF x y)) op x y
/-- kinds by number -/
def kindN (k : IntKind) : Nat := IntKind.rec (motive := fun _ => Nat) (nat_lit 0) (nat_lit 1) (nat_lit 2) (nat_lit 3) (nat_lit 4) (nat_lit 5) (nat_lit 6) (nat_lit 7) k
def kindEq (a b : IntKind) : Bool := Nat.beq (kindN a) (kindN b)

def SI.beq : SI → SI → Bool
  | .lit a, .lit b => beqF a b
  | .var a, .var b => Nat.beq a b
  | .bin o k a b, .bin o' k' a' b' => decide (o = o') && (kindEq k k' && (SI.beq a a' && SI.beq b b'))
  | .conv k a, .conv k' a' => kindEq k k' && SI.beq a a'
  | .fold a, .fold b => SI.beq a b
  | .rs a p o n, .rs a' p' o' n' => Nat.beq a a' && (Nat.beq p p' && (SI.beq o o' && SI.beq n n'))
  | _, _ => false
def SB.beq : SB → SB → Bool
  | .lit a, .lit b => a == b
  | .cmp o a b, .cmp o' a' b' => decide (o = o') && (SI.beq a a' && SI.beq b b')
  | .not a, .not b => SB.beq a b
  | _, _ => false

/-- x + c as x and c -/
def linX (k : IntKind) (a : SI) : SI := match a with
  | .bin .add k' x (.lit _) => Bool.rec (motive := fun _ => SI) a x (kindEq k k')
  | a => a
def linC (k : IntKind) (a : SI) : Int := match a with
  | .bin .add k' _ (.lit c) => Bool.rec (motive := fun _ => Int) (.ofNat (nat_lit 0)) c (kindEq k k')
  | _ => .ofNat (nat_lit 0)
def addC {α : Type} (k : IntKind) (a : SI) (c : Int) (κ : SI → α) : α := forceI (wrapF k (Int.add (linC k a) c)) fun n => κ (.bin .add k (linX k a) (.lit n))
def subS {α : Type} (k : IntKind) (a b : SI) (κ : SI → α) : α := Bool.rec (motive := fun _ => α) (κ (.bin .sub k a b)) (forceI (wrapF k (Int.sub (linC k a) (linC k b))) fun n => κ (.lit n)) (SI.beq (linX k a) (linX k b))
/-! bits of one number, put together again -/
def minK (k : IntKind) : Int := IntKind.rec (motive := fun _ => Int) (.negSucc (nat_lit 127)) (.negSucc (nat_lit 32767)) (.negSucc (nat_lit 2147483647)) (.negSucc (nat_lit 9223372036854775807)) (.ofNat (nat_lit 0)) (.ofNat (nat_lit 0)) (.ofNat (nat_lit 0)) (.ofNat (nat_lit 0)) k
def maxK (k : IntKind) : Int := IntKind.rec (motive := fun _ => Int) (.ofNat (nat_lit 127)) (.ofNat (nat_lit 32767)) (.ofNat (nat_lit 2147483647)) (.ofNat (nat_lit 9223372036854775807)) (.ofNat (nat_lit 255)) (.ofNat (nat_lit 65535)) (.ofNat (nat_lit 4294967295)) (.ofNat (nat_lit 18446744073709551615)) k
def leF (a b : Int) : Bool := notF (bltF b a)
/-- does each number of the first kind stand in the second? -/
def subKd (a b : IntKind) : Bool := leF (minK b) (minK a) && leF (maxK a) (maxK b)
/-- a conversion; of a conversion: one is enough -/
def convC {α : Type} (k : IntKind) (a : SI) (κ : SI → α) : α := match a with
  | .conv k' y => Bool.rec (motive := fun _ => α) (Bool.rec (motive := fun _ => α) (κ (.conv k (.conv k' y))) (κ (.conv k y)) (Nat.ble (bitsF k) (bitsF k'))) (κ (.conv k' y)) (subKd k' k)
  | a => κ (.conv k a)
def isUns (k : IntKind) : Bool := IntKind.rec (motive := fun _ => Bool) false false false false true true true true k
/-- as (x / 2^lo) mod 2^n -/
def bitsB {α : Type} (x : SI) (lo n : Nat) (κ : SI → Nat → Nat → α) : α := match x with
  | .conv k z => Bool.rec (motive := fun _ => α) (κ (.conv k z) lo n) (κ z lo n) (Nat.ble (Nat.add lo n) (bitsF k))
  | x => κ x lo n
def bits1 {α : Type} (k : IntKind) (y : SI) (no : α) (κ : SI → Nat → Nat → α) : α := Bool.rec (motive := fun _ => α) no (match y with
  | .bin .shr k2 x (.lit (.ofNat s)) => Bool.rec (motive := fun _ => α) (bitsB y (nat_lit 0) (bitsF k) κ) (bitsB x s (bitsF k) κ) (Nat.blt s (bitsF k2))
  | y => bitsB y (nat_lit 0) (bitsF k) κ) (isUns k)
def bits2 {α : Type} (x y : SI) (lo n lo' n' s : Nat) (no : α) (κ : SI → Nat → Nat → α) : α := Bool.rec (motive := fun _ => α) no (forceN (Nat.add n n') fun m => κ y lo' m) (SI.beq x y && (Nat.beq lo (Nat.add lo' n') && (Nat.beq s n' && Nat.ble (Nat.add n n') (nat_lit 32))))
def wide32 (k : IntKind) : Bool := IntKind.rec (motive := fun _ => Bool) false false false true false false true true k
def shlOf (a : SI) : Option (IntKind × SI × Nat) := match a with
  | .bin .shl k x (.lit (.ofNat s)) => some (k, x, s)
  | _ => none
def bitsOf {α : Type} : Nat → SI → α → (SI → Nat → Nat → α) → α := fun f => Nat.rec (motive := fun _ => SI → α → (SI → Nat → Nat → α) → α) (fun _ no _ => no) (fun _ ih e no κ => match e with
  | .conv k y => bits1 k y no κ
  | .bin .or k a b => match shlOf a with
    | some p => Bool.rec (motive := fun _ => α) no (ih p.2.1 no fun x lo n => ih b no fun y lo' n' => bits2 x y lo n lo' n' p.2.2 no κ) (wide32 k && kindEq k p.1)
    | none => no
  | _ => no) f
def canon {α : Type} (k : IntKind) (x : SI) (lo : Nat) (κ : SI → α) : α := Bool.rec (motive := fun _ => α) (Bool.rec (motive := fun _ => α) (κ (.conv k (.bin .shr .i64 x (.lit (.ofNat lo))))) (κ (.conv k (.bin .shr .u32 x (.lit (.ofNat lo))))) (Nat.blt lo (nat_lit 32))) (convC k x κ) (Nat.beq lo (nat_lit 0))
def orW {α : Type} (e : SI) (κ : SI → α) (x : SI) (lo n : Nat) : α := Bool.rec (motive := fun _ => α) (Bool.rec (motive := fun _ => α) (κ e) (canon .u32 x lo κ) (Nat.beq n (nat_lit 32) && Nat.blt lo (nat_lit 64))) (canon .u16 x lo κ) (Nat.beq n (nat_lit 16) && Nat.blt lo (nat_lit 64))
def orS {α : Type} (k : IntKind) (a b : SI) (κ : SI → α) : α := match a with
  | .lit (.ofNat 0) => convC k b κ
  | a => match b with
    | .lit (.ofNat 0) => convC k a κ
    | b => bitsOf (nat_lit 6) (.bin .or k a b) (κ (.bin .or k a b)) (orW (.bin .or k a b) κ)
def binS {α : Type} (op : BinOp) (k : IntKind) (a b : SI) (κ : SI → α) : α := match op with
  | .or => orS k a b κ
  | .shr => match b with
    | .lit (.ofNat 0) => κ a
    | b => κ (.bin .shr k a b)
  | .add => match b with
    | .lit y => addC k a y κ
    | b => match a with
      | .lit x => addC k b x κ
      | a => κ (.bin .add k a b)
  | .sub => match b with
    | .lit y => addC k a (Int.neg y) κ
    | b => subS k a b κ
  | op => κ (.bin op k a b)
def binL {α : Type} (b : SI) : BinOp → IntKind → Int → (SI → α) → α := SI.rec (motive := fun _ => BinOp → IntKind → Int → (SI → α) → α) (fun y op k x κ => forceI (binF op k x y) fun n => κ (.lit n)) (fun i op k x κ => binS op k (.lit x) (.var i) κ) (fun o k' a b _ _ op k x κ => binS op k (.lit x) (.bin o k' a b) κ) (fun k' a _ op k x κ => binS op k (.lit x) (.conv k' a) κ) (fun a _ op k x κ => binS op k (.lit x) (.fold a) κ) (fun a p o n _ _ op k x κ => binS op k (.lit x) (.rs a p o n) κ) b
def binK {α : Type} (op : BinOp) (k : IntKind) (a b : SI) (κ : SI → α) : α := SI.rec (motive := fun _ => BinOp → IntKind → SI → (SI → α) → α) (fun x op k b κ => binL b op k x κ) (fun i op k b2 κ => binS op k (.var i) b2 κ) (fun o k' a b _ _ op k b2 κ => binS op k (.bin o k' a b) b2 κ) (fun k' a _ op k b2 κ => binS op k (.conv k' a) b2 κ) (fun a _ op k b2 κ => binS op k (.fold a) b2 κ) (fun a p o n _ _ op k b2 κ => binS op k (.rs a p o n) b2 κ) a op k b κ
def convK {α : Type} (k : IntKind) (a : SI) (κ : SI → α) : α := SI.rec (motive := fun _ => IntKind → (SI → α) → α) (fun x k κ => forceI (convF k x) fun n => κ (.lit n)) (fun i k κ => κ (.conv k (.var i))) (fun o k' a b _ _ k κ => κ (.conv k (.bin o k' a b))) (fun k' a _ k κ => convC k (.conv k' a) κ) (fun a _ k κ => κ (.conv k (.fold a))) (fun a p o n _ _ k κ => κ (.conv k (.rs a p o n))) a k κ
def cmpG {α : Type} (op : BinOp) (a b : SI) (κ : SB → α) : α := Bool.rec (motive := fun _ => α) (κ (.cmp op a b)) (forceB (cmpF op (.ofNat (nat_lit 0)) (.ofNat (nat_lit 0))) fun c => κ (.lit c)) (SI.beq a b)
def cmpL {α : Type} (b : SI) : BinOp → Int → (SB → α) → α := SI.rec (motive := fun _ => BinOp → Int → (SB → α) → α) (fun y op x κ => forceB (cmpF op x y) fun c => κ (.lit c)) (fun i op x κ => κ (.cmp op (.lit x) (.var i))) (fun o k' a b _ _ op x κ => κ (.cmp op (.lit x) (.bin o k' a b))) (fun k' a _ op x κ => κ (.cmp op (.lit x) (.conv k' a))) (fun a _ op x κ => κ (.cmp op (.lit x) (.fold a))) (fun a p o n _ _ op x κ => κ (.cmp op (.lit x) (.rs a p o n))) b
def cmpK {α : Type} (op : BinOp) (a b : SI) (κ : SB → α) : α := SI.rec (motive := fun _ => BinOp → SI → (SB → α) → α) (fun x op b κ => cmpL b op x κ) (fun i op b2 κ => cmpG op (.var i) b2 κ) (fun o k' a b _ _ op b2 κ => cmpG op (.bin o k' a b) b2 κ) (fun k' a _ op b2 κ => cmpG op (.conv k' a) b2 κ) (fun a _ op b2 κ => cmpG op (.fold a) b2 κ) (fun a p o n _ _ op b2 κ => cmpG op (.rs a p o n) b2 κ) a op b κ
def notK {α : Type} (a : SB) (κ : SB → α) : α := SB.rec (motive := fun _ => (SB → α) → α) (fun b κ => κ (.lit (notF b))) (fun op a b κ => κ (.not (.cmp op a b))) (fun a _ κ => κ (.not (.not a))) a κ

def foldF (k : Nat) (n : Int) : Int := Nat.rec (motive := fun _ => Int → Int) (fun n => n) (fun _ ih n => Bool.rec (motive := fun _ => Int) n (ih (Int.add (Int.emod n (.ofNat (nat_lit 65536))) (Int.ediv n (.ofNat (nat_lit 65536))))) (bltF (.ofNat (nat_lit 65535)) n)) k n
def nthI (l : List Int) (i : Nat) : Int := match l, i with
  | [], _ => .ofNat (nat_lit 0)
  | x :: _, 0 => x
  | _ :: l, i + 1 => nthI l i
def SI.evF (smp : List Int) : SI → Int
  | .lit n => n
  | .var i => nthI smp i
  | .bin op k a b => forceI (binF op k (a.evF smp) (b.evF smp)) fun n => n
  | .conv k a => forceI (wrapF k (a.evF smp)) fun n => n
  | .fold a => forceI (foldF (nat_lit 8) (a.evF smp)) fun n => n
  | .rs _ _ _ _ => .ofNat (nat_lit 0)
def SB.evF (smp : List Int) : SB → Bool
  | .lit b => b
  | .cmp op a b => cmpF op (a.evF smp) (b.evF smp)
  | .not a => notF (a.evF smp)
/-! values -/
inductive AV where
  | int (k : IntKind) (e : SI)
  | bool (b : SB)
  | ptr (id off : Nat)
  | sl (id off len : Nat) (cap : Option Nat)
  | emp (id off0 off : Nat)
  | map (id : Nat)
  | fn (f : Fn) (first captured : List AV)
  | iface (t : TypeId) (v : AV)
  | agg (l : List AV)
  | tup (l : List AV)
  | raw (v : Value)
  | opq (v : Value)
  | osl (p k c : Nat)
  | dfr (f : AV) (args : List AV) (rest : AV)
  | em0 (id off0 off : Nat)
  | ssl (id : Nat) (o0 off len : SI) (cap : Option SI)
  | fsl (a : Nat) (o0 off len : SI)

def undefA : AV := .tup []
def ofCell (v : Value) : AV := match v with
  | .int k n => .int k (.lit n)
  | .bool b => .bool (.lit b)
  | v => .raw v
def ofValue (v : Value) : AV := match v with
  | .agg cs => .agg (cs.toList.map ofCell)
  | .tuple cs => .tup (cs.toList.map ofCell)
  | v => ofCell v

/-- where a thing stands: its block, how far in, how many cells the block has, how many an element has -/
structure Pl where
  blk : Nat
  sh : Nat
  sz : Nat
  es : Nat
/-- how many elements from there on -/
def Pl.room (p : Pl) (off : Nat) : Nat := (p.sz - (p.sh + off)) / p.es

/-! a row that was there: where it stands, told by letters -/
def fBlk (a : Nat) : Nat := 500 + 4 * a
def fOff (a : Nat) : Nat := 501 + 4 * a
def fCap (a : Nat) : Nat := 502 + 4 * a
def fMark (a : Nat) : Nat := 503 + 4 * a
/-- an address that was there, told by three letters -/
def adrL (ρ : Nat → Int) (p : Nat) : Option Addr := if ρ (p + 2) = 0 then none else some ⟨(ρ p).toNat, (ρ (p + 1)).toNat, if ρ (p + 2) = 1 then none else some (ρ (p + 2) - 2).toNat⟩
mutual
def conc (φ : List Pl) (ρ : Nat → Int) : AV → Option Value
  | .int k e => some (.int k (e.ev ρ))
  | .bool b => some (.bool (b.ev ρ))
  | .ptr id off => (φ[id]?).map fun p => .pointer (some ⟨p.blk, p.sh + off, none⟩)
  | .sl id off len cap => (φ[id]?).map fun p => .slice (some ⟨p.blk, p.sh + off, none⟩) len (cap.getD (p.room off))
  | .emp id off0 off => (φ[id]?).map fun p => if p.room off = 0 then .slice (some ⟨p.blk, p.sh + off0, none⟩) 0 0 else .slice (some ⟨p.blk, p.sh + off, none⟩) 0 (p.room off)
  | .map id => (φ[id]?).map fun p => .map (some p.blk)
  | .fn f a b => (concL φ ρ a).bind fun a => (concL φ ρ b).map fun b => .func f a.toArray b.toArray
  | .iface t v => (conc φ ρ v).map (.iface t)
  | .agg l => (concL φ ρ l).map fun l => .agg l.toArray
  | .tup l => (concL φ ρ l).map fun l => .tuple l.toArray
  | .raw v => some v
  | .opq v => some v
  | .osl p k c => some (.slice (adrL ρ p) (ρ k).toNat (ρ c).toNat)
  | .dfr _ _ _ => some undef
  | .em0 id off0 off => (φ[id]?).map fun p => .slice (some ⟨p.blk, p.sh + (if p.room off = 0 then off0 else off), none⟩) 0 0
  | .ssl id o0 off len cap => (φ[id]?).map fun p => match cap with
    | some c => .slice (some ⟨p.blk, p.sh + (off.ev ρ).toNat, none⟩) (len.ev ρ).toNat (c.ev ρ).toNat
    | none => if SI.beq len (.lit (.ofNat (nat_lit 0))) = true ∧ p.room (off.ev ρ).toNat = 0 then .slice (some ⟨p.blk, p.sh + (o0.ev ρ).toNat, none⟩) 0 0 else .slice (some ⟨p.blk, p.sh + (off.ev ρ).toNat, none⟩) (len.ev ρ).toNat (p.room (off.ev ρ).toNat)
  | .fsl a o0 off len => if ρ (fMark a) = 1 ∧ 0 ≤ ρ a ∧ (ρ a).toNat ≤ (ρ (fCap a)).toNat then some (.slice (some ⟨(ρ (fBlk a)).toNat, (ρ (fOff a)).toNat + (if (ρ (fCap a)).toNat ≤ (off.ev ρ).toNat then (o0.ev ρ).toNat else (off.ev ρ).toNat), none⟩) (len.ev ρ).toNat ((ρ (fCap a)).toNat - (off.ev ρ).toNat)) else none
def concL (φ : List Pl) (ρ : Nat → Int) : List AV → Option (List Value)
  | [] => some []
  | v :: l => (conc φ ρ v).bind fun x => (concL φ ρ l).map fun y => x :: y
end

/-- a value's cells -/
def rawOk (v : Value) : Bool := match v with
  | .agg _ | .tuple _ => false
  | _ => true
def cellsK {α : Type} (no : α) (v : AV) (κ : List AV → α) : α := AV.rec (motive_1 := fun _ => α → (List AV → α) → α) (motive_2 := fun _ => Unit) (fun k e _ κ => κ [.int k e]) (fun b _ κ => κ [.bool b]) (fun i o _ κ => κ [.ptr i o]) (fun a b c d _ κ => κ [.sl a b c d]) (fun a b c _ κ => κ [.emp a b c]) (fun i _ κ => κ [.map i]) (fun f a b _ _ _ κ => κ [.fn f a b]) (fun t v _ _ κ => κ [.iface t v]) (fun l _ _ κ => κ l) (fun _ _ no _ => no) (fun v no κ => Bool.rec (motive := fun _ => α) no (κ [.raw v]) (rawOk v)) (fun _ no _ => no) (fun p k c _ κ => κ [.osl p k c]) (fun _ _ _ _ _ _ no _ => no) (fun a b c _ κ => κ [.em0 a b c]) (fun i a b c d _ κ => κ [.ssl i a b c d]) (fun a b c d _ κ => κ [.fsl a b c d]) () (fun _ _ _ _ => ()) v no κ
def oneB (v : AV) : Bool := AV.rec (motive_1 := fun _ => Bool) (motive_2 := fun _ => Unit) (fun _ _ => true) (fun _ => true) (fun _ _ => true) (fun _ _ _ _ => true) (fun _ _ _ => true) (fun _ => true) (fun _ _ _ _ _ => true) (fun _ _ _ => true) (fun _ _ => false) (fun _ _ => false) (fun v => rawOk v) (fun _ => false) (fun _ _ _ => true) (fun _ _ _ _ _ _ => false) (fun _ _ _ => true) (fun _ _ _ _ _ => true) (fun _ _ _ _ => true) () (fun _ _ _ _ => ()) v

/-! memory -/
/-- bytes, one behind the other: told one by one, the same one again and again, a part of a row -/
inductive Ch where
  | bs (l : List SI)
  | fil (n v : SI)
  | row (a : Nat) (o n : SI)
inductive AObj where
  | cells (n : Nat) (c : Tr AV) (d : Option AV) (elem : TypeId) (row : Bool)
  | map (es : List (AV × AV × Nat)) (clk : Nat)
  | iter (m : Option Nat) (since : Nat) (seen : List Nat) (last : Nat)
  | rope (cs : List Ch) (elem : TypeId) (row : Bool)
  | dead
/-- what was decided; and samples of the letters that come this way -/
structure PC where
  l : List (SB × Bool)
  smp : List (List Int)
  rg : List (Int × Int)
structure St where
  hp : Tr AObj
  nx : Nat
  pc : PC
/-- what comes of it: an end, a failure, a way that nobody goes, or two ways -/
inductive R where
  | done (v : AV) (s : St)
  | fail (why : Nat)
  | dead
  | fork (c : SB) (a b : R)
/-- how it ends at such letters -/
structure Dn where
  ρ : Nat → Int
  V : AV
  S : St
def R.ends (D : Dn) (r : R) : Prop := R.rec (motive := fun _ => Prop) (fun v s => v = D.V ∧ s = D.S) (fun _ => False) False (fun c _ _ a b => (c.ev D.ρ = true ∧ a) ∨ (c.ev D.ρ = false ∧ b)) r
instance : Membership R Dn := ⟨fun D r => r.ends D⟩

def lookB (l : List (SB × Bool)) (c : SB) : Option Bool := match l with
  | [] => none
  | x :: l => Bool.rec (motive := fun _ => Option Bool) (lookB l c) (some x.2) (SB.beq x.1 c)
/-- the samples that meet a condition, and those that do not; one of no letters goes both ways -/
def partS (c : SB) (l : List (List Int)) : (List (List Int) → List (List Int) → R) → R :=
  List.rec (motive := fun _ => (List (List Int) → List (List Int) → R) → R) (fun κ => κ [] []) (fun x _ ih κ => ih fun a b => List.rec (motive := fun _ => R) (κ (x :: a) (x :: b)) (fun _ _ _ => Bool.rec (motive := fun _ => R) (κ a (x :: b)) (κ (x :: a) b) (SB.evF x c)) x) l
def brS (κ : Bool → PC → R) (b : Bool) (c : SB) (l : List (SB × Bool)) (rg : List (Int × Int)) (smp : List (List Int)) : R := match smp with
  | [] => .dead
  | x :: smp => κ b ⟨(c, b) :: l, x :: smp, rg⟩
def frkS (κ : Bool → PC → R) (c : SB) (l : List (SB × Bool)) (rg : List (Int × Int)) (a b : List (List Int)) : R := .fork c (brS κ true c l rg a) (brS κ false c l rg b)

/-! ranges: what the letters lie between -/
def nthR (l : List (Int × Int)) (i : Nat) : Option (Int × Int) := List.rec (motive := fun _ => Nat → Option (Int × Int)) (fun _ => none) (fun x _ ih i => Nat.rec (motive := fun _ => Option (Int × Int)) (some x) (fun i _ => ih i) i) l i
def anyR (k : IntKind) : Option (Int × Int) := some (minK k, maxK k)
def fitR (k : IntKind) (l h : Int) : Option (Int × Int) := forceI l fun l => forceI h fun h => Bool.rec (motive := fun _ => Option (Int × Int)) (anyR k) (some (l, h)) (leF (minK k) l && leF h (maxK k))
def opt1 {α : Type} (a : Option (Int × Int)) (no : Option α) (κ : Int → Int → Option α) : Option α := Option.rec (motive := fun _ => Option α) no (fun x => κ x.1 x.2) a
def opt1' {α : Type} (a : Option (Int × Int)) (no : α) (κ : Int → Int → α) : α := Option.rec (motive := fun _ => α) no (fun x => κ x.1 x.2) a
def pos0 (a : Int) : Bool := notF (bltF a (.ofNat (nat_lit 0)))
def binR0 (op : BinOp) (k : IntKind) (la ha lb hb : Int) : Option (Int × Int) := match op with
  | .add => fitR k (Int.add la lb) (Int.add ha hb)
  | .sub => fitR k (Int.sub la hb) (Int.sub ha lb)
  | .mul => Bool.rec (motive := fun _ => Option (Int × Int)) (anyR k) (fitR k (Int.mul la lb) (Int.mul ha hb)) (pos0 la && pos0 lb)
  | .and => Bool.rec (motive := fun _ => Option (Int × Int)) (anyR k) (some (.ofNat (nat_lit 0), hb)) (pos0 lb && leF hb (maxK k))
  | .shr => Bool.rec (motive := fun _ => Option (Int × Int)) none (forceI (shrF la (minF (Int.toNat lb) (bitsF k))) fun l => forceI (shrF ha (minF (Int.toNat lb) (bitsF k))) fun h => some (l, h)) (pos0 la && (beqF lb hb && leF la ha))
  | .or | .xor | .andNot => anyR k
  | .shl => Bool.rec (motive := fun _ => Option (Int × Int)) (anyR k) (fitR k (Int.mul la (.ofNat (Nat.pow (nat_lit 2) (minF (Int.toNat lb) (bitsF k))))) (Int.mul ha (.ofNat (Nat.pow (nat_lit 2) (minF (Int.toNat lb) (bitsF k)))))) (pos0 la && (pos0 lb && (beqF lb hb && leF hb (.ofNat (nat_lit 62)))))
  | _ => none
def isAN (op : BinOp) : Bool := match op with
  | .andNot => true
  | _ => false
def floorP (a : Int) (j : Nat) : Int := Int.sub a (Int.emod a (.ofNat (Nat.pow (nat_lit 2) j)))
def binR2 (op : BinOp) (k : IntKind) (la ha lb hb : Int) (j : Nat) : Option (Int × Int) := Bool.rec (motive := fun _ => Option (Int × Int)) (binR0 op k la ha lb hb) (forceI (floorP la j) fun l => forceI (floorP ha j) fun h => some (l, h)) (isAN op && (pos0 la && (leF ha (maxK k) && (beqF lb hb && (beqF (Int.add lb (.ofNat (nat_lit 1))) (.ofNat (Nat.pow (nat_lit 2) j)) && Nat.blt j (nat_lit 63))))))
def binR (op : BinOp) (k : IntKind) (la ha lb hb : Int) : Option (Int × Int) := Bool.rec (motive := fun _ => Option (Int × Int)) (binR2 op k la ha lb hb (Nat.log2 (Int.toNat (Int.add lb (.ofNat (nat_lit 1)))))) (forceI (binF op k la lb) fun n => some (n, n)) (beqF la ha && beqF lb hb)
def rngS (rg : List (Int × Int)) (e : SI) : Option (Int × Int) := SI.rec (motive := fun _ => Option (Int × Int))
  (fun n => some (n, n)) (fun i => nthR rg i)
  (fun op k _ _ a b => opt1 a none fun la ha => opt1 b none fun lb hb => binR op k la ha lb hb)
  (fun k _ a => opt1 a (anyR k) fun l h => fitR k l h)
  (fun _ a => opt1 a none fun l h => Bool.rec (motive := fun _ => Option (Int × Int)) none (Bool.rec (motive := fun _ => Option (Int × Int)) (some (Bool.rec (motive := fun _ => Int) (.ofNat (nat_lit 0)) (.ofNat (nat_lit 1)) (leF (.ofNat (nat_lit 1)) l), .ofNat (nat_lit 65535))) (some (l, h)) (leF h (.ofNat (nat_lit 65535)))) (pos0 l && leF h (maxK .i64)))
  (fun _ _ _ _ _ b => opt1 b none fun lb hb => Bool.rec (motive := fun _ => Option (Int × Int)) none (forceI (Int.mul hb (.ofNat (nat_lit 65280))) fun h => some (.ofNat (nat_lit 0), h)) (pos0 hb)) e
/-- x + c, if nothing is wrapped there; else the whole and 0 -/
def strip (rg : List (Int × Int)) (a : SI) : SI := SI.rec (motive := fun _ => SI) (fun n => .lit n) (fun i => .var i) (fun op k a b _ _ => .bin op k a b) (fun k a ih => opt1' (rngS rg a) (.conv k a) fun l h => Bool.rec (motive := fun _ => SI) (.conv k a) ih (leF (minK k) l && leF h (maxK k))) (fun a _ => .fold a) (fun a p o n _ _ => .rs a p o n) a
def linR {α : Type} (rg : List (Int × Int)) (a : SI) (κ : SI → Int → α) : α := match a with
  | .bin .add k x (.lit c) => match rngS rg x with
    | some r => forceI (Int.add r.1 c) fun l => forceI (Int.add r.2 c) fun h => Bool.rec (motive := fun _ => α) (κ a (.ofNat (nat_lit 0))) (κ x c) (leF (minK k) l && leF h (maxK k))
    | none => κ a (.ofNat (nat_lit 0))
  | a => κ a (.ofNat (nat_lit 0))
def cmpR (op : BinOp) (la ha lb hb : Int) : Option Bool := match op with
  | .lss => Bool.rec (motive := fun _ => Option Bool) (Bool.rec (motive := fun _ => Option Bool) none (some false) (leF hb la)) (some true) (bltF ha lb)
  | .leq => Bool.rec (motive := fun _ => Option Bool) (Bool.rec (motive := fun _ => Option Bool) none (some false) (bltF hb la)) (some true) (leF ha lb)
  | .gtr => Bool.rec (motive := fun _ => Option Bool) (Bool.rec (motive := fun _ => Option Bool) none (some false) (leF ha lb)) (some true) (bltF hb la)
  | .geq => Bool.rec (motive := fun _ => Option Bool) (Bool.rec (motive := fun _ => Option Bool) none (some false) (bltF ha lb)) (some true) (leF hb la)
  | .eql => Bool.rec (motive := fun _ => Option Bool) (Bool.rec (motive := fun _ => Option Bool) none (some true) (leF ha la && (leF hb lb && beqF la lb))) (some false) (bltF ha lb || bltF hb la)
  | .neq => Bool.rec (motive := fun _ => Option Bool) (Bool.rec (motive := fun _ => Option Bool) none (some false) (leF ha la && (leF hb lb && beqF la lb))) (some true) (bltF ha lb || bltF hb la)
  | _ => none
def isCmp (op : BinOp) : Bool := match op with
  | .lss | .leq | .gtr | .geq | .eql | .neq => true
  | _ => false
def decC (rg : List (Int × Int)) (op : BinOp) (a b : SI) : Option Bool := match opt1 (rngS rg a) none (fun la ha => opt1 (rngS rg b) none fun lb hb => cmpR op la ha lb hb) with
  | some b => some b
  | none => linR rg (strip rg a) fun x cx => linR rg (strip rg b) fun y cy => Bool.rec (motive := fun _ => Option Bool) none (forceB (cmpF op cx cy) fun c => some c) (SI.beq x y && isCmp op)
def decR (rg : List (Int × Int)) (c : SB) : Option Bool := SB.rec (motive := fun _ => Option Bool) (fun _ => none) (fun op a b => decC rg op a b) (fun _ ih => Option.rec (motive := fun _ => Option Bool) none (fun b => some (notF b)) ih) c
def xorB (b f : Bool) : Bool := Bool.rec (motive := fun _ => Bool) b (notF b) f
/-- a condition in one of two forms; or its contrary -/
def normC (op : BinOp) (a b : SI) : SB × Bool := match op with
  | .neq => (.cmp .eql a b, true)
  | .leq => (.cmp .lss b a, true)
  | .gtr => (.cmp .lss b a, false)
  | .geq => (.cmp .lss a b, true)
  | op => (.cmp op a b, false)
def normB (rg : List (Int × Int)) (c : SB) : SB × Bool := SB.rec (motive := fun _ => SB × Bool) (fun b => (.lit b, false)) (fun op a b => normC op (strip rg a) (strip rg b)) (fun _ ih => (ih.1, notF ih.2)) c
def decN (pc : PC) (κ : Bool → PC → R) (c : SB) (f : Bool) : R := match lookB pc.l c with
  | some b => κ (xorB b f) pc
  | none => partS c pc.smp (frkS (fun b => κ (xorB b f)) c pc.l pc.rg)
def decP (pc : PC) (c : SB) (κ : Bool → PC → R) : R := match decR pc.rg c with
  | some b => κ b pc
  | none => match lookB pc.l c with
    | some b => κ b pc
    | none => match normB pc.rg c with
      | (c, f) => decN pc κ c f
def decK (pc : PC) (c : SB) (κ : Bool → PC → R) : R := SB.rec (motive := fun _ => PC → (Bool → PC → R) → R) (fun b pc κ => κ b pc) (fun op a b pc κ => decP pc (.cmp op a b) κ) (fun a _ pc κ => decP pc (.not a) κ) c pc κ

/-! temporaries; what is not there is not known -/
abbrev Ts := Tr AV
def Ts.nil : Ts := Tr.nil
def Ts.get (t : Ts) (d : Nat) : Option AV := Tr.getP (posOf d) t
def Ts.getK (t : Ts) (d : Nat) (κ : AV → R) : R := Option.rec (motive := fun _ => R) (.fail 1) κ (Tr.getP (posOf d) t)
def Ts.put (d : Nat) (v : AV) (t : Ts) : Ts := Tr.setP v (posOf d) t
def tsF (l : List AV) : Nat → Ts → Ts := List.rec (motive := fun _ => Nat → Ts → Ts) (fun _ t => t) (fun v _ ih n t => ih (Nat.succ n) (Ts.put n v t)) l
/-- room for temporaries -/
def skel (d : Nat) : Ts := Nat.rec (motive := fun _ => Ts) Tr.nil (fun _ x => .node none x x) d
def tsOf (sz : Nat) (l : List AV) : Ts := tsF l (nat_lit 0) (skel (Nat.succ (Nat.log2 sz)))

/-! operands -/
abbrev opdT (t : Ts) (κ : AV → R) (d : Nat) : R := t.getK d κ
abbrev opd (t : Ts) (o : Operand) (κ : AV → R) : R := Operand.rec (motive := fun _ => R) (opdT t κ) (fun v => κ (ofValue v)) (fun _ => .fail 2) (fun f => κ (.fn (.func f) [] [])) o
abbrev opds (t : Ts) (l : List Operand) (κ : List AV → R) : R := match l with
  | [] => κ []
  | o :: l => opd t o fun v => opds t l fun vs => κ (v :: vs)

def intV (v : AV) : Nat → (IntKind → SI → R) → R := AV.rec (motive_1 := fun _ => Nat → (IntKind → SI → R) → R) (motive_2 := fun _ => Unit) (fun k e _ κ => κ k e) (fun _ => fun n _ => .fail n) (fun _ _ => fun n _ => .fail n) (fun _ _ _ _ => fun n _ => .fail n) (fun _ _ _ => fun n _ => .fail n) (fun _ => fun n _ => .fail n) (fun _ _ _ _ _ => fun n _ => .fail n) (fun _ _ _ => fun n _ => .fail n) (fun _ _ => fun n _ => .fail n) (fun _ _ => fun n _ => .fail n) (fun _ => fun n _ => .fail n) (fun _ => fun n _ => .fail n) (fun _ _ _ => fun n _ => .fail n) (fun _ _ _ _ _ _ => fun n _ => .fail n) (fun _ _ _ => fun n _ => .fail n) (fun _ _ _ _ _ => fun n _ => .fail n) (fun _ _ _ _ => fun n _ => .fail n) () (fun _ _ _ _ => ()) v
def boolV (v : AV) : Nat → (SB → R) → R := AV.rec (motive_1 := fun _ => Nat → (SB → R) → R) (motive_2 := fun _ => Unit) (fun _ _ => fun n _ => .fail n) (fun b _ κ => κ b) (fun _ _ => fun n _ => .fail n) (fun _ _ _ _ => fun n _ => .fail n) (fun _ _ _ => fun n _ => .fail n) (fun _ => fun n _ => .fail n) (fun _ _ _ _ _ => fun n _ => .fail n) (fun _ _ _ => fun n _ => .fail n) (fun _ _ => fun n _ => .fail n) (fun _ _ => fun n _ => .fail n) (fun _ => fun n _ => .fail n) (fun _ => fun n _ => .fail n) (fun _ _ _ => fun n _ => .fail n) (fun _ _ _ _ _ _ => fun n _ => .fail n) (fun _ _ _ => fun n _ => .fail n) (fun _ _ _ _ _ => fun n _ => .fail n) (fun _ _ _ _ => fun n _ => .fail n) () (fun _ _ _ _ => ()) v
def ptrV (v : AV) : Nat → (Nat → Nat → R) → R := AV.rec (motive_1 := fun _ => Nat → (Nat → Nat → R) → R) (motive_2 := fun _ => Unit) (fun _ _ => fun n _ => .fail n) (fun _ => fun n _ => .fail n) (fun i o _ κ => κ i o) (fun _ _ _ _ => fun n _ => .fail n) (fun _ _ _ => fun n _ => .fail n) (fun _ => fun n _ => .fail n) (fun _ _ _ _ _ => fun n _ => .fail n) (fun _ _ _ => fun n _ => .fail n) (fun _ _ => fun n _ => .fail n) (fun _ _ => fun n _ => .fail n) (fun _ => fun n _ => .fail n) (fun _ => fun n _ => .fail n) (fun _ _ _ => fun n _ => .fail n) (fun _ _ _ _ _ _ => fun n _ => .fail n) (fun _ _ _ => fun n _ => .fail n) (fun _ _ _ _ _ => fun n _ => .fail n) (fun _ _ _ _ => fun n _ => .fail n) () (fun _ _ _ _ => ()) v
def asInt (v : AV) (κ : IntKind → SI → R) : R := intV v (nat_lit 3) κ
def litI (e : SI) : Nat → (Int → R) → R := SI.rec (motive := fun _ => Nat → (Int → R) → R) (fun n _ κ => κ n) (fun _ n _ => .fail n) (fun _ _ _ _ _ _ n _ => .fail n) (fun _ _ _ n _ => .fail n) (fun _ _ n _ => .fail n) (fun _ _ _ _ _ _ n _ => .fail n) e
def natI (n : Int) : Nat → (Nat → R) → R := Int.rec (motive := fun _ => Nat → (Nat → R) → R) (fun n _ κ => κ n) (fun _ w _ => .fail w) n
def asLitK (κ : Nat → R) (e : SI) : R := litI e (nat_lit 4) fun n => natI n (nat_lit 4) κ
/-- a figure, not below 0 -/
def asNat (v : AV) (κ : Nat → R) : R := intV v (nat_lit 5) fun _ e => asLitK κ e
def asBoolA (v : AV) (κ : SB → R) : R := boolV v (nat_lit 6) κ

/-! types -/
section
variable (P : Program)
/-- is it in one cell (none) or in so many? -/
def aggOf (T : TypeId) : Option (Option Nat) := match P.underlying T with
  | some (.struct _) | some (.array _ _) => (P.info? T).map fun i => some i.size
  | some _ => some none
  | none => none
def sizeA (T : TypeId) : Option Nat := (P.info? T).map fun i => i.size
def zeroA (T : TypeId) : Option AV := match P.info? T with
  | some i => i.zero.map ofValue
  | none => none
/-- a field: its offset, its type -/
def fieldA (T : TypeId) (f : Nat) : Option (Nat × TypeId) := match P.underlying T with
  | some (.struct fs) => (fs[f]?).map fun f => (f.offset, f.type)
  | _ => none
def fieldPlaceA (T : TypeId) (f : Nat) : Option Nat := match fieldA P T f with
  | some (o, t) => match sizeA P t with
    | some n => Bool.rec (motive := fun _ => Option Nat) (some o) none (Nat.beq n (nat_lit 0))
    | none => none
  | none => none
/-- what is indexed: an array (true) of so many, or a slice; the element's size -/
inductive IxK where | arr (n : Nat) (elem size : Nat) | sli (elem size : Nat)
def ixOf (T : TypeId) : Option IxK := match P.underlying T with
  | some (.array n e) => (sizeA P e).map fun s => .arr n e s
  | some (.slice e) => (sizeA P e).map fun s => .sli e s
  | _ => none
def intOfT (T : TypeId) : Option IntKind := match P.underlying T with
  | some (.int k) => some k
  | _ => none
end

def optK {β : Type} (o : Option β) (why : Nat) (κ : β → R) : R := Option.rec (motive := fun _ => R) (.fail why) κ o

/-! reading -/
abbrev OK := Nat → Tr AV → Option AV → TypeId → Bool → R
def obK (κ : OK) (o : AObj) : R := AObj.rec (motive := fun _ => OK → R) (fun n c d T r κ => κ n c d T r) (fun _ _ _ => .fail 10) (fun _ _ _ _ _ => .fail 10) (fun _ _ _ _ => .fail 10) (fun _ => .fail 10) o κ
def objK (h : Tr AObj) (id : Nat) (κ : OK) : R := optK (h.get id) 11 (obK κ)
/-- a cell: what was put there, or what stands there from the beginning -/
def cellK (c : Tr AV) (d : Option AV) (off : Nat) (κ : AV → R) : R := Option.rec (motive := fun _ => R) (optK d 13 κ) κ (c.get off)
def ld1 (κ : AV → R) (off : Nat) (n : Nat) (c : Tr AV) (d : Option AV) (T : TypeId) (r : Bool) : R := Bool.rec (motive := fun _ => R) (.fail 12) (cellK c d off κ) (Nat.blt off n)
def ldN (c : Tr AV) (d : Option AV) (off : Nat) (m : Nat) : (List AV → R) → R :=
  Nat.rec (motive := fun _ => Nat → (List AV → R) → R) (fun _ κ => κ []) (fun _ ih off κ => cellK c d off fun v => ih (Nat.succ off) fun l => κ (v :: l)) m off
def ldA (κ : AV → R) (off m : Nat) (n : Nat) (c : Tr AV) (d : Option AV) (T : TypeId) (r : Bool) : R := Bool.rec (motive := fun _ => R) (.fail 15) (ldN c d off m fun l => κ (.agg l)) (Nat.ble (Nat.add off m) n)
/-! ropes: bytes whose number is a letter's -/
def big62 : Int := .ofNat (nat_lit 2305843009213693952)
def zeroS : SI := .lit (.ofNat (nat_lit 0))
def natS (n : Nat) : SI := .lit (.ofNat n)
def isZ (e : SI) : Bool := SI.rec (motive := fun _ => Bool) (fun n => beqF n (.ofNat (nat_lit 0))) (fun _ => false) (fun _ _ _ _ _ _ => false) (fun _ _ _ => false) (fun _ _ => false) (fun _ _ _ _ _ _ => false) e
/-- it is known to lie between 0 and 2^61 -/
def nnB (rg : List (Int × Int)) (e : SI) : Bool := opt1' (rngS rg e) false fun l h => pos0 l && leF h big62
def leD (pc : PC) (a b : SI) (κ : Bool → PC → R) : R := cmpK .leq a b fun c => decK pc c κ
/-- as n, x + c or c - x, up to 2^64 -/
def linF (a : SI) (κ0 : Int → R) (κp κm : SI → Int → R) : R := match a with
  | .lit n => κ0 n
  | .bin .add .i64 x (.lit c) => κp x c
  | .bin .sub .i64 (.lit c) (.bin .add .i64 x (.lit d)) => forceI (Int.sub c d) fun n => κm x n
  | .bin .sub .i64 (.lit c) x => κm x c
  | a => κp a (.ofNat (nat_lit 0))
def litF (n : Int) (κ : SI → R) : R := forceI (wrapF .i64 n) fun n => κ (.lit n)
def mnF (n : Int) (x : SI) (κ : SI → R) : R := forceI (wrapF .i64 n) fun n => κ (.bin .sub .i64 (.lit n) x)
def adF (x : SI) (n : Int) (κ : SI → R) : R := forceI (wrapF .i64 n) fun n => κ (.bin .add .i64 x (.lit n))
def plL (a b : SI) (κ : SI → R) : R := linF a (fun n => linF b (fun m => litF (Int.add n m) κ) (fun _ _ => binK .add .i64 a b κ) fun y d => mnF (Int.add n d) y κ)
  (fun x c => linF b (fun _ => binK .add .i64 a b κ) (fun _ _ => binK .add .i64 a b κ) fun y d => Bool.rec (motive := fun _ => R) (binK .add .i64 a b κ) (litF (Int.add c d) κ) (SI.beq x y))
  (fun x c => linF b (fun m => mnF (Int.add c m) x κ) (fun y d => Bool.rec (motive := fun _ => R) (binK .add .i64 a b κ) (litF (Int.add c d) κ) (SI.beq x y)) fun _ _ => binK .add .i64 a b κ)
def mnL (a b : SI) (κ : SI → R) : R := linF a (fun n => linF b (fun m => litF (Int.sub n m) κ) (fun y d => mnF (Int.sub n d) y κ) fun y d => adF y (Int.sub n d) κ)
  (fun x c => linF b (fun _ => binK .sub .i64 a b κ) (fun y d => Bool.rec (motive := fun _ => R) (binK .sub .i64 a b κ) (litF (Int.sub c d) κ) (SI.beq x y)) fun _ _ => binK .sub .i64 a b κ)
  (fun x c => linF b (fun m => mnF (Int.sub c m) x κ) (fun _ _ => binK .sub .i64 a b κ) fun y d => Bool.rec (motive := fun _ => R) (binK .sub .i64 a b κ) (litF (Int.sub c d) κ) (SI.beq x y))
/-- a sum, a difference of such numbers -/
def plE (pc : PC) (a b : SI) (κ : SI → R) : R := Bool.rec (motive := fun _ => R) (.fail 400) (Bool.rec (motive := fun _ => R) (Bool.rec (motive := fun _ => R) (plL a b κ) (κ b) (isZ a)) (κ a) (isZ b)) (nnB pc.rg a && nnB pc.rg b)
def mnE (pc : PC) (a b : SI) (κ : SI → R) : R := Bool.rec (motive := fun _ => R) (.fail 401) (Bool.rec (motive := fun _ => R) (Bool.rec (motive := fun _ => R) (mnL a b κ) (κ zeroS) (SI.beq a b)) (κ a) (isZ b)) (nnB pc.rg a && nnB pc.rg b)
def lenSI (l : List SI) : Nat := List.rec (motive := fun _ => Nat) (nat_lit 0) (fun _ _ n => Nat.succ n) l
def lenH (c : Ch) (κ : SI → R) : R := Ch.rec (motive := fun _ => R) (fun l => forceN (lenSI l) fun n => κ (natS n)) (fun n _ => κ n) (fun _ _ n => κ n) c
def takeS (l : List SI) (n : Nat) (κ : List SI → R) : R := Nat.rec (motive := fun _ => List SI → (List SI → R) → R) (fun _ κ => κ []) (fun _ ih l κ => List.rec (motive := fun _ => R) (.fail 403) (fun v l _ => ih l fun r => κ (v :: r)) l) n l κ
def dropS (l : List SI) (n : Nat) (κ : List SI → R) : R := Nat.rec (motive := fun _ => List SI → R) (fun l => κ l) (fun _ ih l => List.rec (motive := fun _ => R) (.fail 404) (fun _ l _ => ih l) l) n l
def litN (e : SI) (κ : Nat → R) : R := litI e (nat_lit 405) fun n => natI n (nat_lit 405) κ
/-- the first n of a chunk; what is behind them -/
def cutC (c : Ch) (n : SI) (κ : Ch → R) : R := Ch.rec (motive := fun _ => R) (fun l => litN n fun n => takeS l n fun l => κ (.bs l)) (fun _ v => κ (.fil n v)) (fun a o _ => κ (.row a o n)) c
def tailC (c : Ch) (pc : PC) (n : SI) (κ : Ch → R) : R := Ch.rec (motive := fun _ => R) (fun l => litN n fun n => dropS l n fun l => κ (.bs l)) (fun m v => mnE pc m n fun m => κ (.fil m v)) (fun a o m => plE pc o n fun o => mnE pc m n fun m => κ (.row a o m)) c
def dropR (cs : List Ch) : SI → PC → (List Ch → PC → R) → R := List.rec (motive := fun _ => SI → PC → (List Ch → PC → R) → R) (fun a pc κ => Bool.rec (motive := fun _ => R) (.fail 406) (κ [] pc) (isZ a))
  (fun c cs ih a pc κ => Bool.rec (motive := fun _ => R) (lenH c fun m => Bool.rec (motive := fun _ => R) (.fail 407) (leD pc m a fun b pc => Bool.rec (motive := fun _ => R) (tailC c pc a fun c => κ (c :: cs) pc) (mnE pc a m fun a => ih a pc κ) b) (nnB pc.rg m && nnB pc.rg a)) (κ (c :: cs) pc) (isZ a)) cs
def takeR (cs : List Ch) : SI → PC → (List Ch → PC → R) → R := List.rec (motive := fun _ => SI → PC → (List Ch → PC → R) → R) (fun n pc κ => Bool.rec (motive := fun _ => R) (.fail 408) (κ [] pc) (isZ n))
  (fun c cs ih n pc κ => Bool.rec (motive := fun _ => R) (lenH c fun m => Bool.rec (motive := fun _ => R) (.fail 409) (leD pc m n fun b pc => Bool.rec (motive := fun _ => R) (cutC c n fun c => κ [c] pc) (mnE pc n m fun n => ih n pc fun r pc => κ (c :: r) pc) b) (nnB pc.rg m && nnB pc.rg n)) (κ [] pc) (isZ n)) cs
/-- cells that are bytes -/
def byteS (l : List AV) : (List SI → R) → R := List.rec (motive := fun _ => (List SI → R) → R) (fun κ => κ []) (fun v _ ih κ => intV v (nat_lit 410) fun k e => Bool.rec (motive := fun _ => R) (.fail 411) (ih fun r => κ (e :: r)) (kindEq k .u8)) l
def nilT (c : Tr AV) : Bool := Tr.rec (motive := fun _ => Bool) true (fun _ _ _ _ _ => false) c
def defU (d : Option AV) : Option SI := match d with
  | some (.int .u8 e) => some e
  | _ => none
def cellR (c : Tr AV) (d : Option AV) (off len : Nat) (κ : List Ch → R) : R := match defU d with
  | some e => Bool.rec (motive := fun _ => R) (ldN c d off len fun l => byteS l fun es => κ [.bs es]) (κ [.fil (natS len) e]) (nilT c)
  | none => ldN c d off len fun l => byteS l fun es => κ [.bs es]
/-- it is known to be nought -/
def nilR (rg : List (Int × Int)) (e : SI) : Bool := opt1' (rngS rg e) false fun l h => beqF l (.ofNat (nat_lit 0)) && beqF h (.ofNat (nat_lit 0))
/-- a slice that was there, and holds nothing -/
def osl0 (rg : List (Int × Int)) (x : AV) : Bool := match x with
  | .osl _ k _ => nilR rg (.var k)
  | _ => false
/-- what a slice of bytes holds -/
def readO (o : AObj) (pc : PC) (off len : SI) (κ : List Ch → PC → R) : R := match o with
  | .rope cs T r => dropR cs off pc fun cs pc => takeR cs len pc κ
  | .cells n c d T r => litN off fun off => litN len fun len => Bool.rec (motive := fun _ => R) (.fail 412) (cellR c d off len fun cs => κ cs pc) (Nat.ble (Nat.add off len) n)
  | _ => .fail 413
def readR (h : Tr AObj) (pc : PC) (x : AV) (κ : List Ch → PC → R) : R := match x with
  | .sl id off len _ => optK (h.get id) 414 fun o => readO o pc (natS off) (natS len) κ
  | .ssl id _ off len _ => optK (h.get id) 414 fun o => readO o pc off len κ
  | .fsl a _ off len => plE pc off len fun e => leD pc e (.var a) fun b pc => Bool.rec (motive := fun _ => R) (.fail 415) (κ [.row a off len] pc) (b && (Nat.ble (nat_lit 32) a && Nat.blt a (nat_lit 64)))
  | .raw (.slice none 0 0) => κ [] pc
  | .emp _ _ _ => κ [] pc
  | .em0 _ _ _ => κ [] pc
  | .osl p k c => Bool.rec (motive := fun _ => R) (.fail 416) (κ [] pc) (osl0 pc.rg (.osl p k c))
  | _ => .fail 416
/-- how long it is -/
def lenS (pc : PC) (x : AV) (κ : SI → R) : R := match x with
  | .sl _ _ len _ => κ (natS len)
  | .ssl _ _ _ len _ => Bool.rec (motive := fun _ => R) (.fail 417) (κ len) (nnB pc.rg len)
  | .fsl _ _ _ len => Bool.rec (motive := fun _ => R) (.fail 417) (κ len) (nnB pc.rg len)
  | .raw (.slice none 0 0) => κ zeroS
  | .emp _ _ _ => κ zeroS
  | .em0 _ _ _ => κ zeroS
  | .osl p k c => Bool.rec (motive := fun _ => R) (.fail 418) (κ zeroS) (osl0 pc.rg (.osl p k c))
  | _ => .fail 418
def isRope (o : Option AObj) : Bool := match o with
  | some (.rope _ _ _) => true
  | _ => false
/-- is it such a row? -/
def ropy (h : Tr AObj) (x : AV) : Bool := match x with
  | .ssl _ _ _ _ _ => true
  | .fsl _ _ _ _ => true
  | .sl id _ _ _ => isRope (h.get id)
  | _ => false
def isOsl (x : AV) : Bool := match x with
  | .osl _ _ _ => true
  | _ => false
/-- a slice that surely has room for what it holds -/
def isSlV (x : AV) : Bool := match x with
  | .sl _ _ len (some c) => Nat.ble len c
  | .raw (.slice none 0 0) => true
  | _ => false
def litV (v : Option AV) : Bool := match v with
  | none => true
  | some (.int _ (.lit _)) => true
  | _ => false
/-- told with figures, where that can be -/
def canS (id : Nat) (o0 off len : SI) (cap : Option SI) : AV := .ssl id o0 off len cap
def optS (v : Option AV) (d : SI) (κ : SI → R) : R := match v with
  | some v => intV v (nat_lit 419) fun _ e => κ e
  | none => κ d
/-- l <= h <= c, all of them numbers -/
def ordK (pc : PC) (l h c : SI) (κ : PC → R) : R := Bool.rec (motive := fun _ => R) (.fail 420) (leD pc l h fun b pc => Bool.rec (motive := fun _ => R) (.fail 421) (leD pc h c fun b pc => Bool.rec (motive := fun _ => R) (.fail 422) (κ pc) b) b) (nnB pc.rg l && (nnB pc.rg h && nnB pc.rg c))
/-- a byte of a rope, told by its number -/
def byteK (cs : List Ch) : Nat → (SI → R) → R := List.rec (motive := fun _ => Nat → (SI → R) → R) (fun _ _ => .fail 438) (fun c cs ih i κ => Ch.rec (motive := fun _ => R) (fun l => Bool.rec (motive := fun _ => R) (forceN (Nat.sub i (lenSI l)) fun i => ih i κ) (dropS l i fun l => List.rec (motive := fun _ => R) (.fail 439) (fun e _ _ => κ e) l) (Nat.blt i (lenSI l))) (fun _ _ => .fail 440) (fun _ _ _ => .fail 440) c) cs
def lenY (P : Program) (T : TypeId) (x : AV) (pc : PC) (κ : AV → PC → R) : R := match P.underlying T with
  | some (.slice _) => lenS pc x fun e => κ (.int .i64 e) pc
  | _ => .fail 441
def ldR (κ : AV → R) (w : Option Nat) (off : Nat) (o : AObj) : R := match o with
  | .rope cs _ _ => Option.rec (motive := fun _ => R) (byteK cs off fun e => κ (.int .u8 e)) (fun _ => .fail 442) w
  | o => obK (Option.rec (motive := fun _ => OK) (ld1 κ off) (ldA κ off) w) o
def loadP (h : Tr AObj) (κ : AV → R) (w : Option Nat) (id off : Nat) : R := forceN off fun off => optK (h.get id) 11 (ldR κ w off)
def loadV (h : Tr AObj) (κ : AV → R) (w : Option Nat) (v : AV) : R := ptrV v (nat_lit 16) (loadP h κ w)
def loadA (P : Program) (h : Tr AObj) (T : TypeId) (v : AV) (κ : AV → R) : R := optK (aggOf P T) 17 fun w => loadV h κ w v

/-! quiet operations -/
section
variable (P : Program)
def fnB (f : Fn) : Bool := match f with
  | .func _ => true
  | _ => false
def nilB (v : AV) : Bool := AV.rec (motive_1 := fun _ => Bool) (motive_2 := fun _ => Unit) (fun _ _ => false) (fun _ => false) (fun _ _ => true) (fun _ _ _ _ => true) (fun _ _ _ => true) (fun _ => true) (fun f _ _ _ _ => fnB f) (fun _ _ _ => true) (fun _ _ => false) (fun _ _ => false) (fun _ => false) (fun _ => false) (fun _ _ _ => false) (fun _ _ _ _ _ _ => false) (fun _ _ _ => true) (fun _ _ _ _ _ => true) (fun _ _ _ _ => true) () (fun _ _ _ _ => ()) v
def nilA (κ : AV → R) (v : AV) : R := Bool.rec (motive := fun _ => R) (.fail 20) (κ v) (nilB v)
def isNilV (v : Value) : Bool := match v with
  | .pointer none | .slice none _ _ | .map none | .nilFunc | .nilIface => true
  | _ => false
/-- is it nil? -/
def nilP (x : AV) : Option Bool := match x with
  | .ptr _ _ => some false
  | .raw (.pointer none) => some true
  | _ => none
def nilS (x : AV) : Option Bool := match x with
  | .sl _ _ _ _ => some false
  | .emp _ _ _ => some false
  | .em0 _ _ _ => some false
  | .ssl _ _ _ _ _ => some false
  | .fsl _ _ _ _ => some false
  | .raw (.slice none _ _) => some true
  | _ => none
def nilM (x : AV) : Option Bool := match x with
  | .map _ => some false
  | .raw (.map none) => some true
  | _ => none
def nilF (x : AV) : Option Bool := match x with
  | .fn _ _ _ => some false
  | .raw .nilFunc => some true
  | _ => none
def nil2 (nx ny : Option Bool) (both : R) (κ : SB → R) : R := optK nx 21 fun bx => optK ny 22 fun by_ => Bool.rec (motive := fun _ => R) (Bool.rec (motive := fun _ => R) both (κ (.lit false)) bx) (κ (.lit bx)) by_
def ptrEq (h : Tr AObj) (x y : AV) (κ : SB → R) : R := match x with
  | .ptr i o => match y with
    | .ptr j q => objK h i fun _ _ _ _ r => objK h j fun _ _ _ _ r' => Bool.rec (motive := fun _ => R) (κ (.lit (Nat.beq i j && Nat.beq o q))) (.fail 24) (r || r')
    | _ => .fail 24
  | _ => .fail 24
def strEq (v w : Value) (κ : Bool → R) : R := match v with
  | .string a => match w with
    | .string b => κ (a.data.toList == b.data.toList)
    | _ => .fail 26
  | _ => .fail 26
def eqB (a b : SB) (κ : SB → R) : R := match a with
  | .lit a => Bool.rec (motive := fun _ => R) (notK b κ) (κ b) a
  | a => match b with
    | .lit b => Bool.rec (motive := fun _ => R) (notK a κ) (κ a) b
    | _ => .fail 23
/-! values of several cells that are numbers; keys -/
def plainInt (T : TypeId) : Bool := match P.underlying T with
  | some (.int _) => true
  | _ => false
def oneCellT (T : TypeId) : Bool := match P.info? T with
  | some i => Nat.beq i.size (nat_lit 1)
  | none => false
def fieldsFlat (fs : List Field) : Nat → Bool := List.rec (motive := fun _ => Nat → Bool) (fun _ => true) (fun f _ ih n => (f.name != "_") && (plainInt P f.type && (Nat.beq f.offset n && ih (Nat.succ n)))) fs
/-- a struct or an array of numbers: of how many? -/
def flatT (T : TypeId) : Option Nat := match P.underlying T with
  | some (.struct fs) => Bool.rec (motive := fun _ => Option Nat) none (some fs.size) (fieldsFlat P fs.toList (nat_lit 0) && notF (P.stoodInHeld T))
  | some (.array n e) => Bool.rec (motive := fun _ => Option Nat) none (some n) (plainInt P e && oneCellT P e)
  | _ => none
def lenC (l : List AV) : Nat := List.rec (motive := fun _ => Nat) (nat_lit 0) (fun _ _ n => Nat.succ n) l
def aggV (v : AV) (n : Nat) (κ : List AV → R) : R := match v with
  | .agg l => κ l
  | _ => .fail n
/-- two rows of numbers: are they the same? -/
def eqCells (l : List AV) : List AV → PC → (Bool → PC → R) → R := List.rec (motive := fun _ => List AV → PC → (Bool → PC → R) → R) (fun m pc κ => match m with
    | [] => κ true pc
    | _ => .fail 201) (fun x _ ih m pc κ => match m with
    | [] => .fail 201
    | y :: m => asInt x fun k a => asInt y fun k' b => Bool.rec (motive := fun _ => R) (.fail 202) (cmpK .eql a b fun c => decK pc c fun b pc => Bool.rec (motive := fun _ => R) (κ false pc) (ih m pc κ) b) (kindEq k k')) l
def litB (c : SB) (κ : Bool → R) : R := match c with
  | .lit b => κ b
  | _ => .fail 205
def eqLits (l : List AV) : List AV → (Bool → R) → R := List.rec (motive := fun _ => List AV → (Bool → R) → R) (fun m κ => match m with
    | [] => κ true
    | _ => .fail 201) (fun x _ ih m κ => match m with
    | [] => .fail 201
    | y :: m => asInt x fun k a => asInt y fun k' b => Bool.rec (motive := fun _ => R) (.fail 202) (cmpK .eql a b fun c => litB c fun b => Bool.rec (motive := fun _ => R) (κ false) (ih m κ) b) (kindEq k k')) l
def eqFlat (T : TypeId) (x y : AV) (κ : SB → R) : R := optK (flatT P T) 203 fun n => Bool.rec (motive := fun _ => R) (.fail 204) (aggV x (nat_lit 206) fun l => aggV y (nat_lit 206) fun m => Bool.rec (motive := fun _ => R) (.fail 207) (eqLits l m fun b => κ (.lit b)) (Nat.beq (lenC l) n)) (notF (P.eqGuardType P.depth T))
/-- equality of two: T says what they are -/
def eqA (T : TypeId) (d : TypeDesc) (h : Tr AObj) (x y : AV) (κ : SB → R) : R := match d with
  | .struct _ => eqFlat P T x y κ
  | .array _ _ => eqFlat P T x y κ
  | .bool => match x with
    | .bool a => match y with
      | .bool b => eqB a b κ
      | _ => .fail 23
    | _ => .fail 23
  | .pointer e => Bool.rec (motive := fun _ => R) (nil2 (nilP x) (nilP y) (ptrEq h x y κ) κ) (.fail 29) (match sizeA P e with | some n => Nat.beq n (nat_lit 0) | none => true)
  | .slice _ => nil2 (nilS x) (nilS y) (.fail 25) κ
  | .map _ _ => nil2 (nilM x) (nilM y) (.fail 25) κ
  | .func _ _ _ => nil2 (nilF x) (nilF y) (.fail 25) κ
  | .string => match x with
    | .raw v => match y with
      | .raw w => strEq v w fun b => κ (.lit b)
      | _ => .fail 26
    | _ => .fail 26
  | _ => .fail 27
def eqD (T : TypeId) (h : Tr AObj) (x y : AV) (κ : SB → R) : R := optK (P.underlying T) 28 fun d => eqA P T d h x y κ
def boolK (κ : AV → R) (b : SB) : R := κ (.bool b)
def intK (κ : AV → R) (k : IntKind) (e : SI) : R := κ (.int k e)
def arith (op : BinOp) (x y : AV) (κ : AV → R) : R := asInt x fun k a => asInt y fun k' b => Bool.rec (motive := fun _ => R) (.fail 30) (binK op k a b (intK κ k)) (kindEq k k')
def nz (e : SI) (κ : R) : R := match e with
  | .lit n => Bool.rec (motive := fun _ => R) κ (.fail 31) (beqF n (.ofNat (nat_lit 0)))
  | _ => .fail 32
def divA (op : BinOp) (x y : AV) (κ : AV → R) : R := asInt x fun k a => asInt y fun k' b => Bool.rec (motive := fun _ => R) (.fail 30) (nz b (binK op k a b (intK κ k))) (kindEq k k')
def nn (e : SI) (κ : R) : R := match e with
  | .lit (.ofNat n) => κ
  | _ => .fail 33
def shiftA (op : BinOp) (x y : AV) (κ : AV → R) : R := asInt x fun k a => asInt y fun _ b => nn b (binK op k a b (intK κ k))
def compare (op : BinOp) (x y : AV) (κ : AV → R) : R := asInt x fun k a => asInt y fun k' b => Bool.rec (motive := fun _ => R) (.fail 34) (cmpK op a b (boolK κ)) (kindEq k k')
def eqlA (T : TypeId) (h : Tr AObj) (x y : AV) (κ : AV → R) : R := match x with
  | .int k a => compare .eql x y κ
  | x => eqD P T h x y (boolK κ)
def neqA (T : TypeId) (h : Tr AObj) (x y : AV) (κ : AV → R) : R := match x with
  | .int k a => compare .neq x y κ
  | x => eqD P T h x y fun b => notK b (boolK κ)
def binA (op : BinOp) (T : TypeId) (h : Tr AObj) (x y : AV) (κ : AV → R) : R := BinOp.rec (motive := fun _ => Program → TypeId → Tr AObj → AV → AV → (AV → R) → R) (fun P T h x y κ => arith .add x y κ) (fun P T h x y κ => arith .sub x y κ) (fun P T h x y κ => arith .mul x y κ) (fun P T h x y κ => divA .quo x y κ) (fun P T h x y κ => divA .rem x y κ) (fun P T h x y κ => arith .and x y κ) (fun P T h x y κ => arith .or x y κ) (fun P T h x y κ => arith .xor x y κ) (fun P T h x y κ => shiftA .shl x y κ) (fun P T h x y κ => shiftA .shr x y κ) (fun P T h x y κ => arith .andNot x y κ) (fun P T h x y κ => eqlA P T h x y κ) (fun P T h x y κ => neqA P T h x y κ) (fun P T h x y κ => compare .lss x y κ) (fun P T h x y κ => compare .leq x y κ) (fun P T h x y κ => compare .gtr x y κ) (fun P T h x y κ => compare .geq x y κ) op P T h x y κ
def onesI (k : IntKind) : Int := match k with
  | .i8 | .i16 | .i32 | .i64 => .negSucc (nat_lit 0)
  | .u8 => .ofNat (nat_lit 255)
  | .u16 => .ofNat (nat_lit 65535)
  | .u32 => .ofNat (nat_lit 4294967295)
  | .u64 => .ofNat (nat_lit 18446744073709551615)
def unA (op : UnOp) (x : AV) (κ : AV → R) : R := match op with
  | .xor => asInt x fun k a => binK .xor k (.lit (onesI k)) a (intK κ k)
  | .neg => asInt x fun k a => binK .sub k (.lit (.ofNat (nat_lit 0))) a (intK κ k)
  | .not => asBoolA x fun b => notK b (boolK κ)
  | _ => .fail 35
def convA (src dst : TypeId) (x : AV) (κ : AV → R) : R := optK (P.underlying src) 36 fun _ => optK (intOfT P dst) 37 fun k => asInt x fun _ a => convK k a (intK κ k)
/-- bytes, all known -/
def bytesOfL (l : List AV) : (List Nat → R) → R := List.rec (motive := fun _ => (List Nat → R) → R) (fun κ => κ []) (fun v _ ih κ => intV v (nat_lit 271) fun k e => Bool.rec (motive := fun _ => R) (.fail 272) (asLitK (fun n => ih fun r => κ (n :: r)) e) (kindEq k .u8)) l
def strOf (ns : List Nat) : ByteArray := ⟨(ns.map fun n => UInt8.ofNat n).toArray⟩
def isBytesT (T : TypeId) : Bool := match P.underlying T with
  | some (.slice e) => match P.underlying e with
    | some (.int .u8) => true
    | _ => false
  | _ => false
def isStrT (T : TypeId) : Bool := match P.underlying T with
  | some .string => true
  | _ => false
def convS (src dst : TypeId) (h : Tr AObj) (x : AV) (κ : AV → R) : R := Bool.rec (motive := fun _ => R) (.fail 273) (match x with
  | .sl id off len _ => objK h id fun n c d T r => Bool.rec (motive := fun _ => R) (.fail 274) (ldN c d off len fun l => bytesOfL l fun ns => κ (.raw (.string (strOf ns)))) (Nat.ble (Nat.add off len) n)
  | .raw (.slice none _ _) => κ (.raw (.string (strOf [])))
  | _ => .fail 275) (isBytesT P src && isStrT P dst)
def convQ (src dst : TypeId) (h : Tr AObj) (x : AV) (κ : AV → R) : R := match x with
  | .int k e => convA P src dst (.int k e) κ
  | x => convS P src dst h x κ
/-- a number that can be but one -/
def sing1 (rg : List (Int × Int)) (e : SI) : SI := opt1' (rngS rg e) e fun l h => Bool.rec (motive := fun _ => SI) e (.lit l) (leF h l)
def singS (rg : List (Int × Int)) (e : SI) : SI := SI.rec (motive := fun _ => SI) (fun n => .lit n) (fun i => sing1 rg (.var i)) (fun o k a b _ _ => sing1 rg (.bin o k a b)) (fun k a _ => sing1 rg (.conv k a)) (fun a _ => sing1 rg (.fold a)) (fun a p o n _ _ => sing1 rg (.rs a p o n)) e
def litR (rg : List (Int × Int)) (v : AV) (κ : AV → R) : R := match v with
  | .int k e => κ (.int k (singS rg e))
  | v => κ v
/-- a conversion that turns nothing -/
def varK {α : Type} (a : SI) (no : α) (κ : Nat → α) : α := SI.rec (motive := fun _ => α) (fun _ => no) (fun i => κ i) (fun _ _ _ _ _ _ => no) (fun _ _ _ => no) (fun _ _ => no) (fun _ _ _ _ _ _ => no) a
def isAdd (op : BinOp) : Bool := BinOp.rec (motive := fun _ => Bool) true false false false false false false false false false false false false false false false false op
def isSub (op : BinOp) : Bool := BinOp.rec (motive := fun _ => Bool) false true false false false false false false false false false false false false false false false op
def fitK {α : Type} (rg : List (Int × Int)) (k : IntKind) (a : SI) (no : α) (κ : SI → α) : α := varK a no fun i => opt1' (nthR rg i) no fun l h => Bool.rec (motive := fun _ => α) no (κ (.var i)) (leF (minK k) l && leF h (maxK k))
/-- x + c, where nothing is turned -/
def linB (a : SI) : Bool := match a with
  | .bin .add _ (.var _) (.lit _) => true
  | _ => false
def linK {α : Type} (rg : List (Int × Int)) (k : IntKind) (a : SI) (κ : SI → α) : α := Bool.rec (motive := fun _ => α) (κ (.conv k a)) (opt1' (rngS rg a) (κ (.conv k a)) fun l h => Bool.rec (motive := fun _ => α) (κ (.conv k a)) (κ a) (leF (minK k) l && leF h (maxK k))) (linB a)
/-- x + 0, x - x -/
def stripB {α : Type} (rg : List (Int × Int)) (op : BinOp) (k : IntKind) (a b : SI) (κ : SI → α) : α := Bool.rec (motive := fun _ => α) (Bool.rec (motive := fun _ => α) (κ (.bin op k a b)) (fitK rg k a (κ (.bin op k a b)) κ) (isAdd op && isZ b)) (κ zeroS) (isSub op && SI.beq a b)
def stripK {α : Type} (rg : List (Int × Int)) (e : SI) : (SI → α) → α := SI.rec (motive := fun _ => (SI → α) → α) (fun n κ => κ (.lit n)) (fun i κ => κ (.var i)) (fun op k a b _ _ κ => stripB rg op k a b κ) (fun k a _ κ => varK a (linK rg k a κ) fun i => opt1' (nthR rg i) (κ (.conv k a)) fun l h => Bool.rec (motive := fun _ => α) (κ (.conv k a)) (κ (.var i)) (leF (minK k) l && leF h (maxK k))) (fun a _ κ => κ (.fold a)) (fun a p o n _ _ κ => κ (.rs a p o n)) e
def fitV (rg : List (Int × Int)) (v : AV) (κ : AV → R) : R := match v with
  | .int k e => stripK rg e fun e => κ (.int k e)
  | v => κ v
def isShift (op : BinOp) : Bool := BinOp.rec (motive := fun _ => Bool) false false false false false false false false true true false false false false false false false op
def ptrK (κ : AV → R) (id off o : Nat) : R := forceN (Nat.add off o) fun n => κ (.ptr id n)
def fldAddr (T : TypeId) (f : Nat) (x : AV) (κ : AV → R) : R := ptrV x (nat_lit 39) fun id off => optK (fieldPlaceA P T f) 38 fun o => ptrK κ id off o
def takeA (l : List AV) (n : Nat) (κ : List AV → R) : R :=
  Nat.rec (motive := fun _ => List AV → (List AV → R) → R) (fun _ κ => κ []) (fun _ ih l κ => List.rec (motive := fun _ => R) (.fail 40) (fun v l _ => ih l fun r => κ (v :: r)) l) n l κ
def dropA (l : List AV) (n : Nat) : List AV := Nat.rec (motive := fun _ => List AV → List AV) (fun l => l) (fun _ ih l => List.rec (motive := fun _ => List AV) [] (fun _ l _ => ih l) l) n l
def headK (κ : AV → R) (l : List AV) : R := match l with
  | [] => .fail 41
  | v :: _ => κ v
/-- a part of a row of cells -/
def partA (T : TypeId) (l : List AV) (off : Nat) (κ : AV → R) : R := optK (aggOf P T) 42 fun w => match w with
  | none => headK κ (dropA l off)
  | some n => takeA (dropA l off) n fun r => κ (.agg r)
def fldA (T : TypeId) (f : Nat) (x : AV) (κ : AV → R) : R := match x with
  | .agg l => optK (fieldA P T f) 43 fun p => partA P p.2 l p.1 κ
  | _ => .fail 44
def ixAddr (T : TypeId) (x i : AV) (κ : AV → R) : R := asNat i fun i => optK (ixOf P T) 45 fun d => match d with
  | .arr n e s => match x with
    | .ptr id off => Bool.rec (motive := fun _ => R) (.fail 46) (ptrK κ id off (Nat.mul i s)) (Nat.blt i n)
    | _ => .fail 47
  | .sli e s => match x with
    | .sl id off len _ => Bool.rec (motive := fun _ => R) (.fail 48) (ptrK κ id off (Nat.mul i s)) (Nat.blt i len)
    | _ => .fail 49
def ixB (T : TypeId) (x : AV) (i : Nat) (κ : AV → R) : R := optK (ixOf P T) 50 fun d => match d with
  | .arr n e s => match x with
    | .agg l => Bool.rec (motive := fun _ => R) (.fail 51) (partA P e l (Nat.mul i s) κ) (Nat.blt i n)
    | _ => .fail 52
  | .sli _ _ => .fail 53
/-- a byte of a text -/
def ixS (x : AV) (i : Nat) (κ : AV → R) : R := match x with
  | .raw (.string b) => match b[i]? with
    | some c => forceN c.toNat fun n => κ (.int .u8 (.lit (.ofNat n)))
    | none => .fail 58
  | _ => .fail 58
def ixA (T : TypeId) (x i : AV) (κ : AV → R) : R := asNat i fun i => Bool.rec (motive := fun _ => R) (ixB P T x i κ) (ixS x i κ) (isStrT P T)
def optNat (v : Option AV) (d : Nat) (κ : Nat → R) : R := match v with
  | some v => asNat v κ
  | none => κ d
/-- the elements that surely lie in front of the block's end -/
def roomK (h : Tr AObj) (e s id off : Nat) (cap : Option Nat) (κ : Nat → Bool → R) : R := match cap with
  | some c => κ c true
  | none => objK h id fun n _ _ T r => Bool.rec (motive := fun _ => R) (.fail 57) (κ (Nat.div (Nat.sub n off) s) false) (Nat.beq T e && r)
def slK (κ : AV → R) (id off l h : Nat) (c : Option Nat) : R := forceN off fun off => forceN (Nat.sub h l) fun n => κ (.sl id off n c)
def atF (off l s c : Nat) : Nat := Bool.rec (motive := fun _ => Nat) (Nat.add off (Nat.mul l s)) off (Nat.beq c l)
/-- s[l:h], c elements at least from s on, of size s each -/
def sliceK (κ : AV → R) (id off s l hi c : Nat) (known : Bool) : R :=
  Bool.rec (motive := fun _ => R) (.fail 54) (Bool.rec (motive := fun _ => R)
      (Bool.rec (motive := fun _ => R) (slK κ id (Nat.add off (Nat.mul l s)) l hi none) (forceN (Nat.add off (Nat.mul l s)) fun o => κ (.emp id off o)) (Nat.beq l c))
      (forceN (Nat.sub c l) fun m' => slK κ id (atF off l s c) l hi (some m')) known) (Nat.ble l hi && Nat.ble hi c)
def slEl (κ : AV → R) (h : Tr AObj) (e s : Nat) (lo hi : Option AV) (id off len : Nat) (cap : Option Nat) : R :=
  optNat lo (nat_lit 0) fun l => optNat hi len fun hi => roomK h e s id off cap fun c known => sliceK κ id off s l hi c known
/-- s[l:h:m] -/
def slice3 (κ : AV → R) (h : Tr AObj) (e s : Nat) (lo hi : Option AV) (mx : AV) (id off : Nat) (cap : Option Nat) : R :=
  optNat lo (nat_lit 0) fun l => optK hi 208 fun hi => asNat hi fun hi => asNat mx fun m => roomK h e s id off cap fun c _ => Bool.rec (motive := fun _ => R) (.fail 209) (sliceK κ id off s l hi m true) (Nat.ble m c)
/-- s[0:0:0] -/
def slice0 (lo hi : Option AV) (mx : AV) (κ : R) : R := optNat lo (nat_lit 0) fun l => optK hi 208 fun hi => asNat hi fun hi => asNat mx fun m => Bool.rec (motive := fun _ => R) (.fail 57) κ (Nat.beq l (nat_lit 0) && (Nat.beq hi (nat_lit 0) && Nat.beq m (nat_lit 0)))
def sliceA (T : TypeId) (h : Tr AObj) (x : AV) (lo hi mx : Option AV) (κ : AV → R) : R := optK (ixOf P T) 59 fun d => match mx with
  | some m => match d with
    | .sli e s => match x with
      | .sl id off _ cap => slice3 κ h e s lo hi m id off cap
      | .emp id off0 off => slice0 lo hi m (κ (.em0 id off0 off))
      | .em0 id off0 off => slice0 lo hi m (κ (.em0 id off0 off))
      | _ => .fail 55
    | _ => .fail 55
  | none => match d with
    | .arr n e s => match x with
      | .ptr id off => slEl κ h e s lo hi id off n (some n)
      | _ => .fail 60
    | .sli e s => match x with
      | .sl id off len cap => slEl κ h e s lo hi id off len cap
      | .raw (.slice _ 0 0) => optNat lo (nat_lit 0) fun l => optNat hi (nat_lit 0) fun hi => Bool.rec (motive := fun _ => R) (.fail 56) (κ x) (Nat.beq l (nat_lit 0) && Nat.beq hi (nat_lit 0))
      | .emp _ _ _ => optNat lo (nat_lit 0) fun l => optNat hi (nat_lit 0) fun hi => Bool.rec (motive := fun _ => R) (.fail 56) (κ x) (Nat.beq l (nat_lit 0) && Nat.beq hi (nat_lit 0))
      | .em0 _ _ _ => optNat lo (nat_lit 0) fun l => optNat hi (nat_lit 0) fun hi => Bool.rec (motive := fun _ => R) (.fail 56) (κ x) (Nat.beq l (nat_lit 0) && Nat.beq hi (nat_lit 0))
      | _ => .fail 61
def nthK (κ : AV → R) (l : List AV) (n : Nat) : R := headK κ (dropA l n)
def extA (x : AV) (n : Nat) (κ : AV → R) : R := match x with
  | .tup l => nthK κ l n
  | _ => .fail 62
def lenA (T : TypeId) (x : AV) (κ : AV → R) : R := match P.underlying T with
  | some (.slice _) => match x with
    | .sl _ _ len _ => κ (.int .i64 (.lit (.ofNat len)))
    | .emp _ _ _ => κ (.int .i64 (.lit (.ofNat (nat_lit 0))))
    | .em0 _ _ _ => κ (.int .i64 (.lit (.ofNat (nat_lit 0))))
    | .raw (.slice _ n _) => κ (.int .i64 (.lit (.ofNat n)))
    | _ => .fail 63
  | some (.string) => match x with
    | .raw (.string s) => κ (.int .i64 (.lit (.ofNat s.size)))
    | _ => .fail 64
  | some (.array n _) => κ (.int .i64 (.lit (.ofNat n)))
  | _ => .fail 65
/-- min (y < x: y), max (y > x: y) -/
def mmA (less : Bool) (x y : AV) (pc : PC) (κ : AV → PC → R) : R := asInt x fun k a => asInt y fun _ b => Bool.rec (motive := fun _ => R)
  (cmpK .gtr b a fun c => decK pc c fun c pc => κ (Bool.rec (motive := fun _ => AV) (.int k a) (.int k b) c) pc)
  (cmpK .lss b a fun c => decK pc c fun c pc => κ (Bool.rec (motive := fun _ => AV) (.int k a) (.int k b) c) pc) less
def mmL (less : Bool) (l : List AV) : AV → PC → (AV → PC → R) → R :=
  List.rec (motive := fun _ => AV → PC → (AV → PC → R) → R) (fun x pc κ => κ x pc) (fun y _ ih x pc κ => mmA less x y pc fun v pc => ih v pc κ) l
/-- a slice that was there: its length is a letter -/
def lenE (es : List (AV × AV × Nat)) : Nat := List.rec (motive := fun _ => Nat) (nat_lit 0) (fun _ _ n => Nat.succ n) es
def mapK (h : Tr AObj) (id : Nat) (κ : List (AV × AV × Nat) → Nat → R) : R := optK (h.get id) 93 fun o => match o with
  | .map es c => κ es c
  | _ => .fail 94
def lenM (T : TypeId) (h : Tr AObj) (x : AV) (κ : AV → R) : R := match P.underlying T with
  | some (.map _ _) => match x with
    | .map id => mapK h id fun es _ => forceN (lenE es) fun n => κ (.int .i64 (.lit (.ofNat n)))
    | .raw (.map none) => κ (.int .i64 (.lit (.ofNat (nat_lit 0))))
    | _ => .fail 66
  | _ => lenA P T x κ
def lenQ (T : TypeId) (h : Tr AObj) (x : AV) (pc : PC) (κ : AV → PC → R) : R := match x with
  | .osl p k c => match P.underlying T with
    | some (.slice _) => decK pc (.cmp .leq (.lit (.ofNat (nat_lit 0))) (.var k)) fun b pc => Bool.rec (motive := fun _ => R) (.fail 66) (Bool.rec (motive := fun _ => R) (κ (.int .i64 (.var k)) pc) (κ (.int .i64 zeroS) pc) (nilR pc.rg (.var k))) b
    | _ => .fail 66
  | .ssl id a b c d => lenY P T (.ssl id a b c d) pc κ
  | .fsl a b c d => lenY P T (.fsl a b c d) pc κ
  | x => lenM P T h x fun v => κ v pc
def bltQ (b : Builtin) (Ts : Array TypeId) (h : Tr AObj) (l : List AV) (pc : PC) (κ : AV → PC → R) : R := match b with
  | .len => match l with
    | [x] => optK (Ts[0]?) 66 fun T => lenQ P T h x pc κ
    | _ => .fail 66
  | .min => match l with
    | x :: l => mmL true l x pc κ
    | [] => .fail 67
  | .max => match l with
    | x :: l => mmL false l x pc κ
    | [] => .fail 67
  | _ => .fail 68
/-- all but the first n -/
def dropN (n : Nat) : List AV → (List AV → R) → R := Nat.rec (motive := fun _ => List AV → (List AV → R) → R) (fun l κ => κ l) (fun _ ih l κ => List.rec (motive := fun _ => R) (.fail 71) (fun _ l _ => ih l κ) l) n
def appL (c r : List AV) : (List AV → R) → R := List.rec (motive := fun _ => (List AV → R) → R) (fun κ => κ r) (fun x _ ih κ => ih fun l => κ (x :: l)) c
/-- the n cells from i on become c -/
def putL (c : List AV) (n i : Nat) : List AV → (List AV → R) → R := Nat.rec (motive := fun _ => List AV → (List AV → R) → R) (fun l κ => dropN n l fun r => appL c r κ) (fun _ ih l κ => List.rec (motive := fun _ => R) (.fail 71) (fun x l _ => ih l fun r => κ (x :: r)) l) i
def fillA (places : Nat → Option (Nat × Nat)) : List (Nat × AV) → List AV → (List AV → R) → R
  | [], l, κ => κ l
  | (i, v) :: rest, l, κ => optK (places i) 69 fun p => cellsK (.fail 70) v fun c => Bool.rec (motive := fun _ => R) (.fail 71) (putL c p.2 p.1 l fun l => fillA places rest l κ) (Nat.beq c.length p.2)
def placesA (T : TypeId) : Option (List (Nat × Nat)) := match P.underlying T with
  | some (.struct fs) => fs.toList.mapM fun f => (P.info? f.type).map fun i => (f.offset, i.size)
  | _ => none
abbrev opdParts (t : Ts) : List (Nat × Operand) → (List (Nat × AV) → R) → R
  | [], κ => κ []
  | (i, o) :: l, κ => opd t o fun v => opdParts t l fun r => κ ((i, v) :: r)
abbrev buildA (T : TypeId) (t : Ts) (parts : Array (Nat × Operand)) (κ : AV → R) : R := optK (zeroA P T) 72 fun z => cellsK (.fail 73) z fun z => opdParts t parts.toList fun ps => match P.underlying T with
  | some (.struct _) => optK (placesA P T) 76 fun pl => fillA (fun i => pl[i]?) ps z fun l => κ (.agg l)
  | some (.array _ e) => optK (sizeA P e) 74 fun s => fillA (fun i => some (i * s, s)) ps z fun l => κ (.agg l)
  | _ => .fail 75

/-! maps: the keys are numbers, texts, or structs and arrays of numbers -/
inductive KeyD where
  | int | str | flat (n : Nat)
def keyD (T : TypeId) : Option KeyD := match P.underlying T with
  | some (.int _) => some .int
  | some .string => some .str
  | _ => match flatT P T with
    | some n => some (.flat n)
    | none => none
def rawV (v : AV) (n : Nat) (κ : Value → R) : R := match v with
  | .raw v => κ v
  | _ => .fail n
def strV (v : Value) (n : Nat) (κ : R) : R := match v with
  | .string _ => κ
  | _ => .fail n
/-- is it such a key? -/
def keyOk (d : KeyD) (k : AV) (κ : R) : R := KeyD.rec (motive := fun _ => R) (intV k (nat_lit 91) fun _ _ => κ) (rawV k (nat_lit 92) fun v => strV v (nat_lit 92) κ) (fun n => aggV k (nat_lit 93) fun l => Bool.rec (motive := fun _ => R) (.fail 94) κ (Nat.beq (lenC l) n)) d
def keyEq (d : KeyD) (x y : AV) (pc : PC) (κ : Bool → PC → R) : R := KeyD.rec (motive := fun _ => R) (eqCells [x] [y] pc κ) (rawV x (nat_lit 92) fun v => rawV y (nat_lit 92) fun w => strEq v w fun b => forceB b fun b => κ b pc) (fun _ => aggV x (nat_lit 93) fun l => aggV y (nat_lit 93) fun m => eqCells l m pc κ) d
/-- where is it? -/
def findK (d : KeyD) (k : AV) (es : List (AV × AV × Nat)) : Nat → PC → (Option (Nat × AV) → PC → R) → R :=
  List.rec (motive := fun _ => Nat → PC → (Option (Nat × AV) → PC → R) → R) (fun _ pc κ => κ none pc) (fun e _ ih i pc κ => keyEq d k e.1 pc fun b pc => Bool.rec (motive := fun _ => R) (ih (Nat.succ i) pc κ) (κ (some (i, e.2.1)) pc) b) es
def mapTyA (T : TypeId) : Option (KeyD × TypeId) := match P.underlying T with
  | some (.map k e) => (keyD P k).map fun k => (k, e)
  | _ => none
def lkE (ok : Bool) (e : TypeId) (κ : AV → PC → R) (r : Option (Nat × AV)) (pc : PC) : R := match r with
  | some x => κ (Bool.rec (motive := fun _ => AV) x.2 (.tup [x.2, .bool (.lit true)]) ok) pc
  | none => optK (zeroA P e) 95 fun z => κ (Bool.rec (motive := fun _ => AV) z (.tup [z, .bool (.lit false)]) ok) pc
def lookA (T : TypeId) (h : Tr AObj) (x i : AV) (ok : Bool) (pc : PC) (κ : AV → PC → R) : R := optK (mapTyA P T) 96 fun p => keyOk p.1 i (match x with
  | .map id => mapK h id fun es _ => findK p.1 i es (nat_lit 0) pc (lkE P ok p.2 κ)
  | .raw (.map none) => lkE P ok p.2 κ none pc
  | _ => .fail 99)

/-- it stands within what is known of the row -/
def spanK (h : Tr AObj) (e : TypeId) (pc : PC) (id : Nat) (off len : SI) (κ : PC → R) : R := optK (h.get id) 443 fun o => match o with
  | .rope cs T r => readO (.rope cs T r) pc off len fun _ pc => κ pc
  | .cells n c d T r => Bool.rec (motive := fun _ => R) (.fail 444) (readO (.cells n c d T r) pc off len fun _ pc => κ pc) (Nat.beq T e && r)
  | _ => .fail 445
def sslU (h : Tr AObj) (e : TypeId) (id : Nat) (o0 off len : SI) (pc : PC) (l hi : SI) (κ : AV → PC → R) : R := spanK h e pc id off len fun pc => ordK pc l hi len fun pc => Bool.rec (motive := fun _ => R)
  (plE pc off l fun off' => leD pc len l fun b pc => Bool.rec (motive := fun _ => R) (mnE pc hi l fun n => κ (.ssl id off off' n none) pc) (κ (.ssl id (Bool.rec (motive := fun _ => SI) off o0 (isZ len)) off' zeroS none) pc) b)
  (Bool.rec (motive := fun _ => R) (κ (.ssl id off off hi none) pc) (κ (.ssl id o0 off zeroS none) pc) (isZ len)) (isZ l)
/-- its room is known -/
def sslC (id : Nat) (off c : SI) (pc : PC) (l h : SI) (κ : AV → PC → R) : R := ordK pc l h c fun pc => Bool.rec (motive := fun _ => R)
  (leD pc c l fun b pc => Bool.rec (motive := fun _ => R) (plE pc off l fun off' => mnE pc h l fun n => mnE pc c l fun m => κ (.ssl id off off' n (some m)) pc) (κ (.ssl id off off zeroS (some zeroS)) pc) b)
  (κ (.ssl id off off h (some c)) pc) (isZ l)
/-- s[0:h:h] -/
def sslM (h : Tr AObj) (e : TypeId) (id : Nat) (off len : SI) (pc : PC) (l hi m : SI) (κ : AV → PC → R) : R := Bool.rec (motive := fun _ => R) (.fail 424) (spanK h e pc id off len fun pc => Bool.rec (motive := fun _ => R) (ordK pc (natS (nat_lit 1)) hi len fun pc => κ (.ssl id off off hi (some hi)) pc) (κ (.ssl id off off zeroS (some zeroS)) pc) (isZ hi && notF (isZ len))) (isZ l && SI.beq hi m)
def fslU (a : Nat) (o0 off len : SI) (pc : PC) (l h : SI) (κ : AV → PC → R) : R := plE pc off len fun e => leD pc e (.var a) fun b pc => Bool.rec (motive := fun _ => R) (.fail 425) (ordK pc l h len fun pc => Bool.rec (motive := fun _ => R)
  (leD pc (natS (nat_lit 1)) l fun b pc => Bool.rec (motive := fun _ => R) (.fail 426) (plE pc off l fun off' => mnE pc h l fun n => κ (.fsl a off off' n) pc) b)
  (κ (.fsl a o0 off h) pc) (isZ l)) (b && (Nat.ble (nat_lit 32) a && Nat.blt a (nat_lit 64)))
def hasB (o : Option AV) : Bool := Option.rec (motive := fun _ => Bool) false (fun _ => true) o
/-- as a slice with bounds that are letters -/
def sliceR (T : TypeId) (h : Tr AObj) (pc : PC) (x : AV) (lo hi0 mx : Option AV) (κ : AV → PC → R) : R := optK (ixOf P T) 427 fun d => match d with
  | .sli e s => Bool.rec (motive := fun _ => R) (.fail 428) (optS lo zeroS fun l => match x with
    | .ssl id o0 off len none => optS hi0 len fun hi => match mx with
      | none => sslU h e id o0 off len pc l hi κ
      | some m => Bool.rec (motive := fun _ => R) (.fail 446) (intV m (nat_lit 429) fun _ m => sslM h e id off len pc l hi m κ) (hasB hi0)
    | .ssl id o0 off len (some c) => optS hi0 len fun hi => match mx with
      | none => sslC id off c pc l hi κ
      | some m => .fail 430
    | .sl id off len none => optS hi0 (natS len) fun hi => match mx with
      | none => sslU h e id (natS off) (natS off) (natS len) pc l hi κ
      | some m => Bool.rec (motive := fun _ => R) (.fail 446) (intV m (nat_lit 429) fun _ m => sslM h e id (natS off) (natS len) pc l hi m κ) (hasB hi0)
    | .sl id off len (some c) => optS hi0 (natS len) fun hi => match mx with
      | none => sslC id (natS off) (natS c) pc l hi κ
      | some m => .fail 430
    | .fsl a o0 off len => optS hi0 len fun hi => match mx with
      | none => fslU a o0 off len pc l hi κ
      | some m => .fail 430
    | .osl p k c => optS hi0 zeroS fun hi => match mx with
      | none => Bool.rec (motive := fun _ => R) (.fail 447) (κ (.osl p k c) pc) (osl0 pc.rg (.osl p k c) && (nilR pc.rg l && nilR pc.rg hi))
      | some m => .fail 430
    | _ => .fail 431) (Nat.beq s (nat_lit 1))
  | _ => .fail 432
def isSym (x : AV) : Bool := match x with
  | .ssl _ _ _ _ _ => true
  | .fsl _ _ _ _ => true
  | .osl _ _ _ => true
  | _ => false
def sliceX (T : TypeId) (h : Tr AObj) (pc : PC) (x : AV) (lo hi mx : Option AV) (κ : AV → PC → R) : R := Bool.rec (motive := fun _ => R) (sliceR P T h pc x lo hi mx κ) (sliceA P T h x lo hi mx fun v => κ v pc) (notF (isSym x) && (litV lo && (litV hi && litV mx)))
/-- the address of an element of such a slice -/
def ixR (T : TypeId) (pc : PC) (x i : AV) (κ : AV → PC → R) : R := optK (ixOf P T) 433 fun d => match d with
  | .sli e s => match x with
    | .ssl id _ off len _ => asNat i fun i => litN off fun off => Bool.rec (motive := fun _ => R) (.fail 434) (leD pc (natS (Nat.succ i)) len fun b pc => Bool.rec (motive := fun _ => R) (.fail 435) (forceN (Nat.add off i) fun n => κ (.ptr id n) pc) b) (Nat.beq s (nat_lit 1))
    | _ => .fail 436
  | _ => .fail 437
def ixX (T : TypeId) (pc : PC) (x i : AV) (κ : AV → PC → R) : R := Bool.rec (motive := fun _ => R) (ixAddr P T x i fun v => κ v pc) (ixR P T pc x i κ) (isSym x)
/-- the entry at which one stands -/
def lastN (l : List Nat) : Option Nat := List.rec (motive := fun _ => Option Nat) none (fun n r ih => match r with
  | [] => some n
  | _ => ih) l
def bornK (n : Nat) (es : List (AV × AV × Nat)) (κ : AV → R) : R := List.rec (motive := fun _ => R) (.fail 250) (fun e _ ih => Bool.rec (motive := fun _ => R) ih (κ (.tup [e.1, e.2.1])) (Nat.beq e.2.2 n)) es
def entI (h : Tr AObj) (κ : AV → R) (o : AObj) : R := match o with
  | .iter m _ seen last => optK m 251 fun i => optK (lastN seen) 252 fun n => mapK h i fun es c => Bool.rec (motive := fun _ => R) (.fail 253) (bornK n es κ) (Nat.beq c last)
  | _ => .fail 254
def entA (h : Tr AObj) (x : AV) (κ : AV → R) : R := ptrV x (nat_lit 255) fun id off => Bool.rec (motive := fun _ => R) (.fail 256) (optK (h.get id) 257 (entI h κ)) (Nat.beq off (nat_lit 0))
/-! interfaces -/
def ifaceA (T : TypeId) (x : AV) (κ : AV → R) : R := optK (P.underlying T) 210 fun d => match d with
  | .interface _ => .fail 211
  | _ => κ (.iface T x)
def asHit (ok : Bool) (v : AV) (κ : AV → R) : R := κ (Bool.rec (motive := fun _ => AV) v (.tup [v, .bool (.lit true)]) ok)
def asMiss (T : TypeId) (ok : Bool) (κ : AV → R) : R := Bool.rec (motive := fun _ => R) (.fail 212) (optK (zeroA P T) 213 fun z => κ (.tup [z, .bool (.lit false)])) ok
def isSomeF {α : Type} (o : Option α) : Bool := Option.rec (motive := fun _ => Bool) false (fun _ => true) o
def asTo (T : TypeId) (ok : Bool) (t : TypeId) (x v : AV) (κ : AV → R) (d : TypeDesc) : R := match d with
  | .interface want => optK (P.info? t) 214 fun i => Bool.rec (motive := fun _ => R) (asHit ok x κ) (asMiss P T ok κ) (isSomeF (Instr.missingMethod want i.methods))
  | _ => Bool.rec (motive := fun _ => R) (asMiss P T ok κ) (asHit ok v κ) (Nat.beq t T)
def assertA (x : AV) (T : TypeId) (ok : Bool) (κ : AV → R) : R := optK (P.underlying T) 215 fun d => match x with
  | .iface t v => asTo P T ok t (.iface t v) v κ d
  | .raw .nilIface => asMiss P T ok κ
  | _ => .fail 216
/-- a method of what lies in an interface -/
def methA (t : TypeId) (name : String) : Option FuncId := match P.info? t with
  | some i => match i.methods.find? (·.name == name) with
    | some m => match m.path.toList with
      | [] => match m.func with
        | some (f, pr) => match P.underlying t with
          | some (.pointer _) => Bool.rec (motive := fun _ => Option FuncId) none (some f) pr
          | some _ => Bool.rec (motive := fun _ => Option FuncId) (some f) none pr
          | none => none
        | none => none
      | _ => none
    | none => none
  | none => none

/-- a method of what is embedded, as it is, in what a pointer in an interface points to: the function, the struct, the field -/
def methB (t : TypeId) (name : String) : Option (FuncId × TypeId × Nat) := match P.info? t with
  | some i => match i.methods.find? (·.name == name) with
    | some m => match m.path.toList with
      | [st] => match m.func with
        | some (f, true) => match fieldA P st.struct st.index with
          | some (_, ft) => match P.underlying ft with
            | some (.pointer _) => none
            | some _ => Bool.rec (motive := fun _ => Option (FuncId × TypeId × Nat)) none (some (f, st.struct, st.index)) st.deref
            | none => none
          | none => none
        | _ => none
      | _ => none
    | none => none
  | none => none
/-- an interface held against the literal nil -/
def isNilC (o : Operand) : Bool := match o with
  | .const .nilIface => true
  | _ => false
def nilI (x : AV) : Option Bool := match x with
  | .iface _ _ => some false
  | .raw .nilIface => some true
  | _ => none
def eqNil (op : BinOp) (T : TypeId) (x : AV) (κ : AV → R) : R := optK (P.underlying T) 260 fun d => match d with
  | .interface _ => optK (nilI x) 261 fun b => match op with
    | .eql => κ (.bool (.lit b))
    | .neq => κ (.bool (.lit (notF b)))
    | _ => .fail 262
  | _ => .fail 263
/-- rows of numbers, held against each other -/
def isAggV (x : AV) : Bool := match x with
  | .agg _ => true
  | _ => false
def isEqOp (op : BinOp) : Bool := match op with
  | .eql | .neq => true
  | _ => false
def eqlB (op : BinOp) (b : Bool) : Bool := match op with
  | .eql => b
  | _ => notF b
def eqP (op : BinOp) (T : TypeId) (x y : AV) (pc : PC) (κ : AV → PC → R) : R := optK (flatT P T) 203 fun n => Bool.rec (motive := fun _ => R) (.fail 204) (aggV x (nat_lit 206) fun l => aggV y (nat_lit 206) fun m => Bool.rec (motive := fun _ => R) (.fail 207) (eqCells l m pc fun b pc => κ (.bool (.lit (eqlB op b))) pc) (Nat.beq (lenC l) n)) (notF (P.eqGuardType P.depth T))
abbrev binN (op : BinOp) (T : TypeId) (h : Tr AObj) (nl : Bool) (x y : AV) (κ : AV → R) : R := Bool.rec (motive := fun _ => R) (binA P op T h x y κ) (eqNil P op T x κ) nl
abbrev binM (op : BinOp) (T : TypeId) (h : Tr AObj) (nl : Bool) (x : AV) (pc : PC) (κ : AV → PC → R) (y : AV) : R := binN P op T h nl x y fun v => fitV pc.rg v fun v => κ v pc
/-- two numbers, or rows of numbers where they are held against each other; nl: the second one is the literal nil -/
def bopQ (op : BinOp) (T : TypeId) (h : Tr AObj) (nl : Bool) (x y : AV) (pc : PC) (κ : AV → PC → R) : R := Bool.rec (motive := fun _ => R) (Bool.rec (motive := fun _ => R) (binM P op T h nl x pc κ y) (litR pc.rg y (binM P op T h nl x pc κ)) (isShift op)) (eqP P op T x y pc κ) (isEqOp op && isAggV x)
/-- quiet operations -/
abbrev qCall (h : Tr AObj) (t : Ts) (pc : PC) (κ : AV → PC → R) (c : Call) : R := match c.callee with
  | .builtin b => opds t c.args.toList fun l => bltQ P b c.argTypes h l pc κ
  | _ => .fail 80
abbrev evQ (h : Tr AObj) (t : Ts) (pc : PC) (op : Op) (κ : AV → PC → R) : R :=
  Op.rec (motive := fun _ => Program → Tr AObj → Ts → PC → (AV → PC → R) → R)
    (fun x P h t pc κ => opd t x fun v => κ v pc)
    (fun x P h t pc κ => opd t x fun v => κ v pc)
    (fun c a b P h t pc κ => opd t c fun c => opd t a fun a => opd t b fun b => asBoolA c fun c => decK pc c fun c pc => κ (Bool.rec (motive := fun _ => AV) b a c) pc)
    (fun _ _ _ _ _ _ => .fail 8103)
    (fun _ _ _ _ _ _ _ => .fail 8104)
    (fun T parts P h t pc κ => buildA P T t parts fun v => κ v pc)
    (fun _ _ _ _ _ _ _ _ => .fail 8106)
    (fun _ _ _ _ _ _ _ _ _ => .fail 8107)
    (fun T a P h t pc κ => opd t a fun v => loadA P h T v fun v => κ v pc)
    (fun _ _ _ _ _ _ _ _ => .fail 8109)
    (fun _ _ _ _ _ _ => .fail 8110)
    (fun _ _ _ _ _ _ => .fail 8111)
    (fun x P h t pc κ => opd t x fun v => nilA (fun v => κ v pc) v)
    (fun op T x oy _ P h t pc κ => opd t x fun x => opd t oy fun y => bopQ P op T h (isNilC oy) x y pc κ)
    (fun op _ x P h t pc κ => opd t x fun x => unA op x fun v => κ v pc)
    (fun src dst x P h t pc κ => opd t x fun x => convQ P src dst h x fun v => fitV pc.rg v fun v => κ v pc)
    (fun _ _ _ _ _ _ _ => .fail 8116)
    (fun T x P h t pc κ => opd t x fun x => ifaceA P T x fun v => κ v pc)
    (fun fn first captured P h t pc κ => opds t first.toList fun a => opds t captured.toList fun b => κ (.fn fn a b) pc)
    (fun _ _ _ _ _ _ _ => .fail 8119)
    (fun _ _ _ _ _ _ _ => .fail 8120)
    (fun _ _ _ _ _ _ _ _ => .fail 8121)
    (fun T x lo hi mx P h t pc κ => opd t x fun x => opds t lo.toList fun lo' => opds t hi.toList fun hi' => opds t mx.toList fun mx' => sliceX P T h pc x lo'.head? hi'.head? mx'.head? κ)
    (fun T x f P h t pc κ => opd t x fun x => fldAddr P T f x fun v => κ v pc)
    (fun T x f P h t pc κ => opd t x fun x => fldA P T f x fun v => κ v pc)
    (fun T x i P h t pc κ => opd t x fun x => opd t i fun i => litR pc.rg i fun i => ixX P T pc x i κ)
    (fun T x i P h t pc κ => opd t x fun x => opd t i fun i => litR pc.rg i fun i => ixA P T x i fun v => κ v pc)
    (fun T x i ok P h t pc κ => opd t x fun x => opd t i fun i => lookA P T h x i ok pc κ)
    (fun _ _ _ _ _ _ _ _ _ => .fail 8128)
    (fun _ _ _ _ _ _ _ _ => .fail 8129)
    (fun _ _ _ _ _ _ _ _ _ => .fail 8130)
    (fun _ _ _ _ _ _ _ => .fail 8131)
    (fun _ _ _ _ _ _ _ => .fail 8132)
    (fun x P h t pc κ => opd t x fun x => entA h x fun v => κ v pc)
    (fun x _ T ok P h t pc κ => opd t x fun x => assertA P x T ok fun v => κ v pc)
    (fun x n P h t pc κ => opd t x fun x => extA x n fun v => κ v pc)
    (fun c P h t pc κ => qCall P h t pc κ c)
    (fun _ _ _ _ _ _ => .fail 8137)
    (fun _ _ _ _ _ _ => .fail 8138)
    (fun _ _ _ _ _ _ => .fail 8139)
    (fun _ _ _ _ _ _ _ => .fail 8140)
    (fun _ _ _ _ _ _ _ _ => .fail 8141)
    (fun _ _ _ _ _ _ _ => .fail 8142)
    op P h t pc κ
end
end
end

end Go.Proofs.YticednpolhnneaaGreat
