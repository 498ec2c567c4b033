/-
  A run reckoned ahead: operations with an effect, code, calls. The definitions alone.
-/
import Derived.Test.YticednpolhnneaaGreatSxa
set_option linter.unusedVariables false
set_option linter.unusedSimpArgs false
namespace Go.Proofs.YticednpolhnneaaGreat
open Go

noncomputable section
/-! writing -/
def setL (c : Tr AV) (off : Nat) (l : List AV) : Tr AV := List.rec (motive := fun _ => Nat → Tr AV → Tr AV) (fun _ c => c) (fun v _ ih off c => ih (Nat.succ off) (c.set off v)) l off c
def trOf (l : List AV) : Tr AV := setL .nil (nat_lit 0) l
def lenL (l : List AV) : Nat := List.rec (motive := fun _ => Nat) (nat_lit 0) (fun _ _ n => Nat.succ n) l
def allOne (l : List AV) : Bool := List.rec (motive := fun _ => Bool) true (fun v _ b => Bool.rec (motive := fun _ => Bool) false b (oneB v)) l
def newK (s : St) (n : Nat) (c : Tr AV) (d : Option AV) (T : TypeId) (row : Bool) (κ : Nat → St → R) : R := St.rec (motive := fun _ => R) (fun hp nx pc => forceN nx fun nx => κ nx ⟨hp.set nx (.cells n c d T row), Nat.succ nx, pc⟩) s
def newL (s : St) (l : List AV) (T : TypeId) (row : Bool) (κ : Nat → St → R) : R := Bool.rec (motive := fun _ => R) (.fail 100) (forceN (lenL l) fun n => newK s n (trOf l) none T row κ) (allOne l)
def stP (s : St) (id off : Nat) (l : List AV) (κ : St → R) (n : Nat) (c : Tr AV) (d : Option AV) (T : TypeId) (r : Bool) : R :=
  Bool.rec (motive := fun _ => R) (.fail 101) (Bool.rec (motive := fun _ => R) (.fail 102) (St.rec (motive := fun _ => R) (fun hp nx pc => κ ⟨hp.set id (.cells n (setL c off l) d T r), nx, pc⟩) s) (Nat.ble (Nat.add off (lenL l)) n)) (allOne l)
/-- cells l are put at a place -/
def storeL (s : St) (id off : Nat) (l : List AV) (κ : St → R) : R := objK s.hp id (stP s id off l κ)

section
variable (P : Program)
def sizeK (T : TypeId) (l : List AV) (κ : R) : R := optK (sizeA P T) 103 fun n => Bool.rec (motive := fun _ => R) (.fail 104) κ (Nat.beq (lenL l) n)
def storeA (T : TypeId) (s : St) (a v : AV) (κ : St → R) : R := ptrV a (nat_lit 106) fun id off => cellsK (.fail 105) v fun l => sizeK P T l (storeL s id off l κ)
def ptr0 (κ : AV → St → R) (id : Nat) (s : St) : R := κ (.ptr id (nat_lit 0)) s
def allocA (T : TypeId) (s : St) (κ : AV → St → R) : R := optK (zeroA P T) 107 fun z => cellsK (.fail 108) z fun l => newL s l T false (ptr0 κ)
def boxA (T : TypeId) (v : AV) (s : St) (κ : AV → St → R) : R := cellsK (.fail 109) v fun l => newL s l T false (ptr0 κ)
def repL (z : List AV) (n : Nat) : List AV := Nat.rec (motive := fun _ => List AV) [] (fun _ r => z ++ r) n
def buildS (T : TypeId) (len : Nat) (t : Ts) (parts : Array (Nat × Operand)) (s : St) (κ : AV → St → R) : R := optK (ixOf P T) 110 fun d => match d with
  | .sli e sz => Bool.rec (motive := fun _ => R) (.fail 111) (optK (zeroA P e) 112 fun z => cellsK (.fail 113) z fun z => opdParts t parts.toList fun ps =>
      Bool.rec (motive := fun _ => R) (.fail 114) (fillA (fun i => some (i * sz, sz)) ps (repL z len) fun l => newL s l e false fun id s => κ (.sl id (nat_lit 0) len (some len)) s) (Nat.beq (lenL z) sz)) (Nat.ble (Nat.mul len sz) (nat_lit 16777216) && !(Nat.beq sz (nat_lit 0)))
  | _ => .fail 115
def bytesA (T : TypeId) : Option Nat := (P.info? T).map fun i => i.bytes
def makeS (T : TypeId) (l c : AV) (s : St) (κ : AV → St → R) : R := asNat l fun l => asNat c fun c => optK (ixOf P T) 116 fun d => match d with
  | .sli e sz => optK (bytesA P e) 117 fun by_ => Bool.rec (motive := fun _ => R) (.fail 118) (optK (zeroA P e) 119 fun z => cellsK (.fail 120) z fun z => match z with
      | [v] => Bool.rec (motive := fun _ => R) (.fail 121) (newK s c .nil (some v) e false fun id s => κ (.sl id (nat_lit 0) l (some c)) s) (oneB v && Nat.beq sz (nat_lit 1))
      | z => Bool.rec (motive := fun _ => R) (.fail 122) (newL s (repL z c) e false fun id s => κ (.sl id (nat_lit 0) l (some c)) s) (Nat.beq (lenL z) sz && !(Nat.beq sz (nat_lit 0)))) (Nat.ble l c && (Nat.ble (Nat.mul by_ c) (nat_lit 281474976710656) && Nat.ble c (nat_lit 9223372036854775807)))
  | _ => .fail 123
/-- the first n of a slice's or a string's cells, of size s each -/
def firstK (h : Tr AObj) (s n : Nat) (x : AV) (κ : List AV → R) : R := match x with
  | .sl id off _ _ => objK h id fun m c d _ _ => Bool.rec (motive := fun _ => R) (.fail 124) (ldN c d off (Nat.mul n s) κ) (Nat.ble (Nat.add off (Nat.mul n s)) m)
  | .emp _ _ _ => Bool.rec (motive := fun _ => R) (.fail 124) (κ []) (Nat.beq n (nat_lit 0))
  | .em0 _ _ _ => Bool.rec (motive := fun _ => R) (.fail 124) (κ []) (Nat.beq n (nat_lit 0))
  | .raw (.slice none _ _) => Bool.rec (motive := fun _ => R) (.fail 124) (κ []) (Nat.beq n (nat_lit 0))
  | .raw (.string b) => Bool.rec (motive := fun _ => R) (.fail 124) (κ ((b.data.toList.take n).map fun x => .int .u8 (.lit (.ofNat x.toNat)))) (Nat.beq s (nat_lit 1))
  | _ => .fail 125
def lenOfK (x : AV) (κ : Nat → R) : R := match x with
  | .sl _ _ len _ => κ len
  | .emp _ _ _ => κ (nat_lit 0)
  | .em0 _ _ _ => κ (nat_lit 0)
  | .raw (.slice _ n _) => κ n
  | .raw (.string b) => κ b.size
  | _ => .fail 126
def copyD (s : St) (d : AV) (n : Nat) (κ : AV → St → R) (l : List AV) : R := match d with
  | .sl id off _ _ => storeL s id off l fun s => κ (.int .i64 (.lit (.ofNat n))) s
  | .emp _ _ _ => κ (.int .i64 (.lit (.ofNat n))) s
  | .em0 _ _ _ => κ (.int .i64 (.lit (.ofNat n))) s
  | .raw (.slice none _ _) => κ (.int .i64 (.lit (.ofNat n))) s
  | _ => .fail 128
def isNilT (c : Tr AV) : Bool := Tr.rec (motive := fun _ => Bool) true (fun _ _ _ _ _ => false) c
def litU (v : Option AV) : Option Int := match v with
  | some (.int .u8 (.lit n)) => some n
  | _ => none
def eqU (a b : Option Int) : Bool := match a with
  | some x => match b with
    | some y => beqF x y
    | none => false
  | none => false
/-- both rows are as they were made, of one byte: nothing turns -/
def same0 (s : St) (d x : AV) (n : Nat) (no yes : R) : R := match d with
  | .sl j o _ _ => match x with
    | .sl i q _ _ => objK s.hp j fun m c e _ _ => objK s.hp i fun m' c' e' _ _ => Bool.rec (motive := fun _ => R) no (Bool.rec (motive := fun _ => R) no yes (Nat.ble (Nat.add o n) m && Nat.ble (Nat.add q n) m')) (isNilT c && (isNilT c' && eqU (litU e) (litU e')))
    | _ => no
  | _ => no
def copyG (sz n : Nat) (s : St) (d x : AV) (κ : AV → St → R) : R := firstK s.hp sz n x (copyD s d n κ)
def copyA (T : TypeId) (s : St) (d x : AV) (κ : AV → St → R) : R := optK (ixOf P T) 127 fun t => match t with
  | .sli e sz => lenOfK x fun m => lenOfK d fun dl => forceN (minF m dl) fun n => Bool.rec (motive := fun _ => R) (copyG sz n s d x κ) (same0 s d x n (copyG sz n s d x κ) (κ (.int .i64 (.lit (.ofNat n))) s)) (Nat.beq sz (nat_lit 1))
  | _ => .fail 129
def killS (s : St) (id : Nat) : St := ⟨s.hp.set id .dead, s.nx, s.pc⟩
/-- a grown row: so many elements, of size sz; the bytes of one -/
def growOk (e : TypeId) (sz need : Nat) : Bool := match bytesA P e with
  | some by_ => match zeroA P e with
    | some z => cellsK false z fun zl => Nat.beq (lenL zl) sz && (!(Nat.beq by_ (nat_lit 0)) && (Nat.blt (nat_lit 0) sz && (Nat.ble (Nat.mul (Nat.add (Nat.mul (nat_lit 2) need) (nat_lit 1000)) by_) (nat_lit 281474976710656))))
    | none => false
  | none => false
def growK (s : St) (e : TypeId) (sz need : Nat) (old new : List AV) (κ : AV → St → R) : R := Bool.rec (motive := fun _ => R) (.fail 127) (newL s (old ++ new) e true fun id s => κ (.sl id (nat_lit 0) need none) s) (growOk P e sz need)
/-- append: l the new cells, n of them of size sz -/
def appC (e : TypeId) (sz n : Nat) (s : St) (κ : AV → St → R) (l : List AV) (id off len c : Nat) : R := forceN (Nat.add len n) fun m => Bool.rec (motive := fun _ => R)
  (firstK s.hp sz len (.sl id off len (some c)) fun old => growK P s e sz m old l κ)
  (storeL s id (Nat.add off (Nat.mul len sz)) l fun s => κ (.sl id off m (some c)) s) (Nat.ble m c)
/-- a row that begins at its block's beginning is grown: its cells are kept -/
def growT (s : St) (id : Nat) (e : TypeId) (sz m k : Nat) (c : Tr AV) (d : Option AV) (l : List AV) (κ : AV → St → R) : R := Bool.rec (motive := fun _ => R) (.fail 127) (forceN (Nat.add k (lenL l)) fun n => newK (killS s id) n (setL c k l) d e true fun id s => κ (.sl id (nat_lit 0) m none) s) (growOk P e sz m && allOne l)
def appU (e : TypeId) (sz n : Nat) (s : St) (κ : AV → St → R) (l : List AV) (id off len : Nat) : R := forceN (Nat.add len n) fun m => objK s.hp id fun k c d T r => Bool.rec (motive := fun _ => R) (.fail 128)
  (Bool.rec (motive := fun _ => R)
    (Bool.rec (motive := fun _ => R) (.fail 130) (storeL s id (Nat.add off (Nat.mul len sz)) l fun s => κ (.sl id off m none) s) (Nat.ble (Nat.add off (Nat.mul m sz)) k))
    (Bool.rec (motive := fun _ => R) (firstK s.hp sz len (.sl id off len none) fun old => growK P (killS s id) e sz m old l κ) (growT P s id e sz m k c d l κ) (Nat.beq off (nat_lit 0))) (Nat.beq (Nat.add off (Nat.mul len sz)) k)) (Nat.beq T e && r)
def appE (e : TypeId) (sz n : Nat) (s : St) (κ : AV → St → R) (l : List AV) (id off : Nat) : R := objK s.hp id fun k _ _ T r => Bool.rec (motive := fun _ => R) (.fail 131) (growK P (killS s id) e sz n [] l κ) (Nat.beq off k && (Nat.beq T e && r))
def appK (e : TypeId) (sz n : Nat) (s : St) (x : AV) (κ : AV → St → R) (l : List AV) : R := match x with
  | .raw (.slice none 0 0) => Bool.rec (motive := fun _ => R) (growK P s e sz n [] l κ) (κ x s) (Nat.beq n (nat_lit 0))
  | .sl id off len (some c) => appC P e sz n s κ l id off len c
  | .sl id off len none => appU P e sz n s κ l id off len
  | .emp id _ off => Bool.rec (motive := fun _ => R) (appE P e sz n s κ l id off) (κ x s) (Nat.beq n (nat_lit 0))
  | .em0 id off0 off => Bool.rec (motive := fun _ => R) (growK P s e sz n [] l κ) (κ x s) (Nat.beq n (nat_lit 0))
  | _ => .fail 132
def notIntT (T : Option TypeId) : Bool := match T with
  | some T => match P.underlying T with
    | some (.int _) => false
    | some _ => true
    | none => false
  | none => false
/-- a new row of the cells that stand at another one's beginning: they are shared -/
def shK (e : TypeId) (sz n : Nat) (s : St) (κ : AV → St → R) (id : Nat) : R := objK s.hp id fun k c d _ _ => Bool.rec (motive := fun _ => R) (.fail 124) (Bool.rec (motive := fun _ => R) (.fail 127) (forceN (Nat.mul n sz) fun m => newK s m c d e true fun id s => κ (.sl id (nat_lit 0) n none) s) (growOk P e sz n)) (Nat.ble (Nat.mul n sz) k)
def appG (e : TypeId) (sz n : Nat) (s : St) (x y : AV) (κ : AV → St → R) : R := firstK s.hp sz n y (appK P e sz n s x κ)
def appN (e : TypeId) (sz n : Nat) (s : St) (x y : AV) (κ : AV → St → R) : R := match x with
  | .raw (.slice none 0 0) => match y with
    | .sl id off len cap => Bool.rec (motive := fun _ => R) (appG P e sz n s (.raw (.slice none 0 0)) (.sl id off len cap) κ) (shK P e sz n s κ id) (Nat.beq off (nat_lit 0) && notF (Nat.beq n (nat_lit 0)))
    | y => appG P e sz n s (.raw (.slice none 0 0)) y κ
  | x => appG P e sz n s x y κ
def appA (Ts : Array TypeId) (s : St) (x y : AV) (κ : AV → St → R) : R := optK (Ts[0]?) 133 fun T => optK (ixOf P T) 134 fun t => match t with
  | .sli e sz => Bool.rec (motive := fun _ => R) (.fail 135) (lenOfK y fun n => appN P e sz n s x y κ) (notIntT P (Ts[1]?))
  | _ => .fail 138
/-! ropes -/
def newP (s : St) (o : AObj) (κ : Nat → St → R) : R := St.rec (motive := fun _ => R) (fun hp nx pc => forceN nx fun nx => κ nx ⟨hp.set nx o, Nat.succ nx, pc⟩) s
def isU8 (e : TypeId) : Bool := match intOfT P e with
  | some .u8 => true
  | _ => false
def zeroU (e : TypeId) : Bool := match zeroA P e with
  | some (.int .u8 (.lit (.ofNat 0))) => true
  | _ => false
def oneU (e : TypeId) : Bool := match bytesA P e with
  | some 1 => true
  | _ => false
/-- the elements are bytes -/
def byteT (e sz : TypeId) : Bool := isU8 P e && (Nat.beq sz (nat_lit 1) && (oneU P e && zeroU P e))
/-- known to lie between 0 and 2^40 -/
def ltB (rg : List (Int × Int)) (e : SI) : Bool := opt1' (rngS rg e) false fun l h => pos0 l && leF h (.ofNat (nat_lit 1099511627776))
def makeR (T : TypeId) (l c : AV) (s : St) (κ : AV → St → R) : R := intV l (nat_lit 450) fun _ l => intV c (nat_lit 450) fun _ c => optK (ixOf P T) 451 fun d => match d with
  | .sli e sz => Bool.rec (motive := fun _ => R) (.fail 452) (newP s (.rope [.fil l zeroS] e false) fun id s => κ (.ssl id zeroS zeroS l (some l)) s) (SI.beq l c && (ltB s.pc.rg l && byteT P e sz))
  | _ => .fail 453
def makeX (T : TypeId) (l c : AV) (s : St) (κ : AV → St → R) : R := Bool.rec (motive := fun _ => R) (makeR P T l c s κ) (makeS P T l c s κ) (litV (some l) && litV (some c))
def appCh (a : List Ch) : List Ch → (List Ch → R) → R := List.rec (motive := fun _ => List Ch → (List Ch → R) → R) (fun b κ => κ b) (fun c _ ih b κ => ih b fun r => κ (c :: r)) a
def wrtC (s : St) (pc : PC) (id : Nat) (off n : SI) (cs ws : List Ch) (T : TypeId) (r : Bool) (κ : St → R) : R := takeR ws off pc fun a pc => plE pc off n fun e => dropR ws e pc fun b pc => appCh cs b fun cb => appCh a cb fun all => κ ⟨s.hp.set id (.rope all T r), s.nx, pc⟩
def one1 (T : TypeId) (r : Bool) : Bool := Bool.rec (motive := fun _ => Bool) true (match sizeA P T with | some n => Nat.beq n (nat_lit 1) | none => false) r
def wrtR (s : St) (pc : PC) (id : Nat) (off n : SI) (cs : List Ch) (κ : St → R) : R := optK (s.hp.get id) 454 fun o => match o with
  | .rope ws T r => wrtC s pc id off n cs ws T r κ
  | .cells m c d T r => Bool.rec (motive := fun _ => R) (.fail 455) (cellR c d (nat_lit 0) m fun ws => wrtC s pc id off n cs ws T r κ) (one1 P T r)
  | _ => .fail 456
/-! where all of it is told byte by byte, it becomes a row of cells -/
def avsB (l : List SI) : List AV := List.rec (motive := fun _ => List AV) [] (fun e _ r => .int .u8 e :: r) l
def appSI (a : List SI) : List SI → (List SI → R) → R := List.rec (motive := fun _ => List SI → (List SI → R) → R) (fun b κ => κ b) (fun c _ ih b κ => ih b fun r => κ (c :: r)) a
def bsOf (cs : List Ch) (no : R) : (List SI → R) → R := List.rec (motive := fun _ => (List SI → R) → R) (fun κ => κ []) (fun c _ ih κ => Ch.rec (motive := fun _ => R) (fun l => ih fun r => appSI l r κ) (fun _ _ => no) (fun _ _ _ => no) c) cs
def wrtL (s : St) (pc : PC) (id off : Nat) (n : SI) (cs : List Ch) (κ : St → R) : R := bsOf cs (wrtR P s pc id (natS off) n cs κ) fun l => Bool.rec (motive := fun _ => R) (storeL ⟨s.hp, s.nx, pc⟩ id off (avsB l) κ) (wrtR P s pc id (natS off) n cs κ) (isRope (s.hp.get id))
def copyW (s : St) (pc : PC) (d x : AV) (n : SI) (κ : AV → St → R) : R := readR s.hp pc x fun cs pc => takeR cs n pc fun cs pc => match d with
  | .sl id off _ _ => wrtL P s pc id off n cs fun s => κ (.int .i64 n) s
  | .ssl id _ off _ _ => wrtR P s pc id off n cs fun s => κ (.int .i64 n) s
  | _ => .fail 457
def copyN (s : St) (pc : PC) (d x : AV) (n : SI) (κ : AV → St → R) : R := Bool.rec (motive := fun _ => R) (copyW P s pc d x n κ) (κ (.int .i64 zeroS) ⟨s.hp, s.nx, pc⟩) (isZ n)
def copyR (T : TypeId) (s : St) (d x : AV) (κ : AV → St → R) : R := optK (ixOf P T) 458 fun t => match t with
  | .sli e sz => Bool.rec (motive := fun _ => R) (.fail 459) (lenS s.pc x fun lx => lenS s.pc d fun ld => leD s.pc lx ld fun b pc => copyN P s pc d x (Bool.rec (motive := fun _ => SI) ld lx b) κ) (Nat.beq sz (nat_lit 1))
  | _ => .fail 460
def copyX (T : TypeId) (s : St) (d x : AV) (κ : AV → St → R) : R := Bool.rec (motive := fun _ => R) (copyA P T s d x κ) (copyR P T s d x κ) (ropy s.hp d || (ropy s.hp x || (isOsl d || isOsl x)))
def totR (cs : List Ch) (pc : PC) : (SI → R) → R := List.rec (motive := fun _ => (SI → R) → R) (fun κ => κ zeroS) (fun c _ ih κ => lenH c fun m => ih fun t => plE pc m t κ) cs
def growR (s : St) (e : TypeId) (m : SI) (cs : List Ch) (κ : AV → St → R) : R := Bool.rec (motive := fun _ => R) (.fail 461) (newP s (.rope cs e true) fun id s => κ (.ssl id zeroS zeroS m none) s) (ltB s.pc.rg m)
def growX (s : St) (e : TypeId) (m : SI) (cs : List Ch) (κ : AV → St → R) : R := bsOf cs (growR s e m cs κ) fun l => forceN (lenSI l) fun n => Bool.rec (motive := fun _ => R) (growR s e m cs κ) (growK P s e (nat_lit 1) n [] (avsB l) κ) (SI.beq m (natS n))
def endK (o : AObj) (e : TypeId) (pc : PC) (off len : SI) (κ : PC → R) : R := match o with
  | .rope cs T r => Bool.rec (motive := fun _ => R) (.fail 463) (totR cs pc fun t => plE pc off len fun q => leD pc t q fun b pc => Bool.rec (motive := fun _ => R) (.fail 464) (κ pc) b) (Nat.beq T e && r)
  | .cells n c d T r => Bool.rec (motive := fun _ => R) (.fail 463) (plE pc off len fun q => leD pc (natS n) q fun b pc => Bool.rec (motive := fun _ => R) (.fail 464) (κ pc) b) (Nat.beq T e && r)
  | _ => .fail 465
def appT (e : TypeId) (s : St) (pc : PC) (id : Nat) (off len ny : SI) (cy : List Ch) (κ : AV → St → R) : R := optK (s.hp.get id) 462 fun o => endK o e pc off len fun pc => readO o pc off len fun cx pc => plE pc len ny fun m => appCh cx cy fun cs => growX P (killS ⟨s.hp, s.nx, pc⟩ id) e m cs κ
def appW (e : TypeId) (s : St) (pc : PC) (x : AV) (ny : SI) (cy : List Ch) (κ : AV → St → R) : R := match x with
  | .raw (.slice none 0 0) => growX P ⟨s.hp, s.nx, pc⟩ e ny cy κ
  | .sl id off 0 (some 0) => growX P ⟨s.hp, s.nx, pc⟩ e ny cy κ
  | .sl id off len none => appT P e s pc id (natS off) (natS len) ny cy κ
  | .ssl id _ off len none => Bool.rec (motive := fun _ => R) (appT P e s pc id off len ny cy κ) (.fail 466) (isZ len)
  | _ => .fail 467
/-- nothing is put behind it -/
def zeroX (e : TypeId) (s : St) (pc : PC) (x : AV) (κ : AV → St → R) : R := match x with
  | .ssl id o0 off len none => spanK s.hp e pc id off len fun pc => κ (.ssl id o0 off len none) ⟨s.hp, s.nx, pc⟩
  | .sl id off len none => spanK s.hp e pc id (natS off) (natS len) fun pc => κ (.sl id off len none) ⟨s.hp, s.nx, pc⟩
  | x => Bool.rec (motive := fun _ => R) (.fail 472) (κ x ⟨s.hp, s.nx, pc⟩) (isSlV x)
def appR (Ts : Array TypeId) (s : St) (x y : AV) (κ : AV → St → R) : R := optK (Ts[0]?) 468 fun T => optK (ixOf P T) 469 fun t => match t with
  | .sli e sz => Bool.rec (motive := fun _ => R) (.fail 470) (readR s.hp s.pc y fun cy pc => lenS pc y fun ny => leD pc ny zeroS fun b pc => Bool.rec (motive := fun _ => R) (appW P e s pc x ny cy κ) (zeroX e s pc x κ) b) (notIntT P (Ts[1]?) && byteT P e sz)
  | _ => .fail 471
/-- nothing is put behind it -/
def app0K (e sz : TypeId) (s : St) (x : AV) (κ : AV → St → R) : R := match x with
  | .sl id off len none => objK s.hp id fun k c d T r => Bool.rec (motive := fun _ => R) (.fail 473) (κ (.sl id off len none) s) (Nat.beq T e && (r && Nat.ble (Nat.add off (Nat.mul len sz)) k))
  | x => Bool.rec (motive := fun _ => R) (.fail 474) (κ x s) (isSlV x)
def app0 (Ts : Array TypeId) (s : St) (x : AV) (κ : AV → St → R) : R := optK (Ts[0]?) 475 fun T => optK (ixOf P T) 476 fun t => match t with
  | .sli e sz => Bool.rec (motive := fun _ => R) (.fail 477) (app0K e sz s x κ) (notIntT P (Ts[1]?))
  | _ => .fail 478
def appX (Ts : Array TypeId) (s : St) (x y : AV) (κ : AV → St → R) : R := Bool.rec (motive := fun _ => R) (Bool.rec (motive := fun _ => R) (appA P Ts s x y κ) (appR P Ts s x y κ) (ropy s.hp x || ropy s.hp y)) (app0 P Ts s x κ) (osl0 s.pc.rg y)
def bytesL (b : ByteArray) : List AV := b.data.toList.map fun x => .int .u8 (.lit (.ofNat x.toNat))
def strBytes (src T : TypeId) (x : AV) (s : St) (κ : AV → St → R) : R := match P.underlying src with
  | some .string => optK (ixOf P T) 139 fun t => match t with
    | .sli e sz => Bool.rec (motive := fun _ => R) (.fail 140) (match x with
        | .raw (.string b) => forceN b.size fun n => newL s (bytesL b) e true fun id s => κ (.sl id (nat_lit 0) n none) s
        | _ => .fail 141) ((match intOfT P e with | some .u8 => true | _ => false) && Nat.beq sz (nat_lit 1))
    | _ => .fail 142
  | _ => .fail 155
/-- bytes seen as bytes: they are marked -/
def markK (src dst : TypeId) (s : St) (κ : AV → St → R) (id off len : Nat) (cap : Option Nat) : R := optK (ixOf P dst) 190 fun t => match t with
  | .sli e sz => optK (P.underlying src) 193 fun _ => objK s.hp id fun n c d T r => Bool.rec (motive := fun _ => R) (.fail 191) (κ (.sl id off len cap) ⟨s.hp.set id (.cells n c d T true), s.nx, s.pc⟩)
      (Nat.beq src dst && ((match intOfT P e with | some .u8 => true | _ => false) && (notF r && (match sizeA P T with | some m => Nat.beq m (nat_lit 1) | none => false))))
  | _ => .fail 192
def convE (src dst : TypeId) (x : AV) (s : St) (κ : AV → St → R) : R := match x with
  | .sl id off len cap => markK P src dst s κ id off len cap
  | x => strBytes P src dst x s κ
def mapNew (s : St) (κ : AV → St → R) : R := match s with
  | .mk hp nx pc => forceN nx fun nx => κ (.map nx) ⟨hp.set nx (.map [] (nat_lit 0)), Nat.succ nx, pc⟩
def modL (es : List (AV × AV × Nat)) (i : Nat) (v : AV) : List (AV × AV × Nat) := es.modify i fun e => (e.1, v, e.2.2)
def putM (id : Nat) (es : List (AV × AV × Nat)) (c : Nat) (s : St) (pc : PC) (κ : St → R) : R := κ ⟨s.hp.set id (.map es c), s.nx, pc⟩
def setE (id : Nat) (k v : AV) (es : List (AV × AV × Nat)) (c : Nat) (s : St) (κ : St → R) (r : Option (Nat × AV)) (pc : PC) : R := match r with
  | some x => putM id (modL es x.1 v) c s pc κ
  | none => putM id (es ++ [(k, v, c)]) (Nat.succ c) s pc κ
def mapSet (T : TypeId) (s : St) (m k v : AV) (κ : St → R) : R := optK (mapTyA P T) 143 fun p => keyOk p.1 k (match m with
  | .map id => mapK s.hp id fun es c => findK p.1 k es (nat_lit 0) s.pc (setE id k v es c s κ)
  | _ => .fail 145)
/-- without the i-th -/
def cutL (es : List (AV × AV × Nat)) : Nat → List (AV × AV × Nat) := List.rec (motive := fun _ => Nat → List (AV × AV × Nat)) (fun _ => []) (fun e es ih i => Nat.rec (motive := fun _ => List (AV × AV × Nat)) es (fun i _ => e :: ih i) i) es
def delE (id : Nat) (es : List (AV × AV × Nat)) (c : Nat) (s : St) (κ : St → R) (r : Option (Nat × AV)) (pc : PC) : R := match r with
  | some x => putM id (cutL es x.1) c s pc κ
  | none => putM id es c s pc κ
def mapDel (T : TypeId) (s : St) (m k : AV) (κ : AV → St → R) : R := optK (mapTyA P T) 220 fun p => keyOk p.1 k (match m with
  | .map id => mapK s.hp id fun es c => findK p.1 k es (nat_lit 0) s.pc (delE id es c s (κ (.tup [])))
  | .raw (.map none) => κ (.tup []) s
  | _ => .fail 221)
def clearA (T : TypeId) (s : St) (x : AV) (κ : AV → St → R) : R := optK (P.underlying T) 222 fun d => match d with
  | .slice e => match x with
    | .raw (.slice none _ _) => κ (.tup []) s
    | .emp _ _ _ => κ (.tup []) s
    | .em0 _ _ _ => κ (.tup []) s
    | .sl id off len _ => Bool.rec (motive := fun _ => R) (optK (zeroA P e) 223 fun z => cellsK (.fail 224) z fun z => storeL s id off (repL z len) (κ (.tup []))) (κ (.tup []) s) (Nat.beq len (nat_lit 0))
    | _ => .fail 225
  | _ => .fail 226
/-! going over a map, of one entry at most at each step -/
def newO (s : St) (o : AObj) (κ : Nat → St → R) : R := St.rec (motive := fun _ => R) (fun hp nx pc => forceN nx fun nx => κ nx ⟨hp.set nx o, Nat.succ nx, pc⟩) s
def rangeA (T : TypeId) (s : St) (x : AV) (κ : AV → St → R) : R := optK (P.underlying T) 230 fun d => match d with
  | .map _ _ => match x with
    | .map id => mapK s.hp id fun _ c => newO s (.iter (some id) c [] c) (ptr0 κ)
    | .raw (.map none) => newO s (.iter none (nat_lit 0) [] (nat_lit 0)) (ptr0 κ)
    | _ => .fail 231
  | _ => .fail 232
def memN (n : Nat) (l : List Nat) : Bool := List.rec (motive := fun _ => Bool) false (fun m _ b => Bool.rec (motive := fun _ => Bool) b true (Nat.beq m n)) l
def leftL (seen : List Nat) (es : List (AV × AV × Nat)) : List (AV × AV × Nat) := List.rec (motive := fun _ => List (AV × AV × Nat)) [] (fun e _ ih => Bool.rec (motive := fun _ => List (AV × AV × Nat)) (e :: ih) ih (memN e.2.2 seen)) es
def allLate (last : Nat) (es : List (AV × AV × Nat)) : Bool := List.rec (motive := fun _ => Bool) true (fun e _ ih => Nat.ble last e.2.2 && ih) es
def goneB (seen : List Nat) (last : Nat) (es : List (AV × AV × Nat)) : Bool := match seen with
  | [] => false
  | _ => match es with
    | [] => false
    | es => allLate last es
def overK (κ : AV → R) : R := κ (.tup [.bool (.lit false)])
def nextE (id i since : Nat) (seen : List Nat) (clk : Nat) (s : St) (κ : AV → St → R) (l : List (AV × AV × Nat)) : R := match l with
  | [] => overK fun v => κ v s
  | [e] => Bool.rec (motive := fun _ => R) (.fail 233) (κ (.tup [.bool (.lit true), e.1, e.2.1]) ⟨s.hp.set id (.iter (some i) since (seen ++ [e.2.2]) clk), s.nx, s.pc⟩) (Nat.blt e.2.2 since)
  | _ => .fail 234
def nextI (id : Nat) (s : St) (κ : AV → St → R) (o : AObj) : R := match o with
  | .iter m since seen last => match m with
    | none => overK fun v => κ v s
    | some i => mapK s.hp i fun es c => Bool.rec (motive := fun _ => R) (nextE id i since seen c s κ (leftL seen es)) (.fail 235) (goneB seen last es)
  | _ => .fail 236
def nextA (isStr : Bool) (s : St) (x : AV) (κ : AV → St → R) : R := ptrV x (nat_lit 237) fun id off => Bool.rec (motive := fun _ => R) (.fail 238) (optK (s.hp.get id) 239 (nextI id s κ)) (notF isStr && Nat.beq off (nat_lit 0))

/-- a call -/
abbrev CallT := FuncId → List AV → St → (AV → St → R) → R
def fnG (f : Fn) : (FuncId → R) → R := match f with
  | .func g => fun κ => κ g
  | _ => fun _ => .fail 150
def fnV (v : AV) : (FuncId → List AV → List AV → R) → R := AV.rec (motive_1 := fun _ => (FuncId → List AV → List AV → R) → R) (motive_2 := fun _ => Unit) (fun _ _ => fun _ => .fail 150) (fun _ => fun _ => .fail 150) (fun _ _ => fun _ => .fail 150) (fun _ _ _ _ => fun _ => .fail 150) (fun _ _ _ => fun _ => .fail 150) (fun _ => fun _ => .fail 150) (fun f a b _ _ κ => fnG f fun g => κ g a b) (fun _ _ _ => fun _ => .fail 150) (fun _ _ => fun _ => .fail 150) (fun _ _ => fun _ => .fail 150) (fun _ => fun _ => .fail 150) (fun _ => fun _ => .fail 150) (fun _ _ _ => fun _ => .fail 150) (fun _ _ _ _ _ _ => fun _ => .fail 150) (fun _ _ _ => fun _ => .fail 150) (fun _ _ _ _ _ => fun _ => .fail 150) (fun _ _ _ _ => fun _ => .fail 150) () (fun _ _ _ _ => ()) v
def ifaceV (v : AV) (κ : TypeId → AV → R) : R := match v with
  | .iface t v => κ t v
  | _ => .fail 157
def callM (call : CallT) (s : St) (name : String) (args : List AV) (κ : AV → St → R) (r : AV) : R := ifaceV r fun t v => match methA P t name with
  | some f => call f (v :: args) s κ
  | none => optK (methB P t name) 158 fun b => ptrV v (nat_lit 159) fun id off => optK (fieldPlaceA P b.2.1 b.2.2) 163 fun o => forceN (Nat.add off o) fun n => call b.1 (.ptr id n :: args) s κ
def callV (call : CallT) (s : St) (args : List AV) (κ : AV → St → R) (f : AV) : R := fnV f fun g a b => call g (a ++ (args ++ b)) s κ
abbrev skipK (κ : AV → St → R) (s : St) : R := κ undefA s
abbrev quietK (P : Program) (s : St) (t : Ts) (op : Op) (κ : AV → St → R) : R := St.rec (motive := fun _ => R) (fun hp nx pc => evQ P hp t pc op fun v pc => κ v ⟨hp, nx, pc⟩) s
abbrev blt2 (s : St) (t : Ts) (op : Op) (c : Call) (κ : AV → St → R) (b : Builtin) : R := match b with
  | .append => opds t c.args.toList fun l => match l with
    | [x, y] => appX P c.argTypes s x y κ
    | _ => .fail 151
  | .copy => opds t c.args.toList fun l => match l with
    | [x, y] => optK (c.argTypes[0]?) 152 fun T => copyX P T s x y κ
    | _ => .fail 153
  | .delete => opds t c.args.toList fun l => match l with
    | [x, y] => optK (c.argTypes[0]?) 240 fun T => mapDel P T s x y κ
    | _ => .fail 241
  | .clear => opds t c.args.toList fun l => match l with
    | [x] => optK (c.argTypes[0]?) 242 fun T => clearA P T s x κ
    | _ => .fail 243
  | _ => quietK P s t op κ
abbrev mkMap (s : St) (κ : AV → St → R) (r : Option Operand) : R := match r with
  | none => mapNew s κ
  | some _ => .fail 154
abbrev cvt (s : St) (t : Ts) (κ : AV → St → R) (src dst : TypeId) (x : Operand) : R := match intOfT P dst with
  | some _ => quietK P s t (.convert src dst x) κ
  | none => Bool.rec (motive := fun _ => R) (opd t x fun x => convE P src dst x s κ) (quietK P s t (.convert src dst x) κ) (isStrT P dst)
abbrev calE (call : CallT) (s : St) (t : Ts) (κ : AV → St → R) (c : Call) : R := match c.callee with
  | .value f => opd t f fun f => opds t c.args.toList fun l => callV call s l κ f
  | .builtin b => blt2 P s t (.call c) c κ b
  | .invoke r name => opd t r fun r => opds t c.args.toList fun l => callM P call s name l κ r
abbrev evOp (call : CallT) (s : St) (t : Ts) (κ : AV → St → R) (op : Op) : R :=
  Op.rec (motive := fun _ => Program → CallT → St → Ts → (AV → St → R) → R)
    (fun x0 P call s t κ => quietK P s t (.move x0) κ)
    (fun x0 P call s t κ => quietK P s t (.assign x0) κ)
    (fun x0 x1 x2 P call s t κ => quietK P s t (.pick x0 x1 x2) κ)
    (fun T P call s t κ => allocA P T s κ)
    (fun T v P call s t κ => opd t v fun v => boxA T v s κ)
    (fun x0 x1 P call s t κ => quietK P s t (.build x0 x1) κ)
    (fun T n parts P call s t κ => buildS P T n t parts s κ)
    (fun T m k v P call s t κ => opd t m fun m => opd t k fun k => opd t v fun v => mapSet P T s m k v (skipK κ))
    (fun x0 x1 P call s t κ => quietK P s t (.load x0 x1) κ)
    (fun T a v P call s t κ => opd t a fun a => opd t v fun v => storeA P T s a v (skipK κ))
    (fun x0 P call s t κ => quietK P s t (.ready x0) κ)
    (fun x0 P call s t κ => quietK P s t (.waits x0) κ)
    (fun x0 P call s t κ => quietK P s t (.nilCheck x0) κ)
    (fun x0 x1 x2 x3 x4 P call s t κ => quietK P s t (.binOp x0 x1 x2 x3 x4) κ)
    (fun x0 x1 x2 P call s t κ => quietK P s t (.unOp x0 x1 x2) κ)
    (fun src dst x P call s t κ => cvt P s t κ src dst x)
    (fun x0 x1 P call s t κ => quietK P s t (.sliceToArrayPointer x0 x1) κ)
    (fun x0 x1 P call s t κ => quietK P s t (.makeInterface x0 x1) κ)
    (fun x0 x1 x2 P call s t κ => quietK P s t (.makeFunc x0 x1 x2) κ)
    (fun T r P call s t κ => mkMap s κ r)
    (fun x0 x1 P call s t κ => quietK P s t (.makeChan x0 x1) κ)
    (fun T l c P call s t κ => opd t l fun l => opd t c fun c => makeX P T l c s κ)
    (fun x0 x1 x2 x3 x4 P call s t κ => quietK P s t (.slice x0 x1 x2 x3 x4) κ)
    (fun x0 x1 x2 P call s t κ => quietK P s t (.fieldAddr x0 x1 x2) κ)
    (fun x0 x1 x2 P call s t κ => quietK P s t (.field x0 x1 x2) κ)
    (fun x0 x1 x2 P call s t κ => quietK P s t (.indexAddr x0 x1 x2) κ)
    (fun x0 x1 x2 P call s t κ => quietK P s t (.index x0 x1 x2) κ)
    (fun x0 x1 x2 x3 P call s t κ => quietK P s t (.lookup x0 x1 x2 x3) κ)
    (fun T m k v P call s t κ => opd t m fun m => opd t k fun k => opd t v fun v => mapSet P T s m k v (skipK κ))
    (fun x0 x1 x2 P call s t κ => quietK P s t (.mapEntry x0 x1 x2) κ)
    (fun x0 x1 x2 x3 P call s t κ => quietK P s t (.entryStore x0 x1 x2 x3) κ)
    (fun T x P call s t κ => opd t x fun x => rangeA P T s x κ)
    (fun x str P call s t κ => opd t x fun x => nextA str s x κ)
    (fun x0 P call s t κ => quietK P s t (.entry x0) κ)
    (fun x0 x1 x2 x3 P call s t κ => quietK P s t (.typeAssert x0 x1 x2 x3) κ)
    (fun x0 x1 P call s t κ => quietK P s t (.extract x0 x1) κ)
    (fun c P call s t κ => calE P call s t κ c)
    (fun x0 P call s t κ => quietK P s t (.go x0) κ)
    (fun x0 P call s t κ => quietK P s t (.defer x0) κ)
    (fun x0 P call s t κ => quietK P s t (.panic x0) κ)
    (fun x0 x1 P call s t κ => quietK P s t (.send x0 x1) κ)
    (fun x0 x1 x2 P call s t κ => quietK P s t (.recv x0 x1 x2) κ)
    (fun x0 x1 P call s t κ => quietK P s t (.select x0 x1) κ)
    op P call s t κ

/-! regions -/
abbrev putK (sz : Nat) (t : Ts) (v : AV) (κ : Ts → R) (d : Option Tmp) : R := Option.rec (motive := fun _ => R) (κ t) (fun d => Bool.rec (motive := fun _ => R) (.fail 160) (κ (Ts.put d v t)) (Nat.blt d sz)) d
def wantB (pc : PC) (want : Bool) (κ : Bool → PC → R) (v : AV) : R := AV.rec (motive_1 := fun _ => PC → Bool → (Bool → PC → R) → R) (motive_2 := fun _ => Unit) (fun _ _ => fun pc _ κ => κ false pc) (fun b pc want κ => decK pc b fun b pc => κ (b == want) pc) (fun _ _ => fun pc _ κ => κ false pc) (fun _ _ _ _ => fun pc _ κ => κ false pc) (fun _ _ _ => fun pc _ κ => κ false pc) (fun _ => fun pc _ κ => κ false pc) (fun _ _ _ _ _ => fun pc _ κ => κ false pc) (fun _ _ _ => fun pc _ κ => κ false pc) (fun _ _ => fun pc _ κ => κ false pc) (fun _ _ => fun pc _ κ => κ false pc) (fun _ _ _ _ => .fail 161) (fun _ _ _ _ => .fail 161) (fun _ _ _ => fun pc _ κ => κ false pc) (fun _ _ _ _ _ _ => fun _ _ _ => .fail 161) (fun _ _ _ => fun pc _ κ => κ false pc) (fun _ _ _ _ _ => fun pc _ κ => κ false pc) (fun _ _ _ _ => fun pc _ κ => κ false pc) () (fun _ _ _ _ => ()) v pc want κ
/-- what was decided of a guard: whose it is, what it wants, where its value stands, how it was decided -/
inductive Asm where
  | no | yes (g : Nat) (w : Bool) (d : Nat) (b : Bool)
abbrev wantG (ops : Array Oper) (t : Ts) (pc : PC) (κ : Asm → Bool → PC → R) (g : Nat × Bool) : R := Option.rec (κ .no false pc) (fun d => t.getK d (wantB pc g.2 fun b pc => κ (.yes g.1 g.2 d b) b pc)) ((ops[g.1]?).bind (·.dst))
def eqB2 (a b : Bool) : Bool := Bool.rec (motive := fun _ => Bool) (notF b) b a
abbrev asmG (m : Asm) (g : Nat × Bool) (no : R) (yes : Bool → R) : R := Asm.rec (motive := fun _ => R) no (fun g' w _ b => Bool.rec (motive := fun _ => R) no (yes b) (Nat.beq g' g.1 && eqB2 w g.2)) m
/-- behind an operation that lays d -/
abbrev asmD (m : Asm) (d : Option Tmp) : Asm := Asm.rec (motive := fun _ => Asm) .no (fun g w e b => Option.rec (motive := fun _ => Asm) (.yes g w e b) (fun d => Bool.rec (motive := fun _ => Asm) (.yes g w e b) .no (Nat.beq d e)) d) m
/-- decided so -/
abbrev setB (m : Asm) (b : Bool) : Asm := Asm.rec (motive := fun _ => Asm) .no (fun g w d _ => .yes g w d b) m
abbrev wantK (ops : Array Oper) (t : Ts) (pc : PC) (m : Asm) (κ : Asm → Bool → PC → R) (g : Option (Nat × Bool)) : R := Option.rec (motive := fun _ => R) (κ .no true pc) (fun g => asmG m g (wantG ops t pc κ g) (fun b => κ m b pc)) g
abbrev RK := St → Ts → R
abbrev doneK (sz : Nat) (t : Ts) (d : Option Tmp) (κ : RK) (v : AV) (s : St) : R := putK sz t v (κ s) d
/-- is it put off? -/
abbrev isDef (op : Op) : Bool := match op with
  | .defer _ => true
  | _ => false
abbrev restD (sz : Nat) (t : Ts) : AV := Option.rec (motive := fun _ => AV) undefA (fun v => v) (t.get sz)
abbrev dfrC (sz : Nat) (s : St) (t : Ts) (κ : RK) (c : Call) : R := match c.callee with
  | .value f => opd t f fun f => opds t c.args.toList fun l => fnV f fun g a b => κ s (Ts.put sz (.dfr (.fn (.func g) [] b) (a ++ l) (restD sz t)) t)
  | _ => .fail 244
abbrev dfrK (sz : Nat) (s : St) (t : Ts) (d : Option Tmp) (κ : RK) (op : Op) : R := match op with
  | .defer c => Option.rec (motive := fun _ => R) (dfrC sz s t κ c) (fun _ => .fail 245) d
  | _ => .fail 246
/-- an operation: now, or put off -/
abbrev opE (call : CallT) (sz : Nat) (o : Oper) (s : St) (t : Ts) (κ κd : RK) : R := Bool.rec (motive := fun _ => R) (evOp P call s t (doneK sz t o.dst κ) o.op) (dfrK sz s t o.dst κd o.op) (isDef o.op)
abbrev opW (call : CallT) (sz : Nat) (o : Oper) (s : St) (t : Ts) (κ : Asm → RK) (m : Asm) (b : Bool) (pc : PC) : R :=
  St.rec (motive := fun _ => R) (fun hp nx _ => Bool.rec (motive := fun _ => R) (putK sz t undefA (κ (asmD (setB m false) o.dst) ⟨hp, nx, pc⟩) o.dst) (opE P call sz o ⟨hp, nx, pc⟩ t (κ (asmD (setB m true) o.dst)) (κ .no)) b) s
abbrev opG (ops : Array Oper) (call : CallT) (sz : Nat) (m : Asm) (s : St) (t : Ts) (κ : Asm → RK) (o : Oper) : R := Option.rec (motive := fun _ => R) (opE P call sz o s t (κ .no) (κ .no)) (fun g => asmG m g (wantG ops t s.pc (opW P call sz o s t κ) g) (fun b => opW P call sz o s t κ m b s.pc)) o.guard
abbrev evOps (ops : Array Oper) (call : CallT) (sz : Nat) (l : List Oper) : Asm → St → Ts → RK → R :=
  List.rec (motive := fun _ => Asm → St → Ts → RK → R) (fun _ s t κ => κ s t) (fun o _ ih m s t κ => opG P ops call sz m s t (fun m s t => ih m s t κ) o) l
/-- a block of quiet ones -/
abbrev qW (sz : Nat) (h : Tr AObj) (o : Oper) (t : Ts) (κ : Asm → Ts → PC → R) (m : Asm) (b : Bool) (pc : PC) : R :=
  Bool.rec (motive := fun _ => R) (putK sz t undefA (fun t => κ (asmD (setB m false) o.dst) t pc) o.dst) (evQ P h t pc o.op fun v pc => putK sz t v (fun t => κ (asmD (setB m true) o.dst) t pc) o.dst) b
abbrev evQs (ops : Array Oper) (sz : Nat) (h : Tr AObj) (l : List Oper) : Asm → Ts → PC → (Ts → PC → R) → R :=
  List.rec (motive := fun _ => Asm → Ts → PC → (Ts → PC → R) → R) (fun _ t pc κ => κ t pc) (fun o _ ih m t pc κ => wantK ops t pc m (qW P sz h o t fun m t pc => ih m t pc κ) o.guard) l
def optEqN (a : Option Nat) (n : Nat) : Bool := match a with
  | some m => Nat.beq m n
  | none => false
end

mutual
def AV.beq : AV → AV → Bool
  | .int k a, .int k' b => decide (k = k') && SI.beq a b
  | .bool a, .bool b => SB.beq a b
  | .ptr i o, .ptr j q => Nat.beq i j && Nat.beq o q
  | .sl i o n c, .sl j q m d => Nat.beq i j && (Nat.beq o q && (Nat.beq n m && (match c with | none => d.isNone | some c => optEqN d c)))
  | .emp i o n, .emp j q m => Nat.beq i j && (Nat.beq o q && Nat.beq n m)
  | .em0 i o n, .em0 j q m => Nat.beq i j && (Nat.beq o q && Nat.beq n m)
  | .map i, .map j => Nat.beq i j
  | .fn (.func f) a b, .fn (.func g) c d => Nat.beq f g && (AV.beqL a c && AV.beqL b d)
  | .ssl i a b c d, .ssl j a' b' c' d' => Nat.beq i j && (SI.beq a a' && (SI.beq b b' && (SI.beq c c' && (match d with | none => d'.isNone | some x => (match d' with | none => false | some y => SI.beq x y)))))
  | .osl i a b, .osl j a' b' => Nat.beq i j && (Nat.beq a a' && Nat.beq b b')
  | .fsl i a b c, .fsl j a' b' c' => Nat.beq i j && (SI.beq a a' && (SI.beq b b' && SI.beq c c'))
  | .agg l, .agg m => AV.beqL l m
  | .tup l, .tup m => AV.beqL l m
  | .iface t a, .iface u b => Nat.beq t u && AV.beq a b
  | .raw v, .raw w => match v, w with
    | .pointer none, .pointer none => true
    | .slice none a b, .slice none c d => Nat.beq a c && Nat.beq b d
    | .map none, .map none => true
    | .nilFunc, .nilFunc => true
    | .nilIface, .nilIface => true
    | .string a, .string b => a.data.toList == b.data.toList
    | _, _ => false
  | _, _ => false
def AV.beqL : List AV → List AV → Bool
  | [], [] => true
  | a :: l, b :: m => AV.beq a b && AV.beqL l m
  | _, _ => false
end
section
variable (P : Program)
/-- the temporary holds v -/
abbrev holdsK (t : Ts) (d : Option Tmp) (v : AV) (κ : R) : R := Option.rec (motive := fun _ => R) κ (fun d => t.getK d fun u => Bool.rec (motive := fun _ => R) (.fail 171) κ (AV.beq u v)) d
abbrev agK (h : Tr AObj) (o : Oper) (t : Ts) (κ : Asm → PC → R) (m : Asm) (b : Bool) (pc : PC) : R :=
  Bool.rec (motive := fun _ => R) (holdsK t o.dst undefA (κ (setB m false) pc)) (evQ P h t pc o.op fun v pc => holdsK t o.dst v (κ (setB m true) pc)) b
abbrev again (ops : Array Oper) (h : Tr AObj) (t : Ts) (l : List Oper) : Asm → PC → (PC → R) → R :=
  List.rec (motive := fun _ => Asm → PC → (PC → R) → R) (fun _ pc κ => κ pc) (fun o _ ih m pc κ => wantK ops t pc m (agK P h o t fun m pc => ih m pc κ) o.guard) l
abbrev agnK (ops : Array Oper) (l : List Nat) (κ : RK) (s : St) (t : Ts) : R := St.rec (motive := fun _ => R) (fun hp nx pc => again P ops hp t (pick ops l) .no pc fun pc => κ ⟨hp, nx, pc⟩ t) s
abbrev evPart (ops : Array Oper) (call : CallT) (sz : Nat) (x : List Nat × List Nat × List Nat) (s : St) (t : Ts) (κ : RK) : R :=
  St.rec (motive := fun _ => R) (fun hp nx pc => evQs P ops sz hp (pick ops x.1) .no t pc fun t pc => evOps P ops call sz (pick ops x.2.1) .no ⟨hp, nx, pc⟩ t (agnK P ops x.2.2 κ)) s
abbrev evMix (ops : Array Oper) (call : CallT) (sz : Nat) (p : Plan) : St → Ts → RK → R :=
  List.rec (motive := fun _ => St → Ts → RK → R) (fun s t κ => κ s t) (fun x _ ih s t κ => evPart P ops call sz x s t fun s t => ih s t κ) p
def mixOk (ops : Array Oper) (p : Plan) : Bool := mixB ops p && (!p.isEmpty && decide (planN p = ops.size))

/-! code -/
inductive Ex where
  | normal | exit (id : Nat) | ret
abbrev K := Ex → St → Ts → R
abbrev EvT := FuncId → Nat → Code → St → Ts → K → R
/-- rounds of a loop that leave all as it is, but for one number, which goes up by one: of a function, in that place, from e0 up to hi; K is a letter of its own -/
structure Acc where
  f : Nat
  slot : Nat
  e0 : SI
  hi : SI
  K : Nat
  keep : List Nat
  pcs : List (SB × Bool)
  rg : List (Int × Int)
  soft : Bool := false
/-- a number that goes on by rounds: a temporary, or a cell of a thing; its kind, its letter; what it becomes by a round; what it is at the beginning, and what it lies between -/
structure Acp where
  tmp : Bool
  id : Nat
  off : Nat
  k : IntKind
  K : Nat
  step : SI
  v0 : Int
  lo : Int
  hi : Int
/-- n rounds of a loop of a function, which leave all as it is but for such numbers -/
structure Acd where
  f : Nat
  n : Nat
  keep : List Nat
  ps : List Acp
/-- for a region: its plan -/
structure Plans where
  pl : FuncId → Nat → Option Plan
  ac : List Acc := []
  ad : List Acd := []
/-! is a letter not in it? -/
def SI.fr (K : Nat) (e : SI) : Bool := SI.rec (motive := fun _ => Bool) (fun _ => true) (fun i => notF (Nat.beq i K)) (fun _ _ _ _ a b => a && b) (fun _ _ a => a) (fun _ a => a) (fun _ _ _ _ a b => Nat.blt K (nat_lit 32) && (a && b)) e
def SB.fr (K : Nat) (c : SB) : Bool := SB.rec (motive := fun _ => Bool) (fun _ => true) (fun _ a b => SI.fr K a && SI.fr K b) (fun _ a => a) c
mutual
def AV.fr (K : Nat) : AV → Bool
  | .int _ e => SI.fr K e
  | .bool b => SB.fr K b
  | .fn _ a b => AV.frL K a && AV.frL K b
  | .iface _ v => AV.fr K v
  | .agg l => AV.frL K l
  | .tup l => AV.frL K l
  | .osl p k c => Nat.blt K (nat_lit 32) && (Nat.ble (nat_lit 32) p && (Nat.ble (nat_lit 32) c && notF (Nat.beq k K)))
  | .dfr _ _ _ => false
  | .ptr _ _ => true
  | .sl _ _ _ _ => true
  | .emp _ _ _ => true
  | .em0 _ _ _ => true
  | .map _ => true
  | .raw _ => true
  | .opq _ => true
  | .ssl _ a b c d => SI.fr K a && (SI.fr K b && (SI.fr K c && (match d with | none => true | some x => SI.fr K x)))
  | .fsl j a b c => Nat.blt K (nat_lit 32) && (Nat.ble (nat_lit 32) j && (SI.fr K a && (SI.fr K b && SI.fr K c)))
def AV.frL (K : Nat) : List AV → Bool
  | [] => true
  | v :: l => AV.fr K v && AV.frL K l
end
def optB {α : Type} (p : α → Bool) (o : Option α) : Bool := match o with
  | none => true
  | some x => p x
def Tr.all {α : Type} (p : α → Bool) (t : Tr α) : Bool := Tr.rec (motive := fun _ => Bool) true (fun v _ _ l r => optB p v && (l && r)) t
def entFr (K : Nat) (es : List (AV × AV × Nat)) : Bool := es.all fun e => AV.fr K e.1 && AV.fr K e.2.1
def Ch.fr (K : Nat) (c : Ch) : Bool := match c with
  | .bs l => l.all (SI.fr K)
  | .fil n v => SI.fr K n && SI.fr K v
  | .row _ o n => Nat.blt K (nat_lit 32) && (SI.fr K o && SI.fr K n)
def AObj.fr (K : Nat) (o : AObj) : Bool := match o with
  | .cells _ c d _ _ => Tr.all (AV.fr K) c && optB (AV.fr K) d
  | .map es _ => entFr K es
  | .iter _ _ _ _ => true
  | .rope cs _ _ => cs.all (Ch.fr K)
  | .dead => true
/-! is it the same? -/
def siL : List SI → List SI → Bool
  | [], [] => true
  | a :: l, b :: m => SI.beq a b && siL l m
  | _, _ => false
def Ch.beq (a b : Ch) : Bool := match a with
  | .bs l => (match b with | .bs m => siL l m | _ => false)
  | .fil n v => (match b with | .fil n' v' => SI.beq n n' && SI.beq v v' | _ => false)
  | .row j o n => (match b with | .row j' o' n' => Nat.beq j j' && (SI.beq o o' && SI.beq n n') | _ => false)
def chL : List Ch → List Ch → Bool
  | [], [] => true
  | a :: l, b :: m => Ch.beq a b && chL l m
  | _, _ => false
def optE {α : Type} (q : α → α → Bool) (a b : Option α) : Bool := match a with
  | none => (match b with | none => true | some _ => false)
  | some x => (match b with | none => false | some y => q x y)
def Tr.eqB {α : Type} (q : α → α → Bool) (t : Tr α) : Tr α → Bool := Tr.rec (motive := fun _ => Tr α → Bool) (fun u => match u with | .nil => true | .node _ _ _ => false) (fun v _ _ l r u => match u with | .nil => false | .node v' l' r' => optE q v v' && (l l' && r r')) t
/-- what stands in the first stands in the second -/
def Tr.leB {α : Type} (q : α → α → Bool) (t : Tr α) : Tr α → Bool := Tr.rec (motive := fun _ => Tr α → Bool) (fun _ => true) (fun v _ _ l r u => match u with | .nil => false | .node v' l' r' => (match v with | none => true | some x => (match v' with | none => false | some y => q x y)) && (l l' && r r')) t
def entEq (a : List (AV × AV × Nat)) : List (AV × AV × Nat) → Bool := match a with
  | [] => fun b => match b with | [] => true | _ :: _ => false
  | e :: l => fun b => match b with | [] => false | e' :: l' => AV.beq e.1 e'.1 && (AV.beq e.2.1 e'.2.1 && (Nat.beq e.2.2 e'.2.2 && entEq l l'))
def AObj.beq (a b : AObj) : Bool := match a with
  | .cells n c d T r => (match b with | .cells n' c' d' T' r' => Nat.beq n n' && (Nat.beq T T' && ((r == r') && (optE AV.beq d d' && Tr.eqB AV.beq c c'))) | _ => false)
  | .map es k => (match b with | .map es' k' => Nat.beq k k' && entEq es es' | _ => false)
  | .iter m x l y => (match b with | .iter m' x' l' y' => (m == m') && (Nat.beq x x' && ((l == l') && Nat.beq y y')) | _ => false)
  | .rope cs T r => (match b with | .rope cs' T' r' => Nat.beq T T' && ((r == r') && chL cs cs') | _ => false)
  | .dead => (match b with | .dead => true | _ => false)
def pcB (l : List (SB × Bool)) : List (SB × Bool) → Bool := match l with
  | [] => fun m => match m with | [] => true | _ :: _ => false
  | a :: l => fun m => match m with | [] => false | b :: m => SB.beq a.1 b.1 && ((a.2 == b.2) && pcB l m)
def rgB (l : List (Int × Int)) : List (Int × Int) → Bool := match l with
  | [] => fun m => match m with | [] => true | _ :: _ => false
  | a :: l => fun m => match m with | [] => false | b :: m => beqF a.1 b.1 && (beqF a.2 b.2 && rgB l m)
/-- those temporaries alone -/
def keepTs (t : Ts) (l : List Nat) : Ts := match l with
  | [] => .nil
  | d :: l => match t.get d with
    | some v => Ts.put d v (keepTs t l)
    | none => keepTs t l
def isDone (r : R) : Bool := R.rec (motive := fun _ => Bool) (fun _ _ => true) (fun _ => false) false (fun _ _ _ _ _ => false) r

abbrev seqK (ih : EvT) (f sz : Nat) (b : Code) (κ : K) (e : Ex) (s : St) (t : Ts) : R := Ex.rec (motive := fun _ => R) (ih f sz b s t κ) (fun i => κ (.exit i) s t) (κ .ret s t) e
abbrev cndB (ih : EvT) (f sz : Nat) (a b : Code) (s : St) (t : Ts) (κ : K) (c : Bool) (pc : PC) : R := St.rec (motive := fun _ => R) (fun hp nx _ => Bool.rec (motive := fun _ => R) (ih f sz b ⟨hp, nx, pc⟩ t κ) (ih f sz a ⟨hp, nx, pc⟩ t κ) c) s
abbrev cndK (ih : EvT) (f sz : Nat) (a b : Code) (s : St) (t : Ts) (κ : K) (v : AV) : R := boolV v (nat_lit 180) fun c => decK s.pc c (cndB ih f sz a b s t κ)
abbrev blkX (id : Nat) (κ : K) (s : St) (t : Ts) (j : Nat) : R := Bool.rec (motive := fun _ => R) (κ (.exit j) s t) (κ .normal s t) (Nat.beq j id)
abbrev blkK (id : Nat) (κ : K) (e : Ex) (s : St) (t : Ts) : R := Ex.rec (motive := fun _ => R) (κ .normal s t) (blkX id κ s t) (κ .ret s t) e
abbrev loopK (r : St → Ts → R) (κ : K) (e : Ex) (s : St) (t : Ts) : R := Ex.rec (motive := fun _ => R) (r s t) (fun i => κ (.exit i) s t) (κ .ret s t) e
/-- the end of a round that is as its beginning -/
def accEnd (s : St) (l : List (SB × Bool)) (sz : Nat) (t1 : Ts) (e : Ex) (s' : St) (t' : Ts) : R := match e with
  | .normal => Bool.rec (motive := fun _ => R) (.fail 301) (.done undefA ⟨.nil, 0, ⟨[], [], []⟩⟩) (Tr.leB AObj.beq s.hp s'.hp && (Tr.leB AV.beq t1 t' && (Option.isNone (t'.get sz) && pcB s'.pc.l l)))
  | _ => .fail 302
def accT (ih : EvT) (f sz : Nat) (c : Code) (a : Acc) (s : St) (t0 : Ts) : R := ih f sz c ⟨s.hp, s.nx, ⟨a.pcs ++ s.pc.l, s.pc.smp, s.pc.rg⟩⟩ (Ts.put a.slot (.int .i64 (.var a.K)) t0) (accEnd s (a.pcs ++ s.pc.l) sz (Ts.put a.slot (.int .i64 (.bin .add .i64 (.var a.K) (.lit (.ofNat (nat_lit 1))))) t0))
def failOf (r : R) : R := R.rec (motive := fun _ => R) (fun _ _ => .fail 304) (fun n => .fail n) (.fail 305) (fun _ _ _ _ _ => .fail 306) r
def accB (a : Acc) (sz : Nat) (s : St) (t0 : Ts) : Bool := Nat.blt a.K (nat_lit 32) && (Nat.blt a.slot sz && (Option.isNone (t0.get sz) && (Option.isNone (t0.get a.slot) && (rgB s.pc.rg a.rg && (Tr.all (AObj.fr a.K) s.hp && (Tr.all (AV.fr a.K) t0 && (s.pc.l.all (fun x => SB.fr a.K x.1) && (SI.fr a.K a.e0 && SI.fr a.K a.hi))))))))
def accG (ih : EvT) (f sz : Nat) (c : Code) (a : Acc) (s : St) (t0 : Ts) (r : St → Ts → R) (rest : R) : R := Bool.rec (motive := fun _ => R) (.fail 303) (Bool.rec (motive := fun _ => R) (Bool.rec (motive := fun _ => R) (failOf (accT ih f sz c a s t0)) rest a.soft) (r s (Ts.put a.slot (.int .i64 a.hi) t0)) (isDone (accT ih f sz c a s t0))) (accB a sz s t0)
def accO (a : Acc) (o : Option AV) : Bool := match o with
  | some (.int k e) => kindEq k .i64 && SI.beq e a.e0
  | _ => false
def accK (ih : EvT) (f sz : Nat) (c : Code) (s : St) (t : Ts) (r : St → Ts → R) (alt : R) (l : List Acc) : R := List.rec (motive := fun _ => R) alt (fun a _ rest => Bool.rec (motive := fun _ => R) rest (Bool.rec (motive := fun _ => R) rest (accG ih f sz c a s (keepTs t a.keep) r rest) (accO a (t.get a.slot) && Option.isNone (t.get sz))) (Nat.beq a.f f)) l
/-! rounds that leave all as it is, but for some numbers -/
def cellB (c : Tr AV) (d : Option AV) (off : Nat) : Option AV := Option.rec (motive := fun _ => Option AV) d (fun v => some v) (c.get off)
def cellAt (h : Tr AObj) (id off : Nat) : Option AV := match h.get id with
  | some (.cells n c d _ _) => Bool.rec (motive := fun _ => Option AV) none (cellB c d off) (Nat.blt off n)
  | _ => none
def putC (h : Tr AObj) (id off : Nat) (v : AV) : Tr AObj := match h.get id with
  | some (.cells n c d T r) => h.set id (.cells n (c.set off v) d T r)
  | _ => h
def putH (l : List (Acp × SI)) : Tr AObj → Tr AObj := List.rec (motive := fun _ => Tr AObj → Tr AObj) (fun h => h) (fun x _ ih h => ih (Bool.rec (motive := fun _ => Tr AObj) (putC h x.1.id x.1.off (.int x.1.k x.2)) h x.1.tmp)) l
def putT (l : List (Acp × SI)) : Ts → Ts := List.rec (motive := fun _ => Ts → Ts) (fun t => t) (fun x _ ih t => ih (Bool.rec (motive := fun _ => Ts) t (Ts.put x.1.id (.int x.1.k x.2) t) x.1.tmp)) l
def varE (l : List Acp) : List (Acp × SI) := List.rec (motive := fun _ => List (Acp × SI)) [] (fun p _ r => (p, .var p.K) :: r) l
def stepE (l : List Acp) : List (Acp × SI) := List.rec (motive := fun _ => List (Acp × SI)) [] (fun p _ r => (p, p.step) :: r) l
def litE (l : List Acp) : List Int → List (Acp × SI) := List.rec (motive := fun _ => List Int → List (Acp × SI)) (fun _ => []) (fun p _ ih vs => List.rec (motive := fun _ => List (Acp × SI)) [] (fun v vs _ => (p, .lit v) :: ih vs) vs) l
def v0s (l : List Acp) : List Int := List.rec (motive := fun _ => List Int) [] (fun p _ r => p.v0 :: r) l
def isLitAt (o : Option AV) (k : IntKind) (v : Int) : Bool := match o with
  | some (.int k' (.lit n)) => kindEq k' k && beqF n v
  | _ => false
def acpAt (h : Tr AObj) (t : Ts) (p : Acp) : Option AV := Bool.rec (motive := fun _ => Option AV) (cellAt h p.id p.off) (t.get p.id) p.tmp
def acdAt (l : List Acp) (h : Tr AObj) (t : Ts) : Bool := List.rec (motive := fun _ => Bool) true (fun p _ r => isLitAt (acpAt h t p) p.k p.v0 && r) l
def lookN (ks : List (Nat × Int)) (i : Nat) : Option Int := List.rec (motive := fun _ => Option Int) none (fun x _ r => Bool.rec (motive := fun _ => Option Int) r (some x.2) (Nat.beq x.1 i)) ks
def opt2 {α : Type} (a b : Option Int) (κ : Int → Int → Option α) : Option α := Option.rec (motive := fun _ => Option α) none (fun x => Option.rec (motive := fun _ => Option α) none (fun y => κ x y) b) a
def evV (ks : List (Nat × Int)) (e : SI) : Option Int := SI.rec (motive := fun _ => Option Int) (fun n => some n) (fun i => lookN ks i) (fun op k _ _ a b => opt2 a b fun x y => forceI (binF op k x y) fun n => some n) (fun k _ a => opt2 a a fun x _ => forceI (wrapF k x) fun n => some n) (fun _ _ => none) (fun _ _ _ _ _ _ => none) e
def zipK (l : List Acp) : List Int → List (Nat × Int) := List.rec (motive := fun _ => List Int → List (Nat × Int)) (fun _ => []) (fun p _ ih vs => List.rec (motive := fun _ => List (Nat × Int)) [] (fun v vs _ => (p.K, v) :: ih vs) vs) l
def stepV (ks : List (Nat × Int)) (l : List Acp) : Option (List Int) := List.rec (motive := fun _ => Option (List Int)) (some []) (fun p _ r => Option.rec (motive := fun _ => Option (List Int)) none (fun v => Option.rec (motive := fun _ => Option (List Int)) none (fun vs => some (v :: vs)) r) (evV ks p.step)) l
/-- each in its range, and the value of its letter -/
def inV (ks : List (Nat × Int)) (l : List Acp) : List Int → Bool := List.rec (motive := fun _ => List Int → Bool) (fun vs => List.rec (motive := fun _ => Bool) true (fun _ _ _ => false) vs) (fun p _ ih vs => List.rec (motive := fun _ => Bool) false (fun v vs _ => leF p.lo v && (leF v p.hi && (eqU (lookN ks p.K) (some v) && ih vs))) vs) l
def iterV (l : List Acp) (n : Nat) : List Int → Option (List Int) := Nat.rec (motive := fun _ => List Int → Option (List Int)) (fun vs => some vs) (fun _ ih vs => Bool.rec (motive := fun _ => Option (List Int)) none (Option.rec (motive := fun _ => Option (List Int)) none (fun vs => ih vs) (stepV (zipK l vs) l)) (inV (zipK l vs) l vs)) n
def setRg (x : Int × Int) (rg : List (Int × Int)) : Nat → List (Int × Int) := match rg with
  | [] => fun _ => []
  | y :: l => fun i => match i with
    | 0 => x :: l
    | i + 1 => y :: setRg x l i
def setRgs (rg : List (Int × Int)) (l : List Acp) : List (Int × Int) := List.rec (motive := fun _ => List (Int × Int)) rg (fun p _ r => setRg (p.lo, p.hi) r p.K) l
def acdB (l : List Acp) (sz : Nat) (s : St) (t0 : Ts) : Bool := Option.isNone (t0.get sz) && List.rec (motive := fun _ => Bool) true (fun p _ r => (Nat.blt p.K (nat_lit 32) && ((Bool.rec (motive := fun _ => Bool) true (Nat.blt p.id sz) p.tmp) && (Tr.all (AObj.fr p.K) s.hp && (Tr.all (AV.fr p.K) t0 && s.pc.l.all (fun x => SB.fr p.K x.1))))) && r) l
def acdEnd (l : List (SB × Bool)) (sz : Nat) (hN : Tr AObj) (tN : Ts) (e : Ex) (s' : St) (t' : Ts) : R := match e with
  | .normal => Bool.rec (motive := fun _ => R) (.fail 311) (.done undefA ⟨.nil, 0, ⟨[], [], []⟩⟩) (Tr.leB AObj.beq hN s'.hp && (Tr.leB AV.beq tN t' && (Option.isNone (t'.get sz) && pcB s'.pc.l l)))
  | _ => .fail 312
def acdT (ih : EvT) (f sz : Nat) (c : Code) (l : List Acp) (s : St) (t0 : Ts) : R := ih f sz c ⟨putH (varE l) s.hp, s.nx, ⟨s.pc.l, s.pc.smp, setRgs s.pc.rg l⟩⟩ (putT (varE l) t0) (acdEnd s.pc.l sz (putH (stepE l) s.hp) (putT (stepE l) t0))
def acdG (ih : EvT) (f sz : Nat) (c : Code) (a : Acd) (s : St) (t0 : Ts) (r : St → Ts → R) : R := Bool.rec (motive := fun _ => R) (.fail 313) (Option.rec (motive := fun _ => R) (.fail 314) (fun vs => Bool.rec (motive := fun _ => R) (failOf (acdT ih f sz c a.ps s t0)) (r ⟨putH (litE a.ps vs) s.hp, s.nx, s.pc⟩ (putT (litE a.ps vs) t0)) (isDone (acdT ih f sz c a.ps s t0))) (iterV a.ps a.n (v0s a.ps))) (acdB a.ps sz s t0)
def acdK (ih : EvT) (f sz : Nat) (c : Code) (s : St) (t : Ts) (r : St → Ts → R) (alt : R) (l : List Acd) : R := List.rec (motive := fun _ => R) alt (fun a _ rest => Bool.rec (motive := fun _ => R) rest (Bool.rec (motive := fun _ => R) rest (acdG ih f sz c a s (keepTs t a.keep) r) (acdAt a.ps s.hp t && Option.isNone (t.get sz))) (Nat.beq a.f f)) l
/-- at most so many rounds -/
def loopN (ac : List Acc) (ad : List Acd) (ih : EvT) (f sz : Nat) (c : Code) (κ : K) (m : Nat) : St → Ts → R := Nat.rec (motive := fun _ => St → Ts → R) (fun _ _ => .fail 189) (fun _ r s t => acdK ih f sz c s t r (accK ih f sz c s t r (ih f sz c s t (loopK r κ)) ac) ad) m
abbrev resL (h : Tr AObj) (t : Ts) (l : List ResultVar) : (List AV → R) → R :=
  List.rec (motive := fun _ => (List AV → R) → R) (fun κ => κ []) (fun r _ ih κ => match r with
    | .tmp d => opdT t (fun v => ih fun l => κ (v :: l)) d
    | .cell d T => opdT t (fun a => loadA P h T a fun v => ih fun l => κ (v :: l)) d) l
abbrev resK (κ : AV → R) (l : List AV) : R := match l with
  | [v] => κ v
  | l => κ (.tup l)
abbrev retR (rs : List ResultVar) (κ : AV → St → R) (s : St) (t : Ts) : R := resL P s.hp t rs (resK fun v => κ v s)
/-- what was put off, the last one first -/
def leaveD (call : CallT) (v : AV) : St → (St → R) → R := AV.rec (motive_1 := fun _ => St → (St → R) → R) (motive_2 := fun _ => Unit) (fun _ _ _ _ => .fail 247) (fun _ _ _ => .fail 247) (fun _ _ _ _ => .fail 247) (fun _ _ _ _ _ _ => .fail 247) (fun _ _ _ _ _ => .fail 247) (fun _ _ _ => .fail 247) (fun _ _ _ _ _ _ _ => .fail 247) (fun _ _ _ _ _ => .fail 247) (fun _ _ _ _ => .fail 247) (fun l _ s κ => match l with | [] => κ s | _ => .fail 247) (fun _ _ _ => .fail 247) (fun _ _ _ => .fail 247) (fun _ _ _ _ _ => .fail 247)
  (fun f args _ _ _ ih s κ => fnV f fun g a b => call g (a ++ (args ++ b)) s fun _ s => ih s κ) (fun _ _ _ _ _ => .fail 247) (fun _ _ _ _ _ _ _ => .fail 247) (fun _ _ _ _ _ _ => .fail 247) () (fun _ _ _ _ => ()) v
abbrev goneK (call : CallT) (sz : Nat) (rs : List ResultVar) (κ : AV → St → R) (s : St) (t : Ts) : R := Option.rec (motive := fun _ => R) (retR P rs κ s t) (fun d => leaveD call d s fun s => retR P rs κ s t) (t.get sz)
abbrev retK (call : CallT) (sz : Nat) (rs : List ResultVar) (κ : AV → St → R) (e : Ex) (s : St) (t : Ts) : R := match e with
  | .exit _ => .fail 181
  | _ => goneK P call sz rs κ s t
def maxF (a b : Nat) : Nat := Bool.rec (motive := fun _ => Nat) a b (Nat.ble a b)
abbrev callT (ih : EvT) (f : FuncId) (c : Code) (s : St) (args : List AV) (κ : Nat → K) (sz : Nat) : R := ih f sz c s (tsOf sz args) (κ sz)
abbrev callX (K : Nat → List ResultVar → (AV → St → R) → Ex → St → Ts → R) (ih : EvT) (f : FuncId) (fn : Func) (args : List AV) (s : St) (κ : AV → St → R) (c : Code) : R :=
  Bool.rec (motive := fun _ => R) (callT ih f c s args (fun sz => K sz fn.results.toList κ) (maxF fn.ntmps (lenL args))) (.fail 182) (fn.name == "runtime.NumGoroutine")
/-- what is known of a call ahead: what follows it, if it is known; else what is handed over -/
abbrev Sums := FuncId → List AV → St → (AV → St → R) → R → R
/-- one that puts nothing off -/
abbrev noneK (sz : Nat) (rs : List ResultVar) (κ : AV → St → R) (e : Ex) (s : St) (t : Ts) : R := match e with
  | .exit _ => .fail 181
  | _ => Option.rec (motive := fun _ => R) (retR P rs κ s t) (fun _ => .fail 248) (t.get sz)
def callD (ih : EvT) (f : FuncId) (args : List AV) (s : St) (κ : AV → St → R) : R := optK (P.funcs[f]?) 183 fun fn => optK fn.body 184 (callX (noneK P) ih f fn args s κ)
def callG (ih : EvT) (f : FuncId) (args : List AV) (s : St) (κ : AV → St → R) : R := optK (P.funcs[f]?) 183 fun fn => optK fn.body 184 (callX (retK P (callD P ih)) ih f fn args s κ)
abbrev callF (sm : Sums) (ih : EvT) (f : FuncId) (args : List AV) (s : St) (κ : AV → St → R) : R := sm f args s κ (callG P ih f args s κ)
abbrev regK (κ : K) (s : St) (t : Ts) : R := κ .normal s t
abbrev drawK (sm : Sums) (ih : EvT) (sz : Nat) (ops : Array Oper) (s : St) (t : Ts) (κ : K) (p : Plan) : R := evMix P ops (callF P sm ih) sz p s t (regK κ)
abbrev regC (pl : Plans) (sm : Sums) (ih : EvT) (f sz : Nat) (s : St) (t : Ts) (κ : K) (id : Nat) (ops : Array Oper) (draw : Bool) : R :=
  Bool.rec (motive := fun _ => R) (evOps P ops (callF P sm ih) sz ops.toList .no s t (regK κ)) (optK (pl.pl f id) 186 (drawK P sm ih sz ops s t κ)) draw
abbrev cndC (ih : EvT) (f sz : Nat) (s : St) (t : Ts) (κ : K) (c : Operand) (a b : Code) : R := opd t c (cndK ih f sz a b s t κ)
def evF (pl : Plans) (sm : Sums) (N : Nat) (ih : EvT) (f sz : Nat) (c : Code) (s : St) (t : Ts) (κ : K) : R :=
  Code.rec (motive := fun _ => Program → Plans → Sums → Nat → EvT → Nat → Nat → St → Ts → K → R)
    (fun P pl sm N ih f sz s t κ => κ .normal s t)
    (fun x0 x1 x2 P pl sm N ih f sz s t κ => regC P pl sm ih f sz s t κ x0 x1 x2)
    (fun x0 x1 _ _ P pl sm N ih f sz s t κ => ih f sz x0 s t (seqK ih f sz x1 κ))
    (fun x0 x1 x2 _ _ P pl sm N ih f sz s t κ => cndC ih f sz s t κ x0 x1 x2)
    (fun x0 x1 _ P pl sm N ih f sz s t κ => ih f sz x1 s t (blkK x0 κ))
    (fun x0 _ P pl sm N ih f sz s t κ => loopN pl.ac pl.ad ih f sz x0 κ N s t)
    (fun x0 x1 x2 x3 _ _ P pl sm N ih f sz s t κ => .fail 187)
    (fun x0 P pl sm N ih f sz s t κ => κ (.exit x0) s t)
    (fun x0 _ P pl sm N ih f sz s t κ => ih f sz x0 s t κ)
    (fun x0 P pl sm N ih f sz s t κ => κ .normal s t)
    (fun x0 P pl sm N ih f sz s t κ => .fail 187)
    (fun P pl sm N ih f sz s t κ => κ .ret s t)
    (fun x0 P pl sm N ih f sz s t κ => .fail 187)
    c P pl sm N ih f sz s t κ
def ev (pl : Plans) (sm : Sums) (N n : Nat) : EvT := Nat.rec (motive := fun _ => EvT) (fun _ _ _ _ _ _ => .fail 188) (fun _ ih => evF P pl sm N ih) n
/-- a whole call -/
def evCall (pl : Plans) (sm : Sums) (n : Nat) : CallT := callG P (ev P pl sm (nat_lit 100000) n)
def s0 (pcs : List (SB × Bool)) (smp : List (List Int)) (rg : List (Int × Int)) : St := ⟨.nil, nat_lit 0, ⟨pcs, smp, rg⟩⟩
end
end

end Go.Proofs.YticednpolhnneaaGreat
