/-
  A run reckoned ahead: operations with an effect, code, calls. The definitions alone.
-/
import Derived.Test.YtdklpcjipkhenaaSxa
set_option linter.unusedVariables false
set_option linter.unusedSimpArgs false
namespace Go.Proofs.Ytdklpcjipkhenaa
open Go

noncomputable section
/-! writing -/
def setL (c : Tr AV) (off : Nat) (l : List AV) : Tr AV := List.rec (motive := fun _ => Nat → Tr AV → Tr AV) (fun _ c => c) (fun v _ ih off c => ih (Nat.succ off) (c.set off v)) l off c
def trOf (l : List AV) : Tr AV := setL .nil (nat_lit 0) l
def lenL (l : List AV) : Nat := List.rec (motive := fun _ => Nat) (nat_lit 0) (fun _ _ n => Nat.succ n) l
def allOne (l : List AV) : Bool := List.rec (motive := fun _ => Bool) true (fun v _ b => Bool.rec (motive := fun _ => Bool) false b (oneB v)) l
def newK (s : St) (n : Nat) (c : Tr AV) (d : Option AV) (T : TypeId) (row : Bool) (κ : Nat → St → R) : R := match s with
  | .mk hp nx pc => forceN nx fun nx => κ nx ⟨hp.set nx (.cells n c d T row), Nat.succ nx, pc⟩
def newL (s : St) (l : List AV) (T : TypeId) (row : Bool) (κ : Nat → St → R) : R := Bool.rec (motive := fun _ => R) (.fail 100) (forceN (lenL l) fun n => newK s n (trOf l) none T row κ) (allOne l)
def stP (s : St) (id off : Nat) (l : List AV) (κ : St → R) (n : Nat) (c : Tr AV) (d : Option AV) (T : TypeId) (r : Bool) : R :=
  Bool.rec (motive := fun _ => R) (.fail 101) (Bool.rec (motive := fun _ => R) (.fail 102) (κ ⟨s.hp.set id (.cells n (setL c off l) d T r), s.nx, s.pc⟩) (Nat.ble (Nat.add off (lenL l)) n)) (allOne l)
/-- cells l are put at a place -/
def storeL (s : St) (id off : Nat) (l : List AV) (κ : St → R) : R := objK s.hp id (stP s id off l κ)

section
variable (P : Program)
def sizeK (T : TypeId) (l : List AV) (κ : R) : R := optK (sizeA P T) 103 fun n => Bool.rec (motive := fun _ => R) (.fail 104) κ (Nat.beq (lenL l) n)
def storeA (T : TypeId) (s : St) (a v : AV) (κ : St → R) : R := match a with
  | .ptr id off => cellsK (.fail 105) v fun l => sizeK P T l (storeL s id off l κ)
  | _ => .fail 106
def ptr0 (κ : AV → St → R) (id : Nat) (s : St) : R := κ (.ptr id (nat_lit 0)) s
def allocA (T : TypeId) (s : St) (κ : AV → St → R) : R := optK (zeroA P T) 107 fun z => cellsK (.fail 108) z fun l => newL s l T false (ptr0 κ)
def boxA (T : TypeId) (v : AV) (s : St) (κ : AV → St → R) : R := cellsK (.fail 109) v fun l => newL s l T false (ptr0 κ)
def repL (z : List AV) (n : Nat) : List AV := Nat.rec (motive := fun _ => List AV) [] (fun _ r => z ++ r) n
def buildS (T : TypeId) (len : Nat) (t : Tr AV) (parts : Array (Nat × Operand)) (s : St) (κ : AV → St → R) : R := optK (ixOf P T) 110 fun d => match d with
  | .sli e sz => Bool.rec (motive := fun _ => R) (.fail 111) (optK (zeroA P e) 112 fun z => cellsK (.fail 113) z fun z => opdParts t parts.toList fun ps =>
      Bool.rec (motive := fun _ => R) (.fail 114) (fillA (fun i => some (i * sz, sz)) ps (repL z len) fun l => newL s l e false fun id s => κ (.sl id (nat_lit 0) len (some len)) s) (Nat.beq (lenL z) sz)) (Nat.ble (Nat.mul len sz) (nat_lit 16777216) && !(Nat.beq sz (nat_lit 0)))
  | _ => .fail 115
def bytesA (T : TypeId) : Option Nat := (P.info? T).map fun i => i.bytes
def makeS (T : TypeId) (l c : AV) (s : St) (κ : AV → St → R) : R := asNat l fun l => asNat c fun c => optK (ixOf P T) 116 fun d => match d with
  | .sli e sz => optK (bytesA P e) 117 fun by_ => Bool.rec (motive := fun _ => R) (.fail 118) (optK (zeroA P e) 119 fun z => cellsK (.fail 120) z fun z => match z with
      | [v] => Bool.rec (motive := fun _ => R) (.fail 121) (newK s c .nil (some v) e false fun id s => κ (.sl id (nat_lit 0) l (some c)) s) (oneB v && Nat.beq sz (nat_lit 1))
      | z => Bool.rec (motive := fun _ => R) (.fail 122) (newL s (repL z c) e false fun id s => κ (.sl id (nat_lit 0) l (some c)) s) (Nat.beq (lenL z) sz && !(Nat.beq sz (nat_lit 0)))) (Nat.ble l c && (Nat.ble (Nat.mul by_ c) (nat_lit 281474976710656) && Nat.ble c (nat_lit 9223372036854775807)))
  | _ => .fail 123
/-- the first n of a slice's or a string's cells, of size s each -/
def firstK (h : Tr AObj) (s n : Nat) (x : AV) (κ : List AV → R) : R := match x with
  | .sl id off _ _ => objK h id fun m c d _ _ => Bool.rec (motive := fun _ => R) (.fail 124) (ldN c d off (Nat.mul n s) κ) (Nat.ble (Nat.add off (Nat.mul n s)) m)
  | .emp _ _ _ => Bool.rec (motive := fun _ => R) (.fail 124) (κ []) (Nat.beq n (nat_lit 0))
  | .raw (.slice none _ _) => Bool.rec (motive := fun _ => R) (.fail 124) (κ []) (Nat.beq n (nat_lit 0))
  | .raw (.string b) => Bool.rec (motive := fun _ => R) (.fail 124) (κ ((b.data.toList.take n).map fun x => .int .u8 (.lit (.ofNat x.toNat)))) (Nat.beq s (nat_lit 1))
  | _ => .fail 125
def lenOfK (x : AV) (κ : Nat → R) : R := match x with
  | .sl _ _ len _ => κ len
  | .emp _ _ _ => κ (nat_lit 0)
  | .raw (.slice _ n _) => κ n
  | .raw (.string b) => κ b.size
  | _ => .fail 126
def copyD (s : St) (d : AV) (n : Nat) (κ : AV → St → R) (l : List AV) : R := match d with
  | .sl id off _ _ => storeL s id off l fun s => κ (.int .i64 (.lit (.ofNat n))) s
  | .emp _ _ _ => κ (.int .i64 (.lit (.ofNat n))) s
  | .raw (.slice none _ _) => κ (.int .i64 (.lit (.ofNat n))) s
  | _ => .fail 128
def copyA (T : TypeId) (s : St) (d x : AV) (κ : AV → St → R) : R := optK (ixOf P T) 127 fun t => match t with
  | .sli e sz => lenOfK x fun m => lenOfK d fun dl => forceN (minF m dl) fun n => firstK s.hp sz n x (copyD s d n κ)
  | _ => .fail 129
def killS (s : St) (id : Nat) : St := ⟨s.hp.set id .dead, s.nx, s.pc⟩
/-- a grown row: so many elements, of size sz; the bytes of one -/
def growOk (e : TypeId) (sz need : Nat) : Bool := match bytesA P e with
  | some by_ => match zeroA P e with
    | some z => cellsK false z fun zl => Nat.beq (lenL zl) sz && (!(Nat.beq by_ (nat_lit 0)) && (Nat.blt (nat_lit 0) sz && (Nat.ble (Nat.mul (Nat.add (Nat.mul (nat_lit 2) need) (nat_lit 1000)) by_) (nat_lit 281474976710656))))
    | none => false
  | none => false
def growK (s : St) (e : TypeId) (sz need : Nat) (old new : List AV) (κ : AV → St → R) : R := Bool.rec (motive := fun _ => R) (.fail 127) (newL s (old ++ new) e true fun id s => κ (.sl id (nat_lit 0) need none) s) (growOk P e sz need)
/-- append: l the new cells, n of them of size sz -/
def appC (e : TypeId) (sz n : Nat) (s : St) (κ : AV → St → R) (l : List AV) (id off len c : Nat) : R := forceN (Nat.add len n) fun m => Bool.rec (motive := fun _ => R)
  (firstK s.hp sz len (.sl id off len (some c)) fun old => growK P s e sz m old l κ)
  (storeL s id (Nat.add off (Nat.mul len sz)) l fun s => κ (.sl id off m (some c)) s) (Nat.ble m c)
def appU (e : TypeId) (sz n : Nat) (s : St) (κ : AV → St → R) (l : List AV) (id off len : Nat) : R := forceN (Nat.add len n) fun m => objK s.hp id fun k _ _ T r => Bool.rec (motive := fun _ => R) (.fail 128)
  (Bool.rec (motive := fun _ => R)
    (Bool.rec (motive := fun _ => R) (.fail 130) (storeL s id (Nat.add off (Nat.mul len sz)) l fun s => κ (.sl id off m none) s) (Nat.ble (Nat.add off (Nat.mul m sz)) k))
    (firstK s.hp sz len (.sl id off len none) fun old => growK P (killS s id) e sz m old l κ) (Nat.beq (Nat.add off (Nat.mul len sz)) k)) (Nat.beq T e && r)
def appE (e : TypeId) (sz n : Nat) (s : St) (κ : AV → St → R) (l : List AV) (id off : Nat) : R := objK s.hp id fun k _ _ T r => Bool.rec (motive := fun _ => R) (.fail 131) (growK P (killS s id) e sz n [] l κ) (Nat.beq off k && (Nat.beq T e && r))
def appK (e : TypeId) (sz n : Nat) (s : St) (x : AV) (κ : AV → St → R) (l : List AV) : R := match x with
  | .raw (.slice none 0 0) => Bool.rec (motive := fun _ => R) (growK P s e sz n [] l κ) (κ x s) (Nat.beq n (nat_lit 0))
  | .sl id off len (some c) => appC P e sz n s κ l id off len c
  | .sl id off len none => appU P e sz n s κ l id off len
  | .emp id _ off => Bool.rec (motive := fun _ => R) (appE P e sz n s κ l id off) (κ x s) (Nat.beq n (nat_lit 0))
  | _ => .fail 132
def notIntT (T : Option TypeId) : Bool := match T with
  | some T => match P.underlying T with
    | some (.int _) => false
    | some _ => true
    | none => false
  | none => false
def appA (Ts : Array TypeId) (s : St) (x y : AV) (κ : AV → St → R) : R := optK (Ts[0]?) 133 fun T => optK (ixOf P T) 134 fun t => match t with
  | .sli e sz => Bool.rec (motive := fun _ => R) (.fail 135) (lenOfK y fun n => firstK s.hp sz n y (appK P e sz n s x κ)) (notIntT P (Ts[1]?))
  | _ => .fail 138
def bytesL (b : ByteArray) : List AV := b.data.toList.map fun x => .int .u8 (.lit (.ofNat x.toNat))
def strBytes (src T : TypeId) (x : AV) (s : St) (κ : AV → St → R) : R := match P.underlying src with
  | some .string => optK (ixOf P T) 139 fun t => match t with
    | .sli e sz => Bool.rec (motive := fun _ => R) (.fail 140) (match x with
        | .raw (.string b) => forceN b.size fun n => newL s (bytesL b) e true fun id s => κ (.sl id (nat_lit 0) n none) s
        | _ => .fail 141) ((match intOfT P e with | some .u8 => true | _ => false) && Nat.beq sz (nat_lit 1))
    | _ => .fail 142
  | _ => .fail 155
/-- bytes seen as bytes: they are marked -/
def markK (src dst : TypeId) (s : St) (κ : AV → St → R) (id off len : Nat) (cap : Option Nat) : R := optK (ixOf P dst) 190 fun t => match t with
  | .sli e sz => optK (P.underlying src) 193 fun _ => objK s.hp id fun n c d T r => Bool.rec (motive := fun _ => R) (.fail 191) (κ (.sl id off len cap) ⟨s.hp.set id (.cells n c d T true), s.nx, s.pc⟩)
      (Nat.beq src dst && ((match intOfT P e with | some .u8 => true | _ => false) && (notF r && (match sizeA P T with | some m => Nat.beq m (nat_lit 1) | none => false))))
  | _ => .fail 192
def convE (src dst : TypeId) (x : AV) (s : St) (κ : AV → St → R) : R := match x with
  | .sl id off len cap => markK P src dst s κ id off len cap
  | x => strBytes P src dst x s κ
def mapNew (s : St) (κ : AV → St → R) : R := match s with
  | .mk hp nx pc => forceN nx fun nx => κ (.map nx) ⟨hp.set nx (.map [] (nat_lit 0)), Nat.succ nx, pc⟩
def modL (es : List (AV × AV × Nat)) (i : Nat) (v : AV) : List (AV × AV × Nat) := es.modify i fun e => (e.1, v, e.2.2)
def mapSet (T : TypeId) (s : St) (m k v : AV) (κ : St → R) : R := optK (mapTyA P T) 143 fun p => litK k p.1 fun n => match m with
  | .map id => mapK s.hp id fun es c => Bool.rec (motive := fun _ => R) (.fail 144) (findA n es (nat_lit 0) fun r => match r with
      | some x => κ ⟨s.hp.set id (.map (modL es x.1 v) c), s.nx, s.pc⟩
      | none => κ ⟨s.hp.set id (.map (es ++ [(k, v, c)]) (Nat.succ c)), s.nx, s.pc⟩) (kindsOk p.1 es)
  | _ => .fail 145

/-- a call -/
abbrev CallT := FuncId → List AV → St → (AV → St → R) → R
def callV (call : CallT) (s : St) (args : List AV) (κ : AV → St → R) (f : AV) : R := match f with
  | .fn (.func g) a b => call g (a ++ (args ++ b)) s κ
  | _ => .fail 150
def skipK (κ : AV → St → R) (s : St) : R := κ undefA s
def quietK (P : Program) (s : St) (t : Tr AV) (op : Op) (κ : AV → St → R) : R := match s with
  | .mk hp nx pc => evQ P hp t pc op fun v pc => κ v ⟨hp, nx, pc⟩
def blt2 (s : St) (t : Tr AV) (op : Op) (c : Call) (κ : AV → St → R) (b : Builtin) : R := match b with
  | .append => opds t c.args.toList fun l => match l with
    | [x, y] => appA P c.argTypes s x y κ
    | _ => .fail 151
  | .copy => opds t c.args.toList fun l => match l with
    | [x, y] => optK (c.argTypes[0]?) 152 fun T => copyA P T s x y κ
    | _ => .fail 153
  | _ => quietK P s t op κ
def evOp (call : CallT) (s : St) (t : Tr AV) (κ : AV → St → R) (op : Op) : R := match op with
  | .alloc T => allocA P T s κ
  | .box T v => opd t v fun v => boxA T v s κ
  | .buildSlice T n parts => buildS P T n t parts s κ
  | .makeSlice T l c => opd t l fun l => opd t c fun c => makeS P T l c s κ
  | .store T a v => opd t a fun a => opd t v fun v => storeA P T s a v (skipK κ)
  | .makeMap T r => match r with
    | none => mapNew s κ
    | some _ => .fail 154
  | .mapUpdate T m k v => opd t m fun m => opd t k fun k => opd t v fun v => mapSet P T s m k v (skipK κ)
  | .insert T m k v => opd t m fun m => opd t k fun k => opd t v fun v => mapSet P T s m k v (skipK κ)
  | .convert src dst x => match intOfT P dst with
    | some _ => quietK P s t op κ
    | none => opd t x fun x => convE P src dst x s κ
  | .call c => match c.callee with
    | .value f => opd t f fun f => opds t c.args.toList fun l => callV call s l κ f
    | .builtin b => blt2 P s t op c κ b
    | _ => .fail 156
  | op => quietK P s t op κ

/-! regions -/
def putK (sz : Nat) (t : Tr AV) (v : AV) (κ : Tr AV → R) (d : Option Tmp) : R := match d with
  | none => κ t
  | some d => Bool.rec (motive := fun _ => R) (.fail 160) (κ (t.set d v)) (Nat.blt d sz)
def wantB (pc : PC) (want : Bool) (κ : Bool → PC → R) (v : Option AV) : R := match v with
  | none => κ false pc
  | some (.bool b) => decK pc b fun b pc => κ (b == want) pc
  | some (.raw _) => .fail 161
  | some (.opq _) => .fail 161
  | some _ => κ false pc
def wantG (ops : Array Oper) (t : Tr AV) (pc : PC) (κ : Bool → PC → R) (g : Nat × Bool) : R := match (ops[g.1]?).bind (·.dst) with
  | some d => wantB pc g.2 κ (t.get d)
  | none => κ false pc
def wantK (ops : Array Oper) (t : Tr AV) (pc : PC) (κ : Bool → PC → R) (g : Option (Nat × Bool)) : R := match g with
  | none => κ true pc
  | some g => wantG ops t pc κ g
abbrev RK := St → Tr AV → R
def doneK (sz : Nat) (t : Tr AV) (d : Option Tmp) (κ : RK) (v : AV) (s : St) : R := putK sz t v (κ s) d
def opW (call : CallT) (sz : Nat) (o : Oper) (s : St) (t : Tr AV) (κ : RK) (b : Bool) (pc : PC) : R :=
  Bool.rec (motive := fun _ => R) (putK sz t undefA (κ ⟨s.hp, s.nx, pc⟩) o.dst) (evOp P call ⟨s.hp, s.nx, pc⟩ t (doneK sz t o.dst κ) o.op) b
def opG (ops : Array Oper) (call : CallT) (sz : Nat) (s : St) (t : Tr AV) (κ : RK) (o : Oper) : R := match o.guard with
  | none => evOp P call s t (doneK sz t o.dst κ) o.op
  | some g => wantG ops t s.pc (opW P call sz o s t κ) g
def evOps (ops : Array Oper) (call : CallT) (sz : Nat) (l : List Oper) : St → Tr AV → RK → R :=
  List.rec (motive := fun _ => St → Tr AV → RK → R) (fun s t κ => κ s t) (fun o _ ih s t κ => opG P ops call sz s t (fun s t => ih s t κ) o) l
/-- a block of quiet ones -/
def qW (sz : Nat) (h : Tr AObj) (o : Oper) (t : Tr AV) (κ : Tr AV → PC → R) (b : Bool) (pc : PC) : R :=
  Bool.rec (motive := fun _ => R) (putK sz t undefA (fun t => κ t pc) o.dst) (evQ P h t pc o.op fun v pc => putK sz t v (fun t => κ t pc) o.dst) b
def evQs (ops : Array Oper) (sz : Nat) (h : Tr AObj) (l : List Oper) : Tr AV → PC → (Tr AV → PC → R) → R :=
  List.rec (motive := fun _ => Tr AV → PC → (Tr AV → PC → R) → R) (fun t pc κ => κ t pc) (fun o _ ih t pc κ => wantK ops t pc (qW P sz h o t fun t pc => ih t pc κ) o.guard) l
/-- again: each gives what it gave -/
def agW (sz : Nat) (h : Tr AObj) (o : Oper) (t : Tr AV) (κ : PC → R) (b : Bool) (pc : PC) : R := .fail 170
def optEqN (a : Option Nat) (n : Nat) : Bool := match a with
  | some m => Nat.beq m n
  | none => false
end

mutual
def AV.beq : AV → AV → Bool
  | .int k a, .int k' b => decide (k = k') && SI.beq a b
  | .bool a, .bool b => SB.beq a b
  | .ptr i o, .ptr j q => Nat.beq i j && Nat.beq o q
  | .sl i o n c, .sl j q m d => Nat.beq i j && (Nat.beq o q && (Nat.beq n m && (match c with | none => d.isNone | some c => optEqN d c)))
  | .emp i o n, .emp j q m => Nat.beq i j && (Nat.beq o q && Nat.beq n m)
  | .map i, .map j => Nat.beq i j
  | .fn (.func f) a b, .fn (.func g) c d => Nat.beq f g && (AV.beqL a c && AV.beqL b d)
  | .agg l, .agg m => AV.beqL l m
  | .tup l, .tup m => AV.beqL l m
  | .raw v, .raw w => isNilV v && isNilV w && (match v, w with
    | .pointer none, .pointer none => true
    | .slice none a b, .slice none c d => Nat.beq a c && Nat.beq b d
    | .map none, .map none => true
    | .nilFunc, .nilFunc => true
    | _, _ => false)
  | _, _ => false
def AV.beqL : List AV → List AV → Bool
  | [], [] => true
  | a :: l, b :: m => AV.beq a b && AV.beqL l m
  | _, _ => false
end
section
variable (P : Program)
/-- the temporary holds v -/
def holdsK (t : Tr AV) (d : Option Tmp) (v : AV) (κ : R) : R := match d with
  | none => κ
  | some d => match t.get d with
    | some u => Bool.rec (motive := fun _ => R) (.fail 171) κ (AV.beq u v)
    | none => Bool.rec (motive := fun _ => R) (.fail 172) κ (AV.beq undefA v)
def agK (h : Tr AObj) (o : Oper) (t : Tr AV) (κ : PC → R) (b : Bool) (pc : PC) : R :=
  Bool.rec (motive := fun _ => R) (holdsK t o.dst undefA (κ pc)) (evQ P h t pc o.op fun v pc => holdsK t o.dst v (κ pc)) b
def again (ops : Array Oper) (h : Tr AObj) (t : Tr AV) (l : List Oper) : PC → (PC → R) → R :=
  List.rec (motive := fun _ => PC → (PC → R) → R) (fun pc κ => κ pc) (fun o _ ih pc κ => wantK ops t pc (agK P h o t fun pc => ih pc κ) o.guard) l
def evPart (ops : Array Oper) (call : CallT) (sz : Nat) (x : List Nat × List Nat × List Nat) (s : St) (t : Tr AV) (κ : RK) : R :=
  evQs P ops sz s.hp (pick ops x.1) t s.pc fun t pc => evOps P ops call sz (pick ops x.2.1) ⟨s.hp, s.nx, pc⟩ t fun s t => again P ops s.hp t (pick ops x.2.2) s.pc fun pc => κ ⟨s.hp, s.nx, pc⟩ t
def evMix (ops : Array Oper) (call : CallT) (sz : Nat) (p : Plan) : St → Tr AV → RK → R :=
  List.rec (motive := fun _ => St → Tr AV → RK → R) (fun s t κ => κ s t) (fun x _ ih s t κ => evPart P ops call sz x s t fun s t => ih s t κ) p
def mixOk (ops : Array Oper) (p : Plan) : Bool := mixB ops p && (!p.isEmpty && decide (planN p = ops.size))

/-! code -/
inductive Ex where
  | normal | exit (id : Nat) | ret
abbrev K := Ex → St → Tr AV → R
abbrev EvT := FuncId → Nat → Code → St → Tr AV → K → R
abbrev Plans := FuncId → Nat → Option Plan

def seqK (ih : EvT) (f sz : Nat) (b : Code) (κ : K) (e : Ex) (s : St) (t : Tr AV) : R := match e with
  | .normal => ih f sz b s t κ
  | e => κ e s t
def cndB (ih : EvT) (f sz : Nat) (a b : Code) (s : St) (t : Tr AV) (κ : K) (c : Bool) (pc : PC) : R := Bool.rec (motive := fun _ => R) (ih f sz b ⟨s.hp, s.nx, pc⟩ t κ) (ih f sz a ⟨s.hp, s.nx, pc⟩ t κ) c
def cndK (ih : EvT) (f sz : Nat) (a b : Code) (s : St) (t : Tr AV) (κ : K) (v : AV) : R := match v with
  | .bool c => decK s.pc c (cndB ih f sz a b s t κ)
  | _ => .fail 180
def blkX (id : Nat) (κ : K) (s : St) (t : Tr AV) (j : Nat) : R := Bool.rec (motive := fun _ => R) (κ (.exit j) s t) (κ .normal s t) (Nat.beq j id)
def blkK (id : Nat) (κ : K) (e : Ex) (s : St) (t : Tr AV) : R := match e with
  | .exit j => blkX id κ s t j
  | e => κ e s t
def loopK (ih : EvT) (f sz : Nat) (c : Code) (κ : K) (e : Ex) (s : St) (t : Tr AV) : R := match e with
  | .normal => ih f sz (.loop c) s t κ
  | e => κ e s t
def resL (h : Tr AObj) (t : Tr AV) (l : List ResultVar) : (List AV → R) → R :=
  List.rec (motive := fun _ => (List AV → R) → R) (fun κ => κ []) (fun r _ ih κ => match r with
    | .tmp d => opdT t (fun v => ih fun l => κ (v :: l)) d
    | .cell d T => opdT t (fun a => loadA P h T a fun v => ih fun l => κ (v :: l)) d) l
def resK (κ : AV → R) (l : List AV) : R := match l with
  | [v] => κ v
  | l => κ (.tup l)
def retR (rs : List ResultVar) (κ : AV → St → R) (s : St) (t : Tr AV) : R := resL P s.hp t rs (resK fun v => κ v s)
def retK (rs : List ResultVar) (κ : AV → St → R) (e : Ex) (s : St) (t : Tr AV) : R := match e with
  | .exit _ => .fail 181
  | _ => retR P rs κ s t
def maxF (a b : Nat) : Nat := Bool.rec (motive := fun _ => Nat) a b (Nat.ble a b)
def callC (ih : EvT) (f : FuncId) (fn : Func) (args : List AV) (s : St) (κ : AV → St → R) (c : Code) : R :=
  Bool.rec (motive := fun _ => R) (ih f (maxF fn.ntmps (lenL args)) c s (trOf args) (retK P fn.results.toList κ)) (.fail 182) (fn.name == "runtime.NumGoroutine")
/-- what is known of a call ahead: what it gives, it changes nothing -/
abbrev Sums := FuncId → List AV → Option AV
def callG (ih : EvT) (f : FuncId) (args : List AV) (s : St) (κ : AV → St → R) : R := optK (P.funcs[f]?) 183 fun fn => optK fn.body 184 (callC P ih f fn args s κ)
def callF (sm : Sums) (ih : EvT) (f : FuncId) (args : List AV) (s : St) (κ : AV → St → R) : R := match sm f args with
  | some v => κ v s
  | none => callG P ih f args s κ
def regK (κ : K) (s : St) (t : Tr AV) : R := κ .normal s t
def drawK (sm : Sums) (ih : EvT) (sz : Nat) (ops : Array Oper) (s : St) (t : Tr AV) (κ : K) (p : Plan) : R := evMix P ops (callF P sm ih) sz p s t (regK κ)
def regC (pl : Plans) (sm : Sums) (ih : EvT) (f sz : Nat) (s : St) (t : Tr AV) (κ : K) (id : Nat) (ops : Array Oper) (draw : Bool) : R :=
  Bool.rec (motive := fun _ => R) (evOps P ops (callF P sm ih) sz ops.toList s t (regK κ)) (optK (pl f id) 186 (drawK P sm ih sz ops s t κ)) draw
def cndC (ih : EvT) (f sz : Nat) (s : St) (t : Tr AV) (κ : K) (c : Operand) (a b : Code) : R := opd t c (cndK ih f sz a b s t κ)
def evF (pl : Plans) (sm : Sums) (ih : EvT) (f sz : Nat) (c : Code) (s : St) (t : Tr AV) (κ : K) : R := match c with
  | .skip => κ .normal s t
  | .region id ops draw => regC P pl sm ih f sz s t κ id ops draw
  | .seq a b => ih f sz a s t (seqK ih f sz b κ)
  | .cond c a b => cndC ih f sz s t κ c a b
  | .block id c => ih f sz c s t (blkK id κ)
  | .loop c => ih f sz c s t (loopK ih f sz c κ)
  | .exit id => κ (.exit id) s t
  | .scope c => ih f sz c s t κ
  | .label _ => κ .normal s t
  | .ret => κ .ret s t
  | _ => .fail 187
def ev (pl : Plans) (sm : Sums) (n : Nat) : EvT := Nat.rec (motive := fun _ => EvT) (fun _ _ _ _ _ _ => .fail 188) (fun _ ih => evF P pl sm ih) n
/-- a whole call -/
def evCall (pl : Plans) (sm : Sums) (n : Nat) : CallT := callG P (ev P pl sm n)
def s0 (smp : List Int) : St := ⟨.nil, nat_lit 0, ⟨[], smp⟩⟩
end
end

end Go.Proofs.Ytdklpcjipkhenaa
