/-
  (*route.Table).at, where the net is made: a walk over the bits of an address.
-/
import Derived.Test.YtjpjmhcpomkjmaaGreatSsh
import Derived.Deep.QuietTactic
import Derived.BigQuiet
set_option linter.unusedVariables false
set_option linter.unusedSimpArgs false
namespace Go.Proofs.YtjpjmhcpomkjmaaGreat
open Go Go.RowKit

def bitZ (a i : Int) : Int := wrap64 (bits BinOp.and .u32 (a / 2 ^ (31 - i).toNat) 1)
theorem and1u (n : Int) : bits BinOp.and .u32 n 1 = n % 2 := by
  have h1 : (BitVec.ofInt 32 1).toNat = 2 ^ 1 - 1 := by decide
  have key : (BitVec.ofInt 32 n &&& BitVec.ofInt 32 1).toNat = (n % ((2 ^ 32 : Nat) : Int)).toNat % 2 ^ 1 := by
    rw [BitVec.toNat_and, BitVec.toNat_ofInt, h1, Nat.and_two_pow_sub_one_eq_mod]
  show IntKind.u32.wrap ((BitVec.ofInt 32 n &&& BitVec.ofInt 32 1).toNat : Nat) = n % 2
  rw [key, wrap_u32']
  omega
theorem bitZ_eq (a i : Int) : bitZ a i = a / 2 ^ (31 - i).toNat % 2 := by
  unfold bitZ
  rw [and1u]
  unfold wrap64
  omega
theorem bitZ_01 (a i : Int) : bitZ a i = 0 ∨ bitZ a i = 1 := by
  rw [bitZ_eq]
  omega
theorem bit_any (a i : Int) (hi : 0 ≤ i ∧ i ≤ 31) (w : World) : Calls Tryz.prog 182 #[.int .u32 a, .int .i64 i] w fun e w' => e = .returned (.int .i64 (bitZ a i)) ∧ w' = w := by
  go_enter Tryz.func182, Tryz.ntmps182
  go_wp2_with fail
  exact bodyPost_ret (results_tmp rfl _ _ _) rfl ⟨rfl, rfl⟩
theorem al_heap {w : World} {bt m : Nat} {o O : Obj} (h : w.heap[bt]? = some o) : ((w.drewN m).alloc O).heap[bt]? = some o := by
  have hlt : bt < w.heap.size := by
    rcases Nat.lt_or_ge bt w.heap.size with h' | h'
    · exact h'
    · simp [Array.getElem?_eq_none h'] at h
  exact (Below.heap_alloc _ _ _ hlt).trans h
theorem set_heap {w : World} {b i : Nat} {arr : Array Value} {T : TypeId} {u : Value} (h : w.heap[b]? = some (.cells arr T (0, 0))) : (w.setCell ⟨b, i, none⟩ u).heap[b]? = some (.cells (arr.setIfInBounds i u) T (0, 0)) := by
  have hlt : b < w.heap.size := by
    rcases Nat.lt_or_ge b w.heap.size with h' | h'
    · exact h'
    · simp [Array.getElem?_eq_none h'] at h
  have h' : w.heap[b] = .cells arr T (0, 0) := by simpa [Array.getElem?_eq_getElem hlt] using h
  show (w.heap.modify b _)[b]? = _
  rw [Array.getElem?_eq_getElem (by simpa using hlt), Array.getElem_modify_self, h']
  rfl
theorem lt_heap {w : World} {b : Nat} {o : Obj} (h : w.heap[b]? = some o) : b < w.heap.size := by
  rcases Nat.lt_or_ge b w.heap.size with h' | h'
  · exact h'
  · simp [Array.getElem?_eq_none h'] at h
def nodeO : Obj := .cells #[.slice none 0 0, .pointer none, .pointer none] 69 (0, 0)
def nodeC : Array Value := #[.slice none 0 0, .pointer none, .pointer none]
/-- the walk, k bits far: the root as it was, or with its one kid; where it stands -/
def AtI (w wr : World) (bt ot : Nat) (arr : Array Value) (T : TypeId) (net : Int) (k : Nat) (x : Value) : Prop :=
  Kp [bt] w wr ∧ w.heap.size < wr.heap.size ∧ ((k = 0 ∧ x = .pointer (some ⟨bt, ot, none⟩) ∧ wr.heap[bt]? = some (.cells arr T (0, 0))) ∨
    ∃ b1 b2 : Nat, 1 ≤ k ∧ x = .pointer (some ⟨b2, 0, none⟩) ∧ w.heap.size < b1 ∧ w.heap.size < b2 ∧ b1 < wr.heap.size ∧ wr.heap[b2]? = some (.cells nodeC 69 (0, 0)) ∧ wr.heap[bt]? = some (.cells (arr.setIfInBounds (ot + 1 + (bitZ net 0).toNat) (.pointer (some ⟨b1, 0, none⟩))) T (0, 0)) ∧ (k = 1 → b1 = b2) ∧ (1 < k → b1 ≠ b2))
/-- the world behind a round: a new node, and a kid that is it -/
def rndW (wr : World) (m b i : Nat) : World := ((wr.drewN m).alloc (.cells #[.slice none 0 0, .pointer none, .pointer none] 69 (0, 0))).setCell ⟨b, i, none⟩ (.pointer (some ⟨wr.heap.size, 0, none⟩))
theorem rndW_size (wr : World) (m b i : Nat) : (rndW wr m b i).heap.size = wr.heap.size + 1 := by
  simp [rndW, World.setCell, World.alloc, World.drewN]
theorem rndW_old {wr : World} {m b i k : Nat} (h : k < wr.heap.size) (hn : k ≠ b) : (rndW wr m b i).heap[k]? = wr.heap[k]? := by
  unfold rndW
  rw [Below.heap_setCell _ _ _ _ hn]
  exact Below.heap_alloc _ _ _ h
theorem rndW_new {wr : World} {m b i : Nat} (hn : wr.heap.size ≠ b) : (rndW wr m b i).heap[wr.heap.size]? = some (.cells nodeC 69 (0, 0)) := by
  unfold rndW
  rw [Below.heap_setCell _ _ _ _ hn]
  have := heap_alloc_new (wr.drewN m) (.cells #[.slice none 0 0, .pointer none, .pointer none] 69 (0, 0))
  exact this
theorem rndW_kp {w wr : World} {m b i : Nat} {L : List Nat} (h : Kp L w wr) (hb : b ∈ L ∨ w.heap.size ≤ b) : Kp L w (rndW wr m b i) := ((h.drewN m).alloc _).setCell hb _
theorem at_step0 {w wr : World} {m bt ot i : Nat} {arr : Array Value} {T : TypeId} {net : Int} (hw : bt < w.heap.size) (hk : Kp [bt] w wr) (hs : w.heap.size < wr.heap.size) (hr : wr.heap[bt]? = some (.cells arr T (0, 0))) (hi : i = ot + 1 + (bitZ net 0).toNat) :
    AtI w (rndW wr m bt i) bt ot arr T net 1 (.pointer (some ⟨wr.heap.size, 0, none⟩)) := by
  refine ⟨rndW_kp hk (.inl (by simp)), by rw [rndW_size]; omega, .inr ⟨wr.heap.size, wr.heap.size, Nat.le_refl _, rfl, hs, hs, by rw [rndW_size]; omega, rndW_new (by omega), ?_, fun _ => rfl, fun h => by omega⟩⟩
  subst hi
  exact set_heap (al_heap hr)
theorem at_step1 {w wr : World} {m bt ot i k b1 b2 : Nat} {arr : Array Value} {T : TypeId} {net : Int} (hw : bt < w.heap.size) (hk : Kp [bt] w wr) (hk1 : 1 ≤ k) (hb1 : w.heap.size < b1) (hb2 : w.heap.size < b2) (hb3 : b1 < wr.heap.size) (hnd : wr.heap[b2]? = some (.cells nodeC 69 (0, 0)))
    (hr : wr.heap[bt]? = some (.cells (arr.setIfInBounds (ot + 1 + (bitZ net 0).toNat) (.pointer (some ⟨b1, 0, none⟩))) T (0, 0))) : AtI w (rndW wr m b2 i) bt ot arr T net (k + 1) (.pointer (some ⟨wr.heap.size, 0, none⟩)) := by
  have h2 := lt_heap hnd
  refine ⟨rndW_kp hk (.inr (by omega)), by rw [rndW_size]; omega, .inr ⟨b1, wr.heap.size, by omega, rfl, hb1, by omega, by rw [rndW_size]; omega, rndW_new (by omega), ?_, fun h => by omega, fun _ => by omega⟩⟩
  rw [rndW_old (lt_heap hr) (by omega)]
  exact hr
set_option maxRecDepth 100000 in
theorem at_any (bt ot : Nat) (arr : Array Value) (T : TypeId) (net : Int) (n : Nat) (y z : Value) (hn : 1 ≤ n ∧ n ≤ 32) (w : World) (hw : w.heap[bt]? = some (.cells arr T (0, 0))) (h1 : arr[ot + 1]? = some (.pointer none)) (h2 : arr[ot + 2]? = some (.pointer none)) :
    Calls Tryz.prog 115 #[.pointer (some ⟨bt, ot, none⟩), .agg #[.int .u32 net, .int .i64 n, y, z], .bool true] w fun e w' => ∃ x, e = .returned x ∧ AtI w w' bt ot arr T net n x := by
  have hbt := lt_heap hw
  have n1 : nodeC[1]? = some (.pointer none) := rfl
  have n2 : nodeC[2]? = some (.pointer none) := rfl
  go_enter Tryz.func115, Tryz.ntmps115
  go_wp2
  go_loopw [7, 15] (fun x i wr => ∃ k : Nat, k ≤ n ∧ i = .int .i64 k ∧ wr.heap[w.heap.size]? = some (.cells #[.int .u32 net, .int .i64 n, y, z] 219 (0, 0)) ∧ AtI w wr bt ot arr T net k x) (fun x i _ => n - (intOf i).toNat)
  case atStart =>
    exact ⟨0, Nat.zero_le _, rfl, heap_alloc_new w _, (Kp.refl _ _).alloc _, by simp, .inl ⟨rfl, rfl, (Below.heap_alloc _ _ _ hbt).trans hw⟩⟩
  case round =>
    obtain ⟨k, hk, rfl, hbox, hkp, hsz, hAt⟩ := hrel
    by_cases hkn : k < n
    · have hbit := bit_any net k ⟨by omega, by omega⟩
      have hib : (k : Int) < (n : Int) := by omega
      have hc0 : wr.cell? ⟨w.heap.size, 0, none⟩ = some (.int .u32 net) := by simp [World.cell?, hbox]
      rcases bitZ_01 net (k : Int) with hj | hj <;> rw [hj] at hbit
      · rcases hAt with ⟨rfl, rfl, hrt⟩ | ⟨b1, b2, hk1, rfl, hb1, hb2, hb3, hnd, hrt, he1, he2⟩
        · have hb0 : ∀ w : World, Calls Tryz.prog 182 #[.int .u32 net, .int .i64 0] w fun e w' => e = .returned (.int .i64 0) ∧ w' = w := hbit
          have hc1 : wr.cell? ⟨bt, ot + 1, none⟩ = some (.pointer none) := by simp [World.cell?, hrt, h1]
          have hlt1 : ot + 1 < (arr).size := by
            rcases Nat.lt_or_ge (ot + 1) (arr).size with h' | h'
            · exact h'
            · have := h1; simp [Array.getElem?_eq_none h'] at this
          go_wp2
          go_quiet ((go_at_call 182; exact Calls.quiet_of_same (hb0 _)))
          have hrt2 : ((wr.drewN nq).alloc (.cells #[.slice none 0 0, .pointer none, .pointer none] 69 (0, 0))).heap[bt]? = _ := al_heap hrt
          have hc2 : ((wr.drewN nq).alloc (.cells #[.slice none 0 0, .pointer none, .pointer none] 69 (0, 0))).cell? ⟨bt, ot + 1, none⟩ = some (.pointer none) := by simp [World.cell?, hrt2, h1]
          have hf2 : ((wr.drewN nq).alloc (.cells #[.slice none 0 0, .pointer none, .pointer none] 69 (0, 0))).frozen? ⟨bt, ot + 1, none⟩ = false := by simp [World.frozen?, hrt2]
          have hrt3 : (((wr.drewN nq).alloc (.cells #[.slice none 0 0, .pointer none, .pointer none] 69 (0, 0))).setCell ⟨bt, ot + 1, none⟩ (.pointer (some ⟨wr.heap.size, 0, none⟩))).heap[bt]? = _ := set_heap hrt2
          have hc3 : (((wr.drewN nq).alloc (.cells #[.slice none 0 0, .pointer none, .pointer none] 69 (0, 0))).setCell ⟨bt, ot + 1, none⟩ (.pointer (some ⟨wr.heap.size, 0, none⟩))).cell? ⟨bt, ot + 1, none⟩ = some (.pointer (some ⟨wr.heap.size, 0, none⟩)) := by simp [World.cell?, hrt3, hlt1]
          go_wp2
          exact ⟨⟨1, by omega, rfl, (rndW_old (m := nq) (b := bt) (i := ot + 1) hsz (by omega)).trans hbox, at_step0 hbt hkp hsz hrt (by rw [show bitZ net 0 = 0 from hj]; rfl)⟩, by simp [intOf]; omega⟩
        · have hc1 : wr.cell? ⟨b2, 1, none⟩ = some (.pointer none) := by simp [World.cell?, hnd, n1]
          have hlt1 : 1 < (nodeC).size := by
            rcases Nat.lt_or_ge (1) (nodeC).size with h' | h'
            · exact h'
            · have := n1; simp [Array.getElem?_eq_none h'] at this
          go_wp2
          go_quiet ((go_at_call 182; exact Calls.quiet_of_same (hbit _)))
          have hrt2 : ((wr.drewN nq).alloc (.cells #[.slice none 0 0, .pointer none, .pointer none] 69 (0, 0))).heap[b2]? = _ := al_heap hnd
          have hc2 : ((wr.drewN nq).alloc (.cells #[.slice none 0 0, .pointer none, .pointer none] 69 (0, 0))).cell? ⟨b2, 1, none⟩ = some (.pointer none) := by simp [World.cell?, hrt2, n1]
          have hf2 : ((wr.drewN nq).alloc (.cells #[.slice none 0 0, .pointer none, .pointer none] 69 (0, 0))).frozen? ⟨b2, 1, none⟩ = false := by simp [World.frozen?, hrt2]
          have hrt3 : (((wr.drewN nq).alloc (.cells #[.slice none 0 0, .pointer none, .pointer none] 69 (0, 0))).setCell ⟨b2, 1, none⟩ (.pointer (some ⟨wr.heap.size, 0, none⟩))).heap[b2]? = _ := set_heap hrt2
          have hc3 : (((wr.drewN nq).alloc (.cells #[.slice none 0 0, .pointer none, .pointer none] 69 (0, 0))).setCell ⟨b2, 1, none⟩ (.pointer (some ⟨wr.heap.size, 0, none⟩))).cell? ⟨b2, 1, none⟩ = some (.pointer (some ⟨wr.heap.size, 0, none⟩)) := by simp [World.cell?, hrt3, hlt1]
          go_wp2
          exact ⟨⟨k + 1, by omega, by simp, (rndW_old (m := nq) (b := b2) (i := 1) hsz (by omega)).trans hbox, at_step1 hbt hkp hk1 hb1 hb2 hb3 hnd hrt⟩, by simp [intOf]; omega⟩
      · rcases hAt with ⟨rfl, rfl, hrt⟩ | ⟨b1, b2, hk1, rfl, hb1, hb2, hb3, hnd, hrt, he1, he2⟩
        · have hb0 : ∀ w : World, Calls Tryz.prog 182 #[.int .u32 net, .int .i64 0] w fun e w' => e = .returned (.int .i64 1) ∧ w' = w := hbit
          have hc1 : wr.cell? ⟨bt, ot + 2, none⟩ = some (.pointer none) := by simp [World.cell?, hrt, h2]
          have hlt1 : ot + 2 < (arr).size := by
            rcases Nat.lt_or_ge (ot + 2) (arr).size with h' | h'
            · exact h'
            · have := h2; simp [Array.getElem?_eq_none h'] at this
          go_wp2
          go_quiet ((go_at_call 182; exact Calls.quiet_of_same (hb0 _)))
          have hrt2 : ((wr.drewN nq).alloc (.cells #[.slice none 0 0, .pointer none, .pointer none] 69 (0, 0))).heap[bt]? = _ := al_heap hrt
          have hc2 : ((wr.drewN nq).alloc (.cells #[.slice none 0 0, .pointer none, .pointer none] 69 (0, 0))).cell? ⟨bt, ot + 2, none⟩ = some (.pointer none) := by simp [World.cell?, hrt2, h2]
          have hf2 : ((wr.drewN nq).alloc (.cells #[.slice none 0 0, .pointer none, .pointer none] 69 (0, 0))).frozen? ⟨bt, ot + 2, none⟩ = false := by simp [World.frozen?, hrt2]
          have hrt3 : (((wr.drewN nq).alloc (.cells #[.slice none 0 0, .pointer none, .pointer none] 69 (0, 0))).setCell ⟨bt, ot + 2, none⟩ (.pointer (some ⟨wr.heap.size, 0, none⟩))).heap[bt]? = _ := set_heap hrt2
          have hc3 : (((wr.drewN nq).alloc (.cells #[.slice none 0 0, .pointer none, .pointer none] 69 (0, 0))).setCell ⟨bt, ot + 2, none⟩ (.pointer (some ⟨wr.heap.size, 0, none⟩))).cell? ⟨bt, ot + 2, none⟩ = some (.pointer (some ⟨wr.heap.size, 0, none⟩)) := by simp [World.cell?, hrt3, hlt1]
          go_wp2
          exact ⟨⟨1, by omega, rfl, (rndW_old (m := nq) (b := bt) (i := ot + 2) hsz (by omega)).trans hbox, at_step0 hbt hkp hsz hrt (by rw [show bitZ net 0 = 1 from hj]; rfl)⟩, by simp [intOf]; omega⟩
        · have hc1 : wr.cell? ⟨b2, 2, none⟩ = some (.pointer none) := by simp [World.cell?, hnd, n2]
          have hlt1 : 2 < (nodeC).size := by
            rcases Nat.lt_or_ge (2) (nodeC).size with h' | h'
            · exact h'
            · have := n2; simp [Array.getElem?_eq_none h'] at this
          go_wp2
          go_quiet ((go_at_call 182; exact Calls.quiet_of_same (hbit _)))
          have hrt2 : ((wr.drewN nq).alloc (.cells #[.slice none 0 0, .pointer none, .pointer none] 69 (0, 0))).heap[b2]? = _ := al_heap hnd
          have hc2 : ((wr.drewN nq).alloc (.cells #[.slice none 0 0, .pointer none, .pointer none] 69 (0, 0))).cell? ⟨b2, 2, none⟩ = some (.pointer none) := by simp [World.cell?, hrt2, n2]
          have hf2 : ((wr.drewN nq).alloc (.cells #[.slice none 0 0, .pointer none, .pointer none] 69 (0, 0))).frozen? ⟨b2, 2, none⟩ = false := by simp [World.frozen?, hrt2]
          have hrt3 : (((wr.drewN nq).alloc (.cells #[.slice none 0 0, .pointer none, .pointer none] 69 (0, 0))).setCell ⟨b2, 2, none⟩ (.pointer (some ⟨wr.heap.size, 0, none⟩))).heap[b2]? = _ := set_heap hrt2
          have hc3 : (((wr.drewN nq).alloc (.cells #[.slice none 0 0, .pointer none, .pointer none] 69 (0, 0))).setCell ⟨b2, 2, none⟩ (.pointer (some ⟨wr.heap.size, 0, none⟩))).cell? ⟨b2, 2, none⟩ = some (.pointer (some ⟨wr.heap.size, 0, none⟩)) := by simp [World.cell?, hrt3, hlt1]
          go_wp2
          exact ⟨⟨k + 1, by omega, by simp, (rndW_old (m := nq) (b := b2) (i := 2) hsz (by omega)).trans hbox, at_step1 hbt hkp hk1 hb1 hb2 hb3 hnd hrt⟩, by simp [intOf]; omega⟩
    · have hib : ¬ (k : Int) < (n : Int) := by omega
      have hib2 : decide ((k : Int) < (n : Int)) = false := by simpa using hib
      obtain rfl : k = n := by omega
      have hA : AtI w wr bt ot arr T net k _ := ⟨hkp, hsz, hAt⟩
      go_wp2
      refine bodyPost_ret (results_tmp rfl _ _ _) rfl ⟨_, rfl, ?_⟩
      go_simp

/-! as a summary -/
noncomputable section
/-- a cell of a thing that is no row -/
def celR (h : Tr AObj) (id off : Nat) : Option AV := match h.get id with
  | some (.cells n c d T false) => Bool.rec (motive := fun _ => Option AV) none (celA c d off) (Nat.blt off n)
  | _ => none
def nilC (v : Option AV) : Bool := match v with
  | some (.raw (.pointer none)) => true
  | _ => false
/-- an address's first bit -/
def bitE (e : SI) : SI := .conv .i64 (.bin .and .u32 (.bin .shr .u32 e (.lit (.ofNat (nat_lit 31)))) (.lit (.ofNat (nat_lit 1))))
def deadI (h : Tr AObj) (i : Nat) : Bool := match h.get i with
  | some .dead => true
  | _ => false
/-- the first kid is a thing of which nothing is told; the node -/
def atS (id off : Nat) (κ : AV → St → R) (s : St) : R :=
  storeL ⟨s.hp.set s.nx .dead, Nat.succ s.nx, s.pc⟩ id off [.ptr s.nx (nat_lit 0)] fun s2 => Bool.rec (motive := fun _ => R) (.fail 501) (newL s2 [.raw (.slice none 0 0), .raw (.pointer none), .raw (.pointer none)] 69 false fun id s => κ (.ptr id (nat_lit 0)) s) (deadI s2.hp s.nx)
def atQ (l : List AV) (h : Tr AObj) : Option (Nat × Nat × SI) := match l with
  | [.ptr id o, .agg [.int .u32 e, .int .i64 (.lit (.ofNat n)), _, _], .bool (.lit true)] => Bool.rec (motive := fun _ => Option (Nat × Nat × SI)) none (some (id, o, e)) (Nat.ble (nat_lit 1) n && (Nat.ble n (nat_lit 32) && (nilC (celR h id (Nat.add o (nat_lit 1))) && nilC (celR h id (Nat.add o (nat_lit 2))))))
  | _ => none
def sumAt : Sums := fun f l s κ alt => Bool.rec (motive := fun _ => R) alt (Option.rec (motive := fun _ => R) alt (fun x => decK s.pc (.cmp .eql (bitE x.2.2) (.lit (.ofNat (nat_lit 0)))) fun b pc => forceN (Nat.add x.2.1 (Bool.rec (motive := fun _ => Nat) (nat_lit 2) (nat_lit 1) b)) fun off => atS x.1 off κ ⟨s.hp, s.nx, pc⟩) (atQ l s.hp)) (Nat.beq f 115)
end
theorem bitE_aux (x : Int) : IntKind.i64.wrap (binZ .and .u32 x 1) = wrap64 (bits BinOp.and .u32 x 1) := by
  have e3 : binZ .and .u32 x 1 = bits BinOp.and .u32 x 1 := rfl
  rw [e3]
  generalize bits BinOp.and .u32 x 1 = z
  have := wrap_i64' z
  unfold wrap64
  omega
theorem bitE_ev (ρ : Nat → Int) (e : SI) : (bitE e).ev ρ = bitZ (e.ev ρ) 0 := by
  have h2 := shr_ev .u32 (e.ev ρ) 31
  have e1 : min 31 IntKind.u32.bits = ((31 : Int) - 0).toNat := rfl
  rw [e1] at h2
  have h1 : (bitE e).ev ρ = IntKind.i64.wrap (binZ .and .u32 (binZ .shr .u32 (e.ev ρ) (Int.ofNat 31)) 1) := by rfl
  exact (h1.trans (congrArg (fun x => IntKind.i64.wrap (binZ .and .u32 x 1)) h2)).trans (bitE_aux _)
section
variable {ρ : Nat → Int} {w0 : Base} {φ : List Pl} {s : St} {w : World}
theorem celR_at (hg : Gm Tryz.prog ρ w0 φ s w) {id off : Nat} (h : nilC (celR s.hp id off) = true) : ∃ p arr T, φ[id]? = some p ∧ p.sh = 0 ∧ w.heap[p.blk]? = some (.cells arr T (0, 0)) ∧ arr[off]? = some (.pointer none) := by
  unfold nilC at h
  split at h
  rotate_left
  · cases h
  rename_i hv
  unfold celR at hv
  split at hv
  rotate_left
  · cases hv
  rename_i n c d T hid
  cases hb : Nat.blt off n with
  | false => rw [hb] at hv; cases hv
  | true =>
    rw [hb] at hv
    have hv : celA c d off = some (.raw (.pointer none)) := hv
    rw [natBlt, decide_eq_true_eq] at hb
    obtain ⟨p, arr, fz, hp, hc⟩ := hg.hp.obj _ _ hid
    obtain ⟨h1, _, rfl, _⟩ := hc.fix rfl
    obtain ⟨v', x, e1, e2, e3, _⟩ := hc.cell off hb
    rw [hv] at e1; cases e1
    simp only [conc, Option.some.injEq] at e2
    subst e2
    rw [h1, Nat.zero_add] at e3
    exact ⟨p, arr, _, hp, h1, hc.blk, e3⟩
/-- a thing of which nothing is told -/
theorem Gm.dead (hg : Gm Tryz.prog ρ w0 φ s w) {b : Nat} (hlo : w0.w0.heap.size ≤ b) (hhi : b < w.heap.size) (hfree : ∀ (i : Nat) (q : Pl), φ[i]? = some q → q.blk ≠ b) (hfr : ∀ x ∈ w0.fr, b ≠ x.1) (pc : PC) : Gm Tryz.prog ρ w0 (φ ++ [⟨b, 0, 3, 1⟩]) ⟨s.hp.set s.nx .dead, s.nx + 1, pc⟩ w :=
  hg.add (p := ⟨b, 0, 3, 1⟩) (o := .dead) hlo hhi (fun i _ q _ _ hq => hfree i q hq) ⟨⟨b, 0, 3, 1⟩, by rw [← hg.len]; simp⟩ pc hfr
end
theorem at_gm {ρ : Nat → Int} {w0 : Base} {φ : List Pl} {s s2 s3 : St} {w w' : World} {pc : PC} {id i b1 b2 : Nat} {p : Pl} {arr : Array Value} {T : TypeId} (hg : Gm Tryz.prog ρ w0 φ s w) (p1 : φ[id]? = some p) (p2 : p.sh = 0) (p3 : w.heap[p.blk]? = some (.cells arr T (0, 0))) (ai : arr[i]? = some (.pointer none))
    (hkp : Kp [p.blk] w w') (hb1 : w.heap.size < b1) (hb1' : b1 < w'.heap.size) (hb2 : w.heap.size < b2) (hnd : w'.heap[b2]? = some (.cells nodeC 69 (0, 0))) (hrt : w'.heap[p.blk]? = some (.cells (arr.setIfInBounds i (.pointer (some ⟨b1, 0, none⟩))) T (0, 0)))
    (q2 : ∀ {w0 φ w p xs}, Gm Tryz.prog ρ w0 φ ⟨s.hp.set s.nx .dead, Nat.succ s.nx, pc⟩ w → φ[id]? = some p → concL φ ρ [.ptr s.nx (nat_lit 0)] = some xs → ∃ w', (storeCells ⟨p.blk, p.sh + i, none⟩ xs).run Tryz.prog w = .ok () w' ∧ Gm Tryz.prog ρ w0 φ s2 w')
    (q3 : ∀ {w0 φ w xs p arr fz}, Gm Tryz.prog ρ w0 φ s2 w → concL φ ρ [.raw (.slice none 0 0), .raw (.pointer none), .raw (.pointer none)] = some xs → w0.w0.heap.size ≤ p.blk → p.blk < w.heap.size →
      (∀ i o' q, s2.hp.get i = some o' → live o' = true → φ[i]? = some q → q.blk ≠ p.blk) → w.heap[p.blk]? = some (.cells arr 69 fz) → arr.size = p.sz → p.sh + 3 ≤ p.sz → (false = false → p.sh = 0 ∧ p.sz = 3 ∧ fz = (0, 0) ∧ p.es = 1) → (false = true → sizeA Tryz.prog 69 = some p.es ∧ 0 < p.es) →
      (∀ i, i < p.sz → ¬ (fz.1 ≤ i ∧ i < fz.2)) → (∀ i, i < 3 → arr[p.sh + i]? = xs[i]?) → (∀ x ∈ w0.fr, p.blk ≠ x.1) → Gm Tryz.prog ρ w0 (φ ++ [p]) s3 w)
    (hdead : deadI s2.hp s.nx = true) :
    ∃ φ', φ <+: φ' ∧ φ'[s2.nx]? = some ⟨b2, 0, 3, 1⟩ ∧ Gm Tryz.prog ρ w0 φ' s3 w' := by
  have hi : i < arr.size := by
    rcases Nat.lt_or_ge i arr.size with h' | h'
    · exact h'
    · simp [Array.getElem?_eq_none h'] at ai
  have hpb := (hg.lo id p p1).2
  have hlo := (hg.lo id p p1).1
  have hk0 := hg.kp.size
  -- the world with the root as it was
  have hW : (w'.setCell ⟨p.blk, i, none⟩ (.pointer none)).heap[p.blk]? = some (.cells arr T (0, 0)) := by
    rw [set_heap hrt]
    congr 2
    apply Array.ext_getElem?
    intro k
    by_cases hk : i = k
    · subst hk
      rw [ai]
      simp [hi]
    · rw [Array.getElem?_setIfInBounds_ne hk, Array.getElem?_setIfInBounds_ne hk]
  have hWs : (w'.setCell ⟨p.blk, i, none⟩ (.pointer none)).heap.size = w'.heap.size := by simp [World.setCell]
  have kW : Kp [p.blk] w (w'.setCell ⟨p.blk, i, none⟩ (.pointer none)) := hkp.setCell (.inl (by simp)) _
  have kW0 : Kp [] w (w'.setCell ⟨p.blk, i, none⟩ (.pointer none)) := ⟨kW.os, kW.tape, kW.output, kW.size, fun k hk _ => by
    by_cases h : k = p.blk
    · subst h; rw [hW, p3]
    · exact kW.block k hk (by simpa using h)⟩
  have g0 := hg.keeps kW0
  have g1 := g0.dead (b := b1) (by omega) (by rw [hWs]; exact hb1') (fun j q hq => by have := (hg.lo j q hq).2; omega) (fun x hx => by have := (hg.fr x hx).1; omega) pc
  have hnew : (φ ++ [(⟨b1, 0, 3, 1⟩ : Pl)])[s.nx]? = some ⟨b1, 0, 3, 1⟩ := by rw [← hg.len]; simp
  have hold : (φ ++ [(⟨b1, 0, 3, 1⟩ : Pl)])[id]? = some p := by
    rw [List.getElem?_append_left (List.getElem?_eq_some_iff.1 p1).1]; exact p1
  obtain ⟨w2, r1, g2⟩ := q2 g1 hold (xs := [.pointer (some ⟨b1, 0, none⟩)]) (by simp [concL, conc, hnew])
  obtain ⟨w2', arr', t1, t2, t3, t4, t5, t6⟩ := storeCells_run (P := Tryz.prog) (g := p.blk) (o := p.sh + i) [.pointer (some ⟨b1, 0, none⟩)] 0 _ arr hW (by simp [p2]; omega) (by simp) (by simp [Value.oneCell'])
  rw [r1] at t1
  cases t1
  have ha : arr' = arr.setIfInBounds i (.pointer (some ⟨b1, 0, none⟩)) := by
    apply Array.ext_getElem?
    intro k
    rw [t4 k]
    by_cases hk : i = k
    · subst hk
      rw [if_pos (by simp [p2])]
      simp [p2, hi]
    · rw [if_neg (by simp only [p2, List.length_cons, List.length_nil]; omega), Array.getElem?_setIfInBounds_ne hk]
  have k2 : Kp [] w2 w' := ⟨t5.os.symm, t5.tape.symm, t5.output.symm, by rw [t6, hWs]; exact Nat.le_refl _, fun k hk _ => by
    by_cases h : k = p.blk
    · subst h; rw [t2, hrt, ha]
    · rw [t5.block k (by rw [← t6]; exact hk) (by simpa using h), Below.heap_setCell _ _ _ _ h]⟩
  have g2' := g2.keeps k2
  have hl2 := g2.len
  refine ⟨φ ++ [⟨b1, 0, 3, 1⟩] ++ [⟨b2, 0, 3, 1⟩], ⟨[⟨b1, 0, 3, 1⟩, ⟨b2, 0, 3, 1⟩], by simp⟩, by rw [← hl2]; simp, ?_⟩
  refine q3 (p := ⟨b2, 0, 3, 1⟩) (arr := nodeC) (fz := (0, 0)) (xs := nodeC.toList) g2' rfl (by show _ ≤ b2; omega) (lt_heap hnd) (fun j o' q hj hv hq => ?_) hnd rfl (Nat.le_refl _) (fun _ => ⟨rfl, rfl, rfl, rfl⟩) (fun h => by cases h) (fun j _ h => by have := h.2; omega) (fun j hj => ?_) (fun x hx => by have := (hg.fr x hx).1; show b2 ≠ _; omega)
  · have h1 : j < s.nx := by
      have h3 := g2.ids j o' hj
      have h4 : s2.nx = s.nx + 1 := by rw [← hl2, ← hg.len]; simp
      rcases Nat.lt_or_ge j s.nx with h5 | h5
      · exact h5
      · obtain rfl : j = s.nx := by omega
        unfold deadI at hdead
        rw [hj] at hdead
        cases o' <;> first | (cases hdead; done) | (cases hv; done)
    rw [List.getElem?_append_left (by rw [hg.len]; exact h1)] at hq
    have := (hg.lo j q hq).2
    show q.blk ≠ b2
    omega
  · simp
theorem sumAt_ok : SumsOk Tryz.prog sumAt := by
  intro ρ f l s κ alt D h
  unfold sumAt at h
  rcases brec_cases h with ⟨hf, h1⟩ | ⟨_, h1⟩
  rotate_left
  · exact .inl h1
  rw [natBeq] at hf
  have hf := of_decide_eq_true hf
  subst hf
  cases hq : atQ l s.hp with
  | none => rw [hq] at h1; exact .inl h1
  | some x =>
    rw [hq] at h1
    obtain ⟨b, pc', h2, hx, hb⟩ := decK_inv h1
    rw [forceN_eq] at h2
    unfold atS at h2
    obtain ⟨s2, h3, hpc2, q2⟩ := stP_sound (P := Tryz.prog) (ρ := ρ) h2
    obtain ⟨hdd, h3⟩ := brec_inv h3
    obtain ⟨s3, h4, hpc3, q3⟩ := newL_sound (P := Tryz.prog) (ρ := ρ) h3
    unfold atQ at hq
    split at hq
    rotate_left
    · cases hq
    rename_i id o e n y z
    obtain ⟨hc, hq⟩ : _ ∧ x = (id, o, e) := by
      cases hcc : (Nat.ble (nat_lit 1) n && (Nat.ble n (nat_lit 32) && (nilC (celR s.hp id (Nat.add o (nat_lit 1))) && nilC (celR s.hp id (Nat.add o (nat_lit 2)))))) with
      | false => rw [hcc] at hq; cases hq
      | true => rw [hcc] at hq; cases hq; exact ⟨hcc, rfl⟩
    subst hq
    simp only [Bool.and_eq_true, natBle, decide_eq_true_eq] at hc
    obtain ⟨hn1, hn2, hk1, hk2⟩ := hc
    refine .inr ⟨_, s3, h4, by rw [hpc3, hpc2]; exact hx, fun {w0 φ w xs} hρ hxs hg => ?_⟩
    obtain ⟨p, arr, T, p1, p2, p3, a1⟩ := celR_at hg hk1
    obtain ⟨p', arr', T', p1', _, p3', a2⟩ := celR_at hg hk2
    rw [p1] at p1'; cases p1'
    rw [p3] at p3'; cases p3'
    have hxs' : ∃ yv zv, xs = [.pointer (some ⟨p.blk, o, none⟩), .agg #[.int .u32 (e.ev ρ), .int .i64 n, yv, zv], .bool true] := by
      simp only [concL, conc, p1, p2, Option.map_some, Option.bind_some, Nat.zero_add] at hxs
      cases hy : conc φ ρ y with
      | none => simp [hy] at hxs
      | some yv => cases hz : conc φ ρ z with
        | none => simp [hy, hz] at hxs
        | some zv =>
          simp [hy, hz] at hxs
          exact ⟨yv, zv, hxs.symm⟩
    obtain ⟨yv, zv, rfl⟩ := hxs'
    refine CallsOr.of (enter_of Tryz.func115 (by kernel_rfl) (by kernel_rfl) _ w) ?_
    refine (at_any p.blk o arr T (e.ev ρ) n yv zv ⟨hn1, hn2⟩ w p3 a1 a2).mono ?_
    rintro e' w' ⟨x, he, hkp, hsz, hA⟩
    rcases hA with ⟨h0, _⟩ | ⟨b1, b2, _, rfl, hb1, hb2, hb3, hnd, hrt, _, _⟩
    · omega
    have hpc : Holds ρ pc' := by rw [hpc3, hpc2] at hρ; exact hρ
    have hbv : ((bitE e).ev ρ == (0 : Int)) = b := hb ρ hpc
    rw [bitE_ev] at hbv
    have hoff : o + 1 + (bitZ (e.ev ρ) 0).toNat = Nat.add o (Bool.rec (motive := fun _ => Nat) (nat_lit 2) (nat_lit 1) b) := by
      rcases bitZ_01 (e.ev ρ) 0 with hz | hz <;> rw [hz] at hbv ⊢
      · have : b = true := by rw [← hbv]; rfl
        subst this; rfl
      · have : b = false := by rw [← hbv]; rfl
        subst this; rfl
    have hai : arr[o + 1 + (bitZ (e.ev ρ) 0).toNat]? = some (.pointer none) := by
      rcases bitZ_01 (e.ev ρ) 0 with hz | hz <;> rw [hz]
      · exact a1
      · exact a2
    rw [hoff] at hrt hai
    obtain ⟨φ', f1, f2, f3⟩ := at_gm hg p1 p2 p3 hai hkp hb1 hb3 hb2 hnd hrt q2 (fun {w0 φ w xs p arr fz} => q3) hdd
    exact ⟨φ', _, he, f1, by simp [conc, f2], f3⟩
noncomputable def sumsAt : Sums := sumOr sumAt sumsN
theorem sumsAt_ok : SumsOk Tryz.prog sumsAt := sumOr_ok sumAt_ok sumsN_ok
end Go.Proofs.YtjpjmhcpomkjmaaGreat
