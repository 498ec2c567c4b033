/-
  slices.Sorted of the keys of a map of ints, known ahead.
-/
import Derived.Test.YtmifojdpdbjodaaGreatLys
import Derived.Test.YtmifojdpdbjodaaGreatSxwn
set_option linter.unusedVariables false
set_option linter.unusedSimpArgs false
namespace Go.Proofs.YtmifojdpdbjodaaGreat
open Go Go.Proofs Go.RowKit Go.Maps Go.Sort Go.Shelf

theorem sorts_in (m : Nat) : AnyZI.SortsIn Tryz.prog sortedA_ren Fence.wide m :=
  ⟨fun blk off cap ss W hH hblk hsz => callsIn_wide.2 (AnyM.slices_Sort_int sortA blk off cap ss W hH hblk hsz),
   fun p cap W => callsIn_wide.2 (AnyM.slices_Sort_int_none sortA p cap W)⟩

/-! the datum's keys are the entries' -/
theorem insert_perm {H : Type} (x : Lit × DataW H) : ∀ l : List (Lit × DataW H), (DataW.insert x l).Perm (x :: l)
  | [] => .refl _
  | y :: l => by
    unfold DataW.insert
    split
    · exact .refl _
    · exact ((insert_perm x l).cons y).trans (.swap x y l)
theorem foldr_perm {H : Type} : ∀ l : List (Lit × DataW H), (l.foldr DataW.insert []).Perm l
  | [] => .refl _
  | x :: l => (insert_perm x _).trans ((foldr_perm l).cons x)
abbrev readAny (v : Value) : Option (DataW Unit × List MemPlace) := some (.nil, [])
theorem rd_int {x : MapEntry} {k : Int} (hk : x.key = encZ k) (hw : (Lit.int .i64 k).wf = true) : Go.WideElems.rd Tryz.prog 3 readAny x = some (.int .i64 k, .nil) := by
  unfold Go.WideElems.rd
  have : keyOf Tryz.prog 3 x.key = some (.int .i64 k) := by
    rw [hk]
    simp only [keyOf, Tryz.underlying3, mapKey, encZ]
    simp [hw]
  rw [this]
  rfl
theorem rg_keys {es : List MapEntry} : ∀ {ks : List Int}, es.map (·.key) = ks.map encZ → (∀ k ∈ ks, (Lit.int .i64 k).wf = true) → (es.map (Go.WideElems.rg Tryz.prog 3 readAny)).map (fun p => Go.intOf p.1) = ks := by
  induction es with
  | nil => intro ks h _; cases ks with | nil => rfl | cons _ _ => simp at h
  | cons x es ih =>
    intro ks h hw
    cases ks with
    | nil => simp at h
    | cons k ks =>
      simp only [List.map_cons, List.cons.injEq] at h
      simp only [List.map_cons]
      rw [ih h.2 fun k hk => hw k (by simp [hk]), Go.WideElems.rg_of (rd_int h.1 (hw k (by simp)))]
      rfl
theorem sorted_any {w : World} {Bm b clk : Nat} {es : Array MapEntry} (hBm : Bm < w.heap.size) (hm : w.cell? ⟨Bm, 0, none⟩ = some (.map (some b))) (hb : w.heap[b]? = some (.map es clk)) (ks : List Int) (hk : es.toList.map (·.key) = ks.map encZ) (hw : ∀ k ∈ ks, (Lit.int .i64 k).wf = true) (hst : Go.MapKept.Stamped es clk) (hsz : ks.length ≤ 1000000) :
    Calls Tryz.prog 202 #[.func (.func 277) #[] #[.pointer (some ⟨Bm, 0, none⟩)]] w fun e w' => ∃ (v : Value) (ss : List Int), e = .returned v ∧ ss.Perm ks ∧
      w'.ownsRow w.heap.size 3 1 v ss.length ((ss.mergeSort (fun x y => decide (x ≤ y))).map encZ) ∧ (v = .slice none 0 0 ↔ ss = []) ∧ Below w.heap.size w w' := by
  refine (callsIn_wide (n := 5)).1 ?_
  have hlen : es.size = ks.length := by
    have := congrArg List.length hk
    simpa using this
  have hreads : ∀ x ∈ es.toList, ∃ y, Go.WideElems.rd Tryz.prog 3 readAny x = some y := by
    intro x hx
    have h1 : x.key ∈ ks.map encZ := by rw [← hk]; exact List.mem_map_of_mem hx
    obtain ⟨k, hk1, hk2⟩ := List.mem_map.1 h1
    exact ⟨_, rd_int hk2.symm (hw k hk1)⟩
  have hown : w.ownsMap Tryz.prog 3 readAny b es.size (.map ((es.toList.map (Go.WideElems.rg Tryz.prog 3 readAny)).foldr DataW.insert [])) :=
    ⟨es, clk, hb, ⟨by rw [hlen]; simp only [maxLen]; omega, hst, hreads⟩, Nat.le_refl _, rfl⟩
  generalize hD : ((es.toList.map (Go.WideElems.rg Tryz.prog 3 readAny)).foldr DataW.insert []) = Dl at hown
  have hDp : Dl.Perm (es.toList.map (Go.WideElems.rg Tryz.prog 3 readAny)) := by rw [← hD]; exact foldr_perm _
  have hsize : Maps.size (DataW.map Dl : DataW Unit) = ks.length := by
    rw [Maps.size_eq, hDp.length_eq, List.length_map, Array.length_toList, hlen]
  have hseq : SeqGives Fence.wide 2 Tryz.prog 277 #[.pointer (some ⟨Bm, 0, none⟩)] encZ (fun ss => ss.Perm (intKeys (DataW.map Dl : DataW Unit))) (Maps.size (DataW.map Dl : DataW Unit)) w :=
    AnyZI.keys_gives (ρ := keysA_ren) { keysA with } Fence.wide _ trivial rfl (by omega) Bm b es.size (DataW.map Dl : DataW Unit) w hBm hm hown
  have cS := AnyZI.sorted_in sortedA Fence.wide 5 trivial trivial trivial trivial rfl (by omega) (sorts_in _) (enters_of Tryz.func276 (by kernel_rfl) rfl) 277 #[.pointer (some ⟨Bm, 0, none⟩)] trivial (enters_of Tryz.func277 (by kernel_rfl) rfl) _ _ (by rw [hsize]; simp only [maxLen]; omega) (by rw [hsize]; omega) _ hseq
  change CallsIn _ _ Tryz.prog 202 _ _ _ at cS
  refine cS.mono ?_
  rintro e w' ⟨v, ss, he, hS, hrow, hnil, hb⟩
  refine ⟨v, ss, he, hS.trans ?_, hrow, hnil, hb⟩
  have h1 : (Dl.map fun p => Go.intOf p.1).Perm ((es.toList.map (Go.WideElems.rg Tryz.prog 3 readAny)).map fun p => Go.intOf p.1) := hDp.map _
  rw [rg_keys hk hw] at h1
  exact h1
theorem sorted_nil {w : World} {Bm : Nat} (hBm : Bm < w.heap.size) (hm : w.cell? ⟨Bm, 0, none⟩ = some (.map none)) :
    Calls Tryz.prog 202 #[.func (.func 277) #[] #[.pointer (some ⟨Bm, 0, none⟩)]] w fun e w' => e = .returned (.slice none 0 0) ∧ Below w.heap.size w w' := by
  refine (callsIn_wide (n := 5)).1 ?_
  have hseq : SeqGives Fence.wide 2 Tryz.prog 277 #[.pointer (some ⟨Bm, 0, none⟩)] encZ (fun ss : List Int => ss = []) 0 w :=
    AnyZI.keys_gives_nil (ρ := keysA_ren) { keysA with } Fence.wide _ trivial rfl Bm w hBm hm
  have cS := AnyZI.sorted_in sortedA Fence.wide 5 trivial trivial trivial trivial rfl (by omega) (sorts_in _) (enters_of Tryz.func276 (by kernel_rfl) rfl) 277 #[.pointer (some ⟨Bm, 0, none⟩)] trivial (enters_of Tryz.func277 (by kernel_rfl) rfl) _ 0 (Nat.zero_le _) (by omega) _ hseq
  change CallsIn _ _ Tryz.prog 202 _ _ _ at cS
  refine cS.mono ?_
  rintro e w' ⟨v, ss, he, rfl, hrow, hnil, hb⟩
  rw [hnil.2 rfl] at he
  exact ⟨he, hb⟩

/-! what is known of it ahead -/
noncomputable section
def keysL (es : List (AV × AV × Nat)) : Option (List Int) := match es with
  | [] => some []
  | e :: l => match e.1 with
    | .int .i64 (.lit n) => (keysL l).map fun r => n :: r
    | _ => none
def memZ (x : Int) (l : List Int) : Bool := l.any fun y => beqF x y
def nodupZ (l : List Int) : Bool := match l with
  | [] => true
  | x :: l => notF (memZ x l) && nodupZ l
def memNn (x : Nat) (l : List Nat) : Bool := l.any fun y => Nat.beq x y
def nodupN (l : List Nat) : Bool := match l with
  | [] => true
  | x :: l => notF (memNn x l) && nodupN l
def insZ (x : Int) (l : List Int) : List Int := match l with
  | [] => [x]
  | y :: r => Bool.rec (motive := fun _ => List Int) (y :: insZ x r) (x :: y :: r) (leF x y)
def sortZ (l : List Int) : List Int := match l with
  | [] => []
  | x :: r => insZ x (sortZ r)
def keysOk (es : List (AV × AV × Nat)) (clk : Nat) (ks : List Int) : Bool := nodupZ ks && (nodupN (es.map fun e => e.2.2) && ((es.all fun e => Nat.blt e.2.2 clk) && ((ks.all fun k => leF (minK .i64) k && leF k (maxK .i64)) && Nat.ble ks.length (nat_lit 1000000))))
/-- the keys, sorted; none: not known -/
def sortedQ (l : List AV) (h : Tr AObj) : Option (List Int) := match l with
  | [.fn (.func g) [] [.ptr id off]] => Bool.rec (motive := fun _ => Option (List Int)) none (match h.get id with
    | some (.cells n c d T r) => Bool.rec (motive := fun _ => Option (List Int)) none (match celA c d (nat_lit 0) with
      | some (.map m) => (match h.get m with
        | some (.map es clk) => (match keysL es with
          | some ks => Bool.rec (motive := fun _ => Option (List Int)) none (some (sortZ ks)) (keysOk es clk ks)
          | none => none)
        | _ => none)
      | some (.raw (.map none)) => some []
      | _ => none) (notF r && Nat.blt (nat_lit 0) n)
    | _ => none) (Nat.beq g 277 && Nat.beq off (nat_lit 0))
  | _ => none
def litL (l : List Int) : List AV := match l with
  | [] => []
  | n :: r => .int .i64 (.lit n) :: litL r
def sortedK (s : St) (κ : AV → St → R) (ks : List Int) : R := match ks with
  | [] => κ (.raw (.slice none 0 0)) s
  | n :: r => newL s (litL (n :: r)) 3 true fun id s => forceN (lenL (litL (n :: r))) fun m => κ (.sl id (nat_lit 0) m none) s
def sumSorted : Sums := fun f l s κ alt => Bool.rec (motive := fun _ => R) alt (match sortedQ l s.hp with
  | some ks => sortedK s κ ks
  | none => alt) (Nat.beq f 202)
end
theorem litL_eq (l : List Int) : litL l = l.map fun n => AV.int .i64 (.lit n) := by
  induction l with
  | nil => rfl
  | cons n l ih => simp [litL, ih]
theorem concL_lits {φ : List Pl} {ρ : Nat → Int} (l : List Int) : concL φ ρ (litL l) = some (l.map encZ) := by
  induction l with
  | nil => rfl
  | cons n l ih => exact concL_cons.2 ⟨_, _, rfl, ih, rfl⟩
theorem insZ_perm (x : Int) : ∀ l : List Int, (insZ x l).Perm (x :: l)
  | [] => .refl _
  | y :: l => by
    show (Bool.rec (motive := fun _ => List Int) (y :: insZ x l) (x :: y :: l) (leF x y) : List Int).Perm _
    cases leF x y with
    | true => exact .refl _
    | false => exact ((insZ_perm x l).cons y).trans (.swap x y l)
theorem sortZ_perm : ∀ l : List Int, (sortZ l).Perm l
  | [] => .refl _
  | x :: l => (insZ_perm x _).trans ((sortZ_perm l).cons x)
theorem insZ_sorted {x : Int} : ∀ {l : List Int}, l.Pairwise (· ≤ ·) → (insZ x l).Pairwise (· ≤ ·)
  | [], _ => by simp [insZ]
  | y :: l, h => by
    show (Bool.rec (motive := fun _ => List Int) (y :: insZ x l) (x :: y :: l) (leF x y) : List Int).Pairwise _
    rw [leF_eq]
    rw [List.pairwise_cons] at h
    by_cases hx : x ≤ y
    · rw [decide_eq_true hx]
      refine List.pairwise_cons.2 ⟨fun z hz => ?_, List.pairwise_cons.2 h⟩
      rcases List.mem_cons.1 hz with rfl | hz
      · exact hx
      · exact Int.le_trans hx (h.1 z hz)
    · rw [decide_eq_false hx]
      refine List.pairwise_cons.2 ⟨fun z hz => ?_, insZ_sorted h.2⟩
      rcases List.mem_cons.1 ((insZ_perm x l).mem_iff.1 hz) with rfl | hz
      · omega
      · exact h.1 z hz
theorem sortZ_sorted : ∀ l : List Int, (sortZ l).Pairwise (· ≤ ·)
  | [] => .nil
  | x :: l => insZ_sorted (sortZ_sorted l)
theorem sortZ_merge {ss ks : List Int} (h : ss.Perm ks) : ss.mergeSort (fun x y => decide (x ≤ y)) = sortZ ks := by
  have e : ss.mergeSort leI = (sortZ ks).mergeSort leI := mergeSort_of_perm_i (h.trans (sortZ_perm ks).symm)
  refine e.trans ?_
  refine List.mergeSort_of_pairwise ?_
  exact (sortZ_sorted ks).imp fun {a b} h => by simpa [leI] using h
theorem keysL_conc {φ : List Pl} {ρ : Nat → Int} {es : List (AV × AV × Nat)} {ms : List MapEntry} (h : EntOk φ ρ es ms) : ∀ {ks : List Int}, keysL es = some ks → ms.map (·.key) = ks.map encZ := by
  induction h with
  | nil => intro ks hk; cases hk; rfl
  | @cons k v b l x y m hk hv _ ih =>
    intro ks h
    unfold keysL at h
    split at h
    · rename_i n heq
      simp only [Option.map_eq_some_iff] at h
      obtain ⟨r, h1, rfl⟩ := h
      have heq : k = .int .i64 (.lit n) := heq
      subst heq
      simp only [conc, SI.ev, Option.some.injEq] at hk
      simp only [List.map_cons, ih h1, ← hk]
    · cases h
theorem ent_born {φ : List Pl} {ρ : Nat → Int} {es : List (AV × AV × Nat)} {ms : List MapEntry} (h : EntOk φ ρ es ms) : ms.map (·.born) = es.map fun e => e.2.2 := by
  induction h with
  | nil => rfl
  | cons _ _ _ ih => simp [ih]
theorem memZ_mem {x : Int} {l : List Int} : memZ x l = true ↔ x ∈ l := by
  unfold memZ
  rw [List.any_eq_true]
  constructor
  · rintro ⟨y, hy, h⟩; rw [beqF_eq, decide_eq_true_eq] at h; rw [h]; exact hy
  · intro h; exact ⟨x, h, by rw [beqF_eq]; simp⟩
theorem nodupZ_nodup : ∀ {l : List Int}, nodupZ l = true → l.Nodup
  | [], _ => .nil
  | x :: l, h => by
    have h : (notF (memZ x l) && nodupZ l) = true := h
    rw [Bool.and_eq_true, notF_eq] at h
    refine List.nodup_cons.2 ⟨fun hx => ?_, nodupZ_nodup h.2⟩
    rw [memZ_mem.2 hx] at h
    cases h.1
theorem memNn_mem {x : Nat} {l : List Nat} : memNn x l = true ↔ x ∈ l := by
  unfold memNn
  rw [List.any_eq_true]
  constructor
  · rintro ⟨y, hy, h⟩; rw [natBeq, decide_eq_true_eq] at h; rw [h]; exact hy
  · intro h; exact ⟨x, h, by rw [natBeq]; simp⟩
theorem nodupN_nodup : ∀ {l : List Nat}, nodupN l = true → l.Nodup
  | [], _ => .nil
  | x :: l, h => by
    have h : (notF (memNn x l) && nodupN l) = true := h
    rw [Bool.and_eq_true, notF_eq] at h
    refine List.nodup_cons.2 ⟨fun hx => ?_, nodupN_nodup h.2⟩
    rw [memNn_mem.2 hx] at h
    cases h.1
theorem kp_of_below {w w' : World} (h : Below w.heap.size w w') : Kp [] w w' := ⟨h.os, h.tape, h.output, h.size, fun k hk _ => h.block k hk⟩

section
variable {P : Program} {ρ : Nat → Int}
/-- what the closure holds -/
theorem cell_zero {w0 : Base} {φ : List Pl} {s : St} {w : World} (hm : Gm P ρ w0 φ s w) {id n : Nat} {c : Tr AV} {d : Option AV} {T : TypeId} {p : Pl} (hid : s.hp.get id = some (.cells n c d T false)) (hp : φ[id]? = some p) (hn : 0 < n) {v : AV} (hv : celA c d 0 = some v) :
    p.sh = 0 ∧ p.blk < w.heap.size ∧ ∃ x, conc φ ρ v = some x ∧ w.cell? ⟨p.blk, 0, none⟩ = some x := by
  obtain ⟨q, arr, fz, hq, hc⟩ := hm.hp.obj _ _ hid
  rw [hp] at hq; cases hq
  have hsh := (hc.fix rfl).1
  obtain ⟨v', x, h1, h2, h3, _⟩ := hc.cell 0 hn
  rw [hv] at h1; cases h1
  refine ⟨hsh, (hm.lo _ _ hp).2, x, h2, ?_⟩
  unfold World.cell?
  rw [show (⟨p.blk, 0, none⟩ : Addr).block = p.blk from rfl, hc.blk]
  rw [hsh] at h3
  simpa using h3
theorem Gm.below {w0 : Base} {φ : List Pl} {s : St} {w w' : World} (hm : Gm P ρ w0 φ s w) (hk : Kp [] w w') : Gm P ρ w0 φ s w' := hm.keeps hk
end
theorem sumSorted_ok : SumsOk Tryz.prog sumSorted := by
  intro ρ f l s κ alt D h
  unfold sumSorted at h
  rcases brec_cases h with ⟨hf, h1⟩ | ⟨_, h1⟩
  rotate_left
  · exact .inl h1
  rw [natBeq] at hf
  have hf := of_decide_eq_true hf
  subst hf
  cases hq : sortedQ l s.hp with
  | none => rw [hq] at h1; exact .inl h1
  | some ks0 =>
    rw [hq] at h1
    have h1 : sortedK s κ ks0 ∈ D := h1
    unfold sortedQ at hq
    split at hq
    rotate_left
    · cases hq
    rename_i g id off
    rcases hb : (Nat.beq g 277 && Nat.beq off (nat_lit 0)) with _ | _
    · rw [hb] at hq; cases hq
    rw [hb] at hq
    simp only [Bool.and_eq_true, natBeq, decide_eq_true_eq] at hb
    obtain ⟨rfl, rfl⟩ := hb
    split at hq
    rotate_left
    · cases hq
    rename_i n c d T r hid
    rcases hb : (notF r && Nat.blt (nat_lit 0) n) with _ | _
    · rw [hb] at hq; cases hq
    rw [hb] at hq
    simp only [Bool.and_eq_true, natBlt, decide_eq_true_eq, notF_eq, Bool.not_eq_true'] at hb
    obtain ⟨rfl, hn⟩ := hb
    have key : ∀ {w0 : Base} {φ : List Pl} {w : World} {xs : List Value}, concL φ ρ [.fn (.func 277) [] [.ptr id 0]] = some xs → ∃ p, φ[id]? = some p ∧ xs = [.func (.func 277) #[] #[.pointer (some ⟨p.blk, p.sh + 0, none⟩)]] := by
      intro w0 φ w xs hx
      obtain ⟨y, ys, e1, e2, rfl⟩ := concL_cons.1 hx
      simp only [concL, Option.some.injEq] at e2
      subst e2
      simp only [conc, concL, Option.bind_eq_some_iff, Option.map_eq_some_iff, Option.some.injEq] at e1
      obtain ⟨a, rfl, b, ⟨z, ⟨p, hp, rfl⟩, b', rfl, rfl⟩, rfl⟩ := e1
      exact ⟨p, hp, rfl⟩
    split at hq
    · -- a map
      rename_i m hcel
      split at hq
      rotate_left
      · cases hq
      rename_i es clk hmap
      split at hq
      rotate_left
      · cases hq
      rename_i ks hks
      rcases hb : keysOk es clk ks with _ | _
      · rw [hb] at hq; cases hq
      rw [hb] at hq
      have hq : some (sortZ ks) = some ks0 := hq
      simp only [Option.some.injEq] at hq
      subst hq
      unfold keysOk at hb
      simp only [Bool.and_eq_true, List.all_eq_true, natBlt, natBle, decide_eq_true_eq, leF_eq] at hb
      obtain ⟨hn1, hn2, hn3, hn4, hn5⟩ := hb
      have hrun : ∀ {w0 : Base} {φ : List Pl} {w : World} {xs : List Value}, concL φ ρ [.fn (.func 277) [] [.ptr id 0]] = some xs → Gm Tryz.prog ρ w0 φ s w → Calls Tryz.prog 202 xs.toArray w fun e w' => ∃ (v : Value), e = .returned v ∧
          w'.ownsRow w.heap.size 3 1 v (sortZ ks).length ((sortZ ks).map encZ) ∧ (v = .slice none 0 0 ↔ sortZ ks = []) ∧ Below w.heap.size w w' := by
        intro w0 φ w xs hx hm
        obtain ⟨p, hp, rfl⟩ := key (w0 := w0) (w := w) hx
        obtain ⟨hsh, hlt, x, hx1, hx2⟩ := cell_zero hm hid hp hn hcel
        obtain ⟨q, ms, hq1, hq2, hq3⟩ := hm.hp.obj _ _ hmap
        simp only [conc, hq1, Option.map_some, Option.some.injEq] at hx1
        subst hx1
        have hkk := keysL_conc hq3 hks
        have hbb := ent_born hq3
        have hst : Go.MapKept.Stamped ms clk := by
          refine ⟨fun x hx => ?_, by rw [hbb]; exact nodupN_nodup hn2, by rw [hkk]; exact List.pairwise_map.2 ((nodupZ_nodup hn1).imp fun hne e => hne (encZ_inj e))⟩
          have : x.born ∈ ms.toList.map (·.born) := List.mem_map_of_mem hx
          rw [hbb] at this
          obtain ⟨e, he, hee⟩ := List.mem_map.1 this
          rw [← hee]
          exact hn3 e he
        have := sorted_any (w := w) (Bm := p.blk) (b := q.blk) hlt hx2 hq2 ks hkk (fun k hk => by
          have := hn4 k hk
          simp only [Lit.wf]
          have h2 : IntKind.i64.min = minK .i64 := by decide
          have h3 : IntKind.i64.max = maxK .i64 := by decide
          rw [h2, h3]
          simp [this.1, this.2]) hst hn5
        rw [hsh]
        refine this.mono ?_
        rintro e w' ⟨v, ss, rfl, hS, hrow, hnil, hbl⟩
        have hl : ss.length = (sortZ ks).length := by rw [hS.length_eq, (sortZ_perm ks).length_eq]
        rw [hl, sortZ_merge hS] at hrow
        refine ⟨v, rfl, hrow, hnil.trans ⟨fun h => ?_, fun h => ?_⟩, hbl⟩
        · have := (sortZ_perm ks).length_eq; rw [← hS.length_eq, h] at this; exact List.length_eq_zero_iff.1 this
        · have := (sortZ_perm ks).length_eq; rw [← hS.length_eq, h] at this; exact List.length_eq_zero_iff.1 this.symm
      generalize sortZ ks = kk at h1 hrun
      cases kk with
      | nil =>
        have h1 : κ (.raw (.slice none 0 0)) s ∈ D := h1
        refine .inr ⟨_, s, h1, .refl _, fun {w0 φ w xs} hρ hx hm => CallsOr.of (enter_of Tryz.func202 (by kernel_rfl) (by kernel_rfl) _ w) ?_⟩
        refine (hrun hx hm).mono ?_
        rintro e w' ⟨v, rfl, hrow, hnil, hbl⟩
        exact ⟨φ, v, rfl, List.prefix_refl _, by rw [hnil.2 rfl]; rfl, hm.below (kp_of_below hbl)⟩
      | cons n0 r0 =>
        have h1 : newL s (litL (n0 :: r0)) 3 true (fun id s => forceN (lenL (litL (n0 :: r0))) fun m => κ (.sl id (nat_lit 0) m none) s) ∈ D := h1
        obtain ⟨s', h2, hpc, h3⟩ := newL_sound (P := Tryz.prog) (ρ := ρ) h1
        rw [forceN_eq, lenL_eq] at h2
        refine .inr ⟨_, s', h2, by rw [hpc]; exact .refl _, fun {w0 φ w xs} hρ hx hm => CallsOr.of (enter_of Tryz.func202 (by kernel_rfl) (by kernel_rfl) _ w) ?_⟩
        refine (hrun hx hm).mono ?_
        rintro e w' ⟨v, rfl, hrow, hnil, hbl⟩
        rcases hrow.2 with ⟨_, hz⟩ | ⟨g, cap, cur, rfl, hbase, hg, r1, r2, r3, r4⟩
        · simp at hz
        have hm' := hm.below (kp_of_below hbl)
        have hll : (litL (n0 :: r0)).length = (n0 :: r0).length := by rw [litL_eq, List.length_map]
        have hgl : g < w'.heap.size := by
          rcases Nat.lt_or_ge g w'.heap.size with h | h
          · exact h
          · rw [Array.getElem?_eq_none h] at hg; cases hg
        refine ⟨φ ++ [⟨g, 0, cur.size, 1⟩], _, rfl, pre_one _ _, ?_, h3 (p := ⟨g, 0, cur.size, 1⟩) (arr := cur) (fz := (0, 0)) hm' (concL_lits _) (Nat.le_trans hm.kp.size hbase) hgl (fun i o' q hi hl hqq he => ?_) hg rfl ?_ (fun h => by cases h) (fun _ => ⟨by kernel_rfl, Nat.one_pos⟩) (fun i _ h => by simp at h) (fun i hi => ?_) (fun x hx => ?_)⟩
        · simp only [conc]
          rw [← hm.len, List.getElem?_append_right (Nat.le_refl _), Nat.sub_self]
          simp only [List.getElem?_cons_zero, Option.map_some, Option.getD_none]
          congr 2
          simp [Pl.room, r3]
        · have := (hm.lo i q hqq).2
          simp only at he
          omega
        · simp only [hll, r3]
          omega
        · have hi2 : i < (n0 :: r0).length := by rw [← hll]; exact hi
          have h5 : (cur.toList.take ((n0 :: r0).length * 1))[i]? = ((n0 :: r0).map encZ)[i]? := by rw [r4]
          rw [List.getElem?_take] at h5
          rw [if_pos (by omega)] at h5
          simpa using h5
        · have := (hm.fr x hx).1
          simp only
          omega
    · -- none
      rename_i hcel
      have hq : some ([] : List Int) = some ks0 := hq
      simp only [Option.some.injEq] at hq
      subst hq
      have h1 : κ (.raw (.slice none 0 0)) s ∈ D := h1
      refine .inr ⟨_, s, h1, .refl _, fun {w0 φ w xs} hρ hx hm => CallsOr.of (enter_of Tryz.func202 (by kernel_rfl) (by kernel_rfl) _ w) ?_⟩
      obtain ⟨p, hp, rfl⟩ := key (w0 := w0) (w := w) hx
      obtain ⟨hsh, hlt, x, hx1, hx2⟩ := cell_zero hm hid hp hn hcel
      simp only [conc, Option.some.injEq] at hx1
      subst hx1
      rw [hsh]
      refine (sorted_nil hlt hx2).mono ?_
      rintro e w' ⟨rfl, hbl⟩
      exact ⟨φ, _, rfl, List.prefix_refl _, rfl, hm.below (kp_of_below hbl)⟩
    · cases hq
noncomputable def sumsW : Sums := sumOr sumSorted sumsH
theorem sumsW_ok : SumsOk Tryz.prog sumsW := sumOr_ok sumSorted_ok sumsH_ok
end Go.Proofs.YtmifojdpdbjodaaGreat
