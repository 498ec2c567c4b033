/-
  ring.Pieces: lay.
-/
import Derived.Test.YtodedpmedkgkmaaPieces
set_option linter.unusedVariables false
set_option linter.unusedSimpArgs false
namespace Go.Proofs.Ytodedpmedkgkmaa
open Go.RowKit

/-- a run in memory: its place, its bytes' slice, its bytes -/
structure Rn where
  a : Nat
  v : Value
  l : List UInt8

abbrev Bn := Nat × List UInt8
def Rn.bn (r : Rn) : Bn := (r.a, r.l)
def Rn.cells (r : Rn) : List Value := [.int .i64 r.a, r.v]
def cellsOf (rs : List Rn) : List Value := rs.flatMap Rn.cells

theorem mergedTo_len (a1 : Nat) (l1 : List UInt8) (a2 : Nat) (l2 : List UInt8) : (mergedTo a1 l1 a2 l2).length = max (a1 + l1.length) (a2 + l2.length) - min a1 a2 := by
  unfold mergedTo
  have e1 : a1 - min a1 a2 + l1.length ≤ (List.replicate (max (a1 + l1.length) (a2 + l2.length) - min a1 a2) (0 : UInt8)).length := by simp; omega
  rw [length_splice' (by rw [length_splice' e1]; simp; omega), length_splice' e1]; simp

structure LaySt where
  acc : List Bn
  laid : Bool
  x : Bn

/-- lay, one run further -/
def layStep (s : LaySt) (y : Bn) : LaySt :=
  if y.1 + y.2.length < s.x.1 then ⟨s.acc ++ [y], s.laid, s.x⟩
  else if s.x.1 + s.x.2.length < y.1 then ⟨s.acc ++ (if s.laid then [y] else [s.x, y]), true, s.x⟩
  else ⟨s.acc, s.laid, (min s.x.1 y.1, mergedTo s.x.1 s.x.2 y.1 y.2)⟩

def layTo (rs : List Bn) (x : Bn) : List Bn :=
  let s := rs.foldl layStep ⟨[], false, x⟩
  if s.laid then s.acc else s.acc ++ [s.x]

theorem infoRun : (Try.prog.info? 70).map (fun i => (i.zero, i.size, i.bytes)) = some (some (.agg #[.int .i64 0, .slice none 0 0]), 2, 32) := by kernel_rfl

/-- a run's bytes are its own, some, within bounds -/
structure RnOk (w : World) (r : Rn) : Prop where
  own : OwnB w 0 5 r.v r.l
  pos : 0 < r.l.length
  top : r.a + r.l.length ≤ 1048560

theorem RnOk.kp {w w' : World} {r : Rn} {L : List Nat} (h : RnOk w r) (k : Kp L w w') (hd : ∀ i, i ∈ ob r.v → i ∉ L) : RnOk w' r := ⟨h.own.kp k hd, h.pos, h.top⟩

/-- where lay stands, in memory -/
structure LayMem (w0 w : World) (lv : Value) (acc : List Rn) (X : Nat) (x : Rn) : Prop where
  kp : Kp [] w0 w
  row : w.ownsRow w0.heap.size 70 2 lv acc.length (cellsOf acc)
  box : Blk w X x.cells 70
  xle : w0.heap.size ≤ X
  xne : X ∉ ob lv
  rok : ∀ r ∈ acc, RnOk w r
  xok : RnOk w x

/-- the blocks of runs' bytes -/
def obs (rs : List Rn) : List Nat := rs.flatMap fun r => ob r.v

theorem mem_obs {rs : List Rn} {i : Nat} : i ∈ obs rs ↔ ∃ r ∈ rs, i ∈ ob r.v := by simp [obs]
theorem obs_append (a b : List Rn) : obs (a ++ b) = obs a ++ obs b := by simp [obs]
theorem obs_cons (a : Rn) (b : List Rn) : obs (a :: b) = ob a.v ++ obs b := by simp [obs]
theorem obs_nil : obs [] = [] := rfl

/-- where lay stands -/
structure LayAt (w0 w : World) (lv : Value) (acc : List Rn) (X : Nat) (laid : Bool) (x : Rn) (done : List Bn) (x0 : Bn) (rest : List Rn) (F : List Nat) : Prop extends LayMem w0 w lv acc X x where
  st : done.foldl layStep ⟨[], false, x0⟩ = ⟨acc.map Rn.bn, laid, x.bn⟩
  nd : (obs (acc ++ (if laid then [] else [x]) ++ rest)).Nodup
  fr : ∀ r, (r ∈ acc ∨ r = x ∨ r ∈ rest) → ∀ i, i ∈ ob r.v → i ∈ F ∨ w0.heap.size ≤ i

theorem fr_sub {acc acc' rest rest' : List Rn} {x : Rn} {F : List Nat} {n : Nat} (h : ∀ r, (r ∈ acc ∨ r = x ∨ r ∈ rest) → ∀ i, i ∈ ob r.v → i ∈ F ∨ n ≤ i) (h1 : ∀ r, r ∈ acc' → r ∈ acc ∨ r = x ∨ r ∈ rest) (h2 : ∀ r, r ∈ rest' → r ∈ rest) :
    ∀ r, (r ∈ acc' ∨ r = x ∨ r ∈ rest') → ∀ i, i ∈ ob r.v → i ∈ F ∨ n ≤ i := by
  rintro r (hr | hr | hr)
  · exact h r (h1 r hr)
  · exact h r (.inr (.inl hr))
  · exact h r (.inr (.inr (h2 r hr)))

theorem fr_new {acc rest rest' : List Rn} {x x' : Rn} {F : List Nat} {n : Nat} (h : ∀ r, (r ∈ acc ∨ r = x ∨ r ∈ rest) → ∀ i, i ∈ ob r.v → i ∈ F ∨ n ≤ i) (h1 : ∀ i, i ∈ ob x'.v → n ≤ i) (h2 : ∀ r, r ∈ rest' → r ∈ rest) :
    ∀ r, (r ∈ acc ∨ r = x' ∨ r ∈ rest') → ∀ i, i ∈ ob r.v → i ∈ F ∨ n ≤ i := by
  rintro r (hr | hr | hr)
  · exact h r (.inl hr)
  · subst hr; exact fun i hi => .inr (h1 i hi)
  · exact h r (.inr (.inr (h2 r hr)))

theorem drop_head {rs : List Rn} {k : Nat} {y : Rn} (h : rs[k]? = some y) : rs.drop k = y :: rs.drop (k + 1) := by
  obtain ⟨hk, rfl⟩ := List.getElem?_eq_some_iff.1 h
  exact List.drop_eq_getElem_cons hk

/-- y goes ahead of x -/
theorem nd_head {acc mid rest : List Rn} {y : Rn} (h : (obs (acc ++ mid ++ y :: rest)).Nodup) : (obs (acc ++ [y] ++ mid ++ rest)).Nodup := by
  refine (List.Perm.nodup_iff ?_).1 h
  refine List.Perm.flatMap_right _ ?_
  have h1 : (acc ++ mid ++ y :: rest).Perm (y :: (acc ++ mid ++ rest)) := List.perm_middle
  have h2 : (acc ++ y :: (mid ++ rest)).Perm (y :: (acc ++ (mid ++ rest))) := List.perm_middle
  simpa using h1.trans (by simpa using h2.symm)

/-- a merged run's bytes are new ones -/
theorem nd_new {acc rest : List Rn} {x x' y : Rn} {laid : Bool} {n : Nat} (h : (obs (acc ++ (if laid then [] else [x]) ++ y :: rest)).Nodup) (hold : ∀ r, r ∈ acc ++ rest → ∀ i, i ∈ ob r.v → i < n) (hnew : ∀ i, i ∈ ob x'.v → n ≤ i) (h1 : (ob x'.v).Nodup) :
    (obs (acc ++ (if laid then [] else [x']) ++ rest)).Nodup := by
  cases laid
  · simp only [Bool.false_eq_true, if_false, obs_append, obs_cons, obs_nil, List.append_nil, List.nodup_append, List.mem_append] at h ⊢
    obtain ⟨⟨ha, hx, hax⟩, ⟨hy, hr, _⟩, hayr⟩ := h
    refine ⟨⟨ha, h1, ?_⟩, hr, ?_⟩
    · rintro i hi j hj rfl
      obtain ⟨r, hr1, hr2⟩ := mem_obs.1 hi
      have := hold r (List.mem_append_left _ hr1) i hr2
      have := hnew i hj
      omega
    · rintro i (hi | hi) j hj rfl
      · exact hayr i (.inl hi) i (.inr hj) rfl
      · obtain ⟨r, hr1, hr2⟩ := mem_obs.1 hj
        have := hold r (List.mem_append_right _ hr1) i hr2
        have := hnew i hi
        omega
  · simp only [if_true, obs_append, obs_cons, obs_nil, List.append_nil, List.nodup_append, List.mem_append] at h ⊢
    obtain ⟨ha, ⟨hy, hr, _⟩, hayr⟩ := h
    exact ⟨ha, hr, fun i hi j hj => hayr i hi j (.inr hj)⟩

theorem ob_nodup (v : Value) : (ob v).Nodup := by
  unfold ob
  cases v.ownBlock <;> simp

theorem LayMem.mv {w0 w w' : World} {lv : Value} {acc : List Rn} {X : Nat} {x : Rn} (H : LayMem w0 w lv acc X x) (k : Kp [] w w') : LayMem w0 w' lv acc X x :=
  ⟨H.kp.trans k, row_kp H.row k (fun _ _ => List.not_mem_nil), k.blk H.box (by simp), H.xle, H.xne, fun r hr => (H.rok r hr).kp k (fun _ _ => List.not_mem_nil), H.xok.kp k (fun _ _ => List.not_mem_nil)⟩

theorem LayMem.push {w0 w w2 : World} {lv : Value} {acc : List Rn} {X : Nat} {x : Rn} (H : LayMem w0 w lv acc X x) {y : Rn} (hy : RnOk w y) {p2 : Option Addr} {N c2 : Nat}
    (hrow : w2.ownsRow w0.heap.size 70 2 (.slice p2 N c2) N (cellsOf acc ++ y.cells)) (hN : N = acc.length + 1) (hk : Kp (ob lv) w w2) (hob : obp p2 = ob lv ∨ obp p2 = [w.heap.size]) :
    LayMem w0 w2 (.slice p2 N c2) (acc ++ [y]) X x := by
  have hlv := row_lt H.row
  have hd : ∀ r, RnOk w r → ∀ i, i ∈ ob r.v → i ∉ ob lv := fun r hr i hi => row_ne hr.own H.row (by decide) i hi
  refine ⟨H.kp.trans' hk (by simp) (fun i hi => .inr (hlv i hi).1), ?_, hk.blk H.box H.xne, H.xle, ?_, ?_, H.xok.kp hk (hd _ H.xok)⟩
  · subst hN
    have e : cellsOf (acc ++ [y]) = cellsOf acc ++ y.cells := by simp [cellsOf]
    rw [e, List.length_append]
    exact hrow
  · rw [ob_slice]
    rcases hob with h | h
    · rw [h]; exact H.xne
    · rw [h]
      have := H.box.lt
      simp
      omega
  · intro r hr
    rcases List.mem_append.1 hr with hr | hr
    · exact (H.rok r hr).kp hk (hd _ (H.rok r hr))
    · simp at hr; subst hr; exact hy.kp hk (hd _ hy)

theorem LayMem.push' {w0 w w2 : World} {p0 : Option Addr} {n0 c0 : Nat} {acc : List Rn} {X : Nat} {x : Rn} {p2 : Option Addr} {N c2 : Nat} {y : Rn} (hk : Kp (obp p0) w w2) (hob : obp p2 = obp p0 ∨ obp p2 = [w.heap.size])
    (hrow : w2.ownsRow w0.heap.size 70 2 (.slice p2 N c2) N (cellsOf acc ++ y.cells)) (H : LayMem w0 w (.slice p0 n0 c0) acc X x) (hy : RnOk w y) (hN : N = acc.length + 1) :
    LayMem w0 w2 (.slice p2 N c2) (acc ++ [y]) X x := H.push hy hrow hN (by rw [ob_slice]; exact hk) (by rw [ob_slice]; exact hob)

theorem LayMem.keeps {w0 w w2 : World} {p0 : Option Addr} {n0 c0 : Nat} {acc : List Rn} {X : Nat} {x r : Rn} (hk : Kp (obp p0) w w2) (H : LayMem w0 w (.slice p0 n0 c0) acc X x) (hr : RnOk w r) : RnOk w2 r :=
  hr.kp hk (fun i hi => by rw [← ob_slice p0 n0 c0]; exact row_ne hr.own H.row (by decide) i hi)

/-- a block of another type is none of a row's -/
theorem blk_ne {w : World} {base X : Nat} {e t : TypeId} {size n : Nat} {v : Value} {xs l : List Value} (h : w.ownsRow base e size v n xs) (hb : Blk w X l t) (he : e ≠ t) : X ∉ ob v := by
  intro hx
  rcases h.2 with ⟨rfl, _⟩ | ⟨g, cap, cur, rfl, _, h3, _⟩
  · simp [ob, Value.ownBlock] at hx
  · simp [ob, Value.ownBlock] at hx
    subst hx
    unfold Blk at hb
    rw [hb] at h3
    simp at h3
    exact he h3.2.symm

theorem LayMem.setx {w0 w : World} {lv : Value} {acc : List Rn} {X : Nat} {x x' : Rn} (H : LayMem w0 w lv acc X x) (hx : RnOk w x') :
    LayMem w0 ((w.setCell ⟨X, 0, none⟩ (.int .i64 x'.a)).setCell ⟨X, 1, none⟩ x'.v) lv acc X x' := by
  have k : Kp [X] w ((w.setCell ⟨X, 0, none⟩ (.int .i64 x'.a)).setCell ⟨X, 1, none⟩ x'.v) := ((Kp.refl _ _).setCell (.inl (by simp)) _).setCell (.inl (by simp)) _
  have hd : ∀ r, RnOk w r → ∀ i, i ∈ ob r.v → i ∉ [X] := fun r hr i hi hm => by
    simp at hm; subst hm
    exact blk_ne hr.own H.box (by decide) hi
  refine ⟨H.kp.trans' k (by simp) (fun i hi => .inr (by simp at hi; subst hi; exact H.xle)), row_kp H.row k (fun i hi hm => by simp at hm; subst hm; exact H.xne hi), ?_, H.xle, H.xne, fun r hr => (H.rok r hr).kp k (hd r (H.rok r hr)), hx.kp k (hd _ hx)⟩
  have := (H.box.set 0 (.int .i64 x'.a)).set 1 x'.v
  simpa [Rn.cells] using this

theorem take_snoc {rs : List Rn} {k : Nat} {y : Rn} (h : rs[k]? = some y) : (rs.take (k + 1)).map Rn.bn = (rs.take k).map Rn.bn ++ [y.bn] := by
  rw [List.take_add_one, h]; simp

theorem st_next {done : List Bn} {x0 : Bn} {acc acc' : List Rn} {laid laid' : Bool} {x x' y : Rn} (h : done.foldl layStep ⟨[], false, x0⟩ = ⟨acc.map Rn.bn, laid, x.bn⟩)
    (hs : layStep ⟨acc.map Rn.bn, laid, x.bn⟩ y.bn = ⟨acc'.map Rn.bn, laid', x'.bn⟩) : (done ++ [y.bn]).foldl layStep ⟨[], false, x0⟩ = ⟨acc'.map Rn.bn, laid', x'.bn⟩ := by
  rw [List.foldl_append, h]; exact hs

/-- the runs of a slice value, in memory -/
def RunsAt (w : World) (p : Option Addr) (rs : List Rn) : Prop := rs = [] ∨ ∃ g o, p = some ⟨g, o, none⟩ ∧ ∀ i r, rs[i]? = some r → w.cell? ⟨g, o + i * 2, none⟩ = some (.int .i64 r.a) ∧ w.cell? ⟨g, o + i * 2 + 1, none⟩ = some r.v

theorem layStep_len (s : LaySt) (y : Bn) : (layStep s y).acc.length ≤ s.acc.length + 2 := by
  unfold layStep
  split
  · simp
  · split
    · simp; split <;> simp
    · simp

theorem foldl_len (l : List Bn) : ∀ s : LaySt, (l.foldl layStep s).acc.length ≤ s.acc.length + 2 * l.length := by
  induction l with
  | nil => intro s; simp
  | cons y l ih =>
    intro s
    have h1 := ih (layStep s y)
    have h2 := layStep_len s y
    simp only [List.foldl_cons, List.length_cons]
    omega

theorem lay_len {acc : List Rn} {laid : Bool} {x : Rn} {rs : List Rn} {k : Nat} {x0 : Bn} (st : ((rs.take k).map Rn.bn).foldl layStep ⟨[], false, x0⟩ = ⟨acc.map Rn.bn, laid, x.bn⟩) (hk : k ≤ rs.length) (hlen : rs.length ≤ 1048560) : acc.length ≤ 2097120 := by
  have h1 := foldl_len ((rs.take k).map Rn.bn) ⟨[], false, x0⟩
  rw [st] at h1
  simp at h1
  omega

theorem Kp.frozen {L : List Nat} {w w' : World} (h : Kp L w w') {p : Addr} {v : Value} (hv : w.cell? p = some v) (hn : p.block ∉ L) (hf : w.frozen? p = false) : w'.frozen? p = false := by
  have hb := h.block p.block (World.block_lt_of_cell? w p hv) hn
  unfold World.frozen? at hf ⊢
  rw [hb]; exact hf

/-- what lay leaves: the runs' row is new, the bytes are the runs' own, each has a block of its own -/
def Laid (w : World) (b off : Nat) (F : List Nat) (l : List Bn) (w' : World) : Prop := ∃ w1 sv rs', Kp [] w w1 ∧ w' = w1.setCell ⟨b, off, none⟩ sv ∧ w1.ownsRow w.heap.size 70 2 sv rs'.length (cellsOf rs') ∧
  rs'.map Rn.bn = l ∧ (∀ r ∈ rs', RnOk w1 r) ∧ (obs rs').Nodup ∧ ∀ i, i ∈ obs rs' → i ∈ F ∨ w.heap.size ≤ i

theorem laid_mk {w wr : World} {b off : Nat} {lv : Value} {acc : List Rn} {X : Nat} {x : Rn} {done : List Bn} {x0 : Bn} {F : List Nat} (M : LayMem w wr lv acc X x) (st : done.foldl layStep ⟨[], false, x0⟩ = ⟨acc.map Rn.bn, true, x.bn⟩) (nd : (obs acc).Nodup) (fr : ∀ i, i ∈ obs acc → i ∈ F ∨ w.heap.size ≤ i) :
    Laid w b off F (layTo done x0) (wr.setCell ⟨b, off, none⟩ lv) :=
  ⟨wr, lv, acc, M.kp, rfl, M.row, by unfold layTo; rw [st]; rfl, M.rok, nd, fr⟩

theorem laid_mk' {w wr : World} {b off : Nat} {lv : Value} {acc : List Rn} {X : Nat} {x : Rn} {done : List Bn} {x0 : Bn} {F : List Nat} (M : LayMem w wr lv (acc ++ [x]) X x) (st : done.foldl layStep ⟨[], false, x0⟩ = ⟨acc.map Rn.bn, false, x.bn⟩) (nd : (obs (acc ++ [x])).Nodup) (fr : ∀ i, i ∈ obs (acc ++ [x]) → i ∈ F ∨ w.heap.size ≤ i) :
    Laid w b off F (layTo done x0) (wr.setCell ⟨b, off, none⟩ lv) :=
  ⟨wr, lv, acc ++ [x], M.kp, rfl, M.row, by unfold layTo; rw [st]; simp, M.rok, nd, fr⟩

set_option maxHeartbeats 1600000 in
theorem lay_any (b off c : Nat) (p : Option Addr) (rs : List Rn) (x : Rn) (w : World) (hc : w.cell? ⟨b, off, none⟩ = some (.slice p rs.length c))
    (hrs : RunsAt w p rs) (hok : ∀ r ∈ rs, RnOk w r) (hx : RnOk w x) (hlen : rs.length ≤ 1048560)
    (hfz : w.frozen? ⟨b, off, none⟩ = false) (hnd : (obs (x :: rs)).Nodup) :
    Calls Try.prog 33 #[.pointer (some ⟨b, off, none⟩), .agg #[.int .i64 x.a, x.v]] w fun e w' => e = .returned (.tuple #[]) ∧ Laid w b off (obs (x :: rs)) (layTo (rs.map Rn.bn) x.bn) w' := by
  obtain ⟨xa, xv, xl⟩ := x
  obtain ⟨xp, xc, hxv, _⟩ := hx.own.shape
  simp only [] at hxv
  subst hxv
  have cA := fun o => cell_alloc hc o
  have hx1 := hx.kp ((Kp.refl [] w).alloc (.cells #[.int .i64 xa, .slice xp xl.length xc] 70)) (by simp)
  have HR := Lib.hid hrs
  have HO := Lib.hid hok
  have ND := Lib.hid hnd
  have HF := Lib.hid hfz
  clear hrs hok hx hnd hfz
  go_enter Try.func33, Try.ntmps33
  go_wp2
  go_loopw [4, 5, 13] (fun lv ld i wr => ∃ (k : Nat) (acc : List Rn) (laid : Bool) (x : Rn), k ≤ rs.length ∧ i = .int .i64 k ∧ ld = .bool laid ∧ LayAt w wr lv acc w.heap.size laid x ((rs.take k).map Rn.bn) (xa, xl) (rs.drop k) (obs (⟨xa, .slice xp xl.length xc, xl⟩ :: rs))) (fun _ _ i _ => rs.length - (intOf i).toNat)
  case atStart =>
    refine ⟨0, [], false, ⟨xa, _, xl⟩, Nat.zero_le _, rfl, rfl, ⟨⟨(by repeat (first | exact Kp.refl _ _ | apply Kp.drewN | apply Kp.alloc)), World.ownsRow_nil _ _ _ _, Blk.new _ _ _, Nat.le_refl _, by simp [ob, Value.ownBlock], by simp, hx1⟩, rfl, by simpa [obs] using ND.out, by rintro r (hr | hr | hr) i hi; (simp at hr); (subst hr; exact .inl (by simp [obs, hi])); exact .inl (mem_obs.2 ⟨r, by simp at hr; simp [hr], hi⟩)⟩⟩
  case round =>
    obtain ⟨k, acc, laid, x, hk, rfl, rfl, H⟩ := hrel
    by_cases hlt : k < rs.length
    · obtain ⟨y, hy⟩ : ∃ y, rs[k]? = some y := ⟨_, List.getElem?_eq_getElem hlt⟩
      obtain ⟨g, o, rfl, hcells⟩ := HR.out.resolve_left (by rintro rfl; simp at hlt)
      obtain ⟨hc1, hc2⟩ := hcells k y hy
      have hyok := (HO.out y (List.mem_of_getElem? hy)).kp H.kp (by simp)
      have d1 := H.kp.cell hc1 (by simp)
      have d2 := H.kp.cell hc2 (by simp)
      have HY := Lib.hid hy
      have hnd := H.nd
      rw [drop_head hy] at hnd
      have HN := Lib.hid hnd
      have hfr := H.fr
      rw [drop_head hy] at hfr
      have HFR := Lib.hid hfr
      clear hfr
      clear hc1 hc2 hcells hy hnd
      obtain ⟨ya, yv, yl⟩ := y
      obtain ⟨yp, yc, hyv, _⟩ := hyok.own.shape
      simp only [] at hyv d1 d2
      subst hyv
      obtain ⟨xa', xv', xl'⟩ := x
      obtain ⟨xp', xc', hxv', _⟩ := H.xok.own.shape
      simp only [] at hxv'
      subst hxv'
      have e1 := H.box.cell (off := 0) rfl
      have e2 := H.box.cell (off := 1) rfl
      have e1A := fun o => cell_alloc e1 o
      have e2A := fun o => cell_alloc e2 o
      obtain ⟨lp, lc, rfl⟩ := row_shape H.row
      have hya := hyok.top
      have hxa := H.xok.top
      simp only [] at hya hxa
      have hal := lay_len H.st hk hlen
      have hne : wr.heap.size ∉ obp lp := fun hm => by have := (row_lt H.row wr.heap.size (by rw [ob_slice]; exact hm)).2; omega
      by_cases hA : ya + yl.length < xa'
      · go_wp2
        refine wp_region_mix [([0, 2, 3], [1], [2, 3]), ([4, 5], [], [])] (by kernel_rfl) (by kernel_rfl) ?_
        refine mix_cons (by repeat (first | exact pick_end | apply (pick_step rfl))) (by repeat (first | exact pick_end | apply (pick_step rfl))) (by repeat (first | exact pick_end | apply (pick_step rfl))) ?_
        repeat (go_big_quiet_step (fail))
        refine wpQuiet_nil ?_
        intro nq
        go_wp2_with (go_at_call 35; refine (end_any ya yp yl.length yc _ (by omega) (by omega) (by omega)).mono ?_; rintro e w1 ⟨rfl, hk1⟩)
        have BY := hk1.blk ((Blk.new wr [.int .i64 ya, .slice yp yl.length yc] 70).drewN _) (by simp)
        have BX := hk1.blk ((H.box.alloc (.cells #[.int .i64 ya, .slice yp yl.length yc] 70)).drewN _) (by simp)
        have y1 := BY.cell (off := 0) rfl
        have y2 := BY.cell (off := 1) rfl
        have x1 := BX.cell (off := 0) rfl
        have x2 := BX.cell (off := 1) rfl
        go_wp2_with fail
        try simp only [Act.put, List.setIfInBounds_toArray, List.set_cons_zero, List.set_cons_succ]
        refine ⟨?_, ?_⟩
        · unfold AgainAll; repeat (go_big_quiet_step (fail))
          exact again_end
        refine mix_cons' (by repeat (first | exact pick_end | apply (pick_step rfl))) (by repeat (first | exact pick_end | apply (pick_step rfl))) ?_
        repeat (go_big_quiet_step (fail))
        refine wpQuiet_nil ?_
        intro nq
        go_wp2_with fail
        refine mix_nil ?_
        go_wp2_with (at_builtin; go_must (refine wpList_append_row rfl (.tmp 26) (.tmp 28) 49 rfl 70 Try.underlying49 infoRun rfl (by omega) w.heap.size (cellsOf acc) [.int .i64 ya, .slice yp yl.length yc] 70 (acc.length + 1) rfl rfl (World.ownsRow.alloc (row_kp (by exact H.row.alloc _) hk1 (fun _ _ => List.not_mem_nil)) _) (Blk.new _ _ _) rfl (by simp [Value.oneCell']) rfl ?_ ?_ ?_ ?_; omega; (unfold maxLen; omega); (have := hk1.size; have := H.kp.size; simp at *; omega); intro p2 c2 w2 hrow2 hk2 hob2))
        go_roundw
        case rel =>
          have M2 := LayMem.push' (y := ⟨ya, .slice yp yl.length yc, yl⟩) hk2 hob2 hrow2 (by exact H.toLayMem.mv (by repeat (first | exact Kp.refl _ _ | apply Kp.drewN | apply Kp.alloc | (refine Kp.trans ?_ (by assumption))))) (by exact hyok.kp (by repeat (first | exact Kp.refl _ _ | apply Kp.drewN | apply Kp.alloc | (refine Kp.trans ?_ (by assumption)))) (fun _ _ => List.not_mem_nil)) rfl
          refine ⟨k + 1, _, laid, _, by omega, by go_num, rfl, ⟨M2, ?_, nd_head HN.out, fr_sub HFR.out (by intro r hr; simp at hr ⊢; rcases hr with h | h <;> simp [h]) (by intro r hr; simp [hr])⟩⟩
          rw [take_snoc HY.out]
          exact st_next H.st (by simp [layStep, Rn.bn, hA])
        case measure => simp [intOf]; omega
      · by_cases hB : xa' + xl'.length < ya
        · cases laid
          · go_wp2
            refine wp_region_mix [([0, 2, 3], [1], [2, 3]), ([4, 5], [], [])] (by kernel_rfl) (by kernel_rfl) ?_
            refine mix_cons (by repeat (first | exact pick_end | apply (pick_step rfl))) (by repeat (first | exact pick_end | apply (pick_step rfl))) (by repeat (first | exact pick_end | apply (pick_step rfl))) ?_
            repeat (go_big_quiet_step (fail))
            refine wpQuiet_nil ?_
            intro nq
            go_wp2_with (go_at_call 35; refine (end_any ya yp yl.length yc _ (by omega) (by omega) (by omega)).mono ?_; rintro e w1 ⟨rfl, hk1⟩)
            have BY := hk1.blk ((Blk.new wr [.int .i64 ya, .slice yp yl.length yc] 70).drewN _) (by simp)
            have BX := hk1.blk ((H.box.alloc (.cells #[.int .i64 ya, .slice yp yl.length yc] 70)).drewN _) (by simp)
            have y1 := BY.cell (off := 0) rfl
            have y2 := BY.cell (off := 1) rfl
            have x1 := BX.cell (off := 0) rfl
            have x2 := BX.cell (off := 1) rfl
            go_wp2_with fail
            try simp only [Act.put, List.setIfInBounds_toArray, List.set_cons_zero, List.set_cons_succ]
            refine ⟨?_, ?_⟩
            · unfold AgainAll; repeat (go_big_quiet_step (fail))
              exact again_end
            refine mix_cons' (by repeat (first | exact pick_end | apply (pick_step rfl))) (by repeat (first | exact pick_end | apply (pick_step rfl))) ?_
            repeat (go_big_quiet_step (fail))
            refine wpQuiet_nil ?_
            intro nq
            go_wp2_with fail
            refine mix_nil ?_
            go_wp2_with fail
            refine wp_region_mix [([0, 2, 1], [3], [0, 1]), ([4, 5], [], [])] (by kernel_rfl) (by kernel_rfl) ?_
            refine mix_cons (by repeat (first | exact pick_end | apply (pick_step rfl))) (by repeat (first | exact pick_end | apply (pick_step rfl))) (by repeat (first | exact pick_end | apply (pick_step rfl))) ?_
            repeat (go_big_quiet_step (fail))
            refine wpQuiet_nil ?_
            intro nq
            go_wp2_with (go_at_call 35; refine (end_any xa' xp' xl'.length xc' _ (by omega) (by omega) (by omega)).mono ?_; rintro e w2 ⟨rfl, hk2⟩)
            have CY := hk2.blk (BY.drewN _) (by simp)
            have CX := hk2.blk (BX.drewN _) (by simp)
            clear y1 y2 x1 x2
            have y1 := CY.cell (off := 0) rfl
            have y2 := CY.cell (off := 1) rfl
            have x1 := CX.cell (off := 0) rfl
            have x2 := CX.cell (off := 1) rfl
            go_wp2_with fail
            try simp only [Act.put, List.setIfInBounds_toArray, List.set_cons_zero, List.set_cons_succ]
            refine ⟨?_, ?_⟩
            · unfold AgainAll; repeat (go_big_quiet_step (fail))
              exact again_end
            refine mix_cons' (by repeat (first | exact pick_end | apply (pick_step rfl))) (by repeat (first | exact pick_end | apply (pick_step rfl))) ?_
            repeat (go_big_quiet_step (fail))
            refine wpQuiet_nil ?_
            intro nq
            go_wp2_with fail
            refine mix_nil ?_
            go_wp2_with (first
              | (at_builtin; (refine wpList_append_row rfl (.tmp 38) (.tmp 40) 49 rfl 70 Try.underlying49 infoRun rfl (by omega) w.heap.size (cellsOf acc) [.int .i64 xa', .slice xp' xl'.length xc'] 70 (acc.length + 1) rfl rfl (World.ownsRow.alloc (row_kp (L := []) (w' := w2.drewN _) (by exact H.row) (by repeat (first | exact Kp.refl _ _ | apply Kp.drewN | apply Kp.alloc | (refine Kp.trans ?_ (by assumption)))) (fun _ _ => List.not_mem_nil)) _) (Blk.new _ _ _) rfl (by simp [Value.oneCell']) rfl ?_ ?_ ?_ ?_; omega; (unfold maxLen; omega); (have := hk1.size; have := hk2.size; have := H.kp.size; simp at *; omega); intro p3 c3 w3 hrow3 hk3 hob3; have DY := hk3.blk ((CY.drewN _).alloc _) hne; have z1 := DY.cell (off := 0) rfl; have z2 := DY.cell (off := 1) rfl))
              | (at_builtin; go_must (refine wpList_append_row rfl (.tmp 42) (.tmp 44) 49 rfl 70 Try.underlying49 infoRun rfl (by omega) w.heap.size (cellsOf acc ++ [.int .i64 xa', .slice xp' xl'.length xc']) [.int .i64 ya, .slice yp yl.length yc] 70 (acc.length + 1 + 1) rfl rfl (World.ownsRow.alloc hrow3 _) (Blk.new _ _ _) rfl (by simp [Value.oneCell']) rfl ?_ ?_ ?_ ?_; omega; (unfold maxLen; omega); (have := hk1.size; have := hk2.size; have := hk3.size; have := H.kp.size; simp at *; omega); intro p4 c4 w4 hrow4 hk4 hob4)))
            go_roundw
            case rel =>
              have M2 := LayMem.push' (y := ⟨xa', .slice xp' xl'.length xc', xl'⟩) hk3 hob3 hrow3 (by exact H.toLayMem.mv (by repeat (first | exact Kp.refl _ _ | apply Kp.drewN | apply Kp.alloc | (refine Kp.trans ?_ (by assumption))))) (by exact H.xok.kp (by repeat (first | exact Kp.refl _ _ | apply Kp.drewN | apply Kp.alloc | (refine Kp.trans ?_ (by assumption)))) (fun _ _ => List.not_mem_nil)) rfl
              have Y3 := LayMem.keeps (x := ⟨xa', .slice xp' xl'.length xc', xl'⟩) (r := ⟨ya, .slice yp yl.length yc, yl⟩) (w0 := w) (X := w.heap.size) (acc := acc) (n0 := acc.length) (c0 := lc) hk3 (by exact H.toLayMem.mv (by repeat (first | exact Kp.refl _ _ | apply Kp.drewN | apply Kp.alloc | (refine Kp.trans ?_ (by assumption))))) (by exact hyok.kp (by repeat (first | exact Kp.refl _ _ | apply Kp.drewN | apply Kp.alloc | (refine Kp.trans ?_ (by assumption)))) (fun _ _ => List.not_mem_nil))
              have M3 := LayMem.push' (w0 := w) (acc := acc ++ [⟨xa', .slice xp' xl'.length xc', xl'⟩]) (y := ⟨ya, .slice yp yl.length yc, yl⟩) hk4 hob4 (by simpa [cellsOf, Rn.cells] using hrow4) (by exact M2.mv (by repeat (first | exact Kp.refl _ _ | apply Kp.drewN | apply Kp.alloc | (refine Kp.trans ?_ (by assumption))))) (by exact Y3.kp (by repeat (first | exact Kp.refl _ _ | apply Kp.drewN | apply Kp.alloc | (refine Kp.trans ?_ (by assumption)))) (fun _ _ => List.not_mem_nil)) (by simp)
              refine ⟨k + 1, _, true, _, by omega, by go_num, rfl, ⟨M3, ?_, by simpa using HN.out, fr_sub HFR.out (by intro r hr; simp at hr ⊢; (first | (rcases hr with h | h | h <;> simp [h]; done) | (rcases hr with h | h <;> simp [h]))) (by intro r hr; simp [hr])⟩⟩
              rw [take_snoc HY.out]
              exact st_next H.st (by simp [layStep, Rn.bn, hA, hB])
            case measure => simp [intOf]; omega
          · go_wp2
            refine wp_region_mix [([0, 2, 3], [1], [2, 3]), ([4, 5], [], [])] (by kernel_rfl) (by kernel_rfl) ?_
            refine mix_cons (by repeat (first | exact pick_end | apply (pick_step rfl))) (by repeat (first | exact pick_end | apply (pick_step rfl))) (by repeat (first | exact pick_end | apply (pick_step rfl))) ?_
            repeat (go_big_quiet_step (fail))
            refine wpQuiet_nil ?_
            intro nq
            go_wp2_with (go_at_call 35; refine (end_any ya yp yl.length yc _ (by omega) (by omega) (by omega)).mono ?_; rintro e w1 ⟨rfl, hk1⟩)
            have BY := hk1.blk ((Blk.new wr [.int .i64 ya, .slice yp yl.length yc] 70).drewN _) (by simp)
            have BX := hk1.blk ((H.box.alloc (.cells #[.int .i64 ya, .slice yp yl.length yc] 70)).drewN _) (by simp)
            have y1 := BY.cell (off := 0) rfl
            have y2 := BY.cell (off := 1) rfl
            have x1 := BX.cell (off := 0) rfl
            have x2 := BX.cell (off := 1) rfl
            go_wp2_with fail
            try simp only [Act.put, List.setIfInBounds_toArray, List.set_cons_zero, List.set_cons_succ]
            refine ⟨?_, ?_⟩
            · unfold AgainAll; repeat (go_big_quiet_step (fail))
              exact again_end
            refine mix_cons' (by repeat (first | exact pick_end | apply (pick_step rfl))) (by repeat (first | exact pick_end | apply (pick_step rfl))) ?_
            repeat (go_big_quiet_step (fail))
            refine wpQuiet_nil ?_
            intro nq
            go_wp2_with fail
            refine mix_nil ?_
            go_wp2_with fail
            refine wp_region_mix [([0, 2, 1], [3], [0, 1]), ([4, 5], [], [])] (by kernel_rfl) (by kernel_rfl) ?_
            refine mix_cons (by repeat (first | exact pick_end | apply (pick_step rfl))) (by repeat (first | exact pick_end | apply (pick_step rfl))) (by repeat (first | exact pick_end | apply (pick_step rfl))) ?_
            repeat (go_big_quiet_step (fail))
            refine wpQuiet_nil ?_
            intro nq
            go_wp2_with (go_at_call 35; refine (end_any xa' xp' xl'.length xc' _ (by omega) (by omega) (by omega)).mono ?_; rintro e w2 ⟨rfl, hk2⟩)
            have CY := hk2.blk (BY.drewN _) (by simp)
            have CX := hk2.blk (BX.drewN _) (by simp)
            clear y1 y2 x1 x2
            have y1 := CY.cell (off := 0) rfl
            have y2 := CY.cell (off := 1) rfl
            have x1 := CX.cell (off := 0) rfl
            have x2 := CX.cell (off := 1) rfl
            go_wp2_with fail
            try simp only [Act.put, List.setIfInBounds_toArray, List.set_cons_zero, List.set_cons_succ]
            refine ⟨?_, ?_⟩
            · unfold AgainAll; repeat (go_big_quiet_step (fail))
              exact again_end
            refine mix_cons' (by repeat (first | exact pick_end | apply (pick_step rfl))) (by repeat (first | exact pick_end | apply (pick_step rfl))) ?_
            repeat (go_big_quiet_step (fail))
            refine wpQuiet_nil ?_
            intro nq
            go_wp2_with fail
            refine mix_nil ?_
            go_wp2_with (at_builtin; refine wpList_append_row rfl (.tmp 42) (.tmp 44) 49 rfl 70 Try.underlying49 infoRun rfl (by omega) w.heap.size (cellsOf acc) [.int .i64 ya, .slice yp yl.length yc] 70 (acc.length + 1) rfl rfl (World.ownsRow.alloc (row_kp (L := []) (w' := w2.drewN _) (by exact H.row) (by repeat (first | exact Kp.refl _ _ | apply Kp.drewN | apply Kp.alloc | (refine Kp.trans ?_ (by assumption)))) (fun _ _ => List.not_mem_nil)) _) (Blk.new _ _ _) rfl (by simp [Value.oneCell']) rfl ?_ ?_ ?_ ?_; omega; (unfold maxLen; omega); (have := hk1.size; have := hk2.size; have := H.kp.size; simp at *; omega); intro p4 c4 w4 hrow4 hk4 hob4)
            go_roundw
            case rel =>
              have M3 := LayMem.push' (w0 := w) (y := ⟨ya, .slice yp yl.length yc, yl⟩) hk4 hob4 hrow4 (by exact H.toLayMem.mv (by repeat (first | exact Kp.refl _ _ | apply Kp.drewN | apply Kp.alloc | (refine Kp.trans ?_ (by assumption))))) (by exact hyok.kp (by repeat (first | exact Kp.refl _ _ | apply Kp.drewN | apply Kp.alloc | (refine Kp.trans ?_ (by assumption)))) (fun _ _ => List.not_mem_nil)) rfl
              refine ⟨k + 1, _, true, _, by omega, by go_num, rfl, ⟨M3, ?_, by simpa using HN.out, fr_sub HFR.out (by intro r hr; simp at hr ⊢; (first | (rcases hr with h | h | h <;> simp [h]; done) | (rcases hr with h | h <;> simp [h]))) (by intro r hr; simp [hr])⟩⟩
              rw [take_snoc HY.out]
              exact st_next H.st (by simp [layStep, Rn.bn, hA, hB])
            case measure => simp [intOf]; omega
        · go_wp2
          refine wp_region_mix [([0, 2, 3], [1], [2, 3]), ([4, 5], [], [])] (by kernel_rfl) (by kernel_rfl) ?_
          refine mix_cons (by repeat (first | exact pick_end | apply (pick_step rfl))) (by repeat (first | exact pick_end | apply (pick_step rfl))) (by repeat (first | exact pick_end | apply (pick_step rfl))) ?_
          repeat (go_big_quiet_step (fail))
          refine wpQuiet_nil ?_
          intro nq
          go_wp2_with (go_at_call 35; refine (end_any ya yp yl.length yc _ (by omega) (by omega) (by omega)).mono ?_; rintro e w1 ⟨rfl, hk1⟩)
          have BY := hk1.blk ((Blk.new wr [.int .i64 ya, .slice yp yl.length yc] 70).drewN _) (by simp)
          have BX := hk1.blk ((H.box.alloc (.cells #[.int .i64 ya, .slice yp yl.length yc] 70)).drewN _) (by simp)
          have y1 := BY.cell (off := 0) rfl
          have y2 := BY.cell (off := 1) rfl
          have x1 := BX.cell (off := 0) rfl
          have x2 := BX.cell (off := 1) rfl
          go_wp2_with fail
          try simp only [Act.put, List.setIfInBounds_toArray, List.set_cons_zero, List.set_cons_succ]
          refine ⟨?_, ?_⟩
          · unfold AgainAll; repeat (go_big_quiet_step (fail))
            exact again_end
          refine mix_cons' (by repeat (first | exact pick_end | apply (pick_step rfl))) (by repeat (first | exact pick_end | apply (pick_step rfl))) ?_
          repeat (go_big_quiet_step (fail))
          refine wpQuiet_nil ?_
          intro nq
          go_wp2_with fail
          refine mix_nil ?_
          go_wp2_with fail
          refine wp_region_mix [([0, 2, 1], [3], [0, 1]), ([4, 5], [], [])] (by kernel_rfl) (by kernel_rfl) ?_
          refine mix_cons (by repeat (first | exact pick_end | apply (pick_step rfl))) (by repeat (first | exact pick_end | apply (pick_step rfl))) (by repeat (first | exact pick_end | apply (pick_step rfl))) ?_
          repeat (go_big_quiet_step (fail))
          refine wpQuiet_nil ?_
          intro nq
          go_wp2_with (go_at_call 35; refine (end_any xa' xp' xl'.length xc' _ (by omega) (by omega) (by omega)).mono ?_; rintro e w2 ⟨rfl, hk2⟩)
          have CY := hk2.blk (BY.drewN _) (by simp)
          have CX := hk2.blk (BX.drewN _) (by simp)
          clear y1 y2 x1 x2
          have y1 := CY.cell (off := 0) rfl
          have y2 := CY.cell (off := 1) rfl
          have x1 := CX.cell (off := 0) rfl
          have x2 := CX.cell (off := 1) rfl
          go_wp2_with fail
          try simp only [Act.put, List.setIfInBounds_toArray, List.set_cons_zero, List.set_cons_succ]
          refine ⟨?_, ?_⟩
          · unfold AgainAll; repeat (go_big_quiet_step (fail))
            exact again_end
          refine mix_cons' (by repeat (first | exact pick_end | apply (pick_step rfl))) (by repeat (first | exact pick_end | apply (pick_step rfl))) ?_
          repeat (go_big_quiet_step (fail))
          refine wpQuiet_nil ?_
          intro nq
          go_wp2_with fail
          refine mix_nil ?_
          have hxpos := H.xok.pos
          have hypos := hyok.pos
          simp only [] at hxpos hypos
          go_wp2_with (go_at_call 36; refine (merged_any xa' ya xl'.length yl.length xc' yc xp' yp xl' yl _ (by exact (H.xok.own.byt.kp (L := []) (by repeat (first | exact Kp.refl _ _ | apply Kp.drewN | apply Kp.alloc | (refine Kp.trans ?_ (by assumption)))) (fun _ _ => List.not_mem_nil))) (by exact (hyok.own.byt.kp (L := []) (by repeat (first | exact Kp.refl _ _ | apply Kp.drewN | apply Kp.alloc | (refine Kp.trans ?_ (by assumption)))) (fun _ _ => List.not_mem_nil))) (by omega) (by omega) (by omega) (by omega)).mono ?_; rintro e w3 ⟨mv, rfl, hmo, hk3⟩; obtain ⟨mp, mc, rfl, _⟩ := hmo.shape; have DX := hk3.blk (CX.drewN _) (by simp); have v1 := DX.cell (off := 0) rfl; have v2 := DX.cell (off := 1) rfl; have g1 := DX.frozen 0; have g2 := DX.frozen 1)
          go_roundw
          case rel =>
            have hR : RnOk w3 ⟨min xa' ya, .slice mp (mergedTo xa' xl' ya yl).length mc, mergedTo xa' xl' ya yl⟩ := ⟨hmo.mono (Nat.zero_le _), by rw [mergedTo_len]; omega, by show min xa' ya + (mergedTo xa' xl' ya yl).length ≤ 1048560; rw [mergedTo_len]; omega⟩
            have M3 := (H.toLayMem.mv (w' := w3) (by repeat (first | exact Kp.refl _ _ | apply Kp.drewN | apply Kp.alloc | (refine Kp.trans ?_ (by assumption))))).setx hR
            refine ⟨k + 1, _, laid, _, by omega, by go_num, rfl, ⟨M3, ?_, nd_new HN.out ?_ (fun i hi => (hmo.lt i hi).1) (ob_nodup _), fr_new HFR.out (fun i hi => by have h1 := (hmo.lt i hi).1; have h2 := hk1.size; have h3 := hk2.size; have h4 := H.kp.size; simp at h1 h2 h3 h4; omega) (by intro r hr; simp [hr])⟩⟩
            rotate_left
            · intro r hr i hi
              have hs1 := hk1.size
              have hs2 := hk2.size
              simp at hs1 hs2 ⊢
              rcases List.mem_append.1 hr with hr | hr
              · have := ((H.rok r hr).own.lt i hi).2
                omega
              · have := (((HO.out r (List.mem_of_mem_drop hr)).kp H.kp (by simp)).own.lt i hi).2
                omega
            rw [take_snoc HY.out]
            exact st_next H.st (by simp [layStep, Rn.bn, hA, hB])
          case measure => simp [intOf]; omega
    · have hke : rs.take k = rs := List.take_of_length_le (by omega)
      have hst := H.st
      rw [hke] at hst
      have HST := Lib.hid hst
      clear hst hke
      obtain ⟨xa', xv', xl'⟩ := x
      obtain ⟨xp', xc', hxv', _⟩ := H.xok.own.shape
      simp only [] at hxv'
      subst hxv'
      obtain ⟨lp, lc, rfl⟩ := row_shape H.row
      have e1 := H.box.cell (off := 0) rfl
      have e2 := H.box.cell (off := 1) rfl
      have hcr := H.kp.cell hc (by simp)
      have hal := lay_len H.st hk hlen
      have hxk := H.xok
      have hnd := H.nd
      rw [List.drop_of_length_le (by omega)] at hnd
      have HN := Lib.hid hnd
      have f1 := H.kp.frozen hc (by simp) HF.out
      clear hnd
      have hbl : b ∉ obp lp := fun hm => by
        have h1 := (row_lt H.row b (by rw [ob_slice]; exact hm)).1
        have h2 := World.block_lt_of_cell? w _ hc
        simp only [] at h2
        omega
      cases laid
      · go_wp2_with (at_builtin; go_must (refine wpList_append_row rfl (.tmp 49) (.tmp 51) 49 rfl 70 Try.underlying49 infoRun rfl (by omega) w.heap.size (cellsOf acc) [.int .i64 xa', .slice xp' xl'.length xc'] 70 (acc.length + 1) rfl rfl (World.ownsRow.alloc (row_kp (L := []) (w' := wr) (by exact H.row) (by repeat (first | exact Kp.refl _ _ | apply Kp.drewN | apply Kp.alloc | (refine Kp.trans ?_ (by assumption)))) (fun _ _ => List.not_mem_nil)) _) (Blk.new _ _ _) rfl (by simp [Value.oneCell']) rfl ?_ ?_ ?_ ?_; omega; (unfold maxLen; omega); (have := H.kp.size; simp at *; omega); intro p2 c2 w2 hrow2 hk2 hob2; have f2 := hk2.frozen (cell_alloc hcr _) hbl (((Kp.refl [] wr).alloc _).frozen hcr (by simp) f1); have z2 := hk2.cell (cell_alloc hcr _) hbl))
        go_end0
        have M2 := LayMem.push' (y := ⟨xa', .slice xp' xl'.length xc', xl'⟩) hk2 hob2 hrow2 (by exact H.toLayMem.mv (by repeat (first | exact Kp.refl _ _ | apply Kp.drewN | apply Kp.alloc | (refine Kp.trans ?_ (by assumption))))) (by exact hxk.kp (by repeat (first | exact Kp.refl _ _ | apply Kp.drewN | apply Kp.alloc | (refine Kp.trans ?_ (by assumption)))) (fun _ _ => List.not_mem_nil)) rfl
        exact ⟨rfl, laid_mk' M2 HST.out (by simpa using HN.out) (fun i hi => by obtain ⟨r, hr, hi⟩ := mem_obs.1 hi; exact H.fr r (by simp at hr; rcases hr with h | h <;> simp [h]) i hi)⟩
      · go_wp2
        go_end0
        exact ⟨rfl, laid_mk H.toLayMem HST.out (by simpa using HN.out) (fun i hi => by obtain ⟨r, hr, hi⟩ := mem_obs.1 hi; exact H.fr r (.inl hr) i hi)⟩

end Go.Proofs.Ytodedpmedkgkmaa
