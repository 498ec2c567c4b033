/-
  A call that was reckoned at some things in memory is known ahead wherever these things stand: stages of a long run.
  Runs whose ways that nobody goes are refuted by reckoning: one letter has but few values, and at each of them some condition is not met.
-/
import Derived.Test.YtooebogidjejoaaGreatCe
set_option linter.unusedVariables false
set_option linter.unusedSimpArgs false
namespace Go.Proofs.YtooebogidjejoaaGreat
open Go
noncomputable section
def frkP (l : List (SB × Bool)) (c : SB) (a b : R) : R := match lookB l c with
 | some true => .fork c a .dead
 | some false => .fork c .dead b
 | none => .fork c a b
def bindR (κ : AV → St → R) (l : List (SB × Bool)) (r : R) : R := R.rec (motive := fun _ => R) (fun v s => κ v s) (fun n => .fail n) .dead (fun c _ _ a b => frkP l c a b) r
def setH (h : Tr AObj) (l : List (Nat × AObj)) : Tr AObj := List.rec (motive := fun _ => Tr AObj → Tr AObj) (fun h => h) (fun x _ ih h => ih (h.set x.1 x.2)) l h
def Tr.over {α : Type} (u : Tr α) : Tr α → Tr α := Tr.rec (motive := fun _ => Tr α → Tr α) (fun t => t) (fun v l r ihl ihr t => Tr.rec (motive := fun _ => Tr α) (.node v l r) (fun v' l' r' _ _ => .node (Option.rec (motive := fun _ => Option α) v' (fun x => some x) v) (ihl l') (ihr r')) t) u
mutual
def AV.idB (p : Nat → Bool) : AV → Bool
 | .int _ _ => true
 | .bool _ => true
 | .fn _ a b => AV.idBL p a && AV.idBL p b
 | .iface _ v => AV.idB p v
 | .agg l => AV.idBL p l
 | .tup l => AV.idBL p l
 | .osl _ _ _ => true
 | .dfr _ _ _ => false
 | .ptr i _ => p i
 | .sl i _ _ _ => p i
 | .emp i _ _ => p i
 | .em0 i _ _ => p i
 | .map i => p i
 | .raw _ => true
 | .opq _ => true
 | .ssl i _ _ _ _ => p i
 | .fsl _ _ _ _ => true
def AV.idBL (p : Nat → Bool) : List AV → Bool
 | [] => true
 | v :: l => AV.idB p v && AV.idBL p l
end
def entId (p : Nat → Bool) (es : List (AV × AV × Nat)) : Bool := es.all fun e => AV.idB p e.1 && AV.idB p e.2.1
def AObj.idB (p : Nat → Bool) (o : AObj) : Bool := match o with
 | .cells _ c d _ _ => Tr.all (AV.idB p) c && optB (AV.idB p) d
 | .map es _ => entId p es
 | .iter m _ _ _ => optB p m
 | .rope _ _ _ => true
 | .dead => true
structure Leaf where
 v : AV
 dl : List (Nat × AObj)
 nx : Nat
 l : List (SB × Bool)
structure Stage where
 nx : Nat
 args : List AV
 hp : List (Nat × AObj)
 smp : List (List Int)
 rg : List (Int × Int)
 wit : Nat
 l0 : List (SB × Bool)
 ls : List Leaf
 r : R
def Stage.h (g : Stage) : Tr AObj := setH .nil g.hp
def Leaf.d (x : Leaf) : Tr AObj := setH .nil x.dl
def Leaf.st (x : Leaf) : St := ⟨x.d, x.nx, ⟨x.l, [], []⟩⟩
def chkK (h : Tr AObj) (l0 : List (SB × Bool)) (ls : List Leaf) (v : AV) (s : St) : R := List.rec (motive := fun _ => R) (.fail 310) (fun x _ ih => Bool.rec (motive := fun _ => R) ih (.done x.v x.st) (Nat.beq s.nx x.nx && (AV.beq v x.v && (pcB s.pc.l (x.l ++ l0) && Tr.leB AObj.beq (Tr.over x.d h) s.hp)))) ls
def liveAt (h : Tr AObj) (i : Nat) : Bool := match h.get i with
 | some o => live o
 | none => false
def keepB (g : Stage) (i : Nat) : Bool := liveAt g.h i || Nat.ble g.nx i
def deadB (o : AObj) : Bool := notF (live o)
def leafB (g : Stage) (x : Leaf) : Bool := AV.idB (keepB g) x.v && x.dl.all fun p => deadB p.2 || (keepB g p.1 && AObj.idB (keepB g) p.2)
def endsB (g : Stage) (r : R) : Bool := R.rec (motive := fun _ => Bool) (fun v s => true) (fun _ => true) true (fun _ _ _ a b => a && b) r
def stgB (g : Stage) : Bool := AV.idBL (liveAt g.h) g.args && (Tr.all (AObj.idB (liveAt g.h)) g.h && (g.ls.all (leafB g) && (Nat.beq g.nx (nat_lit 0) || liveAt g.h g.wit)))
def rgLe (b : List (Int × Int)) : List (Int × Int) → Bool := List.rec (motive := fun _ => List (Int × Int) → Bool) (fun _ => true) (fun y _ ih a => List.rec (motive := fun _ => Bool) false (fun x a _ => leF y.1 x.1 && (leF x.2 y.2 && ih a)) a) b
def premB (l : List (SB × Bool)) (l0 : List (SB × Bool)) : Bool := List.rec (motive := fun _ => Bool) true (fun x _ ih => (match lookB l x.1 with | some b => Bool.rec (motive := fun _ => Bool) (notF x.2) x.2 b | none => false) && ih) l0
def stgC (g : Stage) (l : List AV) (s : St) : Bool := AV.beqL l g.args && (rgLe g.rg s.pc.rg && (premB s.pc.l g.l0 && Tr.leB AObj.beq g.h s.hp))
def goOn (s : St) (κ : AV → St → R) (v : AV) (x : St) : R := κ v ⟨Tr.over x.hp s.hp, x.nx, ⟨x.pc.l ++ s.pc.l, s.pc.smp, s.pc.rg⟩⟩
def stgK (gs : List Stage) (l : List AV) (s : St) (κ : AV → St → R) (alt : R) : R := List.rec (motive := fun _ => R) alt (fun g _ ih => Bool.rec (motive := fun _ => R) ih (Bool.rec (motive := fun _ => R) ih (bindR (goOn s κ) s.pc.l g.r) (stgC g l s)) (Nat.beq s.nx g.nx)) gs
abbrev nI (n : Nat) : AV := .int .i64 (.lit (.ofNat n))
abbrev nM (n : Nat) : AV := .int .i64 (.lit (.negSucc n))
abbrev nU (n : Nat) : AV := .int .u8 (.lit (.ofNat n))
abbrev nH (n : Nat) : AV := .int .u16 (.lit (.ofNat n))
abbrev nW (n : Nat) : AV := .int .u32 (.lit (.ofNat n))
abbrev nQ (n : Nat) : AV := .int .u64 (.lit (.ofNat n))
abbrev nT : AV := .bool (.lit true)
abbrev nF : AV := .bool (.lit false)
abbrev nP : AV := .raw (.pointer none)
abbrev nS : AV := .raw (.slice none 0 0)
abbrev oS (T : TypeId) (l : List AV) : AObj := .cells (lenL l) (trOf l) none T false
abbrev oR (T : TypeId) (l : List AV) : AObj := .cells (lenL l) (trOf l) none T true
def setT (c : Tr AV) (l : List (Nat × AV)) : Tr AV := List.rec (motive := fun _ => Tr AV → Tr AV) (fun c => c) (fun x _ ih c => ih (c.set x.1 x.2)) l c
abbrev oB (n : Nat) (l : List (Nat × AV)) (d : Option AV) (T : TypeId) (r : Bool) : AObj := .cells n (setT .nil l) d T r
def Stage.s0 (g : Stage) : St := ⟨g.h, g.nx, ⟨g.l0, g.smp, g.rg⟩⟩
end
theorem frkP_inv {l : List (SB × Bool)} {c : SB} {a b : R} {D : Dn} (h : frkP l c a b ∈ D) : (c.ev D.ρ = true ∧ a ∈ D) ∨ (c.ev D.ρ = false ∧ b ∈ D) := by
 unfold frkP at h
 split at h
 ·rcases h with ⟨h1, h2⟩ | ⟨_, h2⟩
  ·exact .inl ⟨h1, h2⟩
  ·cases h2
 ·rcases h with ⟨_, h2⟩ | ⟨h1, h2⟩
  ·cases h2
  ·exact .inr ⟨h1, h2⟩
 ·exact h
theorem bindR_inv {κ : AV → St → R} {l : List (SB × Bool)} {D : Dn} : ∀ {r : R}, bindR κ l r ∈ D → ∃ v s, r ∈ Dn.mk D.ρ v s ∧ κ v s ∈ D := by
 intro r
 induction r with
 | done v s => intro h; exact ⟨v, s, ⟨rfl, rfl⟩, h⟩
 | fail n => intro h; cases h
 | dead => intro h; cases h
 | fork c a b iha ihb =>
  intro h
  rcases frkP_inv (show frkP l c (bindR κ l a) (bindR κ l b) ∈ D from h) with ⟨h1, h2⟩ | ⟨h1, h2⟩
  ·obtain ⟨v, s, h3, h4⟩ := iha h2
   exact ⟨v, s, .inl ⟨h1, h3⟩, h4⟩
  ·obtain ⟨v, s, h3, h4⟩ := ihb h2
   exact ⟨v, s, .inr ⟨h1, h3⟩, h4⟩
theorem setH_get : ∀ (l : List (Nat × AObj)) (h : Tr AObj) {i : Nat} {o : AObj}, (setH h l).get i = some o → (i, o) ∈ l ∨ h.get i = some o
 | [], h, i, o, hx => .inr hx
 | x :: l, h, i, o, hx => by
  rcases setH_get l (h.set x.1 x.2) (show (setH (h.set x.1 x.2) l).get i = some o from hx) with h1 | h1
  ·exact .inl (by simp [h1])
  ·rw [Tr.get_set] at h1
   split at h1
   ·rename_i he
    cases h1
    exact .inl (by rw [he]; simp)
   ·exact .inr h1
theorem Tr.over_get {α : Type} : ∀ (u t : Tr α) (q : Pos), Tr.getP q (Tr.over u t) = (Tr.getP q u).orElse (fun _ => Tr.getP q t) := by
 intro u
 induction u with
 | nil => intro t q; rw [Tr.getP_nil]; rfl
 | node v l r ihl ihr =>
  intro t q
  cases t with
  | nil =>
   show Tr.getP q (.node v l r) = _
   rw [Tr.getP_nil]
   cases Tr.getP q (Tr.node v l r) <;> rfl
  | node v' l' r' =>
   cases q with
   | here =>
    show Option.rec (motive := fun _ => Option α) v' (fun x => some x) v = v.orElse fun _ => v'
    cases v <;> rfl
   | left q => exact ihl l' q
   | right q => exact ihr r' q
section
variable {P : Program} {ρ : Nat → Int} {φ φ' : List Pl} {p : Nat → Bool}
mutual
theorem AV.idB_conc (hφ : ∀ i, p i = true → φ'[i]? = φ[i]?) : ∀ (v : AV), AV.idB p v = true → conc φ' ρ v = conc φ ρ v
 | .int k e, h => by simp only [conc]
 | .bool b, h => by simp only [conc]
 | .ptr i _, h => by simp only [AV.idB] at h; simp only [conc, hφ i h]
 | .sl i _ _ _, h => by simp only [AV.idB] at h; simp only [conc, hφ i h]
 | .emp i _ _, h => by simp only [AV.idB] at h; simp only [conc, hφ i h]
 | .em0 i _ _, h => by simp only [AV.idB] at h; simp only [conc, hφ i h]
 | .map i, h => by simp only [AV.idB] at h; simp only [conc, hφ i h]
 | .fn f a b, h => by simp only [AV.idB, Bool.and_eq_true] at h; simp only [conc, AV.idBL_conc hφ a h.1, AV.idBL_conc hφ b h.2]
 | .iface t x, h => by simp only [AV.idB] at h; simp only [conc, AV.idB_conc hφ x h]
 | .agg l, h => by simp only [AV.idB] at h; simp only [conc, AV.idBL_conc hφ l h]
 | .tup l, h => by simp only [AV.idB] at h; simp only [conc, AV.idBL_conc hφ l h]
 | .raw _, _ => by simp only [conc]
 | .opq _, _ => by simp only [conc]
 | .osl _ _ _, _ => by simp only [conc]
 | .dfr _ _ _, h => by simp [AV.idB] at h
 | .ssl i _ _ _ _, h => by simp only [AV.idB] at h; simp only [conc, hφ i h]
 | .fsl _ _ _ _, h => by simp only [conc]
theorem AV.idBL_conc (hφ : ∀ i, p i = true → φ'[i]? = φ[i]?) : ∀ (l : List AV), AV.idBL p l = true → concL φ' ρ l = concL φ ρ l
 | [], _ => rfl
 | x :: l, h => by
  simp only [AV.idBL, Bool.and_eq_true] at h
  simp only [concL, AV.idB_conc hφ x h.1, AV.idBL_conc hφ l h.2]
end
theorem EntOk.swap (hφ : ∀ i, p i = true → φ'[i]? = φ[i]?) : ∀ {es : List (AV × AV × Nat)} {ms : List MapEntry}, entId p es = true → EntOk φ ρ es ms → EntOk φ' ρ es ms
 | [], _, _, h => by cases h; exact .nil
 | (a, b, n) :: es, _, hf, h => by
  cases h with
  | cons hk hv hr =>
   have hf : ((AV.idB p a && AV.idB p b) && es.all (fun e => AV.idB p e.1 && AV.idB p e.2.1)) = true := hf
   simp only [Bool.and_eq_true] at hf
   exact .cons (by rw [AV.idB_conc hφ _ hf.1.1]; exact hk) (by rw [AV.idB_conc hφ _ hf.1.2]; exact hv) (EntOk.swap hφ (show entId p es = true from hf.2) hr)
theorem ObjOk.swap (hφ : ∀ i, p i = true → φ'[i]? = φ[i]?) {w : World} {id : Nat} {o : AObj} (hid : φ'[id]? = φ[id]?) (hf : AObj.idB p o = true) (h : ObjOk P φ ρ w id o) : ObjOk P φ' ρ w id o := by
 cases o with
 | cells n c d T row =>
  obtain ⟨q, arr, fz, h1, h2⟩ := h
  refine ⟨q, arr, fz, by rw [hid]; exact h1, h2.blk, h2.size, h2.le, h2.fix, h2.es, h2.fr, fun i hi => ?_⟩
  obtain ⟨x, y, a1, a2, a3, a4⟩ := h2.cell i hi
  have hf : (Tr.all (AV.idB p) c && optB (AV.idB p) d) = true := hf
  simp only [Bool.and_eq_true] at hf
  have hfx : AV.idB p x = true := by
   have a1 := a1
   unfold celA at a1
   split at a1
   ·rename_i u hu
    cases a1
    exact Tr.all_get hf.1 hu
   ·have := hf.2
    rw [a1] at this
    exact this
  exact ⟨x, y, a1, by rw [AV.idB_conc hφ x hfx]; exact a2, a3, a4⟩
 | map es clk =>
  obtain ⟨q, xs, h1, h2, h3⟩ := h
  exact ⟨q, xs, by rw [hid]; exact h1, h2, EntOk.swap hφ hf h3⟩
 | iter m since seen last =>
  obtain ⟨q, m0, h1, h2, h3, h4⟩ := h
  refine ⟨q, m0, by rw [hid]; exact h1, h2, ?_, h4⟩
  cases m with
  | none => cases m0 <;> exact h3
  | some i =>
   cases m0 with
   | none => exact h3
   | some b =>
    obtain ⟨q1, q2, q3⟩ := h3
    have hf : p i = true := hf
    exact ⟨q1, by rw [hφ i hf]; exact q2, q3⟩
 | rope cs T row =>
  obtain ⟨q, arr, fz, h1, h2⟩ := h
  exact ⟨q, arr, fz, by rw [hid]; exact h1, h2⟩
 | dead =>
  obtain ⟨q, h1⟩ := h
  exact ⟨q, by rw [hid]; exact h1⟩
end
mutual
theorem AV.idB_mono {p q : Nat → Bool} (h : ∀ i, p i = true → q i = true) : ∀ (v : AV), AV.idB p v = true → AV.idB q v = true
 | .int k e, hv => by simp only [AV.idB]
 | .bool b, hv => by simp only [AV.idB]
 | .ptr i _, hv => by simp only [AV.idB] at hv ⊢; exact h i hv
 | .sl i _ _ _, hv => by simp only [AV.idB] at hv ⊢; exact h i hv
 | .emp i _ _, hv => by simp only [AV.idB] at hv ⊢; exact h i hv
 | .em0 i _ _, hv => by simp only [AV.idB] at hv ⊢; exact h i hv
 | .map i, hv => by simp only [AV.idB] at hv ⊢; exact h i hv
 | .fn f a b, hv => by simp only [AV.idB, Bool.and_eq_true] at hv ⊢; exact ⟨AV.idBL_mono h a hv.1, AV.idBL_mono h b hv.2⟩
 | .iface t x, hv => by simp only [AV.idB] at hv ⊢; exact AV.idB_mono h x hv
 | .agg l, hv => by simp only [AV.idB] at hv ⊢; exact AV.idBL_mono h l hv
 | .tup l, hv => by simp only [AV.idB] at hv ⊢; exact AV.idBL_mono h l hv
 | .raw _, _ => by simp only [AV.idB]
 | .opq _, _ => by simp only [AV.idB]
 | .osl _ _ _, _ => by simp only [AV.idB]
 | .dfr _ _ _, hv => by simp [AV.idB] at hv
 | .ssl i _ _ _ _, hv => by simp only [AV.idB] at hv ⊢; exact h i hv
 | .fsl _ _ _ _, hv => by simp only [AV.idB]
theorem AV.idBL_mono {p q : Nat → Bool} (h : ∀ i, p i = true → q i = true) : ∀ (l : List AV), AV.idBL p l = true → AV.idBL q l = true
 | [], _ => rfl
 | x :: l, hv => by
  simp only [AV.idBL, Bool.and_eq_true] at hv ⊢
  exact ⟨AV.idB_mono h x hv.1, AV.idBL_mono h l hv.2⟩
end
theorem Tr.all_mono {α : Type} {p q : α → Bool} (h : ∀ x, p x = true → q x = true) : ∀ (t : Tr α), Tr.all p t = true → Tr.all q t = true := by
 intro t
 induction t with
 | nil => intro _; rfl
 | node v l r ihl ihr =>
  intro ht
  have ht : (optB p v && (Tr.all p l && Tr.all p r)) = true := ht
  show (optB q v && (Tr.all q l && Tr.all q r)) = true
  simp only [Bool.and_eq_true] at ht ⊢
  refine ⟨?_, ihl ht.2.1, ihr ht.2.2⟩
  cases v with
  | none => rfl
  | some x => exact h x ht.1
theorem AObj.idB_mono {p q : Nat → Bool} (h : ∀ i, p i = true → q i = true) {o : AObj} (ho : AObj.idB p o = true) : AObj.idB q o = true := by
 cases o with
 | cells n c d T row =>
  have ho : (Tr.all (AV.idB p) c && optB (AV.idB p) d) = true := ho
  show (Tr.all (AV.idB q) c && optB (AV.idB q) d) = true
  simp only [Bool.and_eq_true] at ho ⊢
  refine ⟨Tr.all_mono (fun x => AV.idB_mono h x) c ho.1, ?_⟩
  cases d with
  | none => rfl
  | some x => exact AV.idB_mono h x ho.2
 | map es clk =>
  have ho : (es.all fun e => AV.idB p e.1 && AV.idB p e.2.1) = true := ho
  show (es.all fun e => AV.idB q e.1 && AV.idB q e.2.1) = true
  rw [List.all_eq_true] at ho ⊢
  intro e he
  have := ho e he
  simp only [Bool.and_eq_true] at this ⊢
  exact ⟨AV.idB_mono h _ this.1, AV.idB_mono h _ this.2⟩
 | iter m since seen last =>
  cases m with
  | none => rfl
  | some i => exact h i ho
 | rope cs T row => rfl
 | dead => rfl
theorem live_of_deadB {o : AObj} (h : deadB o = false) : live o = true := by
 unfold deadB at h
 rw [notF_eq] at h
 simpa using h
theorem liveAt_of {h : Tr AObj} {i : Nat} (hl : liveAt h i = true) : ∃ o, h.get i = some o ∧ live o = true := by
 unfold liveAt at hl
 split at hl
 ·rename_i o ho
  exact ⟨o, ho, hl⟩
 ·cases hl
theorem liveAt_mk {h : Tr AObj} {i : Nat} {o : AObj} (ho : h.get i = some o) (hl : live o = true) : liveAt h i = true := by
 unfold liveAt
 rw [ho]
 exact hl
theorem rgLe_ok {ρ : Nat → Int} : ∀ {b a : List (Int × Int)}, rgLe b a = true → RgOk ρ a → RgOk ρ b := by
 intro b
 induction b generalizing ρ with
 | nil => intro a _ _ i l h e; cases e
 | cons y b ih =>
  intro a h hr
  cases a with
  | nil => cases h
  | cons x a =>
   have h : (leF y.1 x.1 && (leF x.2 y.2 && rgLe b a)) = true := h
   simp only [Bool.and_eq_true, leF_eq, decide_eq_true_eq] at h
   have h0 := hr 0 x.1 x.2 rfl
   exact rgOk_cons (l := y.1) (h := y.2) ⟨by omega, by omega⟩ (ih h.2.2 fun i l h' e => hr (i + 1) l h' e)
theorem chkK_inv {h : Tr AObj} {l0 : List (SB × Bool)} {v : AV} {s : St} {D : Dn} : ∀ {ls : List Leaf}, chkK h l0 ls v s ∈ D → ∃ x ∈ ls, D.V = x.v ∧ D.S = x.st ∧ s.nx = x.nx ∧ v = x.v ∧ s.pc.l = x.l ++ l0 ∧ Tr.leB AObj.beq (Tr.over x.d h) s.hp = true
 | [], hD => by cases hD
 | x :: ls, hD => by
  rcases brec_cases (show Bool.rec (motive := fun _ => R) (chkK h l0 ls v s) (.done x.v x.st) (Nat.beq s.nx x.nx && (AV.beq v x.v && (pcB s.pc.l (x.l ++ l0) && Tr.leB AObj.beq (Tr.over x.d h) s.hp))) ∈ D from hD) with ⟨h1, h2⟩ | ⟨_, h2⟩
  ·simp only [Bool.and_eq_true, natBeq, decide_eq_true_eq] at h1
   obtain ⟨h3, h4⟩ : x.v = D.V ∧ x.st = D.S := h2
   exact ⟨x, by simp, h3.symm, h4.symm, h1.1, AV.beq_eq _ _ h1.2.1, pcB_eq _ _ h1.2.2.1, h1.2.2.2⟩
  ·obtain ⟨y, h3, h4⟩ := chkK_inv h2
   exact ⟨y, by simp [h3], h4⟩
theorem lookB_mem : ∀ {l : List (SB × Bool)} {c : SB} {b : Bool}, lookB l c = some b → (c, b) ∈ l
 | [], c, b, h => by cases h
 | x :: l, c, b, h => by
  have h : Bool.rec (motive := fun _ => Option Bool) (lookB l c) (some x.2) (SB.beq x.1 c) = some b := h
  cases hb : SB.beq x.1 c with
  | true =>
   rw [hb] at h
   cases h
   rw [← SB.beq_eq _ _ hb]
   exact List.mem_cons_self
  | false => rw [hb] at h; exact List.mem_cons_of_mem _ (lookB_mem h)
theorem premB_mem {l : List (SB × Bool)} : ∀ {l0 : List (SB × Bool)}, premB l l0 = true → ∀ y ∈ l0, y ∈ l
 | [], _, y, hy => by cases hy
 | x :: l0, h, y, hy => by
  have h : ((match lookB l x.1 with | some b => Bool.rec (motive := fun _ => Bool) (notF x.2) x.2 b | none => false) && premB l l0) = true := h
  rw [Bool.and_eq_true] at h
  rcases List.mem_cons.1 hy with rfl | hy
  ·have h1 := h.1
   split at h1
   ·rename_i b hb
    have : y = (y.1, b) := by
     obtain ⟨c, d⟩ := y
     cases b <;> cases d <;> first | rfl | cases h1
    rw [this]
    exact lookB_mem hb
   ·cases h1
  ·exact premB_mem h.2 y hy
open Classical in
noncomputable def others (B : Nat → Prop) (w : World) : List (Nat × Obj) := (List.range w.heap.size).filterMap fun b => if B b then none else (w.heap[b]?).map fun o => (b, o)
theorem others_mem {B : Nat → Prop} {w : World} {x : Nat × Obj} : x ∈ others B w ↔ ¬ B x.1 ∧ w.heap[x.1]? = some x.2 := by
 unfold others
 simp only [List.mem_filterMap, List.mem_range]
 constructor
 ·rintro ⟨b, hb, he⟩
  split at he
  ·cases he
  ·rename_i hB
   simp only [Option.map_eq_some_iff] at he
   obtain ⟨o, ho, rfl⟩ := he
   exact ⟨hB, ho⟩
 ·rintro ⟨hB, ho⟩
  have hlt : x.1 < w.heap.size := (Array.getElem?_eq_some_iff.1 ho).1
  exact ⟨x.1, hlt, by rw [if_neg hB, ho]; rfl⟩
section
variable {P : Program} {ρ : Nat → Int} {pl : Plans} {sm : Sums}
theorem stage_does {f : FuncId} {g : Stage} (hok : stgB g = true) {x : Leaf} (hx : x ∈ g.ls) {s1 : St} (hpx : PcExt g.s0.pc s1.pc) (hd : CallDoes P ρ f g.args g.s0 x.v s1) (hnx : s1.nx = x.nx) (hl1 : s1.pc.l = x.l ++ g.l0) (hle1 : Tr.leB AObj.beq (Tr.over x.d g.h) s1.hp = true)
  {l : List AV} {s : St} (hs : s.nx = g.nx) (hc : stgC g l s = true) : CallDoes P ρ f l s x.v ⟨Tr.over x.d s.hp, x.nx, ⟨x.l ++ s.pc.l, s.pc.smp, s.pc.rg⟩⟩ := by
 intro w0 φ w xs hρ hxs hm
 simp only [stgC, Bool.and_eq_true] at hc
 obtain ⟨hargs, hrg, hpr, hle⟩ := hc
 have hargs : l = g.args := AV.beqL_eq _ _ hargs
 subst hargs
 simp only [stgB, Bool.and_eq_true, Bool.or_eq_true, natBeq, decide_eq_true_eq] at hok
 obtain ⟨hia, hih, hil, hany⟩ := hok
 have hgs : ∀ {i o}, g.h.get i = some o → s.hp.get i = some o := fun {i o} ho => Tr.leB_get (fun _ _ => AObj.beq_eq) hle ho
 have hgid : ∀ {i o}, g.h.get i = some o → AObj.idB (liveAt g.h) o = true := fun {i o} ho => Tr.all_get hih ho
 -- one of those that stand
 have hq : φ = [] ∨ ∃ i0 o0 q0, g.h.get i0 = some o0 ∧ live o0 = true ∧ φ[i0]? = some q0 := by
  rcases hany with h | h
  ·left
   have := hm.len
   rw [hs, h] at this
   exact List.length_eq_zero_iff.1 this
  ·right
   obtain ⟨o0, ho0, hl0⟩ := liveAt_of h
   obtain ⟨q0, hq0⟩ := (hm.hp.obj _ _ (hgs ho0)).pl
   exact ⟨g.wit, o0, q0, ho0, hl0, hq0⟩
 obtain ⟨q0, hq0⟩ : ∃ q0 : Pl, φ = [] ∨ ∃ i0 o0, g.h.get i0 = some o0 ∧ live o0 = true ∧ φ[i0]? = some q0 := by
  rcases hq with h | ⟨i0, o0, q0, h1, h2, h3⟩
  ·exact ⟨⟨0, 0, 0, 0⟩, .inl h⟩
  ·exact ⟨q0, .inr ⟨i0, o0, h1, h2, h3⟩⟩
 -- the numbering in which the others do not stand
 generalize hφS : φ.mapIdx (fun i p => if liveAt g.h i then p else q0) = φS
 have hSget : ∀ i, φS[i]? = (φ[i]?).map fun p => if liveAt g.h i then p else q0 := by intro i; rw [← hφS, List.getElem?_mapIdx]
 have hSlen : φS.length = φ.length := by rw [← hφS]; simp
 have hSk : ∀ i, liveAt g.h i = true → φS[i]? = φ[i]? := by
  intro i hi
  rw [hSget i, hi]
  cases φ[i]? <;> rfl
 have hSback : ∀ {i : Nat} {p : Pl}, φS[i]? = some p → ∃ j o, g.h.get j = some o ∧ live o = true ∧ φ[j]? = some p := by
  intro i p hp
  rw [hSget i, Option.map_eq_some_iff] at hp
  obtain ⟨p', hp', he⟩ := hp
  split at he
  ·rename_i hi
   obtain ⟨o, ho, hlo⟩ := liveAt_of hi
   exact ⟨i, o, ho, hlo, by rw [hp', he]⟩
  ·rcases hq0 with h | ⟨i0, o0, h1, h2, h3⟩
   ·rw [h] at hp'; cases hp'
   ·exact ⟨i0, o0, h1, h2, by rw [h3, he]⟩
 let B : Nat → Prop := fun b => ∃ i p, liveAt g.h i = true ∧ φ[i]? = some p ∧ p.blk = b
 let wS : Base := ⟨w0.w0, w0.fr ++ others B w⟩
 have hmS : Gm P ρ wS φS g.s0 w := by
  refine ⟨⟨fun id o ho => ?_, fun i j o o' p q hi hj hl hl' hp hq he => ?_⟩, ?_, fun id o ho => ?_, fun id p hp => ?_, hm.kp, fun y hy => ?_, hm.fo⟩
  ·cases hlo : live o with
   | true => exact ObjOk.swap hSk (hSk id (liveAt_mk ho hlo)) (hgid ho) (hm.hp.obj id o (hgs ho))
   | false =>
    cases o <;> first | cases hlo | skip
    obtain ⟨p, hp⟩ := hm.hp.obj id _ (hgs ho)
    exact ⟨_, by rw [hSget id, hp]; rfl⟩
  ·rw [hSk i (liveAt_mk hi hl)] at hp
   rw [hSk j (liveAt_mk hj hl')] at hq
   exact hm.hp.sep i j o o' p q (hgs hi) (hgs hj) hl hl' hp hq he
  ·rw [hSlen, hm.len, hs]; rfl
  ·have := hm.ids id o (hgs ho)
   rw [hs] at this
   exact this
  ·obtain ⟨j, o, h1, h2, h3⟩ := hSback hp
   exact hm.lo j p h3
  ·rcases List.mem_append.1 hy with hy | hy
   ·obtain ⟨a1, a2, a3⟩ := hm.fr y hy
    refine ⟨a1, a2, fun id p hp => ?_⟩
    obtain ⟨j, o, h1, h2, h3⟩ := hSback hp
    exact a3 j p h3
   ·rw [others_mem] at hy
    refine ⟨(Array.getElem?_eq_some_iff.1 hy.2).1, hy.2, fun id p hp he => hy.1 ?_⟩
    obtain ⟨j, o, h1, h2, h3⟩ := hSback hp
    exact ⟨j, p, liveAt_mk h1 h2, h3, he⟩
 have hρ1 : Holds ρ s1.pc := by
  refine ⟨fun y hy => hρ.l y ?_, ?_⟩
  ·rw [hl1] at hy
   rcases List.mem_append.1 hy with hy | hy
   ·exact List.mem_append_left _ hy
   ·exact List.mem_append_right _ (premB_mem hpr y hy)
  ·rw [hpx.rg]
   exact rgLe_ok hrg hρ.rg
 have hxsS : concL φS ρ g.args = some xs := by rw [AV.idBL_conc hSk _ hia]; exact hxs
 have key : ∀ (v : Value) (w' : World), (∃ φ', φS <+: φ' ∧ conc φ' ρ x.v = some v ∧ Gm P ρ wS φ' s1 w') → ∃ φ', φ <+: φ' ∧ conc φ' ρ x.v = some v ∧ Gm P ρ w0 φ' ⟨Tr.over x.d s.hp, x.nx, ⟨x.l ++ s.pc.l, s.pc.smp, s.pc.rg⟩⟩ w' := by
  rintro v w' ⟨φ1, ⟨ψ, rfl⟩, hv, h1⟩
  have hkeep : ∀ i, keepB g i = true → (φ ++ ψ)[i]? = (φS ++ ψ)[i]? := by
   intro i hi
   simp only [keepB, Bool.or_eq_true, natBle, decide_eq_true_eq] at hi
   rcases hi with hi | hi
   ·obtain ⟨o, ho, _⟩ := liveAt_of hi
    have hlt : i < φ.length := by rw [hm.len]; exact hm.ids i o (hgs ho)
    rw [List.getElem?_append_left hlt, List.getElem?_append_left (by omega), hSk i hi]
   ·have : φ.length ≤ i := by rw [hm.len, hs]; exact hi
    rw [List.getElem?_append_right this, List.getElem?_append_right (by omega), hSlen]
  have hleaf := List.all_eq_true.1 hil x hx
  simp only [leafB, Bool.and_eq_true] at hleaf
  obtain ⟨hvid, hdl⟩ := hleaf
  have h1get : ∀ {i o}, (Tr.over x.d g.h).get i = some o → s1.hp.get i = some o := fun {i o} ho => Tr.leB_get (fun _ _ => AObj.beq_eq) hle1 ho
  have hdget : ∀ {i o}, x.d.get i = some o → s1.hp.get i = some o ∧ (live o = true → keepB g i = true ∧ AObj.idB (keepB g) o = true) := by
   intro i o ho
   refine ⟨h1get (by show Tr.getP _ _ = _; rw [Tr.over_get]; rw [show Tr.getP (posOf i) x.d = some o from ho]; rfl), fun hl => ?_⟩
   rcases setH_get x.dl .nil ho with h | h
   ·have := List.all_eq_true.1 hdl _ h
    simp only [Bool.or_eq_true, Bool.and_eq_true] at this
    rcases this with h2 | h2
    ·unfold deadB at h2
     rw [notF_eq, hl] at h2
     cases h2
    ·exact h2
   ·rw [Tr.get_nil] at h; cases h
  have hwx : ∀ {i : Nat} {o : AObj} {p : Pl}, s.hp.get i = some o → live o = true → φ[i]? = some p → liveAt g.h i = false → (p.blk, (w.heap[p.blk]?).getD default) ∈ others B w := by
   intro i o p ho hl hp hn
   rw [others_mem]
   have hlt := (hm.lo i p hp).2
   refine ⟨?_, ?_⟩
   ·rintro ⟨j, q, hj, hq, he⟩
    obtain ⟨oj, hoj, hlj⟩ := liveAt_of hj
    have := hm.hp.sep i j o oj p q ho (hgs hoj) hl hlj hp hq he.symm
    subst this
    rw [hj] at hn; cases hn
   ·simp [Array.getElem?_eq_getElem hlt]
  -- what stands at the end
  have hcase : ∀ {i o}, (Tr.over x.d s.hp).get i = some o → live o = true → (s1.hp.get i = some o ∧ keepB g i = true ∧ AObj.idB (keepB g) o = true) ∨ (s.hp.get i = some o ∧ liveAt g.h i = false) := by
   intro i o ho hl
   have ho : Tr.getP (posOf i) (Tr.over x.d s.hp) = some o := ho
   rw [Tr.over_get] at ho
   cases hdx : Tr.getP (posOf i) x.d with
   | some o' =>
    rw [hdx] at ho
    cases ho
    obtain ⟨a1, a2⟩ := hdget hdx
    exact .inl ⟨a1, a2 hl⟩
   | none =>
    rw [hdx] at ho
    have ho : s.hp.get i = some o := ho
    cases hli : liveAt g.h i with
    | false => exact .inr ⟨ho, rfl⟩
    | true =>
     obtain ⟨oS, hoS, hlS⟩ := liveAt_of hli
     have : o = oS := by
      have := hgs hoS
      rw [ho] at this
      exact Option.some.inj this
     subst this
     refine .inl ⟨h1get (by show Tr.getP _ _ = _; rw [Tr.over_get, hdx]; exact hoS), by simp only [keepB, hli, Bool.true_or], ?_⟩
     have h2 := hgid hoS
     clear hdx
     revert h2
     have himp : ∀ j, liveAt g.h j = true → keepB g j = true := fun j hj => by simp only [keepB, hj, Bool.true_or]
     exact AObj.idB_mono himp
  have hlt : ∀ {i o}, (Tr.over x.d s.hp).get i = some o → i < φ.length + ψ.length := by
   intro i o ho
   have ho : Tr.getP (posOf i) (Tr.over x.d s.hp) = some o := ho
   rw [Tr.over_get] at ho
   cases hdx : Tr.getP (posOf i) x.d with
   | some o' =>
    obtain ⟨a1, _⟩ := hdget hdx
    have := h1.ids i _ a1
    rw [← h1.len, List.length_append] at this
    omega
   | none =>
    rw [hdx] at ho
    have := hm.ids i o ho
    rw [← hm.len] at this
    omega
  refine ⟨φ ++ ψ, ⟨ψ, rfl⟩, by rw [AV.idB_conc hkeep _ hvid]; exact hv, ⟨fun id o ho => ?_, fun i j o o' p q hi hj hl hl' hp hq he => ?_⟩, ?_, fun id o ho => ?_, fun id p hp => ?_, h1.kp, fun y hy => ?_, hm.fo⟩
  ·cases hlo : live o with
   | false =>
    cases o <;> first | cases hlo | skip
    have := hlt ho
    exact ⟨(φ ++ ψ)[id]'(by rw [List.length_append]; exact this), List.getElem?_eq_getElem _⟩
   | true =>
    rcases hcase ho hlo with ⟨a1, a2, a3⟩ | ⟨a1, a2⟩
    ·exact ObjOk.swap hkeep (hkeep id a2) a3 (h1.hp.obj id o a1)
    ·refine ((hm.hp.obj id o a1).mono (φ' := φ ++ ψ) ⟨ψ, rfl⟩).world fun p hl hp => ?_
     have hid : id < φ.length := by rw [hm.len]; exact hm.ids id o a1
     rw [List.getElem?_append_left hid] at hp
     have hmem := hwx a1 hl hp a2
     obtain ⟨_, b2, _⟩ := h1.fr _ (List.mem_append_right _ hmem)
     rw [b2]
     have hlt2 := (hm.lo id p hp).2
     simp [Array.getElem?_eq_getElem hlt2]
  ·-- two things lie apart
   have mixed : ∀ {i j : Nat} {o o' : AObj} {p q : Pl}, s1.hp.get i = some o → live o = true → keepB g i = true → s.hp.get j = some o' → live o' = true → liveAt g.h j = false → (φ ++ ψ)[i]? = some p → (φ ++ ψ)[j]? = some q → p.blk ≠ q.blk := by
    intro i j o o' p q a1 al ak b1 bl bk hp hq he
    have hjd : j < φ.length := by rw [hm.len]; exact hm.ids j o' b1
    rw [List.getElem?_append_left hjd] at hq
    have hmem := hwx b1 bl hq bk
    obtain ⟨_, _, b3⟩ := h1.fr _ (List.mem_append_right _ hmem)
    rw [hkeep i ak] at hp
    exact b3 i p hp he
   rcases hcase hi hl with ⟨a1, a2, a3⟩ | ⟨a1, a2⟩ <;> rcases hcase hj hl' with ⟨b1, b2, b3⟩ | ⟨b1, b2⟩
   ·rw [hkeep i a2] at hp
    rw [hkeep j b2] at hq
    exact h1.hp.sep i j o o' p q a1 b1 hl hl' hp hq he
   ·exact absurd he (mixed a1 hl a2 b1 hl' b2 hp hq)
   ·exact absurd he.symm (mixed b1 hl' b2 a1 hl a2 hq hp)
   ·have hid : i < φ.length := by rw [hm.len]; exact hm.ids i o a1
    have hjd : j < φ.length := by rw [hm.len]; exact hm.ids j o' b1
    rw [List.getElem?_append_left hid] at hp
    rw [List.getElem?_append_left hjd] at hq
    exact hm.hp.sep i j o o' p q a1 b1 hl hl' hp hq he
  ·show (φ ++ ψ).length = x.nx
   have := h1.len
   rw [hnx] at this
   rw [← this, List.length_append, List.length_append, hSlen]
  ·show id < x.nx
   have h2 := hlt ho
   have := h1.len
   rw [hnx, List.length_append, hSlen] at this
   omega
  ·by_cases hid : id < φ.length
   ·rw [List.getElem?_append_left hid] at hp
    refine ⟨(hm.lo id p hp).1, ?_⟩
    by_cases hB : B p.blk
    ·obtain ⟨j, q, hj, hqj, he⟩ := hB
     obtain ⟨oj, hoj, _⟩ := liveAt_of hj
     have hjd : j < φ.length := by rw [hm.len]; exact hm.ids j oj (hgs hoj)
     rw [← he]
     exact (h1.lo j q (by rw [List.getElem?_append_left (by omega), hSk j hj]; exact hqj)).2
    ·have hlt2 := (hm.lo id p hp).2
     exact (h1.fr (p.blk, w.heap[p.blk]) (List.mem_append_right _ (others_mem.2 ⟨hB, Array.getElem?_eq_getElem hlt2⟩))).1
   ·have hge : φ.length ≤ id := by omega
    rw [List.getElem?_append_right hge] at hp
    exact h1.lo id p (by rw [List.getElem?_append_right (by omega), hSlen]; exact hp)
  ·obtain ⟨a1, a2, a3⟩ := h1.fr y (List.mem_append_left _ hy)
   refine ⟨a1, a2, fun id p hp => ?_⟩
   by_cases hid : id < φ.length
   ·rw [List.getElem?_append_left hid] at hp
    exact (hm.fr y hy).2.2 id p hp
   ·have hge : φ.length ≤ id := by omega
    rw [List.getElem?_append_right hge] at hp
    exact a3 id p (by rw [List.getElem?_append_right (by omega), hSlen]; exact hp)
 rcases hd hρ1 hxsS hmS with ⟨h1, h2⟩ | ⟨v, w', h1, h2⟩
 ·exact .inl ⟨h1, h2.mono fun e w' ⟨v, he, hv⟩ => ⟨v, he, key v w' hv⟩⟩
 ·exact .inr ⟨v, w', h1, key v w' h2⟩
def StageOk (P : Program) (pl : Plans) (f : FuncId) (g : Stage) : Prop := stgB g = true ∧ ∃ (sm : Sums) (N n : Nat), SumsOk P sm ∧ callG P (ev P pl sm N n) f g.args g.s0 (chkK g.h g.l0 g.ls) = g.r
theorem stgK_ok (hm : P.follows .mixedOrders = true) (hP : PlansOk P pl) {f : FuncId} {gs : List Stage} (hg : ∀ g ∈ gs, StageOk P pl f g) : ResOk P f (stgK gs) := by
 intro ρ l s κ alt D
 induction gs with
 | nil => exact fun h => .inl h
 | cons g gs ih =>
  intro h
  have h : Bool.rec (motive := fun _ => R) (stgK gs l s κ alt) (Bool.rec (motive := fun _ => R) (stgK gs l s κ alt) (bindR (goOn s κ) s.pc.l g.r) (stgC g l s)) (Nat.beq s.nx g.nx) ∈ D := h
  have rest : stgK gs l s κ alt ∈ D → alt ∈ D ∨ ∃ v s', κ v s' ∈ D ∧ PcExt s.pc s'.pc ∧ CallDoes P ρ f l s v s' := fun h => ih (fun g' h' => hg g' (by simp [h'])) h
  rcases brec_cases h with ⟨h1, h2⟩ | ⟨_, h2⟩
  ·rcases brec_cases h2 with ⟨h3, h4⟩ | ⟨_, h4⟩
   ·obtain ⟨v, x', h5, h6⟩ := bindR_inv h4
    obtain ⟨hok, sm, N, n, hS, hrun⟩ := hg g (by simp)
    obtain ⟨v1, s1, h7, hpx, hd⟩ := known_of (ρ := ρ) hm hP hS hrun h5
    obtain ⟨x, hx, e1, e2, e3, e4, e5, e6⟩ := chkK_inv h7
    have e1 : v = x.v := e1
    have e2 : x' = x.st := e2
    subst e1; subst e2; subst e4
    rw [natBeq, decide_eq_true_eq] at h1
    exact .inr ⟨_, _, h6, ⟨⟨x.l, rfl⟩, rfl⟩, stage_does hok hx hpx hd e3 e5 e6 h1 h3⟩
   ·exact rest h4
  ·exact rest h2
noncomputable abbrev sumStg (f : FuncId) (gs : List Stage) : Sums := sumRes f (stgK gs)
theorem sumStg_ok (hm : P.follows .mixedOrders = true) (hP : PlansOk P pl) {f : FuncId} {gs : List Stage} (h : ∀ g ∈ gs, StageOk P pl f g) : SumsOk P (sumStg f gs) := sumRes_ok (stgK_ok hm hP h)
end
end Go.Proofs.YtooebogidjejoaaGreat
namespace Go.Proofs.YtooebogidjejoaaGreat
open Go Go.RowKit
noncomputable section
def SI.only (v : Nat) : SI → Bool
 | .lit _ => true
 | .var i => Nat.beq i v
 | .bin _ _ a b => SI.only v a && SI.only v b
 | .conv _ a => SI.only v a
 | .fold _ => false
 | .rs _ _ _ _ => false
def SB.only (v : Nat) : SB → Bool
 | .lit _ => true
 | .cmp _ a b => SI.only v a && SI.only v b
 | .not a => SB.only v a
def offB (v : Nat) (c : Int) (acc : List (SB × Bool)) : Bool := acc.any fun x => SB.only v x.1 && (SB.ev (fun _ => c) x.1 != x.2)
def refB (v : Nat) (lo : Int) (n : Nat) (acc : List (SB × Bool)) : Bool := (List.range n).all fun i => offB v (lo + i) acc
def conB (acc : List (SB × Bool)) : Bool := match acc with
 | [] => false
 | x :: l => match lookB l x.1 with
  | some b => x.2 != b
  | none => false
def okT2 (v : Nat) (lo : Int) (n : Nat) (good : AV → Bool) (r : R) : List (SB × Bool) → Bool :=
 R.rec (motive := fun _ => List (SB × Bool) → Bool) (fun x s acc => good x && pcBeq s.pc.l acc) (fun _ _ => false) (fun acc => conB acc || (Nat.blt (nat_lit 0) n && refB v lo n acc)) (fun c _ _ a b acc => a ((c, true) :: acc) && b ((c, false) :: acc)) r
end
theorem SI.only_ev {v : Nat} {ρ : Nat → Int} : ∀ {e : SI}, SI.only v e = true → e.ev ρ = e.ev (fun _ => ρ v)
 | .lit _, _ => rfl
 | .var i, h => by
  simp only [SI.only, natBeq, decide_eq_true_eq] at h
  subst h; rfl
 | .bin _ _ a b, h => by
  simp only [SI.only, Bool.and_eq_true] at h
  simp only [SI.ev, SI.only_ev h.1, SI.only_ev h.2]
 | .conv _ a, h => by
  simp only [SI.only] at h
  simp only [SI.ev, SI.only_ev h]
 | .fold _, h => by simp [SI.only] at h
 | .rs _ _ _ _, h => by simp [SI.only] at h
theorem SB.only_ev {v : Nat} {ρ : Nat → Int} : ∀ {c : SB}, SB.only v c = true → c.ev ρ = c.ev (fun _ => ρ v)
 | .lit _, _ => rfl
 | .cmp _ a b, h => by
  simp only [SB.only, Bool.and_eq_true] at h
  simp only [SB.ev]
  rw [SI.only_ev h.1, SI.only_ev h.2]
 | .not a, h => by
  simp only [SB.only] at h
  simp only [SB.ev]
  rw [SB.only_ev h]
theorem refB_ok {v : Nat} {lo : Int} {n : Nat} {acc : List (SB × Bool)} (h : refB v lo n acc = true) {ρ : Nat → Int} (h1 : lo ≤ ρ v) (h2 : ρ v < lo + n) : ¬ ∀ x ∈ acc, x.1.ev ρ = x.2 := by
 intro ha
 have hi := List.all_eq_true.1 h (ρ v - lo).toNat (List.mem_range.2 (by omega))
 rw [show lo + ((ρ v - lo).toNat : Int) = ρ v by omega] at hi
 obtain ⟨x, hx, hb⟩ := List.any_eq_true.1 hi
 simp only [Bool.and_eq_true, bne_iff_ne, ne_eq] at hb
 exact hb.2 (by rw [← SB.only_ev hb.1]; exact ha x hx)
theorem conB_ok {ρ : Nat → Int} {acc : List (SB × Bool)} (h : conB acc = true) : ¬ ∀ x ∈ acc, x.1.ev ρ = x.2 := by
 intro ha
 unfold conB at h
 split at h
 ·cases h
 ·rename_i x l
  split at h
  ·rename_i b hb
   have h1 := ha x List.mem_cons_self
   have h2 := ha (x.1, b) (List.mem_cons_of_mem _ (lookB_mem hb))
   simp only [bne_iff_ne, ne_eq] at h
   exact h (h1.symm.trans h2)
  ·cases h
theorem okT2_inv {v : Nat} {lo : Int} {n : Nat} {good : AV → Bool} {ρ : Nat → Int} (hv : n = 0 ∨ lo ≤ ρ v ∧ ρ v < lo + n) : ∀ (r : R) {acc : List (SB × Bool)}, okT2 v lo n good r acc = true → (∀ x ∈ acc, x.1.ev ρ = x.2) → ∃ V S, r ∈ Dn.mk ρ V S ∧ good V = true ∧ ∀ x ∈ S.pc.l, x.1.ev ρ = x.2 := by
 intro r
 induction r with
 | done V S =>
  intro acc h ha
  have h : (good V && pcBeq S.pc.l acc) = true := h
  simp only [Bool.and_eq_true] at h
  exact ⟨V, S, ⟨rfl, rfl⟩, h.1, fun x hx => ha x (by rw [← pcBeq_eq _ _ h.2]; exact hx)⟩
 | fail m => intro acc h; cases h
 | dead =>
  intro acc h ha
  have h : (conB acc || (Nat.blt (nat_lit 0) n && refB v lo n acc)) = true := h
  rw [Bool.or_eq_true] at h
  rcases h with h | h
  ·exact absurd ha (conB_ok h)
  simp only [Bool.and_eq_true, natBlt, decide_eq_true_eq] at h
  rcases hv with hv | hv
  ·omega
  ·exact absurd ha (refB_ok h.2 hv.1 hv.2)
 | fork c a b iha ihb =>
  intro acc h ha
  have h : (okT2 v lo n good a ((c, true) :: acc) && okT2 v lo n good b ((c, false) :: acc)) = true := h
  simp only [Bool.and_eq_true] at h
  cases hc : c.ev ρ with
  | true =>
   obtain ⟨V, S, e1, e2, e3⟩ := iha h.1 (fun x hx => by
    simp only [List.mem_cons] at hx
    rcases hx with rfl | hx
    ·exact hc
    ·exact ha x hx)
   exact ⟨V, S, .inl ⟨hc, e1⟩, e2, e3⟩
  | false =>
   obtain ⟨V, S, e1, e2, e3⟩ := ihb h.2 (fun x hx => by
    simp only [List.mem_cons] at hx
    rcases hx with rfl | hx
    ·exact hc
    ·exact ha x hx)
   exact ⟨V, S, .inr ⟨hc, e1⟩, e2, e3⟩
theorem run_bool2 {P : Program} {pl : Plans} {sm : Sums} (hm : P.follows .mixedOrders = true) (hP : PlansOk P pl) (hS : SumsOk P sm) {n : Nat} {f : FuncId} {args : List AV} {smp : List (List Int)} {rg : List (Int × Int)} {b : Bool} {v : Nat} {lo : Int} {m : Nat}
  (hr : okT2 v lo m (isB b) (evCall P pl sm n f args (s0 [] smp rg) finK) [] = true) (ρ : Nat → Int) (hrg : RgOk ρ rg) (hv : m = 0 ∨ lo ≤ ρ v ∧ ρ v < lo + m) {xs : List Value} (hx : concL [] ρ args = some xs) (w : World)
  (hfo : ∀ a, ρ (fMark a) ≠ 1 := by first | (intro a; show (0 : Int) ≠ 1; decide) | (intro a; unfold fMark; repeat (rw [if_neg (by omega)]); decide)) :
  Calls P f xs.toArray w fun e w' => e = .returned (.bool b) ∧ Kp [] w w' := by
 obtain ⟨V, S, h1, h2, h3⟩ := okT2_inv hv _ hr (fun x hx => by cases hx)
 refine (run_sound hm hP hS h1 ρ hx h3 hrg w (fun a _ _ h => absurd h (hfo a))).mono fun e w' ⟨φ, x, he, hc, hk⟩ => ⟨?_, hk⟩
 unfold isB at h2
 split at h2
 ·simp only [conc, SB.ev, Option.some.injEq] at hc
  simp only [beq_iff_eq] at h2
  rw [he, ← hc, h2]
 ·cases h2
end Go.Proofs.YtooebogidjejoaaGreat
