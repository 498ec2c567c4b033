/-
  A stage serves wherever its things can be found again: under other numbers, with other numbers in the place of its letters.
-/
import Derived.Test.YtooebogidjejoaaGreatEvl
set_option linter.unusedVariables false
set_option linter.unusedSimpArgs false
namespace Go.Proofs.YtooebogidjejoaaGreat
open Go

noncomputable section
/-- how a stage's things, letters, rows are called where it is used; how many things there are here and there -/
structure Ren where
  ids : Tr Nat
  si : Tr SI
  rw : Tr Nat
  n0 : Nat
  m0 : Nat
def optD {α : Type} (d : α) (o : Option α) : α := Option.rec (motive := fun _ => α) d (fun x => x) o
def Ren.id (r : Ren) (i : Nat) : Nat := Bool.rec (motive := fun _ => Nat) (optD i (r.ids.get i)) (Nat.add r.m0 (Nat.sub i r.n0)) (Nat.ble r.n0 i)
def rowIn (b : Nat) : Bool := Nat.ble (nat_lit 32) b && Nat.blt b (nat_lit 64)
def Ren.row (r : Ren) (a : Nat) : Nat := Bool.rec (motive := fun _ => Nat) a (optD a (r.rw.get a)) (rowIn (optD a (r.rw.get a)))
/-- the letters of rows -/
def Ren.ix (r : Ren) (k : Nat) : Nat := if k < 32 then k else if k < 64 then r.row k else if 628 ≤ k ∧ k < 756 then 500 + 4 * r.row ((k - 500) / 4) + (k - 500) % 4 else if 1000 ≤ k ∧ 32 ≤ (k - 1000) % 64 then 1000 + 64 * ((k - 1000) / 64) + r.row ((k - 1000) % 64) else k
def Ren.rho (r : Ren) (ρ : Nat → Int) : Nat → Int := fun k => if k < 32 then (optD (.lit (.ofNat (nat_lit 0))) (r.si.get k)).ev ρ else ρ (r.ix k)
def Ren.var {α : Type} (r : Ren) (k : Nat) (κ : SI → α) : α := Bool.rec (motive := fun _ => α) (forceN (r.ix k) fun j => κ (.var j)) (κ (optD (.lit (.ofNat (nat_lit 0))) (r.si.get k))) (Nat.blt k (nat_lit 32))
section
variable {α : Type} (rg : List (Int × Int)) (r : Ren)
/-! put in -/
def subI (e : SI) : (SI → α) → α := SI.rec (motive := fun _ => (SI → α) → α) (fun n κ => κ (.lit n)) (fun i κ => r.var i κ) (fun op k _ _ iha ihb κ => iha fun a => ihb fun b => binK op k a b fun e => stripK rg e κ) (fun k _ ih κ => ih fun a => convK k a fun e => stripK rg e κ) (fun _ ih κ => ih fun a => κ (.fold a)) (fun a p _ _ iho ihn κ => forceN (r.row a) fun a => iho fun o => ihn fun n => κ (.rs a p o n)) e
def subB (c : SB) : (SB → α) → α := SB.rec (motive := fun _ => (SB → α) → α) (fun b κ => κ (.lit b)) (fun op a b κ => subI rg r a fun a => subI rg r b fun b => cmpK op a b κ) (fun _ ih κ => ih fun a => notK a κ) c
def subOI (o : Option SI) (κ : Option SI → α) : α := Option.rec (motive := fun _ => α) (κ none) (fun e => subI rg r e fun e => κ (some e)) o
def subN (i : Nat) (κ : Nat → α) : α := forceN (r.id i) κ
def subA (v : AV) : (AV → α) → α := AV.rec (motive_1 := fun _ => (AV → α) → α) (motive_2 := fun _ => (List AV → α) → α)
  (fun k e κ => subI rg r e fun e => κ (.int k e)) (fun b κ => subB rg r b fun b => κ (.bool b)) (fun i o κ => subN r i fun i => κ (.ptr i o))
  (fun i o l c κ => subN r i fun i => κ (.sl i o l c)) (fun i a b κ => subN r i fun i => κ (.emp i a b))
  (fun i κ => subN r i fun i => κ (.map i)) (fun f a b iha ihb κ => iha fun a => ihb fun b => κ (.fn f a b)) (fun t v ih κ => ih fun v => κ (.iface t v))
  (fun l ih κ => ih fun l => κ (.agg l)) (fun l ih κ => ih fun l => κ (.tup l)) (fun v κ => κ (.raw v)) (fun v κ => κ (.opq v)) (fun p k c κ => κ (.osl p k c))
  (fun f args rest _ _ _ κ => κ (.dfr f args rest)) (fun i a b κ => subN r i fun i => κ (.em0 i a b))
  (fun i o0 off len cap κ => subN r i fun i => subI rg r o0 fun o0 => subI rg r off fun off => subI rg r len fun len => subOI rg r cap fun cap => κ (.ssl i o0 off len cap)) (fun a o0 off len κ => forceN (r.row a) fun a => subI rg r o0 fun o0 => subI rg r off fun off => subI rg r len fun len => κ (.fsl a o0 off len))
  (fun κ => κ []) (fun v l ihv ihl κ => ihv fun v => ihl fun l => κ (v :: l)) v
def subL (l : List AV) : (List AV → α) → α := List.rec (motive := fun _ => (List AV → α) → α) (fun κ => κ []) (fun v _ ih κ => subA rg r v fun v => ih fun l => κ (v :: l)) l
def subOA (o : Option AV) (κ : Option AV → α) : α := Option.rec (motive := fun _ => α) (κ none) (fun v => subA rg r v fun v => κ (some v)) o
def subTr (t : Tr AV) : (Tr AV → α) → α := Tr.rec (motive := fun _ => (Tr AV → α) → α) (fun κ => κ .nil) (fun v _ _ ihl ihr κ => subOA rg r v fun v => ihl fun l => ihr fun m => κ (.node v l m)) t
def subE (l : List (AV × AV × Nat)) : (List (AV × AV × Nat) → α) → α := List.rec (motive := fun _ => (List (AV × AV × Nat) → α) → α) (fun κ => κ []) (fun e _ ih κ => subA rg r e.1 fun a => subA rg r e.2.1 fun b => ih fun l => κ ((a, b, e.2.2) :: l)) l
def subSL (l : List SI) : (List SI → α) → α := List.rec (motive := fun _ => (List SI → α) → α) (fun κ => κ []) (fun e _ ih κ => subI rg r e fun e => ih fun l => κ (e :: l)) l
def subCh (c : Ch) : (Ch → α) → α := Ch.rec (motive := fun _ => (Ch → α) → α) (fun l κ => subSL rg r l fun l => κ (.bs l)) (fun n v κ => subI rg r n fun n => subI rg r v fun v => κ (.fil n v)) (fun a o n κ => forceN (r.row a) fun a => subI rg r o fun o => subI rg r n fun n => κ (.row a o n)) c
def subCs (l : List Ch) : (List Ch → α) → α := List.rec (motive := fun _ => (List Ch → α) → α) (fun κ => κ []) (fun e _ ih κ => subCh rg r e fun e => ih fun l => κ (e :: l)) l
def subO (o : AObj) : (AObj → α) → α := AObj.rec (motive := fun _ => (AObj → α) → α) (fun n c d T row κ => subTr rg r c fun c => subOA rg r d fun d => κ (.cells n c d T row)) (fun es clk κ => subE rg r es fun es => κ (.map es clk)) (fun m s l y κ => κ (.iter m s l y)) (fun cs T row κ => subCs rg r cs fun cs => κ (.rope cs T row)) (fun κ => κ .dead) o
end
/-! what can be put in -/
def okI (e : SI) : Bool := SI.rec (motive := fun _ => Bool) (fun _ => true) (fun _ => true) (fun _ _ _ _ a b => a && b) (fun _ _ a => a) (fun _ a => a) (fun a _ _ _ o n => rowIn a && (o && n)) e
def okB (c : SB) : Bool := SB.rec (motive := fun _ => Bool) (fun _ => true) (fun _ a b => okI a && okI b) (fun _ a => a) c
/-- letters that no renaming touches -/
def hiL (k : Nat) : Bool := Nat.ble (nat_lit 64) k && Nat.blt k (nat_lit 600)
def okA (v : AV) : Bool := AV.rec (motive_1 := fun _ => Bool) (motive_2 := fun _ => Bool)
  (fun _ e => okI e) (fun b => okB b) (fun _ _ => true) (fun _ _ _ _ => true) (fun _ _ _ => true) (fun _ => true) (fun _ _ _ a b => a && b) (fun _ _ a => a) (fun _ a => a) (fun _ a => a) (fun _ => true) (fun _ => true) (fun p k c => hiL p && (hiL k && hiL c))
  (fun _ _ _ _ _ _ => false) (fun _ _ _ => true) (fun _ a b c d => okI a && (okI b && (okI c && optB okI d))) (fun a o0 off len => rowIn a && (okI o0 && (okI off && okI len))) true (fun _ _ a b => a && b) v
def okL (l : List AV) : Bool := List.rec (motive := fun _ => Bool) true (fun v _ ih => okA v && ih) l
def okE (l : List (AV × AV × Nat)) : Bool := List.rec (motive := fun _ => Bool) true (fun e _ ih => okA e.1 && (okA e.2.1 && ih)) l
def okCh (c : Ch) : Bool := Ch.rec (motive := fun _ => Bool) (fun l => l.all okI) (fun n v => okI n && okI v) (fun a o n => rowIn a && (okI o && okI n)) c
def okO (o : AObj) : Bool := AObj.rec (motive := fun _ => Bool) (fun _ c d _ _ => Tr.all okA c && optB okA d) (fun es _ => okE es) (fun _ _ _ _ => false) (fun cs _ _ => cs.all okCh) true o
end

/-! what it means -/
theorem optD_eq {α : Type} (d : α) (o : Option α) : optD d o = o.getD d := by cases o <;> rfl
theorem rowIn_iff {b : Nat} : rowIn b = true ↔ 32 ≤ b ∧ b < 64 := by
  unfold rowIn
  rw [Bool.and_eq_true, natBle, natBlt, decide_eq_true_eq, decide_eq_true_eq]
theorem Ren.row_in (r : Ren) {a : Nat} (h : 32 ≤ a ∧ a < 64) : 32 ≤ r.row a ∧ r.row a < 64 := by
  unfold Ren.row
  cases hb : rowIn (optD a (r.rw.get a)) with
  | false => exact h
  | true => exact rowIn_iff.1 hb
section
variable {r : Ren} {ρ : Nat → Int}
theorem Ren.rho_ge {k : Nat} (h : 32 ≤ k) : r.rho ρ k = ρ (r.ix k) := if_neg (by omega)
theorem Ren.rho_hi {k : Nat} (h : 64 ≤ k ∧ k < 628) : r.rho ρ k = ρ k := by
  rw [Ren.rho_ge (by omega)]
  unfold Ren.ix
  rw [if_neg (by omega), if_neg (by omega), if_neg (by omega), if_neg (by omega)]
theorem hiL_iff {k : Nat} : hiL k = true ↔ 64 ≤ k ∧ k < 600 := by
  unfold hiL
  rw [Bool.and_eq_true, natBle, natBlt, decide_eq_true_eq, decide_eq_true_eq]
theorem Ren.rho_row {a : Nat} (h : 32 ≤ a ∧ a < 64) : r.rho ρ a = ρ (r.row a) := by
  rw [Ren.rho_ge h.1]
  unfold Ren.ix
  rw [if_neg (by omega), if_pos h.2]
theorem Ren.rho_f {a q : Nat} (h : 32 ≤ a ∧ a < 64) (hq : q < 4) : r.rho ρ (500 + 4 * a + q) = ρ (500 + 4 * r.row a + q) := by
  rw [Ren.rho_ge (by omega)]
  unfold Ren.ix
  rw [if_neg (by omega), if_neg (by omega), if_pos (by omega), show (500 + 4 * a + q - 500) / 4 = a by omega, show (500 + 4 * a + q - 500) % 4 = q by omega]
theorem Ren.rho_byte {a i : Nat} (h : 32 ≤ a ∧ a < 64) : rowB (r.rho ρ) a i = rowB ρ (r.row a) i := by
  unfold rowB
  congr 1
  unfold rowIx
  rw [Ren.rho_ge (by omega)]
  unfold Ren.ix
  rw [if_neg (by omega), if_neg (by omega), if_neg (by omega), if_pos (by omega), show (1000 + 64 * i + a - 1000) / 64 = i by omega, show (1000 + 64 * i + a - 1000) % 64 = a by omega]
theorem Ren.rho_rs {a p o : Nat} (h : 32 ≤ a ∧ a < 64) : ∀ n, rsZ (r.rho ρ) a p o n = rsZ ρ (r.row a) p o n
  | 0 => rfl
  | n + 1 => by simp only [rsZ, Ren.rho_byte h, Ren.rho_rs h n]
theorem Ren.rho_fOff {a : Nat} (ha : 32 ≤ a ∧ a < 64) : r.rho ρ (fOff a) = ρ (fOff (r.row a)) := by have := r.rho_f (ρ := ρ) (q := 1) ha (by omega); unfold fOff; rw [show 501 + 4 * a = 500 + 4 * a + 1 by omega, show 501 + 4 * r.row a = 500 + 4 * r.row a + 1 by omega]; exact this
theorem Ren.rho_fCap {a : Nat} (ha : 32 ≤ a ∧ a < 64) : r.rho ρ (fCap a) = ρ (fCap (r.row a)) := by have := r.rho_f (ρ := ρ) (q := 2) ha (by omega); unfold fCap; rw [show 502 + 4 * a = 500 + 4 * a + 2 by omega, show 502 + 4 * r.row a = 500 + 4 * r.row a + 2 by omega]; exact this
theorem Ren.rho_fMark {a : Nat} (ha : 32 ≤ a ∧ a < 64) : r.rho ρ (fMark a) = ρ (fMark (r.row a)) := by have := r.rho_f (ρ := ρ) (q := 3) ha (by omega); unfold fMark; rw [show 503 + 4 * a = 500 + 4 * a + 3 by omega, show 503 + 4 * r.row a = 500 + 4 * r.row a + 3 by omega]; exact this
theorem Ren.rho_fo {w : World} (h : FoOk ρ w) : FoOk (r.rho ρ) w := by
  intro a h1 h2 h3
  have ha : 32 ≤ a ∧ a < 64 := ⟨h1, h2⟩
  have e0 := r.rho_row (ρ := ρ) ha
  have f0 : r.rho ρ (fBlk a) = ρ (fBlk (r.row a)) := r.rho_f (q := 0) ha (by omega)
  have f1 : r.rho ρ (fOff a) = ρ (fOff (r.row a)) := r.rho_fOff ha
  have f2 : r.rho ρ (fCap a) = ρ (fCap (r.row a)) := r.rho_fCap ha
  have f3 : r.rho ρ (fMark a) = ρ (fMark (r.row a)) := r.rho_fMark ha
  rw [f3] at h3
  have hb := r.row_in ha
  obtain ⟨h4, h5, h6⟩ := h (r.row a) hb.1 hb.2 h3
  rw [e0, f0, f1, f2]
  refine ⟨h4, h5, fun i hi => ?_⟩
  rw [Ren.rho_byte ha]
  exact h6 i hi
variable {α : Type} {rg : List (Int × Int)}
theorem Ren.var_spec (k : Nat) (κ : SI → α) : ∃ e, r.var k κ = κ e ∧ e.ev ρ = r.rho ρ k := by
  unfold Ren.var Ren.rho
  cases hb : Nat.blt k (nat_lit 32) with
  | true =>
    rw [natBlt, decide_eq_true_eq] at hb
    exact ⟨_, rfl, by rw [if_pos hb]⟩
  | false =>
    rw [natBlt, decide_eq_false_iff_not] at hb
    exact ⟨.var (r.ix k), by rw [show ∀ (n : Nat) (f : Nat → α), forceN n f = f n from fun n f => by cases n <;> rfl], by rw [if_neg hb]; rfl⟩
end
section
variable {α : Type} {rg : List (Int × Int)} {r : Ren}
theorem frcN {n : Nat} {f : Nat → α} : forceN n f = f n := by cases n <;> rfl
def SubSI (rg : List (Int × Int)) (r : Ren) (e u : SI) : Prop := okI e = true → ∀ ρ, RgOk ρ rg → u.ev ρ = e.ev (r.rho ρ)
theorem subI_spec (e : SI) : ∀ κ : SI → α, ∃ u, subI rg r e κ = κ u ∧ SubSI rg r e u := by
  induction e with
  | lit n => intro κ; exact ⟨_, rfl, fun _ _ _ => rfl⟩
  | var i =>
    intro κ
    show ∃ u, r.var i κ = κ u ∧ _
    unfold Ren.var
    cases hb : Nat.blt i (nat_lit 32) with
    | true =>
      rw [natBlt, decide_eq_true_eq] at hb
      refine ⟨_, rfl, fun _ ρ _ => ?_⟩
      show _ = r.rho ρ i
      unfold Ren.rho
      rw [if_pos hb]
    | false =>
      rw [natBlt, decide_eq_false_iff_not] at hb
      refine ⟨.var (r.ix i), frcN, fun _ ρ _ => ?_⟩
      show _ = r.rho ρ i
      rw [Ren.rho_ge (Nat.le_of_not_lt hb)]
      rfl
  | bin op k a b iha ihb =>
    intro κ
    obtain ⟨u, h1, h2⟩ := iha fun a => subI rg r b fun b => binK op k a b fun e => stripK rg e κ
    obtain ⟨v, h3, h4⟩ := ihb fun b => binK op k u b fun e => stripK rg e κ
    obtain ⟨e, h5, h6⟩ := binK_spec op k u v fun e => stripK rg e κ
    obtain ⟨e', h7, h8⟩ := stripK_eq (rg := rg) e κ
    refine ⟨e', ?_, fun hk ρ hρ => ?_⟩
    · rw [show subI rg r (.bin op k a b) κ = subI rg r a (fun a => subI rg r b fun b => binK op k a b fun e => stripK rg e κ) from rfl, h1, h3, h5, h7]
    · have hk : (okI a && okI b) = true := hk
      rw [Bool.and_eq_true] at hk
      rw [h8 ρ hρ, h6, h2 hk.1 ρ hρ, h4 hk.2 ρ hρ]
      rfl
  | conv k a ih =>
    intro κ
    obtain ⟨u, h1, h2⟩ := ih fun a => convK k a fun e => stripK rg e κ
    obtain ⟨e, h5, h6⟩ := convK_spec k u fun e => stripK rg e κ
    obtain ⟨e', h7, h8⟩ := stripK_eq (rg := rg) e κ
    refine ⟨e', ?_, fun hk ρ hρ => ?_⟩
    · rw [show subI rg r (.conv k a) κ = subI rg r a (fun a => convK k a fun e => stripK rg e κ) from rfl, h1, h5, h7]
    · rw [h8 ρ hρ, h6, h2 hk ρ hρ]
      rfl
  | fold a ih =>
    intro κ
    obtain ⟨u, h1, h2⟩ := ih fun a => κ (.fold a)
    refine ⟨_, h1, fun hk ρ hρ => ?_⟩
    show foldZ (u.ev ρ) = foldZ (a.ev (r.rho ρ))
    rw [h2 hk ρ hρ]
  | rs a p o n iho ihn =>
    intro κ
    obtain ⟨u, h1, h2⟩ := iho fun o => subI rg r n fun n => κ (.rs (r.row a) p o n)
    obtain ⟨v, h3, h4⟩ := ihn fun n => κ (.rs (r.row a) p u n)
    refine ⟨.rs (r.row a) p u v, ?_, fun hk ρ hρ => ?_⟩
    · rw [show subI rg r (.rs a p o n) κ = forceN (r.row a) (fun a => subI rg r o fun o => subI rg r n fun n => κ (.rs a p o n)) from rfl, frcN, h1, h3]
    · have hk : (rowIn a && (okI o && okI n)) = true := hk
      simp only [Bool.and_eq_true] at hk
      show rsZ ρ (r.row a) p (u.ev ρ).toNat (v.ev ρ).toNat = rsZ (r.rho ρ) a p (o.ev (r.rho ρ)).toNat (n.ev (r.rho ρ)).toNat
      rw [Ren.rho_rs (rowIn_iff.1 hk.1), h2 hk.2.1 ρ hρ, h4 hk.2.2 ρ hρ]
def SubSB (rg : List (Int × Int)) (r : Ren) (c u : SB) : Prop := okB c = true → ∀ ρ, RgOk ρ rg → u.ev ρ = c.ev (r.rho ρ)
theorem subB_spec (c : SB) : ∀ κ : SB → α, ∃ u, subB rg r c κ = κ u ∧ SubSB rg r c u := by
  induction c with
  | lit b => intro κ; exact ⟨_, rfl, fun _ _ _ => rfl⟩
  | cmp op a b =>
    intro κ
    obtain ⟨u, h1, h2⟩ := subI_spec (rg := rg) (r := r) a fun a => subI rg r b fun b => cmpK op a b κ
    obtain ⟨v, h3, h4⟩ := subI_spec (rg := rg) (r := r) b fun b => cmpK op u b κ
    obtain ⟨e, h5, h6⟩ := cmpK_spec op u v κ
    refine ⟨e, ?_, fun hk ρ hρ => ?_⟩
    · rw [show subB rg r (.cmp op a b) κ = subI rg r a (fun a => subI rg r b fun b => cmpK op a b κ) from rfl, h1, h3, h5]
    · have hk : (okI a && okI b) = true := hk
      rw [Bool.and_eq_true] at hk
      rw [h6, h2 hk.1 ρ hρ, h4 hk.2 ρ hρ]
      rfl
  | not a ih =>
    intro κ
    obtain ⟨u, h1, h2⟩ := ih fun a => notK a κ
    obtain ⟨e, h5, h6⟩ := notK_spec u κ
    refine ⟨e, ?_, fun hk ρ hρ => ?_⟩
    · rw [show subB rg r (.not a) κ = subB rg r a (fun a => notK a κ) from rfl, h1, h5]
    · rw [h6, h2 hk ρ hρ]
      rfl
/-- what stands for a value -/
def SubAV (rg : List (Int × Int)) (r : Ren) (v u : AV) : Prop := oneB u = oneB v ∧ ∀ (p : Nat → Bool) (ρ : Nat → Int) (φ φ' : List Pl), okA v = true → AV.idB p v = true → RgOk ρ rg → (∀ i, p i = true → φ'[i]? = φ[r.id i]?) → conc φ ρ u = conc φ' (r.rho ρ) v
def SubLV (rg : List (Int × Int)) (r : Ren) (l m : List AV) : Prop := ∀ (p : Nat → Bool) (ρ : Nat → Int) (φ φ' : List Pl), okL l = true → AV.idBL p l = true → RgOk ρ rg → (∀ i, p i = true → φ'[i]? = φ[r.id i]?) → concL φ ρ m = concL φ' (r.rho ρ) l
theorem subOI_spec (o : Option SI) (κ : Option SI → α) : ∃ u, subOI rg r o κ = κ u ∧ ((o = none ∧ u = none) ∨ ∃ x y, o = some x ∧ u = some y ∧ SubSI rg r x y) := by
  cases o with
  | none => exact ⟨none, rfl, .inl ⟨rfl, rfl⟩⟩
  | some e =>
    obtain ⟨u, h1, h2⟩ := subI_spec (rg := rg) (r := r) e fun e => κ (some e)
    exact ⟨some u, h1, .inr ⟨e, u, rfl, rfl, h2⟩⟩
theorem okL_agg (l : List AV) : okA (.agg l) = okL l := by
  show AV.rec_1 (motive_1 := fun _ => Bool) (motive_2 := fun _ => Bool) _ _ _ _ _ _ _ _ _ _ _ _ _ _ _ _ _ _ _ l = okL l
  induction l with
  | nil => rfl
  | cons v l ih =>
    show (okA v && _) = (okA v && okL l)
    rw [← ih]
noncomputable def subL1 (rg : List (Int × Int)) (r : Ren) (l : List AV) : (List AV → α) → α := AV.rec_1 (motive_1 := fun _ => (AV → α) → α) (motive_2 := fun _ => (List AV → α) → α)
  (fun k e κ => subI rg r e fun e => κ (.int k e)) (fun b κ => subB rg r b fun b => κ (.bool b)) (fun i o κ => subN r i fun i => κ (.ptr i o))
  (fun i o l c κ => subN r i fun i => κ (.sl i o l c)) (fun i a b κ => subN r i fun i => κ (.emp i a b))
  (fun i κ => subN r i fun i => κ (.map i)) (fun f a b iha ihb κ => iha fun a => ihb fun b => κ (.fn f a b)) (fun t v ih κ => ih fun v => κ (.iface t v))
  (fun l ih κ => ih fun l => κ (.agg l)) (fun l ih κ => ih fun l => κ (.tup l)) (fun v κ => κ (.raw v)) (fun v κ => κ (.opq v)) (fun p k c κ => κ (.osl p k c))
  (fun f args rest _ _ _ κ => κ (.dfr f args rest)) (fun i a b κ => subN r i fun i => κ (.em0 i a b))
  (fun i o0 off len cap κ => subN r i fun i => subI rg r o0 fun o0 => subI rg r off fun off => subI rg r len fun len => subOI rg r cap fun cap => κ (.ssl i o0 off len cap)) (fun a o0 off len κ => forceN (r.row a) fun a => subI rg r o0 fun o0 => subI rg r off fun off => subI rg r len fun len => κ (.fsl a o0 off len))
  (fun κ => κ []) (fun v l ihv ihl κ => ihv fun v => ihl fun l => κ (v :: l)) l
theorem subL1_eq (l : List AV) : ∀ κ : List AV → α, subL1 rg r l κ = subL rg r l κ := by
  induction l with
  | nil => intro κ; rfl
  | cons v l ih =>
    intro κ
    show subA rg r v (fun v => subL1 rg r l fun l => κ (v :: l)) = subA rg r v fun v => subL rg r l fun l => κ (v :: l)
    congr 1
    funext v
    exact ih _
theorem subL_agg (l : List AV) (κ : AV → α) : subA rg r (.agg l) κ = subL rg r l fun l => κ (.agg l) := subL1_eq l _
theorem subL_tup (l : List AV) (κ : AV → α) : subA rg r (.tup l) κ = subL rg r l fun l => κ (.tup l) := subL1_eq l _
theorem subL_fn (f : Fn) (a b : List AV) (κ : AV → α) : subA rg r (.fn f a b) κ = subL rg r a fun a => subL rg r b fun b => κ (.fn f a b) := by
  show (subL1 rg r a fun a => subL1 rg r b fun b => κ (.fn f a b)) = _
  rw [subL1_eq]
  congr 1
  funext a
  exact subL1_eq b _
theorem okL_tup (l : List AV) : okA (.tup l) = okL l := okL_agg l
theorem okL_fn (f : Fn) (a b : List AV) : okA (.fn f a b) = (okL a && okL b) := by
  rw [← okL_agg a, ← okL_agg b]
  rfl
theorem Ren.id_p {p : Nat → Bool} {φ φ' : List Pl} (h : ∀ i, p i = true → φ'[i]? = φ[r.id i]?) {i : Nat} (hi : p i = true) : φ[r.id i]? = φ'[i]? := (h i hi).symm
mutual
theorem subA_spec : ∀ (v : AV) (κ : AV → α), ∃ u, subA rg r v κ = κ u ∧ SubAV rg r v u
  | .int k e, κ => by
    obtain ⟨u, h1, h2⟩ := subI_spec (rg := rg) (r := r) e fun e => κ (.int k e)
    exact ⟨_, h1, rfl, fun p ρ φ φ' ho hi hρ hφ => by simp only [conc, h2 ho ρ hρ]⟩
  | .bool b, κ => by
    obtain ⟨u, h1, h2⟩ := subB_spec (rg := rg) (r := r) b fun e => κ (.bool e)
    exact ⟨_, h1, rfl, fun p ρ φ φ' ho hi hρ hφ => by simp only [conc, h2 ho ρ hρ]⟩
  | .ptr i o, κ => ⟨.ptr (r.id i) o, frcN (n := r.id i) (f := fun i => κ (.ptr i o)), rfl, fun p ρ φ φ' ho hi hρ hφ => by simp only [AV.idB] at hi; simp only [conc, hφ i hi]⟩
  | .sl i o l c, κ => ⟨.sl (r.id i) o l c, frcN (n := r.id i) (f := fun i => κ (.sl i o l c)), rfl, fun p ρ φ φ' ho hi hρ hφ => by simp only [AV.idB] at hi; simp only [conc, hφ i hi]⟩
  | .emp i a b, κ => ⟨.emp (r.id i) a b, frcN (n := r.id i) (f := fun i => κ (.emp i a b)), rfl, fun p ρ φ φ' ho hi hρ hφ => by simp only [AV.idB] at hi; simp only [conc, hφ i hi]⟩
  | .em0 i a b, κ => ⟨.em0 (r.id i) a b, frcN (n := r.id i) (f := fun i => κ (.em0 i a b)), rfl, fun p ρ φ φ' ho hi hρ hφ => by simp only [AV.idB] at hi; simp only [conc, hφ i hi]⟩
  | .map i, κ => ⟨.map (r.id i), frcN (n := r.id i) (f := fun i => κ (.map i)), rfl, fun p ρ φ φ' ho hi hρ hφ => by simp only [AV.idB] at hi; simp only [conc, hφ i hi]⟩
  | .fn f a b, κ => by
    obtain ⟨u, h1, h2⟩ := subL_spec a fun a => subL rg r b fun b => κ (.fn f a b)
    obtain ⟨v, h3, h4⟩ := subL_spec b fun b => κ (.fn f u b)
    refine ⟨.fn f u v, by rw [subL_fn, h1, h3], rfl, fun p ρ φ φ' ho hi hρ hφ => ?_⟩
    rw [okL_fn, Bool.and_eq_true] at ho
    simp only [AV.idB, Bool.and_eq_true] at hi
    simp only [conc, h2 p ρ φ φ' ho.1 hi.1 hρ hφ, h4 p ρ φ φ' ho.2 hi.2 hρ hφ]
  | .iface t v, κ => by
    obtain ⟨u, h1, h0, h2⟩ := subA_spec v fun v => κ (.iface t v)
    refine ⟨_, h1, rfl, fun p ρ φ φ' ho hi hρ hφ => ?_⟩
    simp only [AV.idB] at hi
    simp only [conc, h2 p ρ φ φ' ho hi hρ hφ]
  | .agg l, κ => by
    obtain ⟨u, h1, h2⟩ := subL_spec l fun l => κ (.agg l)
    refine ⟨.agg u, by rw [subL_agg, h1], rfl, fun p ρ φ φ' ho hi hρ hφ => ?_⟩
    rw [okL_agg] at ho
    simp only [AV.idB] at hi
    simp only [conc, h2 p ρ φ φ' ho hi hρ hφ]
  | .tup l, κ => by
    obtain ⟨u, h1, h2⟩ := subL_spec l fun l => κ (.tup l)
    refine ⟨.tup u, by rw [subL_tup, h1], rfl, fun p ρ φ φ' ho hi hρ hφ => ?_⟩
    rw [okL_tup] at ho
    simp only [AV.idB] at hi
    simp only [conc, h2 p ρ φ φ' ho hi hρ hφ]
  | .raw v, κ => ⟨.raw v, rfl, rfl, fun p ρ φ φ' ho hi hρ hφ => by simp only [conc]⟩
  | .opq v, κ => ⟨.opq v, rfl, rfl, fun p ρ φ φ' ho hi hρ hφ => by simp only [conc]⟩
  | .osl p k c, κ => ⟨.osl p k c, rfl, rfl, fun _ ρ φ φ' ho hi hρ hφ => by
    have ho : (hiL p && (hiL k && hiL c)) = true := ho
    simp only [Bool.and_eq_true, hiL_iff] at ho
    simp only [conc, adrL, Ren.rho_hi (r := r) (ρ := ρ) (k := p) ⟨ho.1.1, by omega⟩, Ren.rho_hi (r := r) (ρ := ρ) (k := p + 1) ⟨by omega, by omega⟩, Ren.rho_hi (r := r) (ρ := ρ) (k := p + 2) ⟨by omega, by omega⟩, Ren.rho_hi (r := r) (ρ := ρ) (k := k) ⟨ho.2.1.1, by omega⟩, Ren.rho_hi (r := r) (ρ := ρ) (k := c) ⟨ho.2.2.1, by omega⟩]⟩
  | .dfr f l t, κ => ⟨.dfr f l t, rfl, rfl, fun _ _ _ _ ho => by cases ho⟩
  | .ssl i a b c d, κ => by
    obtain ⟨u, h1, g1⟩ := subI_spec (rg := rg) (r := r) a fun a => subI rg r b fun b => subI rg r c fun c => subOI rg r d fun d => κ (.ssl (r.id i) a b c d)
    obtain ⟨v, h2, g2⟩ := subI_spec (rg := rg) (r := r) b fun b => subI rg r c fun c => subOI rg r d fun d => κ (.ssl (r.id i) u b c d)
    obtain ⟨x, h3, g3⟩ := subI_spec (rg := rg) (r := r) c fun c => subOI rg r d fun d => κ (.ssl (r.id i) u v c d)
    obtain ⟨y, h4, g4⟩ := subOI_spec (rg := rg) (r := r) d fun d => κ (.ssl (r.id i) u v x d)
    refine ⟨.ssl (r.id i) u v x y, ?_, rfl, fun p ρ φ φ' ho hi hρ hφ => ?_⟩
    · rw [show subA rg r (.ssl i a b c d) κ = forceN (r.id i) (fun i => subI rg r a fun a => subI rg r b fun b => subI rg r c fun c => subOI rg r d fun d => κ (.ssl i a b c d)) from rfl, frcN, h1, h2, h3, h4]
    · have ho : (okI a && (okI b && (okI c && optB okI d))) = true := ho
      simp only [Bool.and_eq_true] at ho
      simp only [AV.idB] at hi
      rcases g4 with ⟨rfl, rfl⟩ | ⟨e, e', rfl, rfl, g4⟩
      · simp only [conc, hφ i hi, g1 ho.1 ρ hρ, g2 ho.2.1 ρ hρ, g3 ho.2.2.1 ρ hρ]
      · simp only [conc, hφ i hi, g1 ho.1 ρ hρ, g2 ho.2.1 ρ hρ, g3 ho.2.2.1 ρ hρ, g4 ho.2.2.2 ρ hρ]
  | .fsl a o0 off len, κ => by
    obtain ⟨u, h1, g1⟩ := subI_spec (rg := rg) (r := r) o0 fun o0 => subI rg r off fun off => subI rg r len fun len => κ (.fsl (r.row a) o0 off len)
    obtain ⟨v, h2, g2⟩ := subI_spec (rg := rg) (r := r) off fun off => subI rg r len fun len => κ (.fsl (r.row a) u off len)
    obtain ⟨x, h3, g3⟩ := subI_spec (rg := rg) (r := r) len fun len => κ (.fsl (r.row a) u v len)
    refine ⟨.fsl (r.row a) u v x, ?_, rfl, fun p ρ φ φ' ho hi hρ hφ => ?_⟩
    · rw [show subA rg r (.fsl a o0 off len) κ = forceN (r.row a) (fun a => subI rg r o0 fun o0 => subI rg r off fun off => subI rg r len fun len => κ (.fsl a o0 off len)) from rfl, frcN, h1, h2, h3]
    · have ho : (rowIn a && (okI o0 && (okI off && okI len))) = true := ho
      simp only [Bool.and_eq_true] at ho
      have ha := rowIn_iff.1 ho.1
      have e0 := r.rho_row (ρ := ρ) ha
      have f0 : r.rho ρ (fBlk a) = ρ (fBlk (r.row a)) := r.rho_f (q := 0) ha (by omega)
      have f1 : r.rho ρ (fOff a) = ρ (fOff (r.row a)) := r.rho_fOff ha
      have f2 : r.rho ρ (fCap a) = ρ (fCap (r.row a)) := r.rho_fCap ha
      have f3 : r.rho ρ (fMark a) = ρ (fMark (r.row a)) := r.rho_fMark ha
      simp only [conc, e0, f0, f1, f2, f3, g1 ho.2.1 ρ hρ, g2 ho.2.2.1 ρ hρ, g3 ho.2.2.2 ρ hρ]
theorem subL_spec : ∀ (l : List AV) (κ : List AV → α), ∃ m, subL rg r l κ = κ m ∧ SubLV rg r l m
  | [], κ => ⟨[], rfl, fun _ _ _ _ _ _ _ _ => rfl⟩
  | v :: l, κ => by
    obtain ⟨u, h1, h0, h2⟩ := subA_spec v fun v => subL rg r l fun l => κ (v :: l)
    obtain ⟨m, h3, h4⟩ := subL_spec l fun l => κ (u :: l)
    refine ⟨u :: m, by rw [show subL rg r (v :: l) κ = subA rg r v (fun v => subL rg r l fun l => κ (v :: l)) from rfl, h1, h3], fun p ρ φ φ' ho hi hρ hφ => ?_⟩
    have ho : (okA v && okL l) = true := ho
    rw [Bool.and_eq_true] at ho
    simp only [AV.idBL, Bool.and_eq_true] at hi
    simp only [concL, h2 p ρ φ φ' ho.1 hi.1 hρ hφ, h4 p ρ φ φ' ho.2 hi.2 hρ hφ]
end
/-! things -/
def RelT (rg : List (Int × Int)) (r : Ren) (c c' : Tr AV) : Prop := ∀ q : Pos, (Tr.getP q c = none ∧ Tr.getP q c' = none) ∨ ∃ v u, Tr.getP q c = some v ∧ Tr.getP q c' = some u ∧ SubAV rg r v u
def RelOA (rg : List (Int × Int)) (r : Ren) (d d' : Option AV) : Prop := (d = none ∧ d' = none) ∨ ∃ v u, d = some v ∧ d' = some u ∧ SubAV rg r v u
theorem subOA_spec (o : Option AV) (κ : Option AV → α) : ∃ u, subOA rg r o κ = κ u ∧ RelOA rg r o u := by
  cases o with
  | none => exact ⟨none, rfl, .inl ⟨rfl, rfl⟩⟩
  | some v =>
    obtain ⟨u, h1, h2⟩ := subA_spec (rg := rg) (r := r) v fun v => κ (some v)
    exact ⟨some u, h1, .inr ⟨v, u, rfl, rfl, h2⟩⟩
theorem subTr_spec (t : Tr AV) : ∀ κ : Tr AV → α, ∃ u, subTr rg r t κ = κ u ∧ RelT rg r t u := by
  induction t with
  | nil => intro κ; exact ⟨.nil, rfl, fun q => .inl ⟨Tr.getP_nil q, Tr.getP_nil q⟩⟩
  | node v l m ihl ihm =>
    intro κ
    obtain ⟨v', h1, g1⟩ := subOA_spec (rg := rg) (r := r) v fun v => subTr rg r l fun l => subTr rg r m fun m => κ (.node v l m)
    obtain ⟨l', h2, g2⟩ := ihl fun l => subTr rg r m fun m => κ (.node v' l m)
    obtain ⟨m', h3, g3⟩ := ihm fun m => κ (.node v' l' m)
    refine ⟨.node v' l' m', ?_, fun q => ?_⟩
    · rw [show subTr rg r (.node v l m) κ = subOA rg r v (fun v => subTr rg r l fun l => subTr rg r m fun m => κ (.node v l m)) from rfl, h1, h2, h3]
    · cases q with
      | here => exact g1
      | left q => exact g2 q
      | right q => exact g3 q
def RelE (rg : List (Int × Int)) (r : Ren) : List (AV × AV × Nat) → List (AV × AV × Nat) → Prop
  | [], [] => True
  | e :: l, e' :: l' => e'.2.2 = e.2.2 ∧ SubAV rg r e.1 e'.1 ∧ SubAV rg r e.2.1 e'.2.1 ∧ RelE rg r l l'
  | _, _ => False
theorem subE_spec : ∀ (l : List (AV × AV × Nat)) (κ : List (AV × AV × Nat) → α), ∃ u, subE rg r l κ = κ u ∧ RelE rg r l u
  | [], κ => ⟨[], rfl, trivial⟩
  | e :: l, κ => by
    obtain ⟨a, h1, g1⟩ := subA_spec (rg := rg) (r := r) e.1 fun a => subA rg r e.2.1 fun b => subE rg r l fun l => κ ((a, b, e.2.2) :: l)
    obtain ⟨b, h2, g2⟩ := subA_spec (rg := rg) (r := r) e.2.1 fun b => subE rg r l fun l => κ ((a, b, e.2.2) :: l)
    obtain ⟨m, h3, g3⟩ := subE_spec l fun l => κ ((a, b, e.2.2) :: l)
    exact ⟨(a, b, e.2.2) :: m, by rw [show subE rg r (e :: l) κ = subA rg r e.1 (fun a => subA rg r e.2.1 fun b => subE rg r l fun l => κ ((a, b, e.2.2) :: l)) from rfl, h1, h2, h3], rfl, g1, g2, g3⟩
theorem subSL_spec : ∀ (l : List SI) (κ : List SI → α), ∃ u, subSL rg r l κ = κ u ∧ (l.all okI = true → ∀ ρ, RgOk ρ rg → u.map (SI.ev ρ) = l.map (SI.ev (r.rho ρ)))
  | [], κ => ⟨[], rfl, fun _ _ _ => rfl⟩
  | e :: l, κ => by
    obtain ⟨a, h1, g1⟩ := subI_spec (rg := rg) (r := r) e fun a => subSL rg r l fun l => κ (a :: l)
    obtain ⟨m, h3, g3⟩ := subSL_spec l fun l => κ (a :: l)
    refine ⟨a :: m, by rw [show subSL rg r (e :: l) κ = subI rg r e (fun a => subSL rg r l fun l => κ (a :: l)) from rfl, h1, h3], fun ho ρ hρ => ?_⟩
    simp only [List.all_cons, Bool.and_eq_true] at ho
    rw [List.map_cons, List.map_cons, g1 ho.1 ρ hρ, g3 ho.2 ρ hρ]
theorem subCh_spec (c : Ch) (κ : Ch → α) : ∃ u, subCh rg r c κ = κ u ∧ (okCh c = true → ∀ ρ, RgOk ρ rg → u.zs ρ = c.zs (r.rho ρ)) := by
  cases c with
  | bs l =>
    obtain ⟨m, h1, g1⟩ := subSL_spec (rg := rg) (r := r) l fun l => κ (.bs l)
    exact ⟨_, h1, fun ho ρ hρ => g1 ho ρ hρ⟩
  | fil n v =>
    obtain ⟨a, h1, g1⟩ := subI_spec (rg := rg) (r := r) n fun n => subI rg r v fun v => κ (.fil n v)
    obtain ⟨b, h2, g2⟩ := subI_spec (rg := rg) (r := r) v fun v => κ (.fil a v)
    refine ⟨.fil a b, by rw [show subCh rg r (.fil n v) κ = subI rg r n (fun n => subI rg r v fun v => κ (.fil n v)) from rfl, h1, h2], fun ho ρ hρ => ?_⟩
    have ho : (okI n && okI v) = true := ho
    rw [Bool.and_eq_true] at ho
    simp only [Ch.zs, g1 ho.1 ρ hρ, g2 ho.2 ρ hρ]
  | row a o n =>
    obtain ⟨u, h1, g1⟩ := subI_spec (rg := rg) (r := r) o fun o => subI rg r n fun n => κ (.row (r.row a) o n)
    obtain ⟨b, h2, g2⟩ := subI_spec (rg := rg) (r := r) n fun n => κ (.row (r.row a) u n)
    refine ⟨.row (r.row a) u b, by rw [show subCh rg r (.row a o n) κ = forceN (r.row a) (fun a => subI rg r o fun o => subI rg r n fun n => κ (.row a o n)) from rfl, frcN, h1, h2], fun ho ρ hρ => ?_⟩
    have ho : (rowIn a && (okI o && okI n)) = true := ho
    simp only [Bool.and_eq_true] at ho
    simp only [Ch.zs, g1 ho.2.1 ρ hρ, g2 ho.2.2 ρ hρ, Ren.rho_byte (rowIn_iff.1 ho.1)]
theorem subCs_spec : ∀ (l : List Ch) (κ : List Ch → α), ∃ u, subCs rg r l κ = κ u ∧ (l.all okCh = true → ∀ ρ, RgOk ρ rg → ropeZ ρ u = ropeZ (r.rho ρ) l)
  | [], κ => ⟨[], rfl, fun _ _ _ => rfl⟩
  | e :: l, κ => by
    obtain ⟨a, h1, g1⟩ := subCh_spec (rg := rg) (r := r) e fun a => subCs rg r l fun l => κ (a :: l)
    obtain ⟨m, h3, g3⟩ := subCs_spec l fun l => κ (a :: l)
    refine ⟨a :: m, by rw [show subCs rg r (e :: l) κ = subCh rg r e (fun a => subCs rg r l fun l => κ (a :: l)) from rfl, h1, h3], fun ho ρ hρ => ?_⟩
    simp only [List.all_cons, Bool.and_eq_true] at ho
    have h := g3 ho.2 ρ hρ
    simp only [ropeZ, List.flatMap_cons] at h ⊢
    rw [g1 ho.1 ρ hρ, h]
/-- what stands for a thing -/
def SubOV (rg : List (Int × Int)) (r : Ren) : AObj → AObj → Prop
  | .cells n c d T row, .cells n' c' d' T' row' => n' = n ∧ T' = T ∧ row' = row ∧ RelT rg r c c' ∧ RelOA rg r d d'
  | .map es k, .map es' k' => k' = k ∧ RelE rg r es es'
  | .rope cs T row, .rope cs' T' row' => T' = T ∧ row' = row ∧ (cs.all okCh = true → ∀ ρ, RgOk ρ rg → ropeZ ρ cs' = ropeZ (r.rho ρ) cs)
  | .iter a b c d, .iter a' b' c' d' => True
  | .dead, .dead => True
  | _, _ => False
theorem subO_spec (o : AObj) (κ : AObj → α) : ∃ u, subO rg r o κ = κ u ∧ SubOV rg r o u := by
  cases o with
  | cells n c d T row =>
    obtain ⟨c', h1, g1⟩ := subTr_spec (rg := rg) (r := r) c fun c => subOA rg r d fun d => κ (.cells n c d T row)
    obtain ⟨d', h2, g2⟩ := subOA_spec (rg := rg) (r := r) d fun d => κ (.cells n c' d T row)
    exact ⟨.cells n c' d' T row, by rw [show subO rg r (.cells n c d T row) κ = subTr rg r c (fun c => subOA rg r d fun d => κ (.cells n c d T row)) from rfl, h1, h2], rfl, rfl, rfl, g1, g2⟩
  | map es clk =>
    obtain ⟨c', h1, g1⟩ := subE_spec (rg := rg) (r := r) es fun c => κ (.map c clk)
    exact ⟨.map c' clk, h1, rfl, g1⟩
  | iter m s l y => exact ⟨_, rfl, trivial⟩
  | rope cs T row =>
    obtain ⟨c', h1, g1⟩ := subCs_spec (rg := rg) (r := r) cs fun c => κ (.rope c T row)
    exact ⟨.rope c' T row, h1, rfl, rfl, g1⟩
  | dead => exact ⟨.dead, rfl, trivial⟩
theorem SubOV.live {o u : AObj} (h : SubOV rg r o u) : live u = live o := by
  cases o <;> cases u <;> first | rfl | exact False.elim h
theorem celA_rel {c c' : Tr AV} {d d' : Option AV} (h1 : RelT rg r c c') (h2 : RelOA rg r d d') (i : Nat) : (celA c d i = none ∧ celA c' d' i = none) ∨ ∃ v u, celA c d i = some v ∧ celA c' d' i = some u ∧ SubAV rg r v u := by
  unfold celA
  rcases h1 (posOf i) with ⟨a1, a2⟩ | ⟨v, u, a1, a2, a3⟩
  · rw [show c.get i = none from a1, show c'.get i = none from a2]
    exact h2
  · rw [show c.get i = some v from a1, show c'.get i = some u from a2]
    exact .inr ⟨v, u, rfl, rfl, a3⟩
theorem celA_ok {p : AV → Bool} {c : Tr AV} {d : Option AV} (h : (Tr.all p c && optB p d) = true) {i : Nat} {v : AV} (hv : celA c d i = some v) : p v = true := by
  rw [Bool.and_eq_true] at h
  unfold celA at hv
  split at hv
  · rename_i x hx
    cases hv
    exact Tr.all_get h.1 hx
  · have := h.2
    rw [hv] at this
    exact this
theorem EntOk.sub {φ φ' : List Pl} {ρ : Nat → Int} {p : Nat → Bool} (hρ : RgOk ρ rg) (hφ : ∀ i, p i = true → φ'[i]? = φ[r.id i]?) : ∀ {es es' : List (AV × AV × Nat)} {ms : List MapEntry}, okE es = true → entId p es = true → RelE rg r es es' → (EntOk φ ρ es' ms ↔ EntOk φ' (r.rho ρ) es ms)
  | [], es', ms, _, _, hr => by
    cases es' with
    | nil => exact ⟨fun h => by cases h; exact .nil, fun h => by cases h; exact .nil⟩
    | cons _ _ => cases hr
  | (a, b, n) :: es, es', ms, ho, hi, hr => by
    cases es' with
    | nil => cases hr
    | cons e' es' =>
      obtain ⟨a', b', n'⟩ := e'
      obtain ⟨r1, r2, r3, r4⟩ := hr
      have r1 : n' = n := r1
      subst r1
      have ho : (okA a && (okA b && okE es)) = true := ho
      have hi : ((AV.idB p a && AV.idB p b) && es.all (fun e => AV.idB p e.1 && AV.idB p e.2.1)) = true := hi
      simp only [Bool.and_eq_true] at ho hi
      have e1 := r2.2 p ρ φ φ' ho.1 hi.1.1 hρ hφ
      have e2 := r3.2 p ρ φ φ' ho.2.1 hi.1.2 hρ hφ
      constructor
      · intro h
        cases h with
        | cons hk hv hrest => exact .cons (by rw [← e1]; exact hk) (by rw [← e2]; exact hv) ((EntOk.sub hρ hφ ho.2.2 (show entId p es = true from hi.2) r4).1 hrest)
      · intro h
        cases h with
        | cons hk hv hrest => exact .cons (by rw [e1]; exact hk) (by rw [e2]; exact hv) ((EntOk.sub hρ hφ ho.2.2 (show entId p es = true from hi.2) r4).2 hrest)
/-- a thing here is the stage's thing there -/
theorem ObjOk.sub {P : Program} {w : World} {φ φ' : List Pl} {ρ : Nat → Int} {p : Nat → Bool} (hρ : RgOk ρ rg) (hφ : ∀ i, p i = true → φ'[i]? = φ[r.id i]?) {i j : Nat} (hij : φ'[i]? = φ[j]?) {o u : AObj} (ho : okO o = true) (hi : AObj.idB p o = true) (hr : SubOV rg r o u) : ObjOk P φ ρ w j u ↔ ObjOk P φ' (r.rho ρ) w i o := by
  cases o with
  | cells n c d T row =>
    cases u <;> first | exact False.elim hr | skip
    rename_i n' c' d' T' row'
    obtain ⟨rfl, rfl, rfl, h1, h2⟩ := hr
    have ho : (Tr.all okA c && optB okA d) = true := ho
    have hi : (Tr.all (AV.idB p) c && optB (AV.idB p) d) = true := hi
    constructor
    · rintro ⟨q, arr, fz, a1, a2⟩
      refine ⟨q, arr, fz, by rw [hij]; exact a1, a2.blk, a2.size, a2.le, a2.fix, a2.es, a2.fr, fun k hk => ?_⟩
      obtain ⟨v, x, b1, b2, b3, b4⟩ := a2.cell k hk
      rcases celA_rel h1 h2 k with ⟨_, c2⟩ | ⟨y, z, c1, c2, c3⟩
      · rw [b1] at c2; cases c2
      · rw [b1] at c2; cases c2
        exact ⟨y, x, c1, by rw [← c3.2 p ρ φ φ' (celA_ok ho c1) (celA_ok hi c1) hρ hφ]; exact b2, b3, by rw [← c3.1]; exact b4⟩
    · rintro ⟨q, arr, fz, a1, a2⟩
      refine ⟨q, arr, fz, by rw [← hij]; exact a1, a2.blk, a2.size, a2.le, a2.fix, a2.es, a2.fr, fun k hk => ?_⟩
      obtain ⟨v, x, b1, b2, b3, b4⟩ := a2.cell k hk
      rcases celA_rel h1 h2 k with ⟨c1, _⟩ | ⟨y, z, c1, c2, c3⟩
      · rw [b1] at c1; cases c1
      · rw [b1] at c1; cases c1
        exact ⟨z, x, c2, by rw [c3.2 p ρ φ φ' (celA_ok ho b1) (celA_ok hi b1) hρ hφ]; exact b2, b3, by rw [c3.1]; exact b4⟩
  | map es clk =>
    cases u <;> first | exact False.elim hr | skip
    obtain ⟨rfl, h1⟩ := hr
    constructor
    · rintro ⟨q, xs, a1, a2, a3⟩
      exact ⟨q, xs, by rw [hij]; exact a1, a2, (EntOk.sub hρ hφ ho hi h1).1 a3⟩
    · rintro ⟨q, xs, a1, a2, a3⟩
      exact ⟨q, xs, by rw [← hij]; exact a1, a2, (EntOk.sub hρ hφ ho hi h1).2 a3⟩
  | iter _ _ _ _ => cases ho
  | rope cs T row =>
    cases u <;> first | exact False.elim hr | skip
    obtain ⟨rfl, rfl, h1⟩ := hr
    have hz := h1 ho ρ hρ
    constructor
    · rintro ⟨q, arr, fz, a1, a2⟩
      exact ⟨q, arr, fz, by rw [hij]; exact a1, ⟨a2.blk, a2.size, by rw [← hz]; exact a2.le, by rw [← hz]; exact a2.fix, a2.es, a2.e1, a2.fr, by rw [← hz]; exact a2.cell⟩⟩
    · rintro ⟨q, arr, fz, a1, a2⟩
      exact ⟨q, arr, fz, by rw [← hij]; exact a1, ⟨a2.blk, a2.size, by rw [hz]; exact a2.le, by rw [hz]; exact a2.fix, a2.es, a2.e1, a2.fr, by rw [hz]; exact a2.cell⟩⟩
  | dead =>
    cases u <;> first | exact False.elim hr | skip
    constructor
    · rintro ⟨q, a1⟩
      exact ⟨q, by rw [hij]; exact a1⟩
    · rintro ⟨q, a1⟩
      exact ⟨q, by rw [← hij]; exact a1⟩
end

noncomputable section
/-! finding the stage's things again -/
def bndN (i j : Nat) (r : Ren) : Ren := Bool.rec (motive := fun _ => Ren) (Option.rec (motive := fun _ => Ren) ⟨r.ids.set i j, r.si, r.rw, r.n0, r.m0⟩ (fun _ => r) (r.ids.get i)) r (Nat.ble r.n0 i)
def bndR (a b : Nat) (r : Ren) : Ren := Option.rec (motive := fun _ => Ren) ⟨r.ids, r.si, r.rw.set a b, r.n0, r.m0⟩ (fun _ => r) (r.rw.get a)
def bndI : SI → SI → Ren → Ren
  | .var n, u, r => Bool.rec (motive := fun _ => Ren) (match u with
    | .var m => Bool.rec (motive := fun _ => Ren) r (bndR n m r) (rowIn n && rowIn m)
    | _ => r) (Option.rec (motive := fun _ => Ren) ⟨r.ids, r.si.set n u, r.rw, r.n0, r.m0⟩ (fun _ => r) (r.si.get n)) (Nat.blt n (nat_lit 32))
  | .conv _ e, .conv _ u, r => bndI e u r
  | _, _, r => r
def bndO (d d' : Option SI) (r : Ren) : Ren := match d, d' with
  | some e, some u => bndI e u r
  | _, _ => r
mutual
def bndA : AV → AV → Ren → Ren
  | .int _ e, .int _ u, r => bndI e u r
  | .ptr i _, .ptr j _, r => bndN i j r
  | .sl i _ _ _, .sl j _ _ _, r => bndN i j r
  | .emp i _ _, .emp j _ _, r => bndN i j r
  | .em0 i _ _, .em0 j _ _, r => bndN i j r
  | .map i, .map j, r => bndN i j r
  | .fn _ a b, .fn _ c d, r => bndL b d (bndL a c r)
  | .iface _ v, .iface _ u, r => bndA v u r
  | .agg l, .agg m, r => bndL l m r
  | .tup l, .tup m, r => bndL l m r
  | .ssl i a b c d, .ssl j a' b' c' d', r => bndO d d' (bndI c c' (bndI b b' (bndI a a' (bndN i j r))))
  | .fsl a x y z, .fsl b x' y' z', r => bndI z z' (bndI y y' (bndI x x' (bndR a b r)))
  | _, _, r => r
def bndL : List AV → List AV → Ren → Ren
  | a :: l, b :: m, r => bndL l m (bndA a b r)
  | _, _, r => r
end
def bndOA (a b : Option AV) (r : Ren) : Ren := match a, b with
  | some v, some u => bndA v u r
  | _, _ => r
def bndT : Tr AV → Tr AV → Ren → Ren
  | .node v l m, .node v' l' m', r => bndT m m' (bndT l l' (bndOA v v' r))
  | _, _, r => r
def bndE : List (AV × AV × Nat) → List (AV × AV × Nat) → Ren → Ren
  | a :: l, b :: m, r => bndE l m (bndA a.2.1 b.2.1 (bndA a.1 b.1 r))
  | _, _, r => r
def bndSL : List SI → List SI → Ren → Ren
  | a :: l, b :: m, r => bndSL l m (bndI a b r)
  | _, _, r => r
def bndCs : List Ch → List Ch → Ren → Ren
  | .bs a :: l, .bs b :: m, r => bndCs l m (bndSL a b r)
  | .fil n v :: l, .fil n' v' :: m, r => bndCs l m (bndI v v' (bndI n n' r))
  | .row a o n :: l, .row b o' n' :: m, r => bndCs l m (bndI n n' (bndI o o' (bndR a b r)))
  | _, _, r => r
def bndOb (o u : AObj) (r : Ren) : Ren := match o, u with
  | .cells _ c d _ _, .cells _ c' d' _ _ => bndOA d d' (bndT c c' r)
  | .map es _, .map es' _ => bndE es es' r
  | .rope cs _ _, .rope cs' _ _ => bndCs cs cs' r
  | _, _ => r
/-! can it be it at all? -/
def preA (v u : AV) : Bool := match v, u with
  | .int _ (.lit a), .int _ (.lit b) => beqF a b
  | .bool (.lit a), .bool (.lit b) => a == b
  | _, _ => true
def preT : Tr AV → Tr AV → Bool
  | .node (some v) l m, .node (some u) l' m' => preA v u && (preT l l' && preT m m')
  | .node none l m, .node none l' m' => preT l l' && preT m m'
  | .nil, .nil => true
  | _, _ => false
def lenSm {α : Type} (l m : List α) : Bool := List.rec (motive := fun _ => List α → Bool) (fun m => List.rec (motive := fun _ => Bool) true (fun _ _ _ => false) m) (fun _ _ ih m => List.rec (motive := fun _ => Bool) false (fun _ m _ => ih m) m) l m
def preO (o u : AObj) : Bool := match o, u with
  | .cells n c _ _ _, .cells n' c' _ _ _ => Nat.beq n n' && preT c c'
  | .map es c, .map es' c' => lenSm es es' && Nat.beq c c'
  | .rope cs _ _, .rope cs' _ _ => lenSm cs cs'
  | .dead, .dead => true
  | _, _ => false
def bndH (h h' : Tr AObj) (ord : List Nat) : Ren → Option Ren := List.rec (motive := fun _ => Ren → Option Ren) (fun r => some r) (fun i _ ih r => Option.rec (motive := fun _ => Option Ren) none (fun o => Option.rec (motive := fun _ => Option Ren) none (fun u => Bool.rec (motive := fun _ => Option Ren) none (ih (bndOb o u r)) (preO o u)) (h'.get (r.id i))) (h.get i)) ord
/-- all in its plain form -/
def frcT {α : Type} (t : Tr Nat) : (Tr Nat → α) → α := Tr.rec (motive := fun _ => (Tr Nat → α) → α) (fun κ => κ .nil) (fun v _ _ ihl ihr κ => Option.rec (motive := fun _ => α) (ihl fun l => ihr fun r => κ (.node none l r)) (fun x => forceN x fun x => ihl fun l => ihr fun r => κ (.node (some x) l r)) v) t
def frcS {α : Type} (e : SI) : (SI → α) → α := SI.rec (motive := fun _ => (SI → α) → α) (fun n κ => forceI n fun n => κ (.lit n)) (fun i κ => forceN i fun i => κ (.var i)) (fun op k _ _ iha ihb κ => iha fun a => ihb fun b => κ (.bin op k a b)) (fun k _ ih κ => ih fun a => κ (.conv k a)) (fun _ ih κ => ih fun a => κ (.fold a)) (fun a p _ _ iho ihn κ => iho fun o => ihn fun n => κ (.rs a p o n)) e
def frcU {α : Type} (t : Tr SI) : (Tr SI → α) → α := Tr.rec (motive := fun _ => (Tr SI → α) → α) (fun κ => κ .nil) (fun v _ _ ihl ihr κ => Option.rec (motive := fun _ => α) (ihl fun l => ihr fun r => κ (.node none l r)) (fun x => frcS x fun x => ihl fun l => ihr fun r => κ (.node (some x) l r)) v) t
/-! are they? -/
/-- a memory as a list: the things from i on, each m-th one -/
def Tr.toL {α : Type} (t : Tr α) : Nat → Nat → List (Nat × α) → List (Nat × α) := Tr.rec (motive := fun _ => Nat → Nat → List (Nat × α) → List (Nat × α)) (fun _ _ acc => acc) (fun v _ _ ihl ihr i m acc => forceN i fun i => forceN m fun m => Option.rec (motive := fun _ => List (Nat × α)) (ihl (Nat.add i m) (Nat.mul (nat_lit 2) m) (ihr (Nat.add i (Nat.mul (nat_lit 2) m)) (Nat.mul (nat_lit 2) m) acc)) (fun x => (i, x) :: ihl (Nat.add i m) (Nat.mul (nat_lit 2) m) (ihr (Nat.add i (Nat.mul (nat_lit 2) m)) (Nat.mul (nat_lit 2) m) acc)) v) t
def chkH (rg : List (Int × Int)) (r : Ren) (h : Tr AObj) (l : List (Nat × AObj)) : Tr Bool → Bool := List.rec (motive := fun _ => Tr Bool → Bool) (fun _ => true) (fun x _ ih m => Bool.rec (motive := fun _ => Bool) (forceN (r.id x.1) fun j => Option.rec (motive := fun _ => Bool) false (fun u => subO rg r x.2 (fun o => AObj.beq o u) && (isN (m.get j) && ih (m.set j true))) (h.get j)) (ih m) (deadB x.2)) l
end

/-! what the checks say -/
theorem toL_node {α : Type} {v : Option α} {l r : Tr α} {i m : Nat} {acc : List (Nat × α)} : Tr.toL (.node v l r) i m acc = Option.rec (motive := fun _ => List (Nat × α)) (Tr.toL l (Nat.add i m) (Nat.mul (nat_lit 2) m) (Tr.toL r (Nat.add i (Nat.mul (nat_lit 2) m)) (Nat.mul (nat_lit 2) m) acc)) (fun x => (i, x) :: Tr.toL l (Nat.add i m) (Nat.mul (nat_lit 2) m) (Tr.toL r (Nat.add i (Nat.mul (nat_lit 2) m)) (Nat.mul (nat_lit 2) m) acc)) v := by
  have e : Tr.toL (.node v l r) i m acc = forceN i fun i => forceN m fun m => Option.rec (motive := fun _ => List (Nat × α)) (Tr.toL l (Nat.add i m) (Nat.mul (nat_lit 2) m) (Tr.toL r (Nat.add i (Nat.mul (nat_lit 2) m)) (Nat.mul (nat_lit 2) m) acc)) (fun x => (i, x) :: Tr.toL l (Nat.add i m) (Nat.mul (nat_lit 2) m) (Tr.toL r (Nat.add i (Nat.mul (nat_lit 2) m)) (Nat.mul (nat_lit 2) m) acc)) v := rfl
  rw [e, frcN, frcN]
theorem toL_mem {α : Type} : ∀ (t : Tr α) (i m : Nat) (acc : List (Nat × α)) {y : Nat × α}, y ∈ acc → y ∈ Tr.toL t i m acc := by
  intro t
  induction t with
  | nil => intro i m acc y h; exact h
  | node v l r ihl ihr =>
    intro i m acc y h
    rw [toL_node]
    have h2 := ihl (Nat.add i m) (Nat.mul (nat_lit 2) m) _ (ihr (Nat.add i (Nat.mul (nat_lit 2) m)) (Nat.mul (nat_lit 2) m) acc h)
    cases v with
    | none => exact h2
    | some x => exact List.mem_cons_of_mem _ h2
theorem toL_getF {α : Type} : ∀ (f : Nat) (t : Tr α) (i m k : Nat) (acc : List (Nat × α)) {x : α}, k < f → Tr.getP (posF f k) t = some x → (i + m * k, x) ∈ Tr.toL t i m acc := by
  intro f
  induction f with
  | zero => intro t i m k acc x hk; omega
  | succ f ih =>
    intro t i m k acc x hk h
    cases t with
    | nil => rw [Tr.getP_nil] at h; cases h
    | node v l r =>
      rw [toL_node]
      have behind : ∀ {y : Nat × α}, y ∈ Tr.toL l (Nat.add i m) (Nat.mul (nat_lit 2) m) (Tr.toL r (Nat.add i (Nat.mul (nat_lit 2) m)) (Nat.mul (nat_lit 2) m) acc) → y ∈ (Option.rec (motive := fun _ => List (Nat × α)) (Tr.toL l (Nat.add i m) (Nat.mul (nat_lit 2) m) (Tr.toL r (Nat.add i (Nat.mul (nat_lit 2) m)) (Nat.mul (nat_lit 2) m) acc)) (fun x => (i, x) :: Tr.toL l (Nat.add i m) (Nat.mul (nat_lit 2) m) (Tr.toL r (Nat.add i (Nat.mul (nat_lit 2) m)) (Nat.mul (nat_lit 2) m) acc)) v) := by
        intro y hy
        cases v with
        | none => exact hy
        | some x => exact List.mem_cons_of_mem _ hy
      cases k with
      | zero =>
        have h : v = some x := h
        rw [h]
        exact List.mem_cons_self
      | succ k =>
        have h : Tr.getP (Bool.rec (motive := fun _ => Pos) (.right (posF f (Nat.div k (nat_lit 2)))) (.left (posF f (Nat.div k (nat_lit 2)))) (Nat.beq (Nat.mod k (nat_lit 2)) (nat_lit 0))) (.node v l r) = some x := h
        have hd : Nat.div k 2 = k / 2 := rfl
        cases hb : Nat.beq (Nat.mod k (nat_lit 2)) (nat_lit 0) with
        | true =>
          rw [hb] at h
          have h : Tr.getP (posF f (k / 2)) l = some x := h
          have hm : k % 2 = 0 := by
            have := hb
            rw [natBeq, decide_eq_true_eq] at this
            exact this
          have h3 := ih l (i + m) (2 * m) (k / 2) (Tr.toL r (Nat.add i (Nat.mul (nat_lit 2) m)) (Nat.mul (nat_lit 2) m) acc) (by omega) h
          refine behind ?_
          have e2 : i + m * (k + 1) = i + m + 2 * m * (k / 2) := by
            have : k = 2 * (k / 2) := by omega
            generalize k / 2 = j at this
            subst this
            rw [Nat.mul_add, Nat.mul_one, Nat.mul_comm 2 m, Nat.mul_assoc, Nat.add_assoc, Nat.add_comm (m * (2 * j))]
          rw [e2]
          exact h3
        | false =>
          rw [hb] at h
          have h : Tr.getP (posF f (k / 2)) r = some x := h
          have hm : k % 2 = 1 := by
            have := hb
            rw [natBeq, decide_eq_false_iff_not] at this
            have h4 : ¬ k % 2 = 0 := this
            omega
          have h3 := ih r (i + 2 * m) (2 * m) (k / 2) acc (by omega) h
          refine behind (toL_mem l _ _ _ ?_)
          have e2 : i + m * (k + 1) = i + 2 * m + 2 * m * (k / 2) := by
            have : k = 2 * (k / 2) + 1 := by omega
            generalize k / 2 = j at this
            subst this
            rw [show 2 * j + 1 + 1 = 2 * (j + 1) by omega, ← Nat.mul_assoc, Nat.mul_comm m 2, Nat.mul_add (2 * m), Nat.mul_one, Nat.add_assoc, Nat.add_comm (2 * m * j)]
          rw [e2]
          exact h3
theorem toL_get {α : Type} {t : Tr α} {k : Nat} {x : α} (h : t.get k = some x) : (k, x) ∈ Tr.toL t (nat_lit 0) (nat_lit 1) [] := by
  have := toL_getF (k + 1) t 0 1 k [] (Nat.lt_succ_self k) h
  rw [Nat.one_mul, Nat.zero_add] at this
  exact this
section
variable {rg : List (Int × Int)} {r : Ren} {h : Tr AObj}
theorem chkH_inv : ∀ {l : List (Nat × AObj)} {m : Tr Bool}, chkH rg r h l m = true → (∀ x ∈ l, deadB x.2 = false → ∃ u, h.get (r.id x.1) = some u ∧ SubOV rg r x.2 u ∧ m.get (r.id x.1) = none) ∧ ∀ x ∈ l, ∀ y ∈ l, deadB x.2 = false → deadB y.2 = false → r.id x.1 = r.id y.1 → x = y
  | [], m, _ => ⟨fun x hx => (by cases hx), fun x hx => (by cases hx)⟩
  | z :: l, m, hc => by
    have hc : Bool.rec (motive := fun _ => Bool) (forceN (r.id z.1) fun j => Option.rec (motive := fun _ => Bool) false (fun u => subO rg r z.2 (fun o => AObj.beq o u) && (isN (m.get j) && chkH rg r h l (m.set j true))) (h.get j)) (chkH rg r h l m) (deadB z.2) = true := hc
    rw [frcN] at hc
    cases hd : deadB z.2 with
    | true =>
      rw [hd] at hc
      obtain ⟨h1, h2⟩ := chkH_inv (l := l) hc
      constructor
      · intro x hx hl
        rcases List.mem_cons.1 hx with rfl | hx
        · rw [hd] at hl; cases hl
        · exact h1 x hx hl
      · intro x hx y hy hl hl' he
        rcases List.mem_cons.1 hx with rfl | hx
        · rw [hd] at hl; cases hl
        · rcases List.mem_cons.1 hy with rfl | hy
          · rw [hd] at hl'; cases hl'
          · exact h2 x hx y hy hl hl' he
    | false =>
      rw [hd] at hc
      cases hg : h.get (r.id z.1) with
      | none => rw [hg] at hc; cases hc
      | some u =>
        rw [hg] at hc
        have hc : (subO rg r z.2 (fun o => AObj.beq o u) && (isN (m.get (r.id z.1)) && chkH rg r h l (m.set (r.id z.1) true))) = true := hc
        simp only [Bool.and_eq_true, isN_iff] at hc
        obtain ⟨c1, c2, c3⟩ := hc
        obtain ⟨o, s1, s2⟩ := subO_spec (rg := rg) (r := r) z.2 fun o => AObj.beq o u
        rw [s1] at c1
        have := AObj.beq_eq c1
        subst this
        obtain ⟨h1, h2⟩ := chkH_inv (l := l) c3
        have h3 : ∀ x ∈ l, deadB x.2 = false → r.id x.1 ≠ r.id z.1 ∧ m.get (r.id x.1) = none := by
          intro x hx hl
          obtain ⟨u, a1, a2, a3⟩ := h1 x hx hl
          rw [Tr.get_set] at a3
          split at a3
          · cases a3
          · rename_i hne
            exact ⟨hne, a3⟩
        constructor
        · intro x hx hl
          rcases List.mem_cons.1 hx with rfl | hx
          · exact ⟨o, hg, s2, c2⟩
          · obtain ⟨u, a1, a2, a3⟩ := h1 x hx hl
            exact ⟨u, a1, a2, (h3 x hx hl).2⟩
        · intro x hx y hy hl hl' he
          rcases List.mem_cons.1 hx with hx1 | hx1 <;> rcases List.mem_cons.1 hy with hy1 | hy1
          · rw [hx1, hy1]
          · exact absurd (by rw [← he, hx1]) (h3 y hy1 hl').1
          · exact absurd (by rw [he, hy1]) (h3 x hx1 hl).1
          · exact h2 x hx1 y hy1 hl hl' he
end

theorem frcT_eq {α : Type} : ∀ (t : Tr Nat) (κ : Tr Nat → α), frcT t κ = κ t := by
  intro t
  induction t with
  | nil => intro κ; rfl
  | node v l r ihl ihr =>
    intro κ
    cases v with
    | none =>
      show (frcT l fun l => frcT r fun r => κ (.node none l r)) = _
      rw [ihl, ihr]
    | some x =>
      show (forceN x fun x => frcT l fun l => frcT r fun r => κ (.node (some x) l r)) = _
      rw [frcN, ihl, ihr]
theorem frcS_eq {α : Type} : ∀ (e : SI) (κ : SI → α), frcS e κ = κ e := by
  intro e
  induction e with
  | lit n => intro κ; exact forceI_eq n fun n => κ (.lit n)
  | var i => intro κ; exact frcN (n := i) (f := fun i => κ (.var i))
  | bin op k a b iha ihb =>
    intro κ
    show (frcS a fun a => frcS b fun b => κ (.bin op k a b)) = _
    rw [iha, ihb]
  | conv k a ih => intro κ; exact ih _
  | fold a ih => intro κ; exact ih _
  | rs a p o n iho ihn =>
    intro κ
    show (frcS o fun o => frcS n fun n => κ (.rs a p o n)) = _
    rw [iho, ihn]
theorem frcU_eq {α : Type} : ∀ (t : Tr SI) (κ : Tr SI → α), frcU t κ = κ t := by
  intro t
  induction t with
  | nil => intro κ; rfl
  | node v l r ihl ihr =>
    intro κ
    cases v with
    | none =>
      show (frcU l fun l => frcU r fun r => κ (.node none l r)) = _
      rw [ihl, ihr]
    | some x =>
      show (frcS x fun x => frcU l fun l => frcU r fun r => κ (.node (some x) l r)) = _
      rw [frcS_eq, ihl, ihr]
end Go.Proofs.YtooebogidjejoaaGreat
