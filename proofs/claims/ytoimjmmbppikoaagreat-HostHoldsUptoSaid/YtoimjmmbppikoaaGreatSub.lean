/-
  A stage serves wherever its things can be found again: under other numbers, with other numbers in the place of its letters.
-/
import Derived.Test.YtoimjmmbppikoaaGreatCf
set_option linter.unusedVariables false
set_option linter.unusedSimpArgs false
namespace Go.Proofs.YtoimjmmbppikoaaGreat
open Go

noncomputable section
/-- how a stage's things, letters, rows are called where it is used; how many things there are here and there -/
structure Ren where
  ids : Tr Nat
  si : Tr SI
  rw : Tr Nat
  n0 : Nat
  m0 : Nat
def optD {α : Type} (d : α) (o : Option α) : α := Option.rec (motive := fun _ => α) d (fun x => x) o
def Ren.id (r : Ren) (i : Nat) : Nat := Bool.rec (motive := fun _ => Nat) (optD i (r.ids.get i)) (Nat.add r.m0 (Nat.sub i r.n0)) (Nat.ble r.n0 i)
def rowIn (b : Nat) : Bool := Nat.ble (nat_lit 32) b && Nat.blt b (nat_lit 64)
def Ren.row (r : Ren) (a : Nat) : Nat := Bool.rec (motive := fun _ => Nat) a (optD a (r.rw.get a)) (rowIn (optD a (r.rw.get a)))
/-- the letters of rows -/
def Ren.ix (r : Ren) (k : Nat) : Nat := if k < 32 then k else if k < 64 then r.row k else if 628 ≤ k ∧ k < 756 then 500 + 4 * r.row ((k - 500) / 4) + (k - 500) % 4 else if 1000 ≤ k ∧ 32 ≤ (k - 1000) % 64 then 1000 + 64 * ((k - 1000) / 64) + r.row ((k - 1000) % 64) else k
def Ren.rho (r : Ren) (ρ : Nat → Int) : Nat → Int := fun k => if k < 32 then (optD (.lit (.ofNat (nat_lit 0))) (r.si.get k)).ev ρ else ρ (r.ix k)
def Ren.var {α : Type} (r : Ren) (k : Nat) (κ : SI → α) : α := Bool.rec (motive := fun _ => α) (forceN (r.ix k) fun j => κ (.var j)) (κ (optD (.lit (.ofNat (nat_lit 0))) (r.si.get k))) (Nat.blt k (nat_lit 32))
section
variable {α : Type} (rg : List (Int × Int)) (r : Ren)
/-! put in -/
def subI (e : SI) : (SI → α) → α := SI.rec (motive := fun _ => (SI → α) → α) (fun n κ => κ (.lit n)) (fun i κ => r.var i κ) (fun op k _ _ iha ihb κ => iha fun a => ihb fun b => binK op k a b fun e => stripK rg e κ) (fun k _ ih κ => ih fun a => convK k a fun e => stripK rg e κ) (fun _ ih κ => ih fun a => κ (.fold a)) (fun a p _ _ iho ihn κ => forceN (r.row a) fun a => iho fun o => ihn fun n => κ (.rs a p o n)) e
def subB (c : SB) : (SB → α) → α := SB.rec (motive := fun _ => (SB → α) → α) (fun b κ => κ (.lit b)) (fun op a b κ => subI rg r a fun a => subI rg r b fun b => cmpK op a b κ) (fun _ ih κ => ih fun a => notK a κ) c
def subOI (o : Option SI) (κ : Option SI → α) : α := Option.rec (motive := fun _ => α) (κ none) (fun e => subI rg r e fun e => κ (some e)) o
def subN (i : Nat) (κ : Nat → α) : α := forceN (r.id i) κ
def subA (v : AV) : (AV → α) → α := AV.rec (motive_1 := fun _ => (AV → α) → α) (motive_2 := fun _ => (List AV → α) → α)
  (fun k e κ => subI rg r e fun e => κ (.int k e)) (fun b κ => subB rg r b fun b => κ (.bool b)) (fun i o κ => subN r i fun i => κ (.ptr i o))
  (fun i o l c κ => subN r i fun i => κ (.sl i o l c)) (fun i a b κ => subN r i fun i => κ (.emp i a b))
  (fun i κ => subN r i fun i => κ (.map i)) (fun f a b iha ihb κ => iha fun a => ihb fun b => κ (.fn f a b)) (fun t v ih κ => ih fun v => κ (.iface t v))
  (fun l ih κ => ih fun l => κ (.agg l)) (fun l ih κ => ih fun l => κ (.tup l)) (fun v κ => κ (.raw v)) (fun v κ => κ (.opq v)) (fun p k c κ => κ (.osl p k c))
  (fun f args rest _ _ _ κ => κ (.dfr f args rest)) (fun i a b κ => subN r i fun i => κ (.em0 i a b))
  (fun i o0 off len cap κ => subN r i fun i => subI rg r o0 fun o0 => subI rg r off fun off => subI rg r len fun len => subOI rg r cap fun cap => κ (.ssl i o0 off len cap)) (fun a o0 off len κ => forceN (r.row a) fun a => subI rg r o0 fun o0 => subI rg r off fun off => subI rg r len fun len => κ (.fsl a o0 off len))
  (fun κ => κ []) (fun v l ihv ihl κ => ihv fun v => ihl fun l => κ (v :: l)) v
def subL (l : List AV) : (List AV → α) → α := List.rec (motive := fun _ => (List AV → α) → α) (fun κ => κ []) (fun v _ ih κ => subA rg r v fun v => ih fun l => κ (v :: l)) l
def subOA (o : Option AV) (κ : Option AV → α) : α := Option.rec (motive := fun _ => α) (κ none) (fun v => subA rg r v fun v => κ (some v)) o
def subTr (t : Tr AV) : (Tr AV → α) → α := Tr.rec (motive := fun _ => (Tr AV → α) → α) (fun κ => κ .nil) (fun v _ _ ihl ihr κ => subOA rg r v fun v => ihl fun l => ihr fun m => κ (.node v l m)) t
def subE (l : List (AV × AV × Nat)) : (List (AV × AV × Nat) → α) → α := List.rec (motive := fun _ => (List (AV × AV × Nat) → α) → α) (fun κ => κ []) (fun e _ ih κ => subA rg r e.1 fun a => subA rg r e.2.1 fun b => ih fun l => κ ((a, b, e.2.2) :: l)) l
def subSL (l : List SI) : (List SI → α) → α := List.rec (motive := fun _ => (List SI → α) → α) (fun κ => κ []) (fun e _ ih κ => subI rg r e fun e => ih fun l => κ (e :: l)) l
def subCh (c : Ch) : (Ch → α) → α := Ch.rec (motive := fun _ => (Ch → α) → α) (fun l κ => subSL rg r l fun l => κ (.bs l)) (fun n v κ => subI rg r n fun n => subI rg r v fun v => κ (.fil n v)) (fun a o n κ => forceN (r.row a) fun a => subI rg r o fun o => subI rg r n fun n => κ (.row a o n)) c
def subCs (l : List Ch) : (List Ch → α) → α := List.rec (motive := fun _ => (List Ch → α) → α) (fun κ => κ []) (fun e _ ih κ => subCh rg r e fun e => ih fun l => κ (e :: l)) l
def subO (o : AObj) : (AObj → α) → α := AObj.rec (motive := fun _ => (AObj → α) → α) (fun n c d T row κ => subTr rg r c fun c => subOA rg r d fun d => κ (.cells n c d T row)) (fun es clk κ => subE rg r es fun es => κ (.map es clk)) (fun m s l y κ => κ (.iter m s l y)) (fun cs T row κ => subCs rg r cs fun cs => κ (.rope cs T row)) (fun κ => κ .dead) o
end
/-! what can be put in -/
def okI (e : SI) : Bool := SI.rec (motive := fun _ => Bool) (fun _ => true) (fun _ => true) (fun _ _ _ _ a b => a && b) (fun _ _ a => a) (fun _ a => a) (fun a _ _ _ o n => rowIn a && (o && n)) e
def okB (c : SB) : Bool := SB.rec (motive := fun _ => Bool) (fun _ => true) (fun _ a b => okI a && okI b) (fun _ a => a) c
/-- letters that no renaming touches -/
def hiL (k : Nat) : Bool := Nat.ble (nat_lit 64) k && Nat.blt k (nat_lit 600)
def okA (v : AV) : Bool := AV.rec (motive_1 := fun _ => Bool) (motive_2 := fun _ => Bool)
  (fun _ e => okI e) (fun b => okB b) (fun _ _ => true) (fun _ _ _ _ => true) (fun _ _ _ => true) (fun _ => true) (fun _ _ _ a b => a && b) (fun _ _ a => a) (fun _ a => a) (fun _ a => a) (fun _ => true) (fun _ => true) (fun p k c => hiL p && (hiL k && hiL c))
  (fun _ _ _ _ _ _ => false) (fun _ _ _ => true) (fun _ a b c d => okI a && (okI b && (okI c && optB okI d))) (fun a o0 off len => rowIn a && (okI o0 && (okI off && okI len))) true (fun _ _ a b => a && b) v
def okL (l : List AV) : Bool := List.rec (motive := fun _ => Bool) true (fun v _ ih => okA v && ih) l
def okE (l : List (AV × AV × Nat)) : Bool := List.rec (motive := fun _ => Bool) true (fun e _ ih => okA e.1 && (okA e.2.1 && ih)) l
def okCh (c : Ch) : Bool := Ch.rec (motive := fun _ => Bool) (fun l => l.all okI) (fun n v => okI n && okI v) (fun a o n => rowIn a && (okI o && okI n)) c
def okO (o : AObj) : Bool := AObj.rec (motive := fun _ => Bool) (fun _ c d _ _ => Tr.all okA c && optB okA d) (fun es _ => okE es) (fun _ _ _ _ => false) (fun cs _ _ => cs.all okCh) true o
end

/-! what it means -/
theorem optD_eq {α : Type} (d : α) (o : Option α) : optD d o = o.getD d := by cases o <;> rfl
theorem rowIn_iff {b : Nat} : rowIn b = true ↔ 32 ≤ b ∧ b < 64 := by
  unfold rowIn
  rw [Bool.and_eq_true, natBle, natBlt, decide_eq_true_eq, decide_eq_true_eq]
theorem Ren.row_in (r : Ren) {a : Nat} (h : 32 ≤ a ∧ a < 64) : 32 ≤ r.row a ∧ r.row a < 64 := by
  unfold Ren.row
  cases hb : rowIn (optD a (r.rw.get a)) with
  | false => exact h
  | true => exact rowIn_iff.1 hb
section
variable {r : Ren} {ρ : Nat → Int}
theorem Ren.rho_ge {k : Nat} (h : 32 ≤ k) : r.rho ρ k = ρ (r.ix k) := if_neg (by omega)
theorem Ren.rho_hi {k : Nat} (h : 64 ≤ k ∧ k < 628) : r.rho ρ k = ρ k := by
  rw [Ren.rho_ge (by omega)]
  unfold Ren.ix
  rw [if_neg (by omega), if_neg (by omega), if_neg (by omega), if_neg (by omega)]
theorem hiL_iff {k : Nat} : hiL k = true ↔ 64 ≤ k ∧ k < 600 := by
  unfold hiL
  rw [Bool.and_eq_true, natBle, natBlt, decide_eq_true_eq, decide_eq_true_eq]
theorem Ren.rho_row {a : Nat} (h : 32 ≤ a ∧ a < 64) : r.rho ρ a = ρ (r.row a) := by
  rw [Ren.rho_ge h.1]
  unfold Ren.ix
  rw [if_neg (by omega), if_pos h.2]
theorem Ren.rho_f {a q : Nat} (h : 32 ≤ a ∧ a < 64) (hq : q < 4) : r.rho ρ (500 + 4 * a + q) = ρ (500 + 4 * r.row a + q) := by
  rw [Ren.rho_ge (by omega)]
  unfold Ren.ix
  rw [if_neg (by omega), if_neg (by omega), if_pos (by omega), show (500 + 4 * a + q - 500) / 4 = a by omega, show (500 + 4 * a + q - 500) % 4 = q by omega]
theorem Ren.rho_byte {a i : Nat} (h : 32 ≤ a ∧ a < 64) : rowB (r.rho ρ) a i = rowB ρ (r.row a) i := by
  unfold rowB
  congr 1
  unfold rowIx
  rw [Ren.rho_ge (by omega)]
  unfold Ren.ix
  rw [if_neg (by omega), if_neg (by omega), if_neg (by omega), if_pos (by omega), show (1000 + 64 * i + a - 1000) / 64 = i by omega, show (1000 + 64 * i + a - 1000) % 64 = a by omega]
theorem Ren.rho_rs {a p o : Nat} (h : 32 ≤ a ∧ a < 64) : ∀ n, rsZ (r.rho ρ) a p o n = rsZ ρ (r.row a) p o n
  | 0 => rfl
  | n + 1 => by simp only [rsZ, Ren.rho_byte h, Ren.rho_rs h n]
theorem Ren.rho_fOff {a : Nat} (ha : 32 ≤ a ∧ a < 64) : r.rho ρ (fOff a) = ρ (fOff (r.row a)) := by have := r.rho_f (ρ := ρ) (q := 1) ha (by omega); unfold fOff; rw [show 501 + 4 * a = 500 + 4 * a + 1 by omega, show 501 + 4 * r.row a = 500 + 4 * r.row a + 1 by omega]; exact this
theorem Ren.rho_fCap {a : Nat} (ha : 32 ≤ a ∧ a < 64) : r.rho ρ (fCap a) = ρ (fCap (r.row a)) := by have := r.rho_f (ρ := ρ) (q := 2) ha (by omega); unfold fCap; rw [show 502 + 4 * a = 500 + 4 * a + 2 by omega, show 502 + 4 * r.row a = 500 + 4 * r.row a + 2 by omega]; exact this
theorem Ren.rho_fMark {a : Nat} (ha : 32 ≤ a ∧ a < 64) : r.rho ρ (fMark a) = ρ (fMark (r.row a)) := by have := r.rho_f (ρ := ρ) (q := 3) ha (by omega); unfold fMark; rw [show 503 + 4 * a = 500 + 4 * a + 3 by omega, show 503 + 4 * r.row a = 500 + 4 * r.row a + 3 by omega]; exact this
theorem Ren.rho_fo {w : World} (h : FoOk ρ w) : FoOk (r.rho ρ) w := by
  intro a h1 h2 h3
  have ha : 32 ≤ a ∧ a < 64 := ⟨h1, h2⟩
  have e0 := r.rho_row (ρ := ρ) ha
  have f0 : r.rho ρ (fBlk a) = ρ (fBlk (r.row a)) := r.rho_f (q := 0) ha (by omega)
  have f1 : r.rho ρ (fOff a) = ρ (fOff (r.row a)) := r.rho_fOff ha
  have f2 : r.rho ρ (fCap a) = ρ (fCap (r.row a)) := r.rho_fCap ha
  have f3 : r.rho ρ (fMark a) = ρ (fMark (r.row a)) := r.rho_fMark ha
  rw [f3] at h3
  have hb := r.row_in ha
  obtain ⟨h4, h5, h6⟩ := h (r.row a) hb.1 hb.2 h3
  rw [e0, f0, f1, f2]
  refine ⟨h4, h5, fun i hi => ?_⟩
  rw [Ren.rho_byte ha]
  exact h6 i hi
variable {α : Type} {rg : List (Int × Int)}
theorem Ren.var_spec (k : Nat) (κ : SI → α) : ∃ e, r.var k κ = κ e ∧ e.ev ρ = r.rho ρ k := by
  unfold Ren.var Ren.rho
  cases hb : Nat.blt k (nat_lit 32) with
  | true =>
    rw [natBlt, decide_eq_true_eq] at hb
    exact ⟨_, rfl, by rw [if_pos hb]⟩
  | false =>
    rw [natBlt, decide_eq_false_iff_not] at hb
    exact ⟨.var (r.ix k), by rw [show ∀ (n : Nat) (f : Nat → α), forceN n f = f n from fun n f => by cases n <;> rfl], by rw [if_neg hb]; rfl⟩
end
section
variable {α : Type} {rg : List (Int × Int)} {r : Ren}
theorem frcN {n : Nat} {f : Nat → α} : forceN n f = f n := by cases n <;> rfl
def SubSI (rg : List (Int × Int)) (r : Ren) (e u : SI) : Prop := okI e = true → ∀ ρ, RgOk ρ rg → u.ev ρ = e.ev (r.rho ρ)
theorem subI_spec (e : SI) : ∀ κ : SI → α, ∃ u, subI rg r e κ = κ u ∧ SubSI rg r e u := by
  induction e with
  | lit n => intro κ; exact ⟨_, rfl, fun _ _ _ => rfl⟩
  | var i =>
    intro κ
    show ∃ u, r.var i κ = κ u ∧ _
    unfold Ren.var
    cases hb : Nat.blt i (nat_lit 32) with
    | true =>
      rw [natBlt, decide_eq_true_eq] at hb
      refine ⟨_, rfl, fun _ ρ _ => ?_⟩
      show _ = r.rho ρ i
      unfold Ren.rho
      rw [if_pos hb]
    | false =>
      rw [natBlt, decide_eq_false_iff_not] at hb
      refine ⟨.var (r.ix i), frcN, fun _ ρ _ => ?_⟩
      show _ = r.rho ρ i
      rw [Ren.rho_ge (Nat.le_of_not_lt hb)]
      rfl
  | bin op k a b iha ihb =>
    intro κ
    obtain ⟨u, h1, h2⟩ := iha fun a => subI rg r b fun b => binK op k a b fun e => stripK rg e κ
    obtain ⟨v, h3, h4⟩ := ihb fun b => binK op k u b fun e => stripK rg e κ
    obtain ⟨e, h5, h6⟩ := binK_spec op k u v fun e => stripK rg e κ
    obtain ⟨e', h7, h8⟩ := stripK_eq (rg := rg) e κ
    refine ⟨e', ?_, fun hk ρ hρ => ?_⟩
    · rw [show subI rg r (.bin op k a b) κ = subI rg r a (fun a => subI rg r b fun b => binK op k a b fun e => stripK rg e κ) from rfl, h1, h3, h5, h7]
    · have hk : (okI a && okI b) = true := hk
      rw [Bool.and_eq_true] at hk
      rw [h8 ρ hρ, h6, h2 hk.1 ρ hρ, h4 hk.2 ρ hρ]
      rfl
  | conv k a ih =>
    intro κ
    obtain ⟨u, h1, h2⟩ := ih fun a => convK k a fun e => stripK rg e κ
    obtain ⟨e, h5, h6⟩ := convK_spec k u fun e => stripK rg e κ
    obtain ⟨e', h7, h8⟩ := stripK_eq (rg := rg) e κ
    refine ⟨e', ?_, fun hk ρ hρ => ?_⟩
    · rw [show subI rg r (.conv k a) κ = subI rg r a (fun a => convK k a fun e => stripK rg e κ) from rfl, h1, h5, h7]
    · rw [h8 ρ hρ, h6, h2 hk ρ hρ]
      rfl
  | fold a ih =>
    intro κ
    obtain ⟨u, h1, h2⟩ := ih fun a => κ (.fold a)
    refine ⟨_, h1, fun hk ρ hρ => ?_⟩
    show foldZ (u.ev ρ) = foldZ (a.ev (r.rho ρ))
    rw [h2 hk ρ hρ]
  | rs a p o n iho ihn =>
    intro κ
    obtain ⟨u, h1, h2⟩ := iho fun o => subI rg r n fun n => κ (.rs (r.row a) p o n)
    obtain ⟨v, h3, h4⟩ := ihn fun n => κ (.rs (r.row a) p u n)
    refine ⟨.rs (r.row a) p u v, ?_, fun hk ρ hρ => ?_⟩
    · rw [show subI rg r (.rs a p o n) κ = forceN (r.row a) (fun a => subI rg r o fun o => subI rg r n fun n => κ (.rs a p o n)) from rfl, frcN, h1, h3]
    · have hk : (rowIn a && (okI o && okI n)) = true := hk
      simp only [Bool.and_eq_true] at hk
      show rsZ ρ (r.row a) p (u.ev ρ).toNat (v.ev ρ).toNat = rsZ (r.rho ρ) a p (o.ev (r.rho ρ)).toNat (n.ev (r.rho ρ)).toNat
      rw [Ren.rho_rs (rowIn_iff.1 hk.1), h2 hk.2.1 ρ hρ, h4 hk.2.2 ρ hρ]
def SubSB (rg : List (Int × Int)) (r : Ren) (c u : SB) : Prop := okB c = true → ∀ ρ, RgOk ρ rg → u.ev ρ = c.ev (r.rho ρ)
theorem subB_spec (c : SB) : ∀ κ : SB → α, ∃ u, subB rg r c κ = κ u ∧ SubSB rg r c u := by
  induction c with
  | lit b => intro κ; exact ⟨_, rfl, fun _ _ _ => rfl⟩
  | cmp op a b =>
    intro κ
    obtain ⟨u, h1, h2⟩ := subI_spec (rg := rg) (r := r) a fun a => subI rg r b fun b => cmpK op a b κ
    obtain ⟨v, h3, h4⟩ := subI_spec (rg := rg) (r := r) b fun b => cmpK op u b κ
    obtain ⟨e, h5, h6⟩ := cmpK_spec op u v κ
    refine ⟨e, ?_, fun hk ρ hρ => ?_⟩
    · rw [show subB rg r (.cmp op a b) κ = subI rg r a (fun a => subI rg r b fun b => cmpK op a b κ) from rfl, h1, h3, h5]
    · have hk : (okI a && okI b) = true := hk
      rw [Bool.and_eq_true] at hk
      rw [h6, h2 hk.1 ρ hρ, h4 hk.2 ρ hρ]
      rfl
  | not a ih =>
    intro κ
    obtain ⟨u, h1, h2⟩ := ih fun a => notK a κ
    obtain ⟨e, h5, h6⟩ := notK_spec u κ
    refine ⟨e, ?_, fun hk ρ hρ => ?_⟩
    · rw [show subB rg r (.not a) κ = subB rg r a (fun a => notK a κ) from rfl, h1, h5]
    · rw [h6, h2 hk ρ hρ]
      rfl
/-- what stands for a value -/
def SubAV (rg : List (Int × Int)) (r : Ren) (v u : AV) : Prop := oneB u = oneB v ∧ ∀ (p : Nat → Bool) (ρ : Nat → Int) (φ φ' : List Pl), okA v = true → AV.idB p v = true → RgOk ρ rg → (∀ i, p i = true → φ'[i]? = φ[r.id i]?) → conc φ ρ u = conc φ' (r.rho ρ) v
def SubLV (rg : List (Int × Int)) (r : Ren) (l m : List AV) : Prop := ∀ (p : Nat → Bool) (ρ : Nat → Int) (φ φ' : List Pl), okL l = true → AV.idBL p l = true → RgOk ρ rg → (∀ i, p i = true → φ'[i]? = φ[r.id i]?) → concL φ ρ m = concL φ' (r.rho ρ) l
theorem subOI_spec (o : Option SI) (κ : Option SI → α) : ∃ u, subOI rg r o κ = κ u ∧ ((o = none ∧ u = none) ∨ ∃ x y, o = some x ∧ u = some y ∧ SubSI rg r x y) := by
  cases o with
  | none => exact ⟨none, rfl, .inl ⟨rfl, rfl⟩⟩
  | some e =>
    obtain ⟨u, h1, h2⟩ := subI_spec (rg := rg) (r := r) e fun e => κ (some e)
    exact ⟨some u, h1, .inr ⟨e, u, rfl, rfl, h2⟩⟩
theorem okL_agg (l : List AV) : okA (.agg l) = okL l := by
  show AV.rec_1 (motive_1 := fun _ => Bool) (motive_2 := fun _ => Bool) _ _ _ _ _ _ _ _ _ _ _ _ _ _ _ _ _ _ _ l = okL l
  induction l with
  | nil => rfl
  | cons v l ih =>
    show (okA v && _) = (okA v && okL l)
    rw [← ih]
noncomputable def subL1 (rg : List (Int × Int)) (r : Ren) (l : List AV) : (List AV → α) → α := AV.rec_1 (motive_1 := fun _ => (AV → α) → α) (motive_2 := fun _ => (List AV → α) → α)
  (fun k e κ => subI rg r e fun e => κ (.int k e)) (fun b κ => subB rg r b fun b => κ (.bool b)) (fun i o κ => subN r i fun i => κ (.ptr i o))
  (fun i o l c κ => subN r i fun i => κ (.sl i o l c)) (fun i a b κ => subN r i fun i => κ (.emp i a b))
  (fun i κ => subN r i fun i => κ (.map i)) (fun f a b iha ihb κ => iha fun a => ihb fun b => κ (.fn f a b)) (fun t v ih κ => ih fun v => κ (.iface t v))
  (fun l ih κ => ih fun l => κ (.agg l)) (fun l ih κ => ih fun l => κ (.tup l)) (fun v κ => κ (.raw v)) (fun v κ => κ (.opq v)) (fun p k c κ => κ (.osl p k c))
  (fun f args rest _ _ _ κ => κ (.dfr f args rest)) (fun i a b κ => subN r i fun i => κ (.em0 i a b))
  (fun i o0 off len cap κ => subN r i fun i => subI rg r o0 fun o0 => subI rg r off fun off => subI rg r len fun len => subOI rg r cap fun cap => κ (.ssl i o0 off len cap)) (fun a o0 off len κ => forceN (r.row a) fun a => subI rg r o0 fun o0 => subI rg r off fun off => subI rg r len fun len => κ (.fsl a o0 off len))
  (fun κ => κ []) (fun v l ihv ihl κ => ihv fun v => ihl fun l => κ (v :: l)) l
theorem subL1_eq (l : List AV) : ∀ κ : List AV → α, subL1 rg r l κ = subL rg r l κ := by
  induction l with
  | nil => intro κ; rfl
  | cons v l ih =>
    intro κ
    show subA rg r v (fun v => subL1 rg r l fun l => κ (v :: l)) = subA rg r v fun v => subL rg r l fun l => κ (v :: l)
    congr 1
    funext v
    exact ih _
theorem subL_agg (l : List AV) (κ : AV → α) : subA rg r (.agg l) κ = subL rg r l fun l => κ (.agg l) := subL1_eq l _
theorem subL_tup (l : List AV) (κ : AV → α) : subA rg r (.tup l) κ = subL rg r l fun l => κ (.tup l) := subL1_eq l _
theorem subL_fn (f : Fn) (a b : List AV) (κ : AV → α) : subA rg r (.fn f a b) κ = subL rg r a fun a => subL rg r b fun b => κ (.fn f a b) := by
  show (subL1 rg r a fun a => subL1 rg r b fun b => κ (.fn f a b)) = _
  rw [subL1_eq]
  congr 1
  funext a
  exact subL1_eq b _
theorem okL_tup (l : List AV) : okA (.tup l) = okL l := okL_agg l
theorem okL_fn (f : Fn) (a b : List AV) : okA (.fn f a b) = (okL a && okL b) := by
  rw [← okL_agg a, ← okL_agg b]
  rfl
theorem Ren.id_p {p : Nat → Bool} {φ φ' : List Pl} (h : ∀ i, p i = true → φ'[i]? = φ[r.id i]?) {i : Nat} (hi : p i = true) : φ[r.id i]? = φ'[i]? := (h i hi).symm
mutual
theorem subA_spec : ∀ (v : AV) (κ : AV → α), ∃ u, subA rg r v κ = κ u ∧ SubAV rg r v u
  | .int k e, κ => by
    obtain ⟨u, h1, h2⟩ := subI_spec (rg := rg) (r := r) e fun e => κ (.int k e)
    exact ⟨_, h1, rfl, fun p ρ φ φ' ho hi hρ hφ => by simp only [conc, h2 ho ρ hρ]⟩
  | .bool b, κ => by
    obtain ⟨u, h1, h2⟩ := subB_spec (rg := rg) (r := r) b fun e => κ (.bool e)
    exact ⟨_, h1, rfl, fun p ρ φ φ' ho hi hρ hφ => by simp only [conc, h2 ho ρ hρ]⟩
  | .ptr i o, κ => ⟨.ptr (r.id i) o, frcN (n := r.id i) (f := fun i => κ (.ptr i o)), rfl, fun p ρ φ φ' ho hi hρ hφ => by simp only [AV.idB] at hi; simp only [conc, hφ i hi]⟩
  | .sl i o l c, κ => ⟨.sl (r.id i) o l c, frcN (n := r.id i) (f := fun i => κ (.sl i o l c)), rfl, fun p ρ φ φ' ho hi hρ hφ => by simp only [AV.idB] at hi; simp only [conc, hφ i hi]⟩
  | .emp i a b, κ => ⟨.emp (r.id i) a b, frcN (n := r.id i) (f := fun i => κ (.emp i a b)), rfl, fun p ρ φ φ' ho hi hρ hφ => by simp only [AV.idB] at hi; simp only [conc, hφ i hi]⟩
  | .em0 i a b, κ => ⟨.em0 (r.id i) a b, frcN (n := r.id i) (f := fun i => κ (.em0 i a b)), rfl, fun p ρ φ φ' ho hi hρ hφ => by simp only [AV.idB] at hi; simp only [conc, hφ i hi]⟩
  | .map i, κ => ⟨.map (r.id i), frcN (n := r.id i) (f := fun i => κ (.map i)), rfl, fun p ρ φ φ' ho hi hρ hφ => by simp only [AV.idB] at hi; simp only [conc, hφ i hi]⟩
  | .fn f a b, κ => by
    obtain ⟨u, h1, h2⟩ := subL_spec a fun a => subL rg r b fun b => κ (.fn f a b)
    obtain ⟨v, h3, h4⟩ := subL_spec b fun b => κ (.fn f u b)
    refine ⟨.fn f u v, by rw [subL_fn, h1, h3], rfl, fun p ρ φ φ' ho hi hρ hφ => ?_⟩
    rw [okL_fn, Bool.and_eq_true] at ho
    simp only [AV.idB, Bool.and_eq_true] at hi
    simp only [conc, h2 p ρ φ φ' ho.1 hi.1 hρ hφ, h4 p ρ φ φ' ho.2 hi.2 hρ hφ]
  | .iface t v, κ => by
    obtain ⟨u, h1, h0, h2⟩ := subA_spec v fun v => κ (.iface t v)
    refine ⟨_, h1, rfl, fun p ρ φ φ' ho hi hρ hφ => ?_⟩
    simp only [AV.idB] at hi
    simp only [conc, h2 p ρ φ φ' ho hi hρ hφ]
  | .agg l, κ => by
    obtain ⟨u, h1, h2⟩ := subL_spec l fun l => κ (.agg l)
    refine ⟨.agg u, by rw [subL_agg, h1], rfl, fun p ρ φ φ' ho hi hρ hφ => ?_⟩
    rw [okL_agg] at ho
    simp only [AV.idB] at hi
    simp only [conc, h2 p ρ φ φ' ho hi hρ hφ]
  | .tup l, κ => by
    obtain ⟨u, h1, h2⟩ := subL_spec l fun l => κ (.tup l)
    refine ⟨.tup u, by rw [subL_tup, h1], rfl, fun p ρ φ φ' ho hi hρ hφ => ?_⟩
    rw [okL_tup] at ho
    simp only [AV.idB] at hi
    simp only [conc, h2 p ρ φ φ' ho hi hρ hφ]
  | .raw v, κ => ⟨.raw v, rfl, rfl, fun p ρ φ φ' ho hi hρ hφ => by simp only [conc]⟩
  | .opq v, κ => ⟨.opq v, rfl, rfl, fun p ρ φ φ' ho hi hρ hφ => by simp only [conc]⟩
  | .osl p k c, κ => ⟨.osl p k c, rfl, rfl, fun _ ρ φ φ' ho hi hρ hφ => by
    have ho : (hiL p && (hiL k && hiL c)) = true := ho
    simp only [Bool.and_eq_true, hiL_iff] at ho
    simp only [conc, adrL, Ren.rho_hi (r := r) (ρ := ρ) (k := p) ⟨ho.1.1, by omega⟩, Ren.rho_hi (r := r) (ρ := ρ) (k := p + 1) ⟨by omega, by omega⟩, Ren.rho_hi (r := r) (ρ := ρ) (k := p + 2) ⟨by omega, by omega⟩, Ren.rho_hi (r := r) (ρ := ρ) (k := k) ⟨ho.2.1.1, by omega⟩, Ren.rho_hi (r := r) (ρ := ρ) (k := c) ⟨ho.2.2.1, by omega⟩]⟩
  | .dfr f l t, κ => ⟨.dfr f l t, rfl, rfl, fun _ _ _ _ ho => by cases ho⟩
  | .ssl i a b c d, κ => by
    obtain ⟨u, h1, g1⟩ := subI_spec (rg := rg) (r := r) a fun a => subI rg r b fun b => subI rg r c fun c => subOI rg r d fun d => κ (.ssl (r.id i) a b c d)
    obtain ⟨v, h2, g2⟩ := subI_spec (rg := rg) (r := r) b fun b => subI rg r c fun c => subOI rg r d fun d => κ (.ssl (r.id i) u b c d)
    obtain ⟨x, h3, g3⟩ := subI_spec (rg := rg) (r := r) c fun c => subOI rg r d fun d => κ (.ssl (r.id i) u v c d)
    obtain ⟨y, h4, g4⟩ := subOI_spec (rg := rg) (r := r) d fun d => κ (.ssl (r.id i) u v x d)
    refine ⟨.ssl (r.id i) u v x y, ?_, rfl, fun p ρ φ φ' ho hi hρ hφ => ?_⟩
    · rw [show subA rg r (.ssl i a b c d) κ = forceN (r.id i) (fun i => subI rg r a fun a => subI rg r b fun b => subI rg r c fun c => subOI rg r d fun d => κ (.ssl i a b c d)) from rfl, frcN, h1, h2, h3, h4]
    · have ho : (okI a && (okI b && (okI c && optB okI d))) = true := ho
      simp only [Bool.and_eq_true] at ho
      simp only [AV.idB] at hi
      rcases g4 with ⟨rfl, rfl⟩ | ⟨e, e', rfl, rfl, g4⟩
      · simp only [conc, hφ i hi, g1 ho.1 ρ hρ, g2 ho.2.1 ρ hρ, g3 ho.2.2.1 ρ hρ]
      · simp only [conc, hφ i hi, g1 ho.1 ρ hρ, g2 ho.2.1 ρ hρ, g3 ho.2.2.1 ρ hρ, g4 ho.2.2.2 ρ hρ]
  | .fsl a o0 off len, κ => by
    obtain ⟨u, h1, g1⟩ := subI_spec (rg := rg) (r := r) o0 fun o0 => subI rg r off fun off => subI rg r len fun len => κ (.fsl (r.row a) o0 off len)
    obtain ⟨v, h2, g2⟩ := subI_spec (rg := rg) (r := r) off fun off => subI rg r len fun len => κ (.fsl (r.row a) u off len)
    obtain ⟨x, h3, g3⟩ := subI_spec (rg := rg) (r := r) len fun len => κ (.fsl (r.row a) u v len)
    refine ⟨.fsl (r.row a) u v x, ?_, rfl, fun p ρ φ φ' ho hi hρ hφ => ?_⟩
    · rw [show subA rg r (.fsl a o0 off len) κ = forceN (r.row a) (fun a => subI rg r o0 fun o0 => subI rg r off fun off => subI rg r len fun len => κ (.fsl a o0 off len)) from rfl, frcN, h1, h2, h3]
    · have ho : (rowIn a && (okI o0 && (okI off && okI len))) = true := ho
      simp only [Bool.and_eq_true] at ho
      have ha := rowIn_iff.1 ho.1
      have e0 := r.rho_row (ρ := ρ) ha
      have f0 : r.rho ρ (fBlk a) = ρ (fBlk (r.row a)) := r.rho_f (q := 0) ha (by omega)
      have f1 : r.rho ρ (fOff a) = ρ (fOff (r.row a)) := r.rho_fOff ha
      have f2 : r.rho ρ (fCap a) = ρ (fCap (r.row a)) := r.rho_fCap ha
      have f3 : r.rho ρ (fMark a) = ρ (fMark (r.row a)) := r.rho_fMark ha
      simp only [conc, e0, f0, f1, f2, f3, g1 ho.2.1 ρ hρ, g2 ho.2.2.1 ρ hρ, g3 ho.2.2.2 ρ hρ]
theorem subL_spec : ∀ (l : List AV) (κ : List AV → α), ∃ m, subL rg r l κ = κ m ∧ SubLV rg r l m
  | [], κ => ⟨[], rfl, fun _ _ _ _ _ _ _ _ => rfl⟩
  | v :: l, κ => by
    obtain ⟨u, h1, h0, h2⟩ := subA_spec v fun v => subL rg r l fun l => κ (v :: l)
    obtain ⟨m, h3, h4⟩ := subL_spec l fun l => κ (u :: l)
    refine ⟨u :: m, by rw [show subL rg r (v :: l) κ = subA rg r v (fun v => subL rg r l fun l => κ (v :: l)) from rfl, h1, h3], fun p ρ φ φ' ho hi hρ hφ => ?_⟩
    have ho : (okA v && okL l) = true := ho
    rw [Bool.and_eq_true] at ho
    simp only [AV.idBL, Bool.and_eq_true] at hi
    simp only [concL, h2 p ρ φ φ' ho.1 hi.1 hρ hφ, h4 p ρ φ φ' ho.2 hi.2 hρ hφ]
end
/-! things -/
def RelT (rg : List (Int × Int)) (r : Ren) (c c' : Tr AV) : Prop := ∀ q : Pos, (Tr.getP q c = none ∧ Tr.getP q c' = none) ∨ ∃ v u, Tr.getP q c = some v ∧ Tr.getP q c' = some u ∧ SubAV rg r v u
def RelOA (rg : List (Int × Int)) (r : Ren) (d d' : Option AV) : Prop := (d = none ∧ d' = none) ∨ ∃ v u, d = some v ∧ d' = some u ∧ SubAV rg r v u
theorem subOA_spec (o : Option AV) (κ : Option AV → α) : ∃ u, subOA rg r o κ = κ u ∧ RelOA rg r o u := by
  cases o with
  | none => exact ⟨none, rfl, .inl ⟨rfl, rfl⟩⟩
  | some v =>
    obtain ⟨u, h1, h2⟩ := subA_spec (rg := rg) (r := r) v fun v => κ (some v)
    exact ⟨some u, h1, .inr ⟨v, u, rfl, rfl, h2⟩⟩
theorem subTr_spec (t : Tr AV) : ∀ κ : Tr AV → α, ∃ u, subTr rg r t κ = κ u ∧ RelT rg r t u := by
  induction t with
  | nil => intro κ; exact ⟨.nil, rfl, fun q => .inl ⟨Tr.getP_nil q, Tr.getP_nil q⟩⟩
  | node v l m ihl ihm =>
    intro κ
    obtain ⟨v', h1, g1⟩ := subOA_spec (rg := rg) (r := r) v fun v => subTr rg r l fun l => subTr rg r m fun m => κ (.node v l m)
    obtain ⟨l', h2, g2⟩ := ihl fun l => subTr rg r m fun m => κ (.node v' l m)
    obtain ⟨m', h3, g3⟩ := ihm fun m => κ (.node v' l' m)
    refine ⟨.node v' l' m', ?_, fun q => ?_⟩
    · rw [show subTr rg r (.node v l m) κ = subOA rg r v (fun v => subTr rg r l fun l => subTr rg r m fun m => κ (.node v l m)) from rfl, h1, h2, h3]
    · cases q with
      | here => exact g1
      | left q => exact g2 q
      | right q => exact g3 q
def RelE (rg : List (Int × Int)) (r : Ren) : List (AV × AV × Nat) → List (AV × AV × Nat) → Prop
  | [], [] => True
  | e :: l, e' :: l' => e'.2.2 = e.2.2 ∧ SubAV rg r e.1 e'.1 ∧ SubAV rg r e.2.1 e'.2.1 ∧ RelE rg r l l'
  | _, _ => False
theorem subE_spec : ∀ (l : List (AV × AV × Nat)) (κ : List (AV × AV × Nat) → α), ∃ u, subE rg r l κ = κ u ∧ RelE rg r l u
  | [], κ => ⟨[], rfl, trivial⟩
  | e :: l, κ => by
    obtain ⟨a, h1, g1⟩ := subA_spec (rg := rg) (r := r) e.1 fun a => subA rg r e.2.1 fun b => subE rg r l fun l => κ ((a, b, e.2.2) :: l)
    obtain ⟨b, h2, g2⟩ := subA_spec (rg := rg) (r := r) e.2.1 fun b => subE rg r l fun l => κ ((a, b, e.2.2) :: l)
    obtain ⟨m, h3, g3⟩ := subE_spec l fun l => κ ((a, b, e.2.2) :: l)
    exact ⟨(a, b, e.2.2) :: m, by rw [show subE rg r (e :: l) κ = subA rg r e.1 (fun a => subA rg r e.2.1 fun b => subE rg r l fun l => κ ((a, b, e.2.2) :: l)) from rfl, h1, h2, h3], rfl, g1, g2, g3⟩
theorem subSL_spec : ∀ (l : List SI) (κ : List SI → α), ∃ u, subSL rg r l κ = κ u ∧ (l.all okI = true → ∀ ρ, RgOk ρ rg → u.map (SI.ev ρ) = l.map (SI.ev (r.rho ρ)))
  | [], κ => ⟨[], rfl, fun _ _ _ => rfl⟩
  | e :: l, κ => by
    obtain ⟨a, h1, g1⟩ := subI_spec (rg := rg) (r := r) e fun a => subSL rg r l fun l => κ (a :: l)
    obtain ⟨m, h3, g3⟩ := subSL_spec l fun l => κ (a :: l)
    refine ⟨a :: m, by rw [show subSL rg r (e :: l) κ = subI rg r e (fun a => subSL rg r l fun l => κ (a :: l)) from rfl, h1, h3], fun ho ρ hρ => ?_⟩
    simp only [List.all_cons, Bool.and_eq_true] at ho
    rw [List.map_cons, List.map_cons, g1 ho.1 ρ hρ, g3 ho.2 ρ hρ]
theorem subCh_spec (c : Ch) (κ : Ch → α) : ∃ u, subCh rg r c κ = κ u ∧ (okCh c = true → ∀ ρ, RgOk ρ rg → u.zs ρ = c.zs (r.rho ρ)) := by
  cases c with
  | bs l =>
    obtain ⟨m, h1, g1⟩ := subSL_spec (rg := rg) (r := r) l fun l => κ (.bs l)
    exact ⟨_, h1, fun ho ρ hρ => g1 ho ρ hρ⟩
  | fil n v =>
    obtain ⟨a, h1, g1⟩ := subI_spec (rg := rg) (r := r) n fun n => subI rg r v fun v => κ (.fil n v)
    obtain ⟨b, h2, g2⟩ := subI_spec (rg := rg) (r := r) v fun v => κ (.fil a v)
    refine ⟨.fil a b, by rw [show subCh rg r (.fil n v) κ = subI rg r n (fun n => subI rg r v fun v => κ (.fil n v)) from rfl, h1, h2], fun ho ρ hρ => ?_⟩
    have ho : (okI n && okI v) = true := ho
    rw [Bool.and_eq_true] at ho
    simp only [Ch.zs, g1 ho.1 ρ hρ, g2 ho.2 ρ hρ]
  | row a o n =>
    obtain ⟨u, h1, g1⟩ := subI_spec (rg := rg) (r := r) o fun o => subI rg r n fun n => κ (.row (r.row a) o n)
    obtain ⟨b, h2, g2⟩ := subI_spec (rg := rg) (r := r) n fun n => κ (.row (r.row a) u n)
    refine ⟨.row (r.row a) u b, by rw [show subCh rg r (.row a o n) κ = forceN (r.row a) (fun a => subI rg r o fun o => subI rg r n fun n => κ (.row a o n)) from rfl, frcN, h1, h2], fun ho ρ hρ => ?_⟩
    have ho : (rowIn a && (okI o && okI n)) = true := ho
    simp only [Bool.and_eq_true] at ho
    simp only [Ch.zs, g1 ho.2.1 ρ hρ, g2 ho.2.2 ρ hρ, Ren.rho_byte (rowIn_iff.1 ho.1)]
theorem subCs_spec : ∀ (l : List Ch) (κ : List Ch → α), ∃ u, subCs rg r l κ = κ u ∧ (l.all okCh = true → ∀ ρ, RgOk ρ rg → ropeZ ρ u = ropeZ (r.rho ρ) l)
  | [], κ => ⟨[], rfl, fun _ _ _ => rfl⟩
  | e :: l, κ => by
    obtain ⟨a, h1, g1⟩ := subCh_spec (rg := rg) (r := r) e fun a => subCs rg r l fun l => κ (a :: l)
    obtain ⟨m, h3, g3⟩ := subCs_spec l fun l => κ (a :: l)
    refine ⟨a :: m, by rw [show subCs rg r (e :: l) κ = subCh rg r e (fun a => subCs rg r l fun l => κ (a :: l)) from rfl, h1, h3], fun ho ρ hρ => ?_⟩
    simp only [List.all_cons, Bool.and_eq_true] at ho
    have h := g3 ho.2 ρ hρ
    simp only [ropeZ, List.flatMap_cons] at h ⊢
    rw [g1 ho.1 ρ hρ, h]
/-- what stands for a thing -/
def SubOV (rg : List (Int × Int)) (r : Ren) : AObj → AObj → Prop
  | .cells n c d T row, .cells n' c' d' T' row' => n' = n ∧ T' = T ∧ row' = row ∧ RelT rg r c c' ∧ RelOA rg r d d'
  | .map es k, .map es' k' => k' = k ∧ RelE rg r es es'
  | .rope cs T row, .rope cs' T' row' => T' = T ∧ row' = row ∧ (cs.all okCh = true → ∀ ρ, RgOk ρ rg → ropeZ ρ cs' = ropeZ (r.rho ρ) cs)
  | .iter a b c d, .iter a' b' c' d' => True
  | .dead, .dead => True
  | _, _ => False
theorem subO_spec (o : AObj) (κ : AObj → α) : ∃ u, subO rg r o κ = κ u ∧ SubOV rg r o u := by
  cases o with
  | cells n c d T row =>
    obtain ⟨c', h1, g1⟩ := subTr_spec (rg := rg) (r := r) c fun c => subOA rg r d fun d => κ (.cells n c d T row)
    obtain ⟨d', h2, g2⟩ := subOA_spec (rg := rg) (r := r) d fun d => κ (.cells n c' d T row)
    exact ⟨.cells n c' d' T row, by rw [show subO rg r (.cells n c d T row) κ = subTr rg r c (fun c => subOA rg r d fun d => κ (.cells n c d T row)) from rfl, h1, h2], rfl, rfl, rfl, g1, g2⟩
  | map es clk =>
    obtain ⟨c', h1, g1⟩ := subE_spec (rg := rg) (r := r) es fun c => κ (.map c clk)
    exact ⟨.map c' clk, h1, rfl, g1⟩
  | iter m s l y => exact ⟨_, rfl, trivial⟩
  | rope cs T row =>
    obtain ⟨c', h1, g1⟩ := subCs_spec (rg := rg) (r := r) cs fun c => κ (.rope c T row)
    exact ⟨.rope c' T row, h1, rfl, rfl, g1⟩
  | dead => exact ⟨.dead, rfl, trivial⟩
theorem SubOV.live {o u : AObj} (h : SubOV rg r o u) : live u = live o := by
  cases o <;> cases u <;> first | rfl | exact False.elim h
theorem celA_rel {c c' : Tr AV} {d d' : Option AV} (h1 : RelT rg r c c') (h2 : RelOA rg r d d') (i : Nat) : (celA c d i = none ∧ celA c' d' i = none) ∨ ∃ v u, celA c d i = some v ∧ celA c' d' i = some u ∧ SubAV rg r v u := by
  unfold celA
  rcases h1 (posOf i) with ⟨a1, a2⟩ | ⟨v, u, a1, a2, a3⟩
  · rw [show c.get i = none from a1, show c'.get i = none from a2]
    exact h2
  · rw [show c.get i = some v from a1, show c'.get i = some u from a2]
    exact .inr ⟨v, u, rfl, rfl, a3⟩
theorem celA_ok {p : AV → Bool} {c : Tr AV} {d : Option AV} (h : (Tr.all p c && optB p d) = true) {i : Nat} {v : AV} (hv : celA c d i = some v) : p v = true := by
  rw [Bool.and_eq_true] at h
  unfold celA at hv
  split at hv
  · rename_i x hx
    cases hv
    exact Tr.all_get h.1 hx
  · have := h.2
    rw [hv] at this
    exact this
theorem EntOk.sub {φ φ' : List Pl} {ρ : Nat → Int} {p : Nat → Bool} (hρ : RgOk ρ rg) (hφ : ∀ i, p i = true → φ'[i]? = φ[r.id i]?) : ∀ {es es' : List (AV × AV × Nat)} {ms : List MapEntry}, okE es = true → entId p es = true → RelE rg r es es' → (EntOk φ ρ es' ms ↔ EntOk φ' (r.rho ρ) es ms)
  | [], es', ms, _, _, hr => by
    cases es' with
    | nil => exact ⟨fun h => by cases h; exact .nil, fun h => by cases h; exact .nil⟩
    | cons _ _ => cases hr
  | (a, b, n) :: es, es', ms, ho, hi, hr => by
    cases es' with
    | nil => cases hr
    | cons e' es' =>
      obtain ⟨a', b', n'⟩ := e'
      obtain ⟨r1, r2, r3, r4⟩ := hr
      have r1 : n' = n := r1
      subst r1
      have ho : (okA a && (okA b && okE es)) = true := ho
      have hi : ((AV.idB p a && AV.idB p b) && es.all (fun e => AV.idB p e.1 && AV.idB p e.2.1)) = true := hi
      simp only [Bool.and_eq_true] at ho hi
      have e1 := r2.2 p ρ φ φ' ho.1 hi.1.1 hρ hφ
      have e2 := r3.2 p ρ φ φ' ho.2.1 hi.1.2 hρ hφ
      constructor
      · intro h
        cases h with
        | cons hk hv hrest => exact .cons (by rw [← e1]; exact hk) (by rw [← e2]; exact hv) ((EntOk.sub hρ hφ ho.2.2 (show entId p es = true from hi.2) r4).1 hrest)
      · intro h
        cases h with
        | cons hk hv hrest => exact .cons (by rw [e1]; exact hk) (by rw [e2]; exact hv) ((EntOk.sub hρ hφ ho.2.2 (show entId p es = true from hi.2) r4).2 hrest)
/-- a thing here is the stage's thing there -/
theorem ObjOk.sub {P : Program} {w : World} {φ φ' : List Pl} {ρ : Nat → Int} {p : Nat → Bool} (hρ : RgOk ρ rg) (hφ : ∀ i, p i = true → φ'[i]? = φ[r.id i]?) {i j : Nat} (hij : φ'[i]? = φ[j]?) {o u : AObj} (ho : okO o = true) (hi : AObj.idB p o = true) (hr : SubOV rg r o u) : ObjOk P φ ρ w j u ↔ ObjOk P φ' (r.rho ρ) w i o := by
  cases o with
  | cells n c d T row =>
    cases u <;> first | exact False.elim hr | skip
    rename_i n' c' d' T' row'
    obtain ⟨rfl, rfl, rfl, h1, h2⟩ := hr
    have ho : (Tr.all okA c && optB okA d) = true := ho
    have hi : (Tr.all (AV.idB p) c && optB (AV.idB p) d) = true := hi
    constructor
    · rintro ⟨q, arr, fz, a1, a2⟩
      refine ⟨q, arr, fz, by rw [hij]; exact a1, a2.blk, a2.size, a2.le, a2.fix, a2.es, a2.fr, fun k hk => ?_⟩
      obtain ⟨v, x, b1, b2, b3, b4⟩ := a2.cell k hk
      rcases celA_rel h1 h2 k with ⟨_, c2⟩ | ⟨y, z, c1, c2, c3⟩
      · rw [b1] at c2; cases c2
      · rw [b1] at c2; cases c2
        exact ⟨y, x, c1, by rw [← c3.2 p ρ φ φ' (celA_ok ho c1) (celA_ok hi c1) hρ hφ]; exact b2, b3, by rw [← c3.1]; exact b4⟩
    · rintro ⟨q, arr, fz, a1, a2⟩
      refine ⟨q, arr, fz, by rw [← hij]; exact a1, a2.blk, a2.size, a2.le, a2.fix, a2.es, a2.fr, fun k hk => ?_⟩
      obtain ⟨v, x, b1, b2, b3, b4⟩ := a2.cell k hk
      rcases celA_rel h1 h2 k with ⟨c1, _⟩ | ⟨y, z, c1, c2, c3⟩
      · rw [b1] at c1; cases c1
      · rw [b1] at c1; cases c1
        exact ⟨z, x, c2, by rw [c3.2 p ρ φ φ' (celA_ok ho b1) (celA_ok hi b1) hρ hφ]; exact b2, b3, by rw [c3.1]; exact b4⟩
  | map es clk =>
    cases u <;> first | exact False.elim hr | skip
    obtain ⟨rfl, h1⟩ := hr
    constructor
    · rintro ⟨q, xs, a1, a2, a3⟩
      exact ⟨q, xs, by rw [hij]; exact a1, a2, (EntOk.sub hρ hφ ho hi h1).1 a3⟩
    · rintro ⟨q, xs, a1, a2, a3⟩
      exact ⟨q, xs, by rw [← hij]; exact a1, a2, (EntOk.sub hρ hφ ho hi h1).2 a3⟩
  | iter _ _ _ _ => cases ho
  | rope cs T row =>
    cases u <;> first | exact False.elim hr | skip
    obtain ⟨rfl, rfl, h1⟩ := hr
    have hz := h1 ho ρ hρ
    constructor
    · rintro ⟨q, arr, fz, a1, a2⟩
      exact ⟨q, arr, fz, by rw [hij]; exact a1, ⟨a2.blk, a2.size, by rw [← hz]; exact a2.le, by rw [← hz]; exact a2.fix, a2.es, a2.e1, a2.fr, by rw [← hz]; exact a2.cell⟩⟩
    · rintro ⟨q, arr, fz, a1, a2⟩
      exact ⟨q, arr, fz, by rw [← hij]; exact a1, ⟨a2.blk, a2.size, by rw [hz]; exact a2.le, by rw [hz]; exact a2.fix, a2.es, a2.e1, a2.fr, by rw [hz]; exact a2.cell⟩⟩
  | dead =>
    cases u <;> first | exact False.elim hr | skip
    constructor
    · rintro ⟨q, a1⟩
      exact ⟨q, by rw [hij]; exact a1⟩
    · rintro ⟨q, a1⟩
      exact ⟨q, by rw [← hij]; exact a1⟩
end

noncomputable section
/-! finding the stage's things again -/
def bndN (i j : Nat) (r : Ren) : Ren := Bool.rec (motive := fun _ => Ren) (Option.rec (motive := fun _ => Ren) ⟨r.ids.set i j, r.si, r.rw, r.n0, r.m0⟩ (fun _ => r) (r.ids.get i)) r (Nat.ble r.n0 i)
def bndR (a b : Nat) (r : Ren) : Ren := Option.rec (motive := fun _ => Ren) ⟨r.ids, r.si, r.rw.set a b, r.n0, r.m0⟩ (fun _ => r) (r.rw.get a)
def bndI : SI → SI → Ren → Ren
  | .var n, u, r => Bool.rec (motive := fun _ => Ren) (match u with
    | .var m => Bool.rec (motive := fun _ => Ren) r (bndR n m r) (rowIn n && rowIn m)
    | _ => r) (Option.rec (motive := fun _ => Ren) ⟨r.ids, r.si.set n u, r.rw, r.n0, r.m0⟩ (fun _ => r) (r.si.get n)) (Nat.blt n (nat_lit 32))
  | .conv _ e, .conv _ u, r => bndI e u r
  | _, _, r => r
def bndO (d d' : Option SI) (r : Ren) : Ren := match d, d' with
  | some e, some u => bndI e u r
  | _, _ => r
mutual
def bndA : AV → AV → Ren → Ren
  | .int _ e, .int _ u, r => bndI e u r
  | .ptr i _, .ptr j _, r => bndN i j r
  | .sl i _ _ _, .sl j _ _ _, r => bndN i j r
  | .emp i _ _, .emp j _ _, r => bndN i j r
  | .em0 i _ _, .em0 j _ _, r => bndN i j r
  | .map i, .map j, r => bndN i j r
  | .fn _ a b, .fn _ c d, r => bndL b d (bndL a c r)
  | .iface _ v, .iface _ u, r => bndA v u r
  | .agg l, .agg m, r => bndL l m r
  | .tup l, .tup m, r => bndL l m r
  | .ssl i a b c d, .ssl j a' b' c' d', r => bndO d d' (bndI c c' (bndI b b' (bndI a a' (bndN i j r))))
  | .fsl a x y z, .fsl b x' y' z', r => bndI z z' (bndI y y' (bndI x x' (bndR a b r)))
  | _, _, r => r
def bndL : List AV → List AV → Ren → Ren
  | a :: l, b :: m, r => bndL l m (bndA a b r)
  | _, _, r => r
end
def bndOA (a b : Option AV) (r : Ren) : Ren := match a, b with
  | some v, some u => bndA v u r
  | _, _ => r
def bndT : Tr AV → Tr AV → Ren → Ren
  | .node v l m, .node v' l' m', r => bndT m m' (bndT l l' (bndOA v v' r))
  | _, _, r => r
def bndE : List (AV × AV × Nat) → List (AV × AV × Nat) → Ren → Ren
  | a :: l, b :: m, r => bndE l m (bndA a.2.1 b.2.1 (bndA a.1 b.1 r))
  | _, _, r => r
def bndSL : List SI → List SI → Ren → Ren
  | a :: l, b :: m, r => bndSL l m (bndI a b r)
  | _, _, r => r
def bndCs : List Ch → List Ch → Ren → Ren
  | .bs a :: l, .bs b :: m, r => bndCs l m (bndSL a b r)
  | .fil n v :: l, .fil n' v' :: m, r => bndCs l m (bndI v v' (bndI n n' r))
  | .row a o n :: l, .row b o' n' :: m, r => bndCs l m (bndI n n' (bndI o o' (bndR a b r)))
  | _, _, r => r
def bndOb (o u : AObj) (r : Ren) : Ren := match o, u with
  | .cells _ c d _ _, .cells _ c' d' _ _ => bndOA d d' (bndT c c' r)
  | .map es _, .map es' _ => bndE es es' r
  | .rope cs _ _, .rope cs' _ _ => bndCs cs cs' r
  | _, _ => r
/-! can it be it at all? -/
def preA (v u : AV) : Bool := match v, u with
  | .int _ (.lit a), .int _ (.lit b) => beqF a b
  | .bool (.lit a), .bool (.lit b) => a == b
  | _, _ => true
def preT : Tr AV → Tr AV → Bool
  | .node (some v) l m, .node (some u) l' m' => preA v u && (preT l l' && preT m m')
  | .node none l m, .node none l' m' => preT l l' && preT m m'
  | .nil, .nil => true
  | _, _ => false
def lenSm {α : Type} (l m : List α) : Bool := List.rec (motive := fun _ => List α → Bool) (fun m => List.rec (motive := fun _ => Bool) true (fun _ _ _ => false) m) (fun _ _ ih m => List.rec (motive := fun _ => Bool) false (fun _ m _ => ih m) m) l m
def preO (o u : AObj) : Bool := match o, u with
  | .cells n c _ _ _, .cells n' c' _ _ _ => Nat.beq n n' && preT c c'
  | .map es c, .map es' c' => lenSm es es' && Nat.beq c c'
  | .rope cs _ _, .rope cs' _ _ => lenSm cs cs'
  | .dead, .dead => true
  | _, _ => false
def bndH (h h' : Tr AObj) (ord : List Nat) : Ren → Option Ren := List.rec (motive := fun _ => Ren → Option Ren) (fun r => some r) (fun i _ ih r => Option.rec (motive := fun _ => Option Ren) none (fun o => Option.rec (motive := fun _ => Option Ren) none (fun u => Bool.rec (motive := fun _ => Option Ren) none (ih (bndOb o u r)) (preO o u)) (h'.get (r.id i))) (h.get i)) ord
/-- all in its plain form -/
def frcT {α : Type} (t : Tr Nat) : (Tr Nat → α) → α := Tr.rec (motive := fun _ => (Tr Nat → α) → α) (fun κ => κ .nil) (fun v _ _ ihl ihr κ => Option.rec (motive := fun _ => α) (ihl fun l => ihr fun r => κ (.node none l r)) (fun x => forceN x fun x => ihl fun l => ihr fun r => κ (.node (some x) l r)) v) t
def frcS {α : Type} (e : SI) : (SI → α) → α := SI.rec (motive := fun _ => (SI → α) → α) (fun n κ => forceI n fun n => κ (.lit n)) (fun i κ => forceN i fun i => κ (.var i)) (fun op k _ _ iha ihb κ => iha fun a => ihb fun b => κ (.bin op k a b)) (fun k _ ih κ => ih fun a => κ (.conv k a)) (fun _ ih κ => ih fun a => κ (.fold a)) (fun a p _ _ iho ihn κ => iho fun o => ihn fun n => κ (.rs a p o n)) e
def frcU {α : Type} (t : Tr SI) : (Tr SI → α) → α := Tr.rec (motive := fun _ => (Tr SI → α) → α) (fun κ => κ .nil) (fun v _ _ ihl ihr κ => Option.rec (motive := fun _ => α) (ihl fun l => ihr fun r => κ (.node none l r)) (fun x => frcS x fun x => ihl fun l => ihr fun r => κ (.node (some x) l r)) v) t
/-! are they? -/
/-- a memory as a list: the things from i on, each m-th one -/
def Tr.toL {α : Type} (t : Tr α) : Nat → Nat → List (Nat × α) → List (Nat × α) := Tr.rec (motive := fun _ => Nat → Nat → List (Nat × α) → List (Nat × α)) (fun _ _ acc => acc) (fun v _ _ ihl ihr i m acc => forceN i fun i => forceN m fun m => Option.rec (motive := fun _ => List (Nat × α)) (ihl (Nat.add i m) (Nat.mul (nat_lit 2) m) (ihr (Nat.add i (Nat.mul (nat_lit 2) m)) (Nat.mul (nat_lit 2) m) acc)) (fun x => (i, x) :: ihl (Nat.add i m) (Nat.mul (nat_lit 2) m) (ihr (Nat.add i (Nat.mul (nat_lit 2) m)) (Nat.mul (nat_lit 2) m) acc)) v) t
def isN {α : Type} (o : Option α) : Bool := Option.rec (motive := fun _ => Bool) true (fun _ => false) o
def chkH (rg : List (Int × Int)) (r : Ren) (h : Tr AObj) (l : List (Nat × AObj)) : Tr Bool → Bool := List.rec (motive := fun _ => Tr Bool → Bool) (fun _ => true) (fun x _ ih m => Bool.rec (motive := fun _ => Bool) (forceN (r.id x.1) fun j => Option.rec (motive := fun _ => Bool) false (fun u => subO rg r x.2 (fun o => AObj.beq o u) && (isN (m.get j) && ih (m.set j true))) (h.get j)) (ih m) (deadB x.2)) l
def chkRg (rg : List (Int × Int)) (r : Ren) (l : List (Int × Int)) : Nat → Bool := List.rec (motive := fun _ => Nat → Bool) (fun _ => true) (fun x _ ih i => r.var i (fun e => opt1' (rngS rg e) false fun a b => leF x.1 a && leF b x.2) && ih (Nat.succ i)) l
/-- is it decided already? -/
def decQ (pc : PC) (c : SB) : Option Bool := match c with
  | .lit b => some b
  | c => match decR pc.rg c with
    | some b => some b
    | none => match lookB pc.l c with
      | some b => some b
      | none => match normB pc.rg c with
        | (c, f) => match lookB pc.l c with
          | some b => some (xorB b f)
          | none => none
def eqvB (a b : Bool) : Bool := Bool.rec (motive := fun _ => Bool) (notF b) b a
def chkPr (pc : PC) (r : Ren) (l : List (SB × Bool)) : Bool := List.rec (motive := fun _ => Bool) true (fun x _ ih => subB pc.rg r x.1 (fun c => Option.rec (motive := fun _ => Bool) false (fun b => eqvB b x.2) (decQ pc c)) && ih) l
/-- the tree of a stage -/
inductive LT where
  | leaf (k : Nat)
  | fork (c : SB) (a b : LT)
  | dead
structure GS where
  g : Stage
  t : LT
  ord : List Nat
def nthL (l : List Leaf) : Nat → Option Leaf := List.rec (motive := fun _ => Nat → Option Leaf) (fun _ => none) (fun x _ ih k => Nat.rec (motive := fun _ => Option Leaf) (some x) (fun k _ => ih k) k) l
def LT.toR (ls : List Leaf) (t : LT) : R := LT.rec (motive := fun _ => R) (fun k => Option.rec (motive := fun _ => R) (.fail 311) (fun x => .done x.v x.st) (nthL ls k)) (fun c _ _ a b => .fork c a b) .dead t
def chkG (q : GS) (r : Ren) (l : List AV) (s : St) : Bool := subL s.pc.rg r q.g.args (fun m => AV.beqL m l) && (chkRg s.pc.rg r q.g.rg (nat_lit 0) && (chkPr s.pc r q.g.l0 && chkH s.pc.rg r s.hp (Tr.toL q.g.h (nat_lit 0) (nat_lit 1) []) .nil))
def putD (g : Stage) (rg : List (Int × Int)) (r : Ren) (l : List (Nat × AObj)) : Tr AObj → (Tr AObj → R) → R := List.rec (motive := fun _ => Tr AObj → (Tr AObj → R) → R) (fun h κ => κ h) (fun x _ ih h κ => Bool.rec (motive := fun _ => R) (ih h κ) (subO rg r x.2 fun o => forceN (r.id x.1) fun j => ih (h.set j o) κ) (keepB g x.1)) l
def condK (r : Ren) (κ : PC → R) (l : List (SB × Bool)) : PC → R := List.rec (motive := fun _ => PC → R) κ (fun x _ ih pc => subB pc.rg r x.1 fun c => decK pc c fun d pc => Bool.rec (motive := fun _ => R) (.fail 312) (ih pc) (eqvB d x.2)) l
def endG (g : Stage) (r : Ren) (s : St) (κ : AV → St → R) (x : Leaf) (pc : PC) : R := subA pc.rg r x.v fun v => putD g pc.rg r x.dl s.hp fun h => forceN (Nat.add s.nx (Nat.sub x.nx g.nx)) fun n => κ v ⟨h, n, pc⟩
def goT (g : Stage) (r : Ren) (s : St) (κ : AV → St → R) (t : LT) : PC → R := LT.rec (motive := fun _ => PC → R) (fun k pc => Option.rec (motive := fun _ => R) (.fail 311) (fun x => condK r (endG g r s κ x) x.l pc) (nthL g.ls k)) (fun c _ _ a b pc => subB pc.rg r c fun c => decK pc c fun d pc => Bool.rec (motive := fun _ => R) (b pc) (a pc) d) (fun _ => .dead) t
def useR (q : GS) (l : List AV) (s : St) (κ : AV → St → R) (alt : R) (r : Ren) : R := Bool.rec (motive := fun _ => R) alt (goT q.g r s κ q.t s.pc) (chkG q r l s)
def useG (q : GS) (l : List AV) (s : St) (κ : AV → St → R) (alt : R) : R := Option.rec (motive := fun _ => R) alt (fun r => frcT r.ids fun a => frcU r.si fun b => frcT r.rw fun c => useR q l s κ alt ⟨a, b, c, q.g.nx, s.nx⟩) (bndH q.g.h s.hp q.ord (bndL q.g.args l ⟨.nil, .nil, .nil, q.g.nx, s.nx⟩))
def usesG (qs : List GS) (l : List AV) (s : St) (κ : AV → St → R) (alt : R) : R := List.rec (motive := fun _ => R) alt (fun q _ ih => useG q l s κ ih) qs
/-! what a stage has to be for that -/
def keysB (l : List (Nat × AObj)) : Tr Bool → Bool := List.rec (motive := fun _ => Tr Bool → Bool) (fun _ => true) (fun x _ ih m => isN (m.get x.1) && ih (m.set x.1 true)) l
def okLT (t : LT) : Bool := LT.rec (motive := fun _ => Bool) (fun _ => true) (fun c _ _ a b => okB c && (a && b)) true t
def okPr (l : List (SB × Bool)) : Bool := List.rec (motive := fun _ => Bool) true (fun x _ ih => okB x.1 && ih) l
def statB (q : GS) : Bool := okL q.g.args && (okPr q.g.l0 && (okLT q.t && ((Tr.toL q.g.h (nat_lit 0) (nat_lit 1) []).all (fun x => Nat.blt x.1 q.g.nx && (deadB x.2 || okO x.2)) && q.g.ls.all fun x => okA x.v && (Nat.ble q.g.nx x.nx && (okPr x.l && (keysB x.dl .nil && x.dl.all fun y => deadB y.2 || okO y.2))))))
end

/-! what the checks say -/
theorem toL_node {α : Type} {v : Option α} {l r : Tr α} {i m : Nat} {acc : List (Nat × α)} : Tr.toL (.node v l r) i m acc = Option.rec (motive := fun _ => List (Nat × α)) (Tr.toL l (Nat.add i m) (Nat.mul (nat_lit 2) m) (Tr.toL r (Nat.add i (Nat.mul (nat_lit 2) m)) (Nat.mul (nat_lit 2) m) acc)) (fun x => (i, x) :: Tr.toL l (Nat.add i m) (Nat.mul (nat_lit 2) m) (Tr.toL r (Nat.add i (Nat.mul (nat_lit 2) m)) (Nat.mul (nat_lit 2) m) acc)) v := by
  have e : Tr.toL (.node v l r) i m acc = forceN i fun i => forceN m fun m => Option.rec (motive := fun _ => List (Nat × α)) (Tr.toL l (Nat.add i m) (Nat.mul (nat_lit 2) m) (Tr.toL r (Nat.add i (Nat.mul (nat_lit 2) m)) (Nat.mul (nat_lit 2) m) acc)) (fun x => (i, x) :: Tr.toL l (Nat.add i m) (Nat.mul (nat_lit 2) m) (Tr.toL r (Nat.add i (Nat.mul (nat_lit 2) m)) (Nat.mul (nat_lit 2) m) acc)) v := rfl
  rw [e, frcN, frcN]
theorem toL_mem {α : Type} : ∀ (t : Tr α) (i m : Nat) (acc : List (Nat × α)) {y : Nat × α}, y ∈ acc → y ∈ Tr.toL t i m acc := by
  intro t
  induction t with
  | nil => intro i m acc y h; exact h
  | node v l r ihl ihr =>
    intro i m acc y h
    rw [toL_node]
    have h2 := ihl (Nat.add i m) (Nat.mul (nat_lit 2) m) _ (ihr (Nat.add i (Nat.mul (nat_lit 2) m)) (Nat.mul (nat_lit 2) m) acc h)
    cases v with
    | none => exact h2
    | some x => exact List.mem_cons_of_mem _ h2
theorem toL_getF {α : Type} : ∀ (f : Nat) (t : Tr α) (i m k : Nat) (acc : List (Nat × α)) {x : α}, k < f → Tr.getP (posF f k) t = some x → (i + m * k, x) ∈ Tr.toL t i m acc := by
  intro f
  induction f with
  | zero => intro t i m k acc x hk; omega
  | succ f ih =>
    intro t i m k acc x hk h
    cases t with
    | nil => rw [Tr.getP_nil] at h; cases h
    | node v l r =>
      rw [toL_node]
      have behind : ∀ {y : Nat × α}, y ∈ Tr.toL l (Nat.add i m) (Nat.mul (nat_lit 2) m) (Tr.toL r (Nat.add i (Nat.mul (nat_lit 2) m)) (Nat.mul (nat_lit 2) m) acc) → y ∈ (Option.rec (motive := fun _ => List (Nat × α)) (Tr.toL l (Nat.add i m) (Nat.mul (nat_lit 2) m) (Tr.toL r (Nat.add i (Nat.mul (nat_lit 2) m)) (Nat.mul (nat_lit 2) m) acc)) (fun x => (i, x) :: Tr.toL l (Nat.add i m) (Nat.mul (nat_lit 2) m) (Tr.toL r (Nat.add i (Nat.mul (nat_lit 2) m)) (Nat.mul (nat_lit 2) m) acc)) v) := by
        intro y hy
        cases v with
        | none => exact hy
        | some x => exact List.mem_cons_of_mem _ hy
      cases k with
      | zero =>
        have h : v = some x := h
        rw [h]
        exact List.mem_cons_self
      | succ k =>
        have h : Tr.getP (Bool.rec (motive := fun _ => Pos) (.right (posF f (Nat.div k (nat_lit 2)))) (.left (posF f (Nat.div k (nat_lit 2)))) (Nat.beq (Nat.mod k (nat_lit 2)) (nat_lit 0))) (.node v l r) = some x := h
        have hd : Nat.div k 2 = k / 2 := rfl
        cases hb : Nat.beq (Nat.mod k (nat_lit 2)) (nat_lit 0) with
        | true =>
          rw [hb] at h
          have h : Tr.getP (posF f (k / 2)) l = some x := h
          have hm : k % 2 = 0 := by
            have := hb
            rw [natBeq, decide_eq_true_eq] at this
            exact this
          have h3 := ih l (i + m) (2 * m) (k / 2) (Tr.toL r (Nat.add i (Nat.mul (nat_lit 2) m)) (Nat.mul (nat_lit 2) m) acc) (by omega) h
          refine behind ?_
          have e2 : i + m * (k + 1) = i + m + 2 * m * (k / 2) := by
            have : k = 2 * (k / 2) := by omega
            generalize k / 2 = j at this
            subst this
            rw [Nat.mul_add, Nat.mul_one, Nat.mul_comm 2 m, Nat.mul_assoc, Nat.add_assoc, Nat.add_comm (m * (2 * j))]
          rw [e2]
          exact h3
        | false =>
          rw [hb] at h
          have h : Tr.getP (posF f (k / 2)) r = some x := h
          have hm : k % 2 = 1 := by
            have := hb
            rw [natBeq, decide_eq_false_iff_not] at this
            have h4 : ¬ k % 2 = 0 := this
            omega
          have h3 := ih r (i + 2 * m) (2 * m) (k / 2) acc (by omega) h
          refine behind (toL_mem l _ _ _ ?_)
          have e2 : i + m * (k + 1) = i + 2 * m + 2 * m * (k / 2) := by
            have : k = 2 * (k / 2) + 1 := by omega
            generalize k / 2 = j at this
            subst this
            rw [show 2 * j + 1 + 1 = 2 * (j + 1) by omega, ← Nat.mul_assoc, Nat.mul_comm m 2, Nat.mul_add (2 * m), Nat.mul_one, Nat.add_assoc, Nat.add_comm (2 * m * j)]
          rw [e2]
          exact h3
theorem toL_get {α : Type} {t : Tr α} {k : Nat} {x : α} (h : t.get k = some x) : (k, x) ∈ Tr.toL t (nat_lit 0) (nat_lit 1) [] := by
  have := toL_getF (k + 1) t 0 1 k [] (Nat.lt_succ_self k) h
  rw [Nat.one_mul, Nat.zero_add] at this
  exact this
theorem isN_iff {α : Type} {o : Option α} : isN o = true ↔ o = none := by cases o <;> simp [isN]
section
variable {rg : List (Int × Int)} {r : Ren} {h : Tr AObj}
theorem chkH_inv : ∀ {l : List (Nat × AObj)} {m : Tr Bool}, chkH rg r h l m = true → (∀ x ∈ l, deadB x.2 = false → ∃ u, h.get (r.id x.1) = some u ∧ SubOV rg r x.2 u ∧ m.get (r.id x.1) = none) ∧ ∀ x ∈ l, ∀ y ∈ l, deadB x.2 = false → deadB y.2 = false → r.id x.1 = r.id y.1 → x = y
  | [], m, _ => ⟨fun x hx => (by cases hx), fun x hx => (by cases hx)⟩
  | z :: l, m, hc => by
    have hc : Bool.rec (motive := fun _ => Bool) (forceN (r.id z.1) fun j => Option.rec (motive := fun _ => Bool) false (fun u => subO rg r z.2 (fun o => AObj.beq o u) && (isN (m.get j) && chkH rg r h l (m.set j true))) (h.get j)) (chkH rg r h l m) (deadB z.2) = true := hc
    rw [frcN] at hc
    cases hd : deadB z.2 with
    | true =>
      rw [hd] at hc
      obtain ⟨h1, h2⟩ := chkH_inv (l := l) hc
      constructor
      · intro x hx hl
        rcases List.mem_cons.1 hx with rfl | hx
        · rw [hd] at hl; cases hl
        · exact h1 x hx hl
      · intro x hx y hy hl hl' he
        rcases List.mem_cons.1 hx with rfl | hx
        · rw [hd] at hl; cases hl
        · rcases List.mem_cons.1 hy with rfl | hy
          · rw [hd] at hl'; cases hl'
          · exact h2 x hx y hy hl hl' he
    | false =>
      rw [hd] at hc
      cases hg : h.get (r.id z.1) with
      | none => rw [hg] at hc; cases hc
      | some u =>
        rw [hg] at hc
        have hc : (subO rg r z.2 (fun o => AObj.beq o u) && (isN (m.get (r.id z.1)) && chkH rg r h l (m.set (r.id z.1) true))) = true := hc
        simp only [Bool.and_eq_true, isN_iff] at hc
        obtain ⟨c1, c2, c3⟩ := hc
        obtain ⟨o, s1, s2⟩ := subO_spec (rg := rg) (r := r) z.2 fun o => AObj.beq o u
        rw [s1] at c1
        have := AObj.beq_eq c1
        subst this
        obtain ⟨h1, h2⟩ := chkH_inv (l := l) c3
        have h3 : ∀ x ∈ l, deadB x.2 = false → r.id x.1 ≠ r.id z.1 ∧ m.get (r.id x.1) = none := by
          intro x hx hl
          obtain ⟨u, a1, a2, a3⟩ := h1 x hx hl
          rw [Tr.get_set] at a3
          split at a3
          · cases a3
          · rename_i hne
            exact ⟨hne, a3⟩
        constructor
        · intro x hx hl
          rcases List.mem_cons.1 hx with rfl | hx
          · exact ⟨o, hg, s2, c2⟩
          · obtain ⟨u, a1, a2, a3⟩ := h1 x hx hl
            exact ⟨u, a1, a2, (h3 x hx hl).2⟩
        · intro x hx y hy hl hl' he
          rcases List.mem_cons.1 hx with hx1 | hx1 <;> rcases List.mem_cons.1 hy with hy1 | hy1
          · rw [hx1, hy1]
          · exact absurd (by rw [← he, hx1]) (h3 y hy1 hl').1
          · exact absurd (by rw [he, hy1]) (h3 x hx1 hl).1
          · exact h2 x hx1 y hy1 hl hl' he
theorem keysB_inv : ∀ {l : List (Nat × AObj)} {m : Tr Bool}, keysB l m = true → (∀ x ∈ l, m.get x.1 = none) ∧ ∀ x ∈ l, ∀ y ∈ l, x.1 = y.1 → x = y
  | [], m, _ => ⟨fun x hx => (by cases hx), fun x hx => (by cases hx)⟩
  | z :: l, m, hc => by
    have hc : (isN (m.get z.1) && keysB l (m.set z.1 true)) = true := hc
    rw [Bool.and_eq_true, isN_iff] at hc
    obtain ⟨h1, h2⟩ := keysB_inv hc.2
    have h3 : ∀ x ∈ l, x.1 ≠ z.1 ∧ m.get x.1 = none := by
      intro x hx
      have := h1 x hx
      rw [Tr.get_set] at this
      split at this
      · cases this
      · rename_i hne
        exact ⟨hne, this⟩
    constructor
    · intro x hx
      rcases List.mem_cons.1 hx with rfl | hx
      · exact hc.1
      · exact (h3 x hx).2
    · intro x hx y hy he
      rcases List.mem_cons.1 hx with hx1 | hx1 <;> rcases List.mem_cons.1 hy with hy1 | hy1
      · rw [hx1, hy1]
      · exact absurd (by rw [← he, hx1]) (h3 y hy1).1
      · exact absurd (by rw [he, hy1]) (h3 x hx1).1
      · exact h2 x hx1 y hy1 he
theorem setH_keys : ∀ (l : List (Nat × AObj)) (h : Tr AObj), (∀ x ∈ l, ∀ y ∈ l, x.1 = y.1 → x = y) → ∀ x ∈ l, (setH h l).get x.1 = some x.2
  | z :: l, h, hk, x, hx => by
    show (setH (h.set z.1 z.2) l).get x.1 = some x.2
    by_cases hm : ∃ y ∈ l, y.1 = x.1
    · obtain ⟨y, hy, he⟩ := hm
      have := hk y (by simp [hy]) x hx he
      subst this
      exact setH_keys l _ (fun a ha b hb => hk a (by simp [ha]) b (by simp [hb])) y hy
    · rcases List.mem_cons.1 hx with rfl | hx
      · have : ∀ (l : List (Nat × AObj)) (h : Tr AObj) (i : Nat), (∀ y ∈ l, y.1 ≠ i) → (setH h l).get i = h.get i := by
          intro l
          induction l with
          | nil => intro h i _; rfl
          | cons a l ih =>
            intro h i hn
            show (setH (h.set a.1 a.2) l).get i = _
            rw [ih _ i fun y hy => hn y (by simp [hy]), Tr.get_set, if_neg (fun e => hn a (by simp) e.symm)]
        rw [this l _ _ fun y hy e => hm ⟨y, hy, e⟩, Tr.get_set, if_pos rfl]
      · exact absurd ⟨x, hx, rfl⟩ hm
theorem chkRg_inv {ρ : Nat → Int} (hρ : RgOk ρ rg) : ∀ {l : List (Int × Int)} {i : Nat}, chkRg rg r l i = true → ∀ k a b, nthR l k = some (a, b) → a ≤ r.rho ρ (i + k) ∧ r.rho ρ (i + k) ≤ b
  | [], i, _, k, a, b, h => by cases h
  | x :: l, i, hc, k, a, b, h => by
    have hc : (r.var i (fun e => opt1' (rngS rg e) false fun a b => leF x.1 a && leF b x.2) && chkRg rg r l (i + 1)) = true := hc
    rw [Bool.and_eq_true] at hc
    cases k with
    | zero =>
      have h : some x = some (a, b) := h
      cases h
      obtain ⟨e, h1, h2⟩ := Ren.var_spec (r := r) (ρ := ρ) i fun e => opt1' (rngS rg e) false fun c d => leF a c && leF d b
      have hc1 := hc.1
      rw [h1] at hc1
      cases hr : rngS rg e with
      | none => rw [hr] at hc1; cases hc1
      | some y =>
        rw [hr] at hc1
        have hc1 : (leF a y.1 && leF y.2 b) = true := hc1
        simp only [Bool.and_eq_true, leF_eq, decide_eq_true_eq] at hc1
        have h3 := rngS_in hρ e y.1 y.2 hr
        rw [Nat.add_zero, ← h2]
        omega
    | succ k =>
      have := chkRg_inv hρ hc.2 k a b (show nthR l k = some (a, b) from h)
      rw [show i + (k + 1) = i + 1 + k by omega]
      exact this
theorem decQ_ok {pc : PC} {c : SB} {b : Bool} (h : decQ pc c = some b) {ρ : Nat → Int} (hρ : Holds ρ pc) : c.ev ρ = b := by
  unfold decQ at h
  split at h
  · cases h; rfl
  · split at h
    · rename_i hb
      cases h
      exact decR_ok hρ.rg hb
    · split at h
      · rename_i hb
        cases h
        exact lookB_inv hb hρ.l
      · split at h
        rename_i c' f hc
        split at h
        · rename_i d hd
          cases h
          have := normB_ok hρ.rg c
          rw [hc] at this
          rw [← this, lookB_inv hd hρ.l, xorB_eq]
        · cases h
theorem eqvB_eq {a b : Bool} (h : eqvB a b = true) : a = b := by cases a <;> cases b <;> first | rfl | cases h
theorem chkPr_inv {pc : PC} : ∀ {l : List (SB × Bool)}, okPr l = true → chkPr pc r l = true → ∀ ρ, Holds ρ pc → ∀ x ∈ l, x.1.ev (r.rho ρ) = x.2
  | [], _, _, ρ, _, x, hx => by cases hx
  | z :: l, ho, hc, ρ, hρ, x, hx => by
    have hc : (subB pc.rg r z.1 (fun c => Option.rec (motive := fun _ => Bool) false (fun b => eqvB b z.2) (decQ pc c)) && chkPr pc r l) = true := hc
    have ho : (okB z.1 && okPr l) = true := ho
    rw [Bool.and_eq_true] at hc ho
    rcases List.mem_cons.1 hx with rfl | hx
    · obtain ⟨c, h1, h2⟩ := subB_spec (rg := pc.rg) (r := r) x.1 fun c => Option.rec (motive := fun _ => Bool) false (fun b => eqvB b x.2) (decQ pc c)
      have hc1 := hc.1
      rw [h1] at hc1
      cases hq : decQ pc c with
      | none => rw [hq] at hc1; cases hc1
      | some b =>
        rw [hq] at hc1
        rw [← h2 ho.1 ρ hρ.rg, decQ_ok hq hρ]
        exact eqvB_eq hc1
    · exact chkPr_inv ho.2 hc.2 ρ hρ x hx
end

section
variable {P : Program} {pl : Plans} {r : Ren} {s : St} {D : Dn}
theorem nthL_mem : ∀ {l : List Leaf} {k : Nat} {x : Leaf}, nthL l k = some x → x ∈ l
  | [], k, x, h => by cases h
  | y :: l, 0, x, h => by have h : some y = some x := h; cases h; exact List.mem_cons_self
  | y :: l, k + 1, x, h => List.mem_cons_of_mem _ (nthL_mem (l := l) (k := k) h)
theorem putD_inv {g : Stage} {rg : List (Int × Int)} : ∀ {l : List (Nat × AObj)} {h : Tr AObj} {κ : Tr AObj → R}, putD g rg r l h κ ∈ D → ∃ h', κ h' ∈ D ∧ ∀ j o, h'.get j = some o → (∃ x ∈ l, keepB g x.1 = true ∧ j = r.id x.1 ∧ SubOV rg r x.2 o) ∨ (h.get j = some o ∧ ∀ x ∈ l, keepB g x.1 = true → j ≠ r.id x.1)
  | [], h, κ, hD => ⟨h, hD, fun j o ho => .inr ⟨ho, fun x hx => by cases hx⟩⟩
  | z :: l, h, κ, hD => by
    have hD : Bool.rec (motive := fun _ => R) (putD g rg r l h κ) (subO rg r z.2 fun o => forceN (r.id z.1) fun j => putD g rg r l (h.set j o) κ) (keepB g z.1) ∈ D := hD
    rcases brec_cases hD with ⟨hk, h1⟩ | ⟨hk, h1⟩
    · obtain ⟨u, e1, e2⟩ := subO_spec (rg := rg) (r := r) z.2 fun o => forceN (r.id z.1) fun j => putD g rg r l (h.set j o) κ
      rw [e1, frcN] at h1
      obtain ⟨h', h2, h3⟩ := putD_inv h1
      refine ⟨h', h2, fun j o ho => ?_⟩
      rcases h3 j o ho with ⟨x, a1, a2, a3, a4⟩ | ⟨a1, a2⟩
      · exact .inl ⟨x, by simp [a1], a2, a3, a4⟩
      · rw [Tr.get_set] at a1
        split at a1
        · rename_i he
          cases a1
          exact .inl ⟨z, by simp, hk, he, e2⟩
        · rename_i hne
          refine .inr ⟨a1, fun x hx hkx => ?_⟩
          rcases List.mem_cons.1 hx with rfl | hx
          · exact hne
          · exact a2 x hx hkx
    · obtain ⟨h', h2, h3⟩ := putD_inv h1
      refine ⟨h', h2, fun j o ho => ?_⟩
      rcases h3 j o ho with ⟨x, a1, a2, a3, a4⟩ | ⟨a1, a2⟩
      · exact .inl ⟨x, by simp [a1], a2, a3, a4⟩
      · refine .inr ⟨a1, fun x hx hkx => ?_⟩
        rcases List.mem_cons.1 hx with rfl | hx
        · rw [hk] at hkx; cases hkx
        · exact a2 x hx hkx
theorem condK_inv {κ : PC → R} : ∀ {l : List (SB × Bool)} {pc : PC}, condK r κ l pc ∈ D → ∃ pc', κ pc' ∈ D ∧ PcExt pc pc' ∧ ∀ ρ, Holds ρ pc' → okPr l = true → ∀ x ∈ l, x.1.ev (r.rho ρ) = x.2
  | [], pc, h => ⟨pc, h, .refl _, fun ρ _ _ x hx => by cases hx⟩
  | z :: l, pc, h => by
    have h : (subB pc.rg r z.1 fun c => decK pc c fun d pc => Bool.rec (motive := fun _ => R) (.fail 312) (condK r κ l pc) (eqvB d z.2)) ∈ D := h
    obtain ⟨c, h1, h2⟩ := subB_spec (rg := pc.rg) (r := r) z.1 fun c => decK pc c fun d pc => Bool.rec (motive := fun _ => R) (.fail 312) (condK r κ l pc) (eqvB d z.2)
    rw [h1] at h
    obtain ⟨d, pc1, h3, x1, h4⟩ := decK_inv h
    obtain ⟨h5, h6⟩ := brec_inv h3
    obtain ⟨pc2, h7, x2, h8⟩ := condK_inv h6
    refine ⟨pc2, h7, x1.trans x2, fun ρ hρ ho x hx => ?_⟩
    have ho : (okB z.1 && okPr l) = true := ho
    rw [Bool.and_eq_true] at ho
    rcases List.mem_cons.1 hx with rfl | hx
    · rw [← h2 ho.1 ρ (hρ.of_ext (x1.trans x2)).rg, h4 ρ (hρ.of_ext x2)]
      exact eqvB_eq h5
    · exact h8 ρ hρ ho.2 x hx
theorem goT_inv {g : Stage} {κ : AV → St → R} : ∀ {t : LT} {pc : PC}, goT g r s κ t pc ∈ D → ∃ x pc', x ∈ g.ls ∧ endG g r s κ x pc' ∈ D ∧ PcExt pc pc' ∧ ∀ ρ, Holds ρ pc' → okLT t = true → okPr x.l = true → t.toR g.ls ∈ Dn.mk (r.rho ρ) x.v x.st ∧ ∀ y ∈ x.l, y.1.ev (r.rho ρ) = y.2 := by
  intro t
  induction t with
  | leaf k =>
    intro pc h
    have h : Option.rec (motive := fun _ => R) (.fail 311) (fun x => condK r (endG g r s κ x) x.l pc) (nthL g.ls k) ∈ D := h
    cases hk : nthL g.ls k with
    | none => rw [hk] at h; cases h
    | some x =>
      rw [hk] at h
      obtain ⟨pc1, h1, x1, h2⟩ := condK_inv h
      refine ⟨x, pc1, nthL_mem hk, h1, x1, fun ρ hρ _ ho => ⟨?_, h2 ρ hρ ho⟩⟩
      show Option.rec (motive := fun _ => R) (.fail 311) (fun x => .done x.v x.st) (nthL g.ls k) ∈ _
      rw [hk]
      exact ⟨rfl, rfl⟩
  | fork c a b iha ihb =>
    intro pc h
    have h : (subB pc.rg r c fun c => decK pc c fun d pc => Bool.rec (motive := fun _ => R) (goT g r s κ b pc) (goT g r s κ a pc) d) ∈ D := h
    obtain ⟨c', h1, h2⟩ := subB_spec (rg := pc.rg) (r := r) c fun c => decK pc c fun d pc => Bool.rec (motive := fun _ => R) (goT g r s κ b pc) (goT g r s κ a pc) d
    rw [h1] at h
    obtain ⟨d, pc1, h3, x1, h4⟩ := decK_inv h
    have fin : ∀ {x : Leaf} {pc2 : PC}, PcExt pc1 pc2 → ∀ ρ, Holds ρ pc2 → okLT (.fork c a b) = true → c.ev (r.rho ρ) = d ∧ okLT a = true ∧ okLT b = true := by
      intro x pc2 x2 ρ hρ ho
      have ho : (okB c && (okLT a && okLT b)) = true := ho
      simp only [Bool.and_eq_true] at ho
      exact ⟨by rw [← h2 ho.1 ρ (hρ.of_ext (x1.trans x2)).rg, h4 ρ (hρ.of_ext x2)], ho.2⟩
    rcases brec_cases h3 with ⟨hd, h5⟩ | ⟨hd, h5⟩
    · obtain ⟨x, pc2, a1, a2, a3, a4⟩ := iha h5
      refine ⟨x, pc2, a1, a2, x1.trans a3, fun ρ hρ ho hp => ?_⟩
      obtain ⟨b1, b2, b3⟩ := fin (x := x) a3 ρ hρ ho
      obtain ⟨c1, c2⟩ := a4 ρ hρ b2 hp
      exact ⟨.inl ⟨by rw [← hd]; exact b1, c1⟩, c2⟩
    · obtain ⟨x, pc2, a1, a2, a3, a4⟩ := ihb h5
      refine ⟨x, pc2, a1, a2, x1.trans a3, fun ρ hρ ho hp => ?_⟩
      obtain ⟨b1, b2, b3⟩ := fin (x := x) a3 ρ hρ ho
      obtain ⟨c1, c2⟩ := a4 ρ hρ b3 hp
      exact ⟨.inr ⟨by rw [← hd]; exact b1, c1⟩, c2⟩
  | dead => intro pc h; cases h
theorem id_new {i : Nat} (h : r.n0 ≤ i) : r.id i = r.m0 + (i - r.n0) := by
  unfold Ren.id
  rw [show Nat.ble r.n0 i = true by rw [natBle, decide_eq_true_eq]; exact h]
  rfl
set_option maxHeartbeats 2000000 in
/-- A STAGE SERVES WHERE IT WAS FOUND AGAIN. -/
theorem useR_ok (hmix : P.follows .mixedOrders = true) (hP : PlansOk P pl) {f : FuncId} {q : GS} (hq : StageOk P pl f q.g) (ht : q.t.toR q.g.ls = q.g.r) (hst : statB q = true) (hn : r.n0 = q.g.nx) (hn' : r.m0 = s.nx) {l : List AV} {κ : AV → St → R} {alt : R} (h : useR q l s κ alt r ∈ D) :
    alt ∈ D ∨ ∃ v s', κ v s' ∈ D ∧ PcExt s.pc s'.pc ∧ ∀ ρ, CallDoes P ρ f l s v s' := by
  unfold useR at h
  rcases brec_cases h with ⟨hc, h⟩ | ⟨_, h⟩
  rotate_left
  · exact .inl h
  obtain ⟨x, pc1, hx, h, hext, hpath⟩ := goT_inv h
  unfold endG at h
  have hrgx : pc1.rg = s.pc.rg := hext.rg
  rw [hrgx] at h
  obtain ⟨v, e1, hvs⟩ := subA_spec (rg := s.pc.rg) (r := r) x.v fun v => putD q.g s.pc.rg r x.dl s.hp fun h => forceN (Nat.add s.nx (Nat.sub x.nx q.g.nx)) fun n => κ v ⟨h, n, pc1⟩
  rw [e1] at h
  obtain ⟨h', h2, hput⟩ := putD_inv h
  rw [frcN] at h2
  refine .inr ⟨v, _, h2, hext, fun ρ => ?_⟩
  intro w0 φ w xs hρ hxs hm
  generalize hgq : q.g = g at *
  have hρ0 : Holds ρ s.pc := hρ.of_ext hext
  have hrg := hρ0.rg
  -- what was checked
  simp only [chkG, Bool.and_eq_true, hgq] at hc
  obtain ⟨c1, c2, c3, c4⟩ := hc
  simp only [statB, Bool.and_eq_true, hgq] at hst
  obtain ⟨t1, t2, t3, t4, t5⟩ := hst
  have t5x := List.all_eq_true.1 t5 x hx
  simp only [Bool.and_eq_true, natBle, decide_eq_true_eq] at t5x
  obtain ⟨u1, u2, u3, u4, u5⟩ := t5x
  obtain ⟨hmem, hxl⟩ := hpath ρ hρ t3 u3
  rw [ht] at hmem
  obtain ⟨hok, sm, N, n, hS, hrun⟩ := hq
  obtain ⟨v1, s1, h7, hpx, hd⟩ := known_of (ρ := r.rho ρ) hmix hP hS hrun hmem
  obtain ⟨y, hy, y1, y2, y3, y4, y5, y6⟩ := chkK_inv h7
  have y1 : x.v = y.v := y1
  have y2 : x.st = y.st := y2
  have z1 : x.d = y.d := congrArg St.hp y2
  have z2 : x.nx = y.nx := congrArg St.nx y2
  have z3 : x.l = y.l := congrArg PC.l (congrArg St.pc y2)
  rw [← z1] at y6
  rw [← z2] at y3
  rw [← z3] at y5
  rw [← y1] at y4
  subst y4
  clear y1 y2 z1 z2 z3 h7 hmem
  -- the arguments
  obtain ⟨m, a1, a2⟩ := subL_spec (rg := s.pc.rg) (r := r) g.args fun m => AV.beqL m l
  rw [a1] at c1
  have := AV.beqL_eq _ _ c1
  subst this
  simp only [stgB, Bool.and_eq_true, Bool.or_eq_true, natBeq, decide_eq_true_eq] at hok
  obtain ⟨hia, hih, hil, hany⟩ := hok
  have hgid : ∀ {i o}, g.h.get i = some o → AObj.idB (liveAt g.h) o = true := fun {i o} ho => Tr.all_get hih ho
  obtain ⟨k1, k2⟩ := chkH_inv c4
  have hstat : ∀ {i o}, g.h.get i = some o → i < g.nx ∧ (deadB o = true ∨ okO o = true) := by
    intro i o ho
    have := List.all_eq_true.1 t4 _ (toL_get ho)
    simp only [Bool.and_eq_true, natBlt, decide_eq_true_eq, Bool.or_eq_true] at this
    exact this
  have deadB_of : ∀ {o : AObj}, live o = true → deadB o = false := by
    intro o ho
    unfold deadB
    rw [notF_eq, ho]
    rfl
  have hlv : ∀ {i o}, g.h.get i = some o → live o = true → ∃ u p, s.hp.get (r.id i) = some u ∧ SubOV s.pc.rg r o u ∧ φ[r.id i]? = some p ∧ r.id i < s.nx ∧ i < g.nx ∧ okO o = true := by
    intro i o ho hl
    obtain ⟨u, b1, b2, _⟩ := k1 _ (toL_get ho) (deadB_of hl)
    obtain ⟨p, hp⟩ := (hm.hp.obj _ _ b1).pl
    obtain ⟨s1', s2'⟩ := hstat ho
    refine ⟨u, p, b1, b2, hp, hm.ids _ _ b1, s1', ?_⟩
    rcases s2' with h | h
    · rw [deadB_of hl] at h; cases h
    · exact h
  have hinj : ∀ {i j : Nat}, liveAt g.h i = true → liveAt g.h j = true → r.id i = r.id j → i = j := by
    intro i j hi hj he
    obtain ⟨o, ho, hl⟩ := liveAt_of hi
    obtain ⟨o', ho', hl'⟩ := liveAt_of hj
    have := k2 _ (toL_get ho) _ (toL_get ho') (deadB_of hl) (deadB_of hl') he
    exact congrArg Prod.fst this
  have hL : ∀ {i}, liveAt g.h i = true → ∃ p, φ[r.id i]? = some p ∧ r.id i < s.nx ∧ i < g.nx := by
    intro i hi
    obtain ⟨o, ho, hl⟩ := liveAt_of hi
    obtain ⟨u, p, _, _, b3, b4, b5, _⟩ := hlv ho hl
    exact ⟨p, b3, b4, b5⟩
  obtain ⟨q0, hq0⟩ : ∃ q0 : Pl, g.nx = 0 ∨ ∃ i0, liveAt g.h i0 = true ∧ φ[r.id i0]? = some q0 := by
    rcases hany with h | h
    · exact ⟨⟨0, 0, 0, 0⟩, .inl h⟩
    · obtain ⟨p, hp, _⟩ := hL h
      exact ⟨p, .inr ⟨_, h, hp⟩⟩
  generalize hφS : (List.range g.nx).map (fun i => if liveAt g.h i then (φ[r.id i]?).getD q0 else q0) = φS
  have hSget : ∀ i, φS[i]? = if i < g.nx then some (if liveAt g.h i then (φ[r.id i]?).getD q0 else q0) else none := by
    intro i
    rw [← hφS, List.getElem?_map]
    by_cases hi : i < g.nx
    · rw [if_pos hi, List.getElem?_range hi]; rfl
    · rw [if_neg hi, List.getElem?_eq_none (by simp; omega)]; rfl
  have hSlen : φS.length = g.nx := by rw [← hφS]; simp
  have hSk : ∀ i, liveAt g.h i = true → φS[i]? = φ[r.id i]? := by
    intro i hi
    obtain ⟨p, b1, b2, b3⟩ := hL hi
    rw [hSget i, if_pos b3, if_pos hi, b1]
    rfl
  have hSback : ∀ {i : Nat} {p : Pl}, φS[i]? = some p → ∃ j, liveAt g.h j = true ∧ φ[r.id j]? = some p := by
    intro i p hp
    rw [hSget i] at hp
    split at hp
    · rename_i hi
      cases hp
      split
      · rename_i hl
        obtain ⟨p, b1, _⟩ := hL hl
        exact ⟨i, hl, by rw [b1]; rfl⟩
      · rcases hq0 with h | ⟨i0, h1, h2⟩
        · omega
        · exact ⟨i0, h1, h2⟩
    · cases hp
  let B : Nat → Prop := fun b => ∃ i p, liveAt g.h i = true ∧ φ[r.id i]? = some p ∧ p.blk = b
  let wS : Base := ⟨w0.w0, w0.fr ++ others B w⟩
  have hmS : Gm P (r.rho ρ) wS φS g.s0 w := by
    refine ⟨⟨fun id o ho => ?_, fun i j o o' p q hi hj hl hl' hp hq he => ?_⟩, hSlen, fun id o ho => (hstat ho).1, fun id p hp => ?_, hm.kp, fun y hy => ?_, Ren.rho_fo hm.fo⟩
    · have ho : g.h.get id = some o := ho
      cases hlo : live o with
      | true =>
        obtain ⟨u, p, b1, b2, b3, b4, b5, b6⟩ := hlv ho hlo
        exact (ObjOk.sub hrg hSk (hSk id (liveAt_mk ho hlo)) b6 (hgid ho) b2).1 (hm.hp.obj _ _ b1)
      | false =>
        cases o <;> first | cases hlo | skip
        have := (hstat ho).1
        exact ⟨_, by rw [hSget id, if_pos this]⟩
    · have hi : g.h.get i = some o := hi
      have hj : g.h.get j = some o' := hj
      rw [hSk i (liveAt_mk hi hl)] at hp
      rw [hSk j (liveAt_mk hj hl')] at hq
      obtain ⟨u, _, b1, b2, _⟩ := hlv hi hl
      obtain ⟨u', _, d1, d2, _⟩ := hlv hj hl'
      exact hinj (liveAt_mk hi hl) (liveAt_mk hj hl') (hm.hp.sep _ _ u u' p q b1 d1 (by rw [b2.live]; exact hl) (by rw [d2.live]; exact hl') hp hq he)
    · obtain ⟨j, h1, h3⟩ := hSback hp
      exact hm.lo _ p h3
    · rcases List.mem_append.1 hy with hy | hy
      · obtain ⟨a1, a2, a3⟩ := hm.fr y hy
        refine ⟨a1, a2, fun id p hp => ?_⟩
        obtain ⟨j, h1, h3⟩ := hSback hp
        exact a3 _ p h3
      · rw [others_mem] at hy
        refine ⟨(Array.getElem?_eq_some_iff.1 hy.2).1, hy.2, fun id p hp he => hy.1 ?_⟩
        obtain ⟨j, h1, h3⟩ := hSback hp
        exact ⟨j, p, h1, h3, he⟩
  have hρ1 : Holds (r.rho ρ) s1.pc := by
    refine ⟨fun z hz => ?_, ?_⟩
    · rw [y5] at hz
      rcases List.mem_append.1 hz with hz | hz
      · exact hxl z hz
      · exact chkPr_inv t2 c3 ρ hρ0 z hz
    · rw [hpx.rg]
      intro i a b hi
      have := chkRg_inv hrg c2 i a b hi
      rw [Nat.zero_add] at this
      exact this
  have hxsS : concL φS (r.rho ρ) g.args = some xs := by rw [← a2 _ ρ φ φS t1 hia hrg hSk]; exact hxs
  have key : ∀ (v' : Value) (w' : World), (∃ φ', φS <+: φ' ∧ conc φ' (r.rho ρ) x.v = some v' ∧ Gm P (r.rho ρ) wS φ' s1 w') → ∃ φ', φ <+: φ' ∧ conc φ' ρ v = some v' ∧ Gm P ρ w0 φ' ⟨h', Nat.add s.nx (Nat.sub x.nx g.nx), pc1⟩ w' := by
    rintro v' w' ⟨φ1, ⟨ψ, rfl⟩, hv, h1⟩
    have hnew : ∀ {i}, g.nx ≤ i → r.id i = s.nx + (i - g.nx) := fun {i} hi => by rw [id_new (by rw [hn]; exact hi), hn, hn']
    have hkeep : ∀ i, keepB g i = true → (φS ++ ψ)[i]? = (φ ++ ψ)[r.id i]? := by
      intro i hi
      simp only [keepB, Bool.or_eq_true, natBle, decide_eq_true_eq] at hi
      rcases hi with hi | hi
      · obtain ⟨p, b1, b2, b3⟩ := hL hi
        rw [List.getElem?_append_left (by omega), List.getElem?_append_left (by rw [hm.len]; exact b2), hSk i hi]
      · rw [hnew hi, List.getElem?_append_right (by omega), List.getElem?_append_right (by rw [hm.len]; omega), hSlen, hm.len, Nat.add_sub_cancel_left]
    have hkinj : ∀ {i j}, keepB g i = true → keepB g j = true → r.id i = r.id j → i = j := by
      intro i j hi hj he
      simp only [keepB, Bool.or_eq_true, natBle, decide_eq_true_eq] at hi hj
      rcases hi with hi | hi <;> rcases hj with hj | hj
      · exact hinj hi hj he
      · obtain ⟨_, _, b2, _⟩ := hL hi
        rw [hnew hj] at he; omega
      · obtain ⟨_, _, b2, _⟩ := hL hj
        rw [hnew hi] at he; omega
      · rw [hnew hi, hnew hj] at he; omega
    have hleaf := List.all_eq_true.1 hil x hx
    simp only [leafB, Bool.and_eq_true] at hleaf
    obtain ⟨hvid, hdl⟩ := hleaf
    have h1get : ∀ {i o}, (Tr.over x.d g.h).get i = some o → s1.hp.get i = some o := fun {i o} ho => Tr.leB_get (fun _ _ => AObj.beq_eq) y6 ho
    have hkeys := (keysB_inv u4).2
    have hdl1 : ∀ z ∈ x.dl, s1.hp.get z.1 = some z.2 := by
      intro z hz
      have : x.d.get z.1 = some z.2 := setH_keys x.dl .nil hkeys z hz
      exact h1get (by show Tr.getP _ _ = _; rw [Tr.over_get]; rw [show Tr.getP (posOf z.1) x.d = some z.2 from this]; rfl)
    have hwx : ∀ {j : Nat} {o : AObj} {p : Pl}, s.hp.get j = some o → live o = true → φ[j]? = some p → (∀ i, liveAt g.h i = true → r.id i ≠ j) → (p.blk, (w.heap[p.blk]?).getD default) ∈ others B w := by
      intro j o p ho hl hp hnj
      rw [others_mem]
      have hlt := (hm.lo j p hp).2
      refine ⟨?_, ?_⟩
      · rintro ⟨i, p', hi, hp', he⟩
        obtain ⟨oi, hoi, hli⟩ := liveAt_of hi
        obtain ⟨u, _, b1, b2, _⟩ := hlv hoi hli
        exact hnj i hi (hm.hp.sep _ _ u o p' p b1 ho (by rw [b2.live]; exact hli) hl hp' hp he)
      · simp [Array.getElem?_eq_getElem hlt]
    have hcase : ∀ {j o}, h'.get j = some o → live o = true → (∃ i o', keepB g i = true ∧ j = r.id i ∧ s1.hp.get i = some o' ∧ SubOV s.pc.rg r o' o ∧ okO o' = true ∧ AObj.idB (keepB g) o' = true ∧ live o' = true) ∨ (s.hp.get j = some o ∧ ∀ i, liveAt g.h i = true → r.id i ≠ j) := by
      intro j o ho hl
      rcases hput j o ho with ⟨z, b1, b2, b3, b4⟩ | ⟨b1, b2⟩
      · have hlz : live z.2 = true := by rw [← b4.live]; exact hl
        have d1 := List.all_eq_true.1 hdl z b1
        have d2 := List.all_eq_true.1 u5 z b1
        simp only [Bool.or_eq_true, Bool.and_eq_true, deadB_of hlz, Bool.false_eq_true, false_or] at d1 d2
        exact .inl ⟨z.1, z.2, b2, b3, hdl1 z b1, b4, d2, d1.2, hlz⟩
      · by_cases hi : ∃ i, liveAt g.h i = true ∧ r.id i = j
        · obtain ⟨i, hi, rfl⟩ := hi
          obtain ⟨oi, hoi, hli⟩ := liveAt_of hi
          obtain ⟨u, p, d1, d2, d3, d4, d5, d6⟩ := hlv hoi hli
          rw [b1] at d1
          cases d1
          have hki : keepB g i = true := by simp only [keepB, hi, Bool.true_or]
          have hxn : Tr.getP (posOf i) x.d = none := by
            cases hxd : Tr.getP (posOf i) x.d with
            | none => rfl
            | some o2 =>
              rcases setH_get x.dl .nil (show (setH .nil x.dl).get i = some o2 from hxd) with h | h
              · exact absurd rfl (b2 _ h hki)
              · rw [Tr.get_nil] at h; cases h
          refine .inl ⟨i, oi, hki, rfl, h1get (by show Tr.getP _ _ = _; rw [Tr.over_get, hxn]; exact hoi), d2, d6, ?_, hli⟩
          exact AObj.idB_mono (fun j hj => by simp only [keepB, hj, Bool.true_or]) (hgid hoi)
        · exact .inr ⟨b1, fun i hi' he => hi ⟨i, hi', he⟩⟩
    have hlen : φS.length + ψ.length = x.nx := by rw [← List.length_append, h1.len, y3]
    have hkl : ∀ {i o}, keepB g i = true → s1.hp.get i = some o → r.id i < φ.length + ψ.length := by
      intro i o hi ho
      have h3 := h1.ids i o ho
      rw [y3] at h3
      simp only [keepB, Bool.or_eq_true, natBle, decide_eq_true_eq] at hi
      rcases hi with hi | hi
      · obtain ⟨p, b1, b2, b3⟩ := hL hi
        rw [hm.len]; omega
      · rw [hnew hi, hm.len]; omega
    have hlt : ∀ {j o}, h'.get j = some o → j < φ.length + ψ.length := by
      intro j o ho
      rcases hput j o ho with ⟨z, b1, b2, b3, b4⟩ | ⟨b1, _⟩
      · rw [b3]
        exact hkl b2 (hdl1 z b1)
      · have := hm.ids j o b1
        rw [← hm.len] at this
        omega
    refine ⟨φ ++ ψ, ⟨ψ, rfl⟩, by rw [hvs.2 _ ρ _ _ u1 hvid hrg hkeep]; exact hv, ⟨fun id o ho => ?_, fun i j o o' p q hi hj hl hl' hp hq he => ?_⟩, ?_, fun id o ho => ?_, fun id p hp => ?_, h1.kp, fun y hy => ?_, hm.fo⟩
    · have ho : h'.get id = some o := ho
      cases hlo : live o with
      | false =>
        cases o <;> first | cases hlo | skip
        have := hlt ho
        exact ⟨(φ ++ ψ)[id]'(by rw [List.length_append]; exact this), List.getElem?_eq_getElem _⟩
      | true =>
        rcases hcase ho hlo with ⟨i, o2, b1, rfl, b3, b4, b5, b6, b7⟩ | ⟨b1, b2⟩
        · exact (ObjOk.sub hrg hkeep (hkeep i b1) b5 b6 b4).2 (h1.hp.obj i o2 b3)
        · refine ((hm.hp.obj id o b1).mono (φ' := φ ++ ψ) ⟨ψ, rfl⟩).world fun p hl hp => ?_
          have hid : id < φ.length := by rw [hm.len]; exact hm.ids id o b1
          rw [List.getElem?_append_left hid] at hp
          have hmem := hwx b1 hl hp b2
          obtain ⟨_, d2, _⟩ := h1.fr _ (List.mem_append_right _ hmem)
          rw [d2]
          have hlt2 := (hm.lo id p hp).2
          simp [Array.getElem?_eq_getElem hlt2]
    · have hi : h'.get i = some o := hi
      have hj : h'.get j = some o' := hj
      have mixed : ∀ {i j : Nat} {o o' : AObj} {p q : Pl}, s1.hp.get i = some o → keepB g i = true → s.hp.get j = some o' → live o' = true → (∀ k, liveAt g.h k = true → r.id k ≠ j) → (φ ++ ψ)[r.id i]? = some p → (φ ++ ψ)[j]? = some q → p.blk ≠ q.blk := by
        intro i j o o' p q a1 ak b1 bl bk hp hq he
        have hjd : j < φ.length := by rw [hm.len]; exact hm.ids j o' b1
        rw [List.getElem?_append_left hjd] at hq
        have hmem := hwx b1 bl hq bk
        obtain ⟨_, _, b3⟩ := h1.fr _ (List.mem_append_right _ hmem)
        rw [← hkeep i ak] at hp
        exact b3 i p hp he
      rcases hcase hi hl with ⟨i1, o1, b1, rfl, b3, b4, b5, b6, b7⟩ | ⟨b1, b2⟩ <;> rcases hcase hj hl' with ⟨i2, o2, d1, rfl, d3, d4, d5, d6, d7⟩ | ⟨d1, d2⟩
      · rw [← hkeep i1 b1] at hp
        rw [← hkeep i2 d1] at hq
        rw [h1.hp.sep i1 i2 o1 o2 p q b3 d3 b7 d7 hp hq he]
      · exact absurd he (mixed b3 b1 d1 hl' d2 hp hq)
      · exact absurd he.symm (mixed d3 d1 b1 hl b2 hq hp)
      · have hid : i < φ.length := by rw [hm.len]; exact hm.ids i o b1
        have hjd : j < φ.length := by rw [hm.len]; exact hm.ids j o' d1
        rw [List.getElem?_append_left hid] at hp
        rw [List.getElem?_append_left hjd] at hq
        exact hm.hp.sep i j o o' p q b1 d1 hl hl' hp hq he
    · show (φ ++ ψ).length = s.nx + (x.nx - g.nx)
      rw [List.length_append, hm.len]
      omega
    · show id < s.nx + (x.nx - g.nx)
      have := hlt (show h'.get id = some o from ho)
      rw [hm.len] at this
      omega
    · by_cases hid : id < φ.length
      · rw [List.getElem?_append_left hid] at hp
        refine ⟨(hm.lo id p hp).1, ?_⟩
        by_cases hB : B p.blk
        · obtain ⟨j, p', hj, hp', he⟩ := hB
          obtain ⟨_, _, _, b3⟩ := hL hj
          rw [← he]
          exact (h1.lo j p' (by rw [List.getElem?_append_left (by omega), hSk j hj]; exact hp')).2
        · have hlt2 := (hm.lo id p hp).2
          exact (h1.fr (p.blk, w.heap[p.blk]) (List.mem_append_right _ (others_mem.2 ⟨hB, Array.getElem?_eq_getElem hlt2⟩))).1
      · have hge : φ.length ≤ id := by omega
        rw [List.getElem?_append_right hge] at hp
        exact h1.lo (g.nx + (id - φ.length)) p (by rw [List.getElem?_append_right (by omega), hSlen, Nat.add_sub_cancel_left]; exact hp)
    · obtain ⟨a1, a2, a3⟩ := h1.fr y (List.mem_append_left _ hy)
      refine ⟨a1, a2, fun id p hp => ?_⟩
      by_cases hid : id < φ.length
      · rw [List.getElem?_append_left hid] at hp
        exact (hm.fr y hy).2.2 id p hp
      · have hge : φ.length ≤ id := by omega
        rw [List.getElem?_append_right hge] at hp
        exact a3 (g.nx + (id - φ.length)) p (by rw [List.getElem?_append_right (by omega), hSlen, Nat.add_sub_cancel_left]; exact hp)
  rcases hd hρ1 hxsS hmS with ⟨h1, h2⟩ | ⟨v', w', h1, h2⟩
  · exact .inl ⟨h1, h2.mono fun e w' ⟨v', he, hv⟩ => ⟨v', he, key v' w' hv⟩⟩
  · exact .inr ⟨v', w', h1, key v' w' h2⟩
end

theorem frcT_eq {α : Type} : ∀ (t : Tr Nat) (κ : Tr Nat → α), frcT t κ = κ t := by
  intro t
  induction t with
  | nil => intro κ; rfl
  | node v l r ihl ihr =>
    intro κ
    cases v with
    | none =>
      show (frcT l fun l => frcT r fun r => κ (.node none l r)) = _
      rw [ihl, ihr]
    | some x =>
      show (forceN x fun x => frcT l fun l => frcT r fun r => κ (.node (some x) l r)) = _
      rw [frcN, ihl, ihr]
theorem frcS_eq {α : Type} : ∀ (e : SI) (κ : SI → α), frcS e κ = κ e := by
  intro e
  induction e with
  | lit n => intro κ; exact forceI_eq n fun n => κ (.lit n)
  | var i => intro κ; exact frcN (n := i) (f := fun i => κ (.var i))
  | bin op k a b iha ihb =>
    intro κ
    show (frcS a fun a => frcS b fun b => κ (.bin op k a b)) = _
    rw [iha, ihb]
  | conv k a ih => intro κ; exact ih _
  | fold a ih => intro κ; exact ih _
  | rs a p o n iho ihn =>
    intro κ
    show (frcS o fun o => frcS n fun n => κ (.rs a p o n)) = _
    rw [iho, ihn]
theorem frcU_eq {α : Type} : ∀ (t : Tr SI) (κ : Tr SI → α), frcU t κ = κ t := by
  intro t
  induction t with
  | nil => intro κ; rfl
  | node v l r ihl ihr =>
    intro κ
    cases v with
    | none =>
      show (frcU l fun l => frcU r fun r => κ (.node none l r)) = _
      rw [ihl, ihr]
    | some x =>
      show (frcS x fun x => frcU l fun l => frcU r fun r => κ (.node (some x) l r)) = _
      rw [frcS_eq, ihl, ihr]
section
variable {P : Program} {pl : Plans}
/-- what such a stage has to be -/
def GsOk (P : Program) (pl : Plans) (f : FuncId) (q : GS) : Prop := StageOk P pl f q.g ∧ q.t.toR q.g.ls = q.g.r ∧ statB q = true
theorem usesG_ok (hm : P.follows .mixedOrders = true) (hP : PlansOk P pl) {f : FuncId} {qs : List GS} (hg : ∀ q ∈ qs, GsOk P pl f q) : ResOk P f (usesG qs) := by
  intro ρ l s κ alt D
  induction qs with
  | nil => exact fun h => .inl h
  | cons q qs ih =>
    intro h
    have h : useG q l s κ (usesG qs l s κ alt) ∈ D := h
    have rest : usesG qs l s κ alt ∈ D → alt ∈ D ∨ ∃ v s', κ v s' ∈ D ∧ PcExt s.pc s'.pc ∧ CallDoes P ρ f l s v s' := fun h => ih (fun g' h' => hg g' (by simp [h'])) h
    unfold useG at h
    cases hb : bndH q.g.h s.hp q.ord (bndL q.g.args l ⟨.nil, .nil, .nil, q.g.nx, s.nx⟩) with
    | none => rw [hb] at h; exact rest h
    | some r =>
      rw [hb] at h
      have h : (frcT r.ids fun a => frcU r.si fun b => frcT r.rw fun c => useR q l s κ (usesG qs l s κ alt) ⟨a, b, c, q.g.nx, s.nx⟩) ∈ D := h
      rw [frcT_eq, frcU_eq, frcT_eq] at h
      obtain ⟨g1, g2, g3⟩ := hg q (by simp)
      rcases useR_ok hm hP g1 g2 g3 rfl rfl h with h1 | ⟨v, s', h1, h2, h3⟩
      · exact rest h1
      · exact .inr ⟨v, s', h1, h2, h3 ρ⟩
noncomputable abbrev sumGs (f : FuncId) (qs : List GS) : Sums := sumRes f (usesG qs)
theorem sumGs_ok (hm : P.follows .mixedOrders = true) (hP : PlansOk P pl) {f : FuncId} {qs : List GS} (h : ∀ q ∈ qs, GsOk P pl f q) : SumsOk P (sumGs f qs) := sumRes_ok (usesG_ok hm hP h)
end
end Go.Proofs.YtoimjmmbppikoaaGreat
