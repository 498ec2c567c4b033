/-
  What the functions told without temporaries are told with.
-/
import Derived.Test.YticednpolhnneaaGreatSxv
set_option linter.unusedVariables false
set_option linter.unusedSimpArgs false
namespace Go.Proofs.YticednpolhnneaaGreat
open Go

noncomputable section
abbrev decS (s : St) (c : SB) (κ : Bool → St → R) : R := St.rec (motive := fun _ => R) (fun hp nx pc => decK pc c fun b pc => κ b ⟨hp, nx, pc⟩) s
abbrev wantS (s : St) (w : Bool) (κ : Bool → St → R) (v : AV) : R := St.rec (motive := fun _ => R) (fun hp nx pc => wantB pc w (fun b pc => κ b ⟨hp, nx, pc⟩) v) s
abbrev bltS (P : Program) (b : Builtin) (Ts : Array TypeId) (l : List AV) (s : St) (κ : AV → St → R) : R := St.rec (motive := fun _ => R) (fun hp nx pc => bltQ P b Ts hp l pc fun v pc => κ v ⟨hp, nx, pc⟩) s
abbrev bopS (P : Program) (op : BinOp) (T : TypeId) (nl : Bool) (x y : AV) (s : St) (κ : AV → St → R) : R := St.rec (motive := fun _ => R) (fun hp nx pc => bopQ P op T hp nl x y pc fun v pc => κ v ⟨hp, nx, pc⟩) s
abbrev cvtS (P : Program) (src dst : TypeId) (x : AV) (s : St) (κ : AV → R) : R := convQ P src dst s.hp x fun v => fitV s.pc.rg v κ
abbrev ixaS (P : Program) (T : TypeId) (x i : AV) (s : St) (κ : AV → R) : R := litR s.pc.rg i fun i => ixAddr P T x i κ
abbrev ixvS (P : Program) (T : TypeId) (x i : AV) (s : St) (κ : AV → R) : R := litR s.pc.rg i fun i => ixA P T x i κ
abbrev lookS (P : Program) (T : TypeId) (x i : AV) (ok : Bool) (s : St) (κ : AV → St → R) : R := St.rec (motive := fun _ => R) (fun hp nx pc => lookA P T hp x i ok pc fun v pc => κ v ⟨hp, nx, pc⟩) s
abbrev buildV (P : Program) (T : TypeId) (ps : List (Nat × AV)) (κ : AV → R) : R := optK (zeroA P T) 72 fun z => cellsK (.fail 73) z fun z => match P.underlying T with
  | some (.struct _) => optK (placesA P T) 76 fun pl => fillA (fun i => pl[i]?) ps z fun l => κ (.agg l)
  | some (.array _ e) => optK (sizeA P e) 74 fun s => fillA (fun i => some (i * s, s)) ps z fun l => κ (.agg l)
  | _ => .fail 75
abbrev buildSV (P : Program) (T : TypeId) (len : Nat) (ps : List (Nat × AV)) (s : St) (κ : AV → St → R) : R := optK (ixOf P T) 110 fun d => match d with
  | .sli e sz => Bool.rec (motive := fun _ => R) (.fail 111) (optK (zeroA P e) 112 fun z => cellsK (.fail 113) z fun z =>
      Bool.rec (motive := fun _ => R) (.fail 114) (fillA (fun i => some (i * sz, sz)) ps (repL z len) fun l => newL s l e false fun id s => κ (.sl id (nat_lit 0) len (some len)) s) (Nat.beq (lenL z) sz)) (Nat.ble (Nat.mul len sz) (nat_lit 16777216) && !(Nat.beq sz (nat_lit 0)))
  | _ => .fail 115
/-- a part of code -/
def subC (p : List Nat) : Code → Code := List.rec (motive := fun _ => Code → Code) (fun c => c) (fun i _ ih c => match c with
  | .seq a b => Nat.rec (motive := fun _ => Code) (ih a) (fun _ _ => ih b) i
  | .cond _ a b => Nat.rec (motive := fun _ => Code) (ih a) (fun _ _ => ih b) i
  | .block _ a => ih a
  | .loop a => ih a
  | .scope a => ih a
  | c => c) p
def bodyOf (f : Func) : Code := match f.body with
  | some c => c
  | none => .skip
/-- a function told so is known ahead -/
def ResOk (P : Program) (f : FuncId) (M : List AV → St → (AV → St → R) → R → R) : Prop := ∀ {ρ : Nat → Int} {l : List AV} {s : St} {κ : AV → St → R} {alt : R} {D : Dn}, M l s κ alt ∈ D → alt ∈ D ∨ ∃ v s', κ v s' ∈ D ∧ PcExt s.pc s'.pc ∧ CallDoes P ρ f l s v s'
abbrev sumRes (f0 : FuncId) (M : List AV → St → (AV → St → R) → R → R) : Sums := fun f l s κ alt => Bool.rec (motive := fun _ => R) alt (M l s κ alt) (Nat.beq f f0)
theorem sumRes_ok {P : Program} {f0 : FuncId} {M : List AV → St → (AV → St → R) → R → R} (h : ResOk P f0 M) : SumsOk P (sumRes f0 M) := by
  intro ρ f l s κ alt D hD
  unfold sumRes at hD
  rcases brec_cases hD with ⟨hf, h1⟩ | ⟨_, h1⟩
  · rw [natBeq] at hf
    have hf := of_decide_eq_true hf
    subst hf
    exact h h1
  · exact .inl h1
end
/-- the plans of the regions alone are asked of code -/
theorem codeOk_pl {pl pl' : Plans} (h : pl.pl = pl'.pl) (f : FuncId) : ∀ c : Code, codeOk pl f c = codeOk pl' f c := by
  intro c
  induction c with
  | region id ops draw => simp only [codeOk, h]
  | seq a b iha ihb => simp only [codeOk, iha, ihb]
  | cond c a b iha ihb => simp only [codeOk, iha, ihb]
  | block id c ih => simp only [codeOk, ih]
  | loop c ih => simp only [codeOk, ih]
  | scope c ih => simp only [codeOk, ih]
  | _ => rfl
theorem plansOk_ac {P : Program} {pl pl' : Plans} (h : PlansOk P pl) (hp : pl'.pl = pl.pl) (ha : ∀ a ∈ pl'.ac, AccOk a) : PlansOk P pl' := ⟨fun f fn c h1 h2 => by rw [codeOk_pl hp]; exact h.code f fn c h1 h2, ha⟩
theorem rgOk_nil {ρ : Nat → Int} : RgOk ρ [] := fun i l h e => by cases e
theorem rgOk_cons {ρ : Nat → Int} {l h : Int} {rg : List (Int × Int)} (h0 : l ≤ ρ 0 ∧ ρ 0 ≤ h) (hr : RgOk (fun i => ρ (i + 1)) rg) : RgOk ρ ((l, h) :: rg) := fun i l' h' e => by
  cases i with
  | zero => cases e; exact h0
  | succ i => exact hr i l' h' e
theorem rgOk_one {ρ : Nat → Int} {l h : Int} (h0 : l ≤ ρ 0 ∧ ρ 0 ≤ h) : RgOk ρ [(l, h)] := rgOk_cons h0 rgOk_nil
end Go.Proofs.YticednpolhnneaaGreat
