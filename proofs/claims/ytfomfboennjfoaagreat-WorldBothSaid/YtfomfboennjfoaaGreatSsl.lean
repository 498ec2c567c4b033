/-
  wharflaw24's own comparison of two rows of bytes, where a length that can only be one figure counts as that figure.
-/
import Derived.Test.YtfomfboennjfoaaGreatSsqn
set_option linter.unusedVariables false
set_option linter.unusedSimpArgs false
namespace Go.Proofs.YtfomfboennjfoaaGreat
open Go Go.RowKit

noncomputable section
def figE (rg : List (Int × Int)) (e : SI) : SI := opt1' (rngS rg e) e fun l h => Bool.rec (motive := fun _ => SI) e (.lit l) (beqF l h)
def figCh (rg : List (Int × Int)) (c : Ch) : Ch := match c with
  | .row a o n => .row a (figE rg o) (figE rg n)
  | c => c
def noneC (rg : List (Int × Int)) (c : Ch) : Bool := match c with
  | .fil n _ => nilR rg n
  | _ => false
def figCs (rg : List (Int × Int)) (cs : List Ch) : List Ch := List.rec (motive := fun _ => List Ch) [] (fun c _ ih => Bool.rec (motive := fun _ => List Ch) (figCh rg c :: ih) ih (noneC rg c)) cs
def samE (l : List AV) (s : St) (κ : AV → St → R) (alt : R) : R := match l with
  | [x, y] => Bool.rec (motive := fun _ => R) alt (lenS s.pc x fun n => Bool.rec (motive := fun _ => R) (.fail 483) (readR s.hp s.pc x fun cs pc => readR s.hp pc y fun ds pc => trimC cs fun cs => trimC ds fun ds => mrgK pc (figCs pc.rg cs) fun cs => mrgK pc (figCs pc.rg ds) fun ds => Bool.rec (motive := fun _ => R) (.fail 484) (κ (.bool (.lit true)) ⟨s.hp, s.nx, pc⟩) (eqCs cs ds)) (ltB s.pc.rg n)) ((ropy s.hp x || ropy s.hp y) && (locV s.hp x && locV s.hp y))
  | _ => alt
def sumSamE (f0 : FuncId) : Sums := fun f l s κ alt => Bool.rec (motive := fun _ => R) alt (samE l s κ alt) (Nat.beq f f0)
end
theorem figE_ev {rg : List (Int × Int)} (e : SI) {ρ : Nat → Int} (hr : RgOk ρ rg) : (figE rg e).ev ρ = e.ev ρ := by
  unfold figE opt1'
  cases hx : rngS rg e with
  | none => rfl
  | some r =>
    obtain ⟨l, u⟩ := r
    show (Bool.rec (motive := fun _ => SI) e (.lit l) (beqF l u)).ev ρ = _
    cases hb : beqF l u with
    | false => rfl
    | true =>
      rw [beqF_eq, decide_eq_true_eq] at hb
      have hin := rngS_in hr e l u hx
      show l = _
      omega
theorem figCs_ok {rg : List (Int × Int)} : ∀ (cs : List Ch) (ρ : Nat → Int), RgOk ρ rg → ropeZ ρ (figCs rg cs) = ropeZ ρ cs
  | [], _, _ => rfl
  | c :: cs, ρ, hr => by
    show ropeZ ρ (Bool.rec (motive := fun _ => List Ch) (figCh rg c :: figCs rg cs) (figCs rg cs) (noneC rg c)) = _
    cases hn : noneC rg c with
    | true =>
      unfold noneC at hn
      split at hn
      · rename_i n v
        have h0 := nilR_ev hn hr
        show ropeZ ρ (figCs rg cs) = _
        rw [ropeZ_cons, figCs_ok cs ρ hr]
        simp [Ch.zs, h0]
      · cases hn
    | false =>
      show ropeZ ρ (figCh rg c :: figCs rg cs) = _
      rw [ropeZ_cons, ropeZ_cons, figCs_ok cs ρ hr]
      congr 1
      unfold figCh
      split
      · simp only [Ch.zs, figE_ev _ hr]
      · rfl
theorem sumSamE_ok : SumsOk Tryz.prog (sumSamE 28) := by
  intro ρ f l s κ alt D h
  unfold sumSamE at h
  rcases brec_cases h with ⟨hf, h1⟩ | ⟨_, h1⟩
  · rw [natBeq] at hf
    have hf := of_decide_eq_true hf
    subst hf
    unfold samE at h1
    split at h1
    · rename_i x y
      rcases brec_cases h1 with ⟨hro, h2⟩ | ⟨_, h2⟩
      · rw [Bool.and_eq_true, Bool.and_eq_true] at hro
        obtain ⟨_, hx1, hy1⟩ := hro
        obtain ⟨n, h2, hn⟩ := lenS_inv h2
        obtain ⟨hlt, h2⟩ := brec_inv h2
        obtain ⟨cs, pc1, h3, hx, h4⟩ := readR_at' (P := Tryz.prog) (ρ := ρ) hx1 h2
        obtain ⟨ds, pc2, h5, hy, h6⟩ := readR_at' (P := Tryz.prog) (ρ := ρ) hy1 h3
        obtain ⟨cs', h7, e7⟩ := trimC_inv h5
        obtain ⟨ds', h8, e8⟩ := trimC_inv h7
        have f7 := figCs_ok (rg := pc2.rg) cs'
        have f8 := figCs_ok (rg := pc2.rg) ds'
        obtain ⟨cs2, h8, e7'⟩ := mrgK_inv h8
        obtain ⟨ds2, h8, e8'⟩ := mrgK_inv h8
        obtain ⟨he, h9⟩ := brec_inv h8
        refine .inr ⟨_, _, h9, hx.trans hy, fun {w0 φ w xs} hρ hxs hm => ?_⟩
        have hρ1 : Holds ρ pc1 := hρ.of_ext hy
        obtain ⟨y, ys, e1, e2, rfl⟩ := concL_cons.1 hxs
        obtain ⟨y2, ys2, e3, e4, rfl⟩ := concL_cons.1 e2
        simp only [concL, Option.some.injEq] at e4
        subst e4
        have hz : ropeZ ρ cs = ropeZ ρ ds := by rw [← e7, ← e8, ← f7 ρ hρ.rg, ← f8 ρ hρ.rg, ← e7' ρ hρ.rg, ← e8' ρ hρ.rg]; exact eqCs_ok he
        obtain ⟨b1, o1, m1, c1, rfl, hl1, hb1⟩ := h4 hρ1 hm e1
        obtain ⟨b2, o2, m2, c2, rfl, hl2, hb2⟩ := h6 hρ hm e3
        rw [← hz] at hl2 hb2
        have hrg : RgOk ρ s.pc.rg := by rw [← hx.rg, ← hy.rg]; exact hρ.rg
        have hsmall : m1 < 4611686018427387904 := by
          obtain ⟨l1, l2⟩ := ltB_ok hlt (ρ := ρ) hrg
          obtain ⟨_, _, _, _, e3, e4⟩ := hn hrg e1
          cases e3
          omega
        subst hl1
        subst hl2
        refine CallsOr.of (enter_of Tryz.func28 (by kernel_rfl) (by kernel_rfl) _ w) ?_
        refine (S24.same_any b1 o1 c1 b2 o2 c2 _ (valZ (ropeZ ρ cs)) hsmall w (fun i hi => ?_) (fun i hi => ?_)).mono fun e' w' ⟨he, d, hk⟩ => ⟨φ, _, he, List.prefix_refl _, rfl, (hm.pc pc2).keeps (by rw [hk]; exact (Kp.refl _ _).drewN d)⟩
        · rw [hb1 i _ (List.getElem?_eq_getElem hi)]
          unfold valZ
          rw [List.getElem?_eq_getElem hi]
          rfl
        · rw [hb2 i _ (List.getElem?_eq_getElem hi)]
          unfold valZ
          rw [List.getElem?_eq_getElem hi]
          rfl
      · exact .inl h2
    · exact .inl h1
  · exact .inl h1
end Go.Proofs.YtfomfboennjfoaaGreat
