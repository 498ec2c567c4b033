/-
  A run reckoned ahead: quiet operations do what was reckoned (3).
-/
import Derived.Test.YticednpolhnneaaGreatSxe
import Derived.Laws.BytesString
import Derived.Laws.BytesArg
set_option linter.unusedVariables false
set_option linter.unusedSimpArgs false
namespace Go.Proofs.YticednpolhnneaaGreat
open Go

section
variable {P : Program} {D : Dn} {h : Tr AObj}

theorem binOp_eql {T : TypeId} {a b : Value} (h1 : ∀ k n, a ≠ .int k n) (h2 : ∀ k n, a ≠ .float k n) (h3 : ∀ k n m, a ≠ .complex k n m) (h4 : ∀ s, a ≠ .string s) :
    binOp .eql T a b = (do pure (.bool (← Op.equal T a b))) := by
  cases a <;> first
    | exact absurd rfl (h1 _ _) | exact absurd rfl (h2 _ _) | exact absurd rfl (h3 _ _ _) | exact absurd rfl (h4 _)
    | rfl | (cases b <;> rfl)
theorem binOp_neq {T : TypeId} {a b : Value} (h1 : ∀ k n, a ≠ .int k n) (h2 : ∀ k n, a ≠ .float k n) (h3 : ∀ k n m, a ≠ .complex k n m) (h4 : ∀ s, a ≠ .string s) :
    binOp .neq T a b = (do pure (.bool (!(← Op.equal T a b)))) := by
  cases a <;> first
    | exact absurd rfl (h1 _ _) | exact absurd rfl (h2 _ _) | exact absurd rfl (h3 _ _ _) | exact absurd rfl (h4 _)
    | rfl | (cases b <;> rfl)

theorem bin_sound {op : BinOp} {T : TypeId} {x y : AV} {κ : AV → R} (hD : binA P op T h x y κ ∈ D) :
    ∃ u, κ u ∈ D ∧ ∀ {φ ρ w a b o1 o2}, Hp P φ ρ h w → conc φ ρ x = some a → conc φ ρ y = some b → RunV P φ ρ w (do eqGuard op T o1 o2 a b; binOp op T a b) u := by
  have fin : ∀ {u : AV}, (∀ {φ ρ w a b}, conc φ ρ x = some a → conc φ ρ y = some b → plainV a = true ∧ RunV P φ ρ w (binOp op T a b) u) →
      ∀ {φ ρ w a b o1 o2}, Hp P φ ρ h w → conc φ ρ x = some a → conc φ ρ y = some b → RunV P φ ρ w (do eqGuard op T o1 o2 a b; binOp op T a b) u := by
    intro u hu φ ρ w a b o1 o2 _ ha hb
    obtain ⟨hpl, v, hv, hr⟩ := hu (w := w) ha hb
    refine ⟨v, hv, ?_⟩
    rw [Sem.run_bind, eqGuard_plain hpl]
    exact hr
  cases op
  case add => obtain ⟨u, hk, hu⟩ := arith_sound (T := T) (by simp) hD; exact ⟨u, hk, fin hu⟩
  case sub => obtain ⟨u, hk, hu⟩ := arith_sound (T := T) (by simp) hD; exact ⟨u, hk, fin hu⟩
  case mul => obtain ⟨u, hk, hu⟩ := arith_sound (T := T) (by simp) hD; exact ⟨u, hk, fin hu⟩
  case and => obtain ⟨u, hk, hu⟩ := arith_sound (T := T) (by simp) hD; exact ⟨u, hk, fin hu⟩
  case or => obtain ⟨u, hk, hu⟩ := arith_sound (T := T) (by simp) hD; exact ⟨u, hk, fin hu⟩
  case xor => obtain ⟨u, hk, hu⟩ := arith_sound (T := T) (by simp) hD; exact ⟨u, hk, fin hu⟩
  case andNot => obtain ⟨u, hk, hu⟩ := arith_sound (T := T) (by simp) hD; exact ⟨u, hk, fin hu⟩
  case quo => obtain ⟨u, hk, hu⟩ := div_sound (T := T) (by simp) hD; exact ⟨u, hk, fin hu⟩
  case rem => obtain ⟨u, hk, hu⟩ := div_sound (T := T) (by simp) hD; exact ⟨u, hk, fin hu⟩
  case shl => obtain ⟨u, hk, hu⟩ := shift_sound (T := T) (by simp) hD; exact ⟨u, hk, fin hu⟩
  case shr => obtain ⟨u, hk, hu⟩ := shift_sound (T := T) (by simp) hD; exact ⟨u, hk, fin hu⟩
  case lss => obtain ⟨u, hk, hu⟩ := compare_sound (T := T) (by simp) hD; exact ⟨u, hk, fin hu⟩
  case leq => obtain ⟨u, hk, hu⟩ := compare_sound (T := T) (by simp) hD; exact ⟨u, hk, fin hu⟩
  case gtr => obtain ⟨u, hk, hu⟩ := compare_sound (T := T) (by simp) hD; exact ⟨u, hk, fin hu⟩
  case geq => obtain ⟨u, hk, hu⟩ := compare_sound (T := T) (by simp) hD; exact ⟨u, hk, fin hu⟩
  case eql =>
    have hD : eqlA P T h x y κ ∈ D := hD
    unfold eqlA at hD
    split at hD
    · obtain ⟨u, hk, hu⟩ := compare_sound (T := T) (by simp) hD
      exact ⟨u, hk, fin hu⟩
    · obtain ⟨c, hk, hu⟩ := eq_sound hD
      refine ⟨.bool c, hk, fun {φ ρ w a b o1 o2} hp ha hb => ?_⟩
      obtain ⟨q1, q2, q3, q4, q5, q6⟩ := hu hp ha hb
      refine ⟨.bool (c.ev ρ), rfl, ?_⟩
      rw [Sem.run_bind, q1.run, Result.andThen_ok]
      rcases q6 with ⟨s, t, rfl, rfl, rfl⟩ | ⟨hs, hr⟩
      · simp [binOp, Op.stringOp, SB.ev]
      · rw [binOp_eql q2 q4 q5 hs, Sem.run_bind, hr]; rfl
  case neq =>
    have hD : neqA P T h x y κ ∈ D := hD
    unfold neqA at hD
    split at hD
    · obtain ⟨u, hk, hu⟩ := compare_sound (T := T) (by simp) hD
      exact ⟨u, hk, fin hu⟩
    · obtain ⟨c, hk, hu⟩ := eq_sound hD
      obtain ⟨e, he, hev⟩ := notK_spec c (boolK κ)
      rw [he] at hk
      refine ⟨.bool e, hk, fun {φ ρ w a b o1 o2} hp ha hb => ?_⟩
      obtain ⟨q1, q2, q3, q4, q5, q6⟩ := hu hp ha hb
      refine ⟨.bool (e.ev ρ), rfl, ?_⟩
      rw [Sem.run_bind, q1.run, Result.andThen_ok, hev]
      rcases q6 with ⟨s, t, rfl, rfl, rfl⟩ | ⟨hs, hr⟩
      · simp [binOp, Op.stringOp, SB.ev]
      · rw [binOp_neq q2 q4 q5 hs, Sem.run_bind, hr]; rfl

theorem un_sound {op : UnOp} {x : AV} {κ : AV → R} (hD : unA op x κ ∈ D) : ∃ u, κ u ∈ D ∧ ∀ {φ ρ w a}, conc φ ρ x = some a → RunV P φ ρ w (Op.unary op a) u := by
  cases op
  case neg =>
    obtain ⟨k, e, rfl, h1⟩ := asInt_inv (show asInt x (fun k a => binK .sub k (.lit (.ofNat (nat_lit 0))) a (intK κ k)) ∈ D from hD)
    obtain ⟨r, hr, hev⟩ := binK_spec .sub k (.lit (.ofNat (nat_lit 0))) e (intK κ k)
    rw [hr] at h1
    refine ⟨_, h1, fun {φ ρ w a} ha => ?_⟩
    simp only [conc, Option.some.injEq] at ha
    subst ha
    refine ⟨_, rfl, ?_⟩
    rw [hev]
    simp [Op.unary, Op.intArith, binZ, SI.ev]
  case not =>
    obtain ⟨b, rfl, h1⟩ := asBoolA_inv (show asBoolA x (fun b => notK b (boolK κ)) ∈ D from hD)
    obtain ⟨e, he, hev⟩ := notK_spec b (boolK κ)
    rw [he] at h1
    refine ⟨_, h1, fun {φ ρ w a} ha => ?_⟩
    simp only [conc, Option.some.injEq] at ha
    subst ha
    exact ⟨_, rfl, by rw [hev]; rfl⟩
  case xor =>
    obtain ⟨k, e, rfl, h1⟩ := asInt_inv (show asInt x (fun k a => binK .xor k (.lit (onesI k)) a (intK κ k)) ∈ D from hD)
    obtain ⟨r, hr, hev⟩ := binK_spec .xor k (.lit (onesI k)) e (intK κ k)
    rw [hr] at h1
    refine ⟨_, h1, fun {φ ρ w a} ha => ?_⟩
    simp only [conc, Option.some.injEq] at ha
    subst ha
    refine ⟨_, rfl, ?_⟩
    rw [hev]
    have ho : onesI k = (if k.signed then -1 else k.max) := by cases k <;> rfl
    simp only [Op.unary, ← ho, binZ, SI.ev]
    rfl
  all_goals cases hD

theorem conc_sl' {φ : List Pl} {ρ : Nat → Int} {id off len : Nat} {cap : Option Nat} {a : Value} (h : conc φ ρ (.sl id off len cap) = some a) : ∃ p, φ[id]? = some p ∧ a = .slice (some ⟨p.blk, p.sh + off, none⟩) len (cap.getD (p.room off)) := by
  simp only [conc, Option.map_eq_some_iff] at h
  obtain ⟨p, hp, rfl⟩ := h
  exact ⟨p, hp, rfl⟩
theorem eqP_sound {op : BinOp} {T : TypeId} {x y : AV} {pc : PC} {κ : AV → PC → R} (ho : isEqOp op = true) (hD : eqP P op T x y pc κ ∈ D) : ∃ u pc', κ u pc' ∈ D ∧ PcExt pc pc' ∧ ∀ {φ ρ w a b o1 o2}, Holds ρ pc' → conc φ ρ x = some a → conc φ ρ y = some b → RunV P φ ρ w (do eqGuard op T o1 o2 a b; binOp op T a b) u := by
  obtain ⟨n, hn, h1⟩ := optK_inv hD
  obtain ⟨hg, h2⟩ := brec_inv h1
  obtain ⟨l, rfl, h3⟩ := aggV_inv h2
  obtain ⟨m, rfl, h4⟩ := aggV_inv h3
  obtain ⟨hl, h5⟩ := brec_inv h4
  obtain ⟨b, pc', h6, hx, h7⟩ := eqCells_inv h5
  rw [notF_eq, Bool.not_eq_true'] at hg
  rw [natBeq, decide_eq_true_eq, lenC_eq] at hl
  refine ⟨_, pc', h6, hx, fun {φ ρ w a c o1 o2} hρ ha hc => ?_⟩
  obtain ⟨xs, hx', rfl⟩ := conc_agg' ha
  obtain ⟨ys, hy', rfl⟩ := conc_agg' hc
  have hr : (Op.equal T (.agg xs.toArray) (.agg ys.toArray)).run P w = .ok b w := equal_flat hn ((concL_length hx').trans hl) (h7 hρ hx' hy') (d := 9998)
  refine ⟨.bool (eqlB op b), rfl, ?_⟩
  have hG : GuardOk P T (.agg xs.toArray) (.agg ys.toArray) := .inr ⟨hg, _, _, rfl, rfl⟩
  rw [Sem.run_bind, hG.run, Result.andThen_ok]
  cases op <;> first | (cases ho; done) | skip
  · rw [binOp_eql (by simp) (by simp) (by simp) (by simp), Sem.run_bind, hr]; rfl
  · rw [binOp_neq (by simp) (by simp) (by simp) (by simp), Sem.run_bind, hr]
    show _ = Result.ok (Value.bool (notF b)) w
    rw [notF_eq]; rfl
theorem stripK_eq {α : Type} {rg : List (Int × Int)} (e : SI) (κ : SI → α) : ∃ u, stripK rg e κ = κ u ∧ ∀ ρ, RgOk ρ rg → u.ev ρ = e.ev ρ := by
  cases e with
  | conv k a =>
    cases a with
    | var i =>
      show ∃ u, (opt1' (nthR rg i) (κ (.conv k (.var i))) fun l h => Bool.rec (motive := fun _ => α) (κ (.conv k (.var i))) (κ (.var i)) (leF (minK k) l && leF h (maxK k))) = κ u ∧ _
      unfold opt1'
      cases hg : nthR rg i with
      | none => exact ⟨_, rfl, fun _ _ => rfl⟩
      | some r =>
        simp only
        cases hb : leF (minK k) r.1 && leF r.2 (maxK k) with
        | true =>
          refine ⟨_, rfl, fun ρ hr => ?_⟩
          simp only [Bool.and_eq_true, leF_eq, decide_eq_true_eq] at hb
          have h1 := hr i r.1 r.2 hg
          have h3 : (SI.var i).ev ρ = ρ i := rfl
          exact (wrap_in (by rw [h3]; exact ⟨by omega, by omega⟩)).symm
        | false => exact ⟨_, rfl, fun _ _ => rfl⟩
    | bin op k' x y =>
      show ∃ u, linK rg k (.bin op k' x y) κ = κ u ∧ _
      unfold linK opt1'
      cases linB (.bin op k' x y) with
      | false => exact ⟨_, rfl, fun _ _ => rfl⟩
      | true =>
        cases hg : rngS rg (.bin op k' x y) with
        | none => exact ⟨_, rfl, fun _ _ => rfl⟩
        | some r =>
          simp only
          cases hb : leF (minK k) r.1 && leF r.2 (maxK k) with
          | true =>
            refine ⟨_, rfl, fun ρ hr => ?_⟩
            simp only [Bool.and_eq_true, leF_eq, decide_eq_true_eq] at hb
            have h1 := rngS_in hr (.bin op k' x y) r.1 r.2 hg
            exact (wrap_in ⟨by omega, by omega⟩).symm
          | false => exact ⟨_, rfl, fun _ _ => rfl⟩
    | lit _ => exact ⟨_, rfl, fun _ _ => rfl⟩
    | conv _ _ => exact ⟨_, rfl, fun _ _ => rfl⟩
    | fold _ => exact ⟨_, rfl, fun _ _ => rfl⟩
    | rs _ _ _ _ => exact ⟨_, rfl, fun _ _ => rfl⟩
  | bin op k a b =>
    show ∃ u, stripB rg op k a b κ = κ u ∧ _
    unfold stripB
    cases h1 : isSub op && SI.beq a b with
    | true =>
      rw [Bool.and_eq_true] at h1
      refine ⟨zeroS, rfl, fun ρ hr => ?_⟩
      have hop : op = .sub := by cases op <;> first | rfl | cases h1.1
      subst hop
      rw [SI.beq_eq _ _ h1.2]
      show (0 : Int) = k.wrap (b.ev ρ - b.ev ρ)
      rw [Int.sub_self]
      cases k <;> decide
    | false =>
      cases h2 : isAdd op && isZ b with
      | false => exact ⟨_, rfl, fun _ _ => rfl⟩
      | true =>
        rw [Bool.and_eq_true] at h2
        have hop : op = .add := by cases op <;> first | rfl | cases h2.1
        subst hop
        show ∃ u, fitK rg k a (κ (.bin .add k a b)) κ = κ u ∧ _
        cases a with
        | var i =>
          show ∃ u, (opt1' (nthR rg i) (κ (.bin .add k (.var i) b)) fun l h => Bool.rec (motive := fun _ => α) (κ (.bin .add k (.var i) b)) (κ (.var i)) (leF (minK k) l && leF h (maxK k))) = κ u ∧ _
          unfold opt1'
          cases hg : nthR rg i with
          | none => exact ⟨_, rfl, fun _ _ => rfl⟩
          | some r =>
            simp only
            cases hb : leF (minK k) r.1 && leF r.2 (maxK k) with
            | true =>
              refine ⟨_, rfl, fun ρ hr => ?_⟩
              simp only [Bool.and_eq_true, leF_eq, decide_eq_true_eq] at hb
              have h1 := hr i r.1 r.2 hg
              have h3 : (SI.var i).ev ρ = ρ i := rfl
              show _ = k.wrap ((SI.var i).ev ρ + b.ev ρ)
              rw [isZ_ev h2.2, Int.add_zero]
              exact (wrap_in (by rw [h3]; exact ⟨by omega, by omega⟩)).symm
            | false => exact ⟨_, rfl, fun _ _ => rfl⟩
        | _ => exact ⟨_, rfl, fun _ _ => rfl⟩
  | _ => exact ⟨_, rfl, fun _ _ => rfl⟩
theorem fitV_inv {rg : List (Int × Int)} {v : AV} {κ : AV → R} (hD : fitV rg v κ ∈ D) : ∃ u, κ u ∈ D ∧ ∀ {φ ρ a}, RgOk ρ rg → conc φ ρ v = some a → conc φ ρ u = some a := by
  unfold fitV at hD
  split at hD
  · rename_i k e
    obtain ⟨u, h1, h2⟩ := stripK_eq (rg := rg) e fun e => κ (.int k e)
    rw [h1] at hD
    refine ⟨_, hD, fun {φ ρ a} hr ha => ?_⟩
    simp only [conc, h2 ρ hr] at ha ⊢
    exact ha
  · exact ⟨_, hD, fun _ ha => ha⟩
theorem RunV.fit {φ : List Pl} {ρ : Nat → Int} {w : World} {m : Sem Value} {u v : AV} (h : RunV P φ ρ w m v) (hu : ∀ {a}, conc φ ρ v = some a → conc φ ρ u = some a) : RunV P φ ρ w m u := by
  obtain ⟨x, h1, h2⟩ := h
  exact ⟨x, hu h1, h2⟩
theorem litR_inv {rg : List (Int × Int)} {v : AV} {κ : AV → R} (hD : litR rg v κ ∈ D) : ∃ u, κ u ∈ D ∧ ∀ {φ ρ a}, RgOk ρ rg → conc φ ρ v = some a → conc φ ρ u = some a := by
  unfold litR at hD
  split at hD
  · rename_i k e
    refine ⟨_, hD, fun {φ ρ a} hr ha => ?_⟩
    have s1 : ∀ e : SI, (sing1 rg e).ev ρ = e.ev ρ := by
      intro e
      unfold sing1 opt1'
      have hi := rngS_in hr e
      cases hg : rngS rg e with
      | none => rfl
      | some x =>
        obtain ⟨l, h⟩ := x
        obtain ⟨h1, h2⟩ := hi l h hg
        show SI.ev ρ (Bool.rec (motive := fun _ => SI) e (.lit l) (leF h l)) = _
        rw [leF_eq]
        by_cases hle : h ≤ l
        · rw [decide_eq_true hle]; show l = _; omega
        · rw [decide_eq_false hle]
    have : (singS rg e).ev ρ = e.ev ρ := by cases e <;> first | rfl | exact s1 _
    simp only [conc, this] at ha ⊢
    exact ha
  · exact ⟨_, hD, fun _ ha => ha⟩
theorem isBytesT_spec {T : TypeId} (h : isBytesT P T = true) : ∃ e, P.underlying T = some (.slice e) ∧ P.underlying e = some (.int .u8) := by
  unfold isBytesT at h
  split at h
  · rename_i e he
    split at h
    · rename_i h2; exact ⟨e, he, h2⟩
    · cases h
  · cases h
theorem isStrT_spec {T : TypeId} (h : isStrT P T = true) : P.underlying T = some .string := by
  unfold isStrT at h
  split at h
  · rename_i h2; exact h2
  · cases h
theorem bytesOfL_inv : ∀ {l : List AV} {κ : List Nat → R}, bytesOfL l κ ∈ D → ∃ ns : List Nat, κ ns ∈ D ∧ l = ns.map fun n => .int .u8 (.lit (.ofNat n))
  | [], κ, h => ⟨[], h, rfl⟩
  | v :: l, κ, h => by
    have h : intV v (nat_lit 271) (fun k e => Bool.rec (motive := fun _ => R) (.fail 272) (asLitK (fun n => bytesOfL l fun r => κ (n :: r)) e) (kindEq k .u8)) ∈ D := h
    obtain ⟨k, e, rfl, h1⟩ := intV_inv h
    obtain ⟨hk, h2⟩ := brec_inv h1
    have hk := kindEq_of hk
    subst hk
    obtain ⟨n, rfl, h3⟩ := asLitK_inv h2
    obtain ⟨ns, h4, rfl⟩ := bytesOfL_inv h3
    exact ⟨n :: ns, h4, rfl⟩
theorem concL_bytes {φ : List Pl} {ρ : Nat → Int} : ∀ (ns : List Nat), concL φ ρ (ns.map fun n => AV.int .u8 (.lit (.ofNat n))) = some (ns.map fun n : Nat => Value.int .u8 (n : Int))
  | [] => rfl
  | n :: ns => by
    simp only [List.map_cons]
    exact concL_cons.2 ⟨_, _, rfl, concL_bytes ns, rfl⟩
theorem convS_sound {src dst : TypeId} {x : AV} {κ : AV → R} (hD : convS P src dst h x κ ∈ D) : ∃ u, κ u ∈ D ∧ ∀ {φ ρ w a}, Hp P φ ρ h w → conc φ ρ x = some a → RunV P φ ρ w (convert src dst a) u := by
  obtain ⟨hb, h1⟩ := brec_inv hD
  simp only [Bool.and_eq_true] at hb
  obtain ⟨e, hs, he⟩ := isBytesT_spec hb.1
  have hd := isStrT_spec hb.2
  split at h1
  · rename_i id off len cap
    obtain ⟨n, c, d, T, r, hid, h2⟩ := objK_inv h1
    obtain ⟨hle, h3⟩ := brec_inv h2
    rw [natBle, decide_eq_true_eq] at hle
    obtain ⟨l, hl, h4, hcl⟩ := ldN_inv h3
    obtain ⟨ns, h5, rfl⟩ := bytesOfL_inv h4
    refine ⟨_, h5, fun {φ ρ w a} hp ha => ⟨_, rfl, ?_⟩⟩
    obtain ⟨p, hp', rfl⟩ := conc_sl' ha
    obtain ⟨p', arr, fz, hq, hc⟩ := hp.obj _ _ hid
    rw [hp'] at hq; cases hq
    obtain ⟨xs, q1, q2⟩ := cells_row hc _ off (by rw [hl]; exact hle) (by rw [hl]; exact hcl)
    rw [concL_bytes] at q1
    cases q1
    have hr := run_loadCells_list (P := P) (w := w) ⟨p.blk, p.sh + off, none⟩ _ q2
    simp only [List.length_map] at hl hr
    rw [hl] at hr
    rw [run_convert_bytes_string w src dst e _ _ _ hs he hd, run_bytesToString w _ _ _ (ns.map fun n : Nat => (n : Int)) (by rw [hr]; simp [Function.comp_def])]
    rw [foldl_push_bytes]
    simp [strOf, ByteArray.empty, ByteArray.emptyWithCapacity, Function.comp_def]
    rfl
  · refine ⟨_, h1, fun {φ ρ w a} hp ha => ⟨_, rfl, ?_⟩⟩
    simp only [conc, Option.some.injEq] at ha
    subst ha
    rw [run_convert_bytes_string w src dst e _ _ _ hs he hd]
    simp [Conv.bytesToString]
    rfl
  · cases h1
theorem intOfT_und {T : TypeId} {k : IntKind} (hk : intOfT P T = some k) : P.underlying T = some (.int k) := by
  unfold intOfT at hk
  split at hk
  · rename_i k' hu; cases hk; exact hu
  · cases hk
theorem conv_sound {src dst : TypeId} {x : AV} {κ : AV → R} (hD : convA P src dst x κ ∈ D) : ∃ u, κ u ∈ D ∧ ∀ {φ ρ w a}, conc φ ρ x = some a → RunV P φ ρ w (convert src dst a) u := by
  obtain ⟨d, hd, h1⟩ := optK_inv hD
  obtain ⟨k, hk, h2⟩ := optK_inv h1
  obtain ⟨k', e, rfl, h3⟩ := asInt_inv h2
  obtain ⟨r, hr, hev⟩ := convK_spec k e (intK κ k)
  rw [hr] at h3
  refine ⟨_, h3, fun {φ ρ w a} ha => ?_⟩
  simp only [conc, Option.some.injEq] at ha
  subst ha
  refine ⟨_, rfl, ?_⟩
  rw [hev]
  simp [convert, Sem.run_bind, run_underlying hd, run_underlying (intOfT_und hk), Conv.intToInt]

/-! places -/
theorem convQ_sound {src dst : TypeId} {x : AV} {κ : AV → R} (hD : convQ P src dst h x κ ∈ D) : ∃ u, κ u ∈ D ∧ ∀ {φ ρ w a}, Hp P φ ρ h w → conc φ ρ x = some a → RunV P φ ρ w (convert src dst a) u := by
  unfold convQ at hD
  split at hD
  · obtain ⟨u, h1, h2⟩ := conv_sound hD
    exact ⟨u, h1, fun _ ha => h2 ha⟩
  · exact convS_sound hD

theorem fieldA_und {T : TypeId} {f : Nat} {p : Nat × TypeId} (hf : fieldA P T f = some p) : ∃ fs fd, P.underlying T = some (.struct fs) ∧ fs[f]? = some fd ∧ p = (fd.offset, fd.type) := by
  unfold fieldA at hf
  split at hf
  · rename_i fs hu
    simp only [Option.map_eq_some_iff] at hf
    obtain ⟨fd, h1, rfl⟩ := hf
    exact ⟨fs, fd, hu, h1, rfl⟩
  · cases hf
theorem conc_ptr {φ : List Pl} {ρ : Nat → Int} {id off : Nat} {a : Value} (h : conc φ ρ (.ptr id off) = some a) : ∃ p, φ[id]? = some p ∧ a = .pointer (some ⟨p.blk, p.sh + off, none⟩) := by
  simp only [conc, Option.map_eq_some_iff] at h
  obtain ⟨p, hp, rfl⟩ := h
  exact ⟨p, hp, rfl⟩
theorem fldAddr_sound {T : TypeId} {f : Nat} {x : AV} {κ : AV → R} (hD : fldAddr P T f x κ ∈ D) : ∃ u, κ u ∈ D ∧ ∀ {φ ρ w a}, conc φ ρ x = some a → RunV P φ ρ w (Instr.fieldAt T a f) u := by
  obtain ⟨id, off, rfl, hD⟩ := ptrV_inv hD
  · skip
    obtain ⟨o, ho, h1⟩ := optK_inv hD
    unfold ptrK at h1
    rw [forceN_eq] at h1
    refine ⟨_, h1, fun {φ ρ w a} ha => ?_⟩
    obtain ⟨p, hp, rfl⟩ := conc_ptr ha
    unfold fieldPlaceA at ho
    split at ho
    · rename_i o' t hf
      obtain ⟨fs, fd, hu, hfd, he⟩ := fieldA_und hf
      cases he
      split at ho
      · rename_i n hn
        have hn0 : n ≠ 0 ∧ fd.offset = o := by
          rw [natBeq] at ho
          by_cases e : n = 0
          · simp [e] at ho
          · simp [e] at ho; exact ⟨e, ho⟩
        obtain ⟨hn0, rfl⟩ := hn0
        refine ⟨.pointer (some ⟨p.blk, p.sh + (off + fd.offset), none⟩), by simp [conc, hp], ?_⟩
        simp [Instr.fieldAt, Sem.run_bind, run_underlying hu, hfd, Instr.sureAddr, fieldPlace, run_size hn, hn0, add_plain, Nat.add_assoc]
      · cases ho
    · cases ho

theorem ixOf_arr {T : TypeId} {n e s : Nat} (h : ixOf P T = some (.arr n e s)) : P.underlying T = some (.array n e) ∧ sizeA P e = some s := by
  unfold ixOf at h
  split at h
  · rename_i n' e' hu
    simp only [Option.map_eq_some_iff, IxK.arr.injEq] at h
    obtain ⟨s', h1, rfl, rfl, rfl⟩ := h
    exact ⟨hu, h1⟩
  · simp at h
  · cases h
theorem ixOf_sli {T : TypeId} {e s : Nat} (h : ixOf P T = some (.sli e s)) : P.underlying T = some (.slice e) ∧ sizeA P e = some s := by
  unfold ixOf at h
  split at h
  · simp at h
  · rename_i e' hu
    simp only [Option.map_eq_some_iff, IxK.sli.injEq] at h
    obtain ⟨s', h1, rfl, rfl⟩ := h
    exact ⟨hu, h1⟩
  · cases h
theorem conc_sl {φ : List Pl} {ρ : Nat → Int} {id off len : Nat} {cap : Option Nat} {a : Value} (h : conc φ ρ (.sl id off len cap) = some a) : ∃ p, φ[id]? = some p ∧ a = .slice (some ⟨p.blk, p.sh + off, none⟩) len (cap.getD (p.room off)) := by
  simp only [conc, Option.map_eq_some_iff] at h
  obtain ⟨p, hp, rfl⟩ := h
  exact ⟨p, hp, rfl⟩
theorem ixAddr_sound {T : TypeId} {x i : AV} {κ : AV → R} (hD : ixAddr P T x i κ ∈ D) : ∃ u, κ u ∈ D ∧ ∀ {φ ρ w a b}, conc φ ρ x = some a → conc φ ρ i = some b → RunV P φ ρ w (Instr.indexAt T a b) u := by
  obtain ⟨k, n, rfl, h1⟩ := asNat_inv hD
  obtain ⟨d, hd, h2⟩ := optK_inv h1
  split at h2
  · rename_i m e s
    split at h2
    · rename_i id off
      obtain ⟨hlt, h3⟩ := brec_inv h2
      rw [natBlt] at hlt
      have hlt := of_decide_eq_true hlt
      unfold ptrK at h3
      rw [forceN_eq] at h3
      refine ⟨_, h3, fun {φ ρ w a b} ha hb => ?_⟩
      obtain ⟨p, hp, rfl⟩ := conc_ptr ha
      simp only [conc, SI.ev, Option.some.injEq] at hb
      subst hb
      obtain ⟨hu, hs⟩ := ixOf_arr hd
      refine ⟨.pointer (some ⟨p.blk, p.sh + (off + n * s), none⟩), by simp [conc, hp], ?_⟩
      have : (n : Int) < (m : Int) := by omega
      simp [Instr.indexAt, asIntOf, Sem.run_bind, run_underlying hu, Instr.sureAddr, run_size hs, add_plain, Nat.add_assoc, this]
      intro hle; omega
    · cases h2
  · rename_i e s
    split at h2
    · rename_i id off len cap
      obtain ⟨hlt, h3⟩ := brec_inv h2
      rw [natBlt] at hlt
      have hlt := of_decide_eq_true hlt
      unfold ptrK at h3
      rw [forceN_eq] at h3
      refine ⟨_, h3, fun {φ ρ w a b} ha hb => ?_⟩
      obtain ⟨p, hp, rfl⟩ := conc_sl ha
      simp only [conc, SI.ev, Option.some.injEq] at hb
      subst hb
      obtain ⟨hu, hs⟩ := ixOf_sli hd
      refine ⟨.pointer (some ⟨p.blk, p.sh + (off + n * s), none⟩), by simp [conc, hp], ?_⟩
      have : (n : Int) < (len : Int) := by omega
      simp [Instr.indexAt, asIntOf, Sem.run_bind, run_underlying hu, run_size hs, add_plain, Nat.add_assoc, this]
      intro hle; omega
    · cases h2

theorem takeA_inv : ∀ {n : Nat} {l : List AV} {κ : List AV → R}, takeA l n κ ∈ D → n ≤ l.length ∧ κ (l.take n) ∈ D
  | 0, l, κ, h => ⟨Nat.zero_le _, h⟩
  | n + 1, [], κ, h => by cases h
  | n + 1, v :: l, κ, h => by
    obtain ⟨h1, h2⟩ := takeA_inv (n := n) (l := l) (κ := fun r => κ (v :: r)) h
    exact ⟨by simp; omega, by simpa using h2⟩
theorem dropA_eq : ∀ (n : Nat) (l : List AV), dropA l n = l.drop n
  | 0, l => rfl
  | n + 1, [] => rfl
  | n + 1, v :: l => by
    show dropA l n = _
    rw [dropA_eq n l]; rfl
theorem part_sound {T : TypeId} {l : List AV} {off : Nat} {κ : AV → R} (hD : partA P T l off κ ∈ D) : ∃ u, κ u ∈ D ∧ ∀ {φ ρ w xs}, concL φ ρ l = some xs → RunV P φ ρ w (part T xs.toArray off) u := by
  obtain ⟨o, ho, h1⟩ := optK_inv hD
  cases o with
  | none =>
    have h1 : headK κ (dropA l off) ∈ D := h1
    rw [dropA_eq] at h1
    unfold headK at h1
    split at h1
    · cases h1
    · rename_i v l' hl
      refine ⟨v, h1, fun {φ ρ w xs} hx => ?_⟩
      have hv : l[off]? = some v := by
        have := congrArg (·[0]?) hl
        simpa using this
      obtain ⟨x, h2, h3⟩ := concL_get hx hv
      refine ⟨x, h2, ?_⟩
      simp [part, Sem.run_bind, run_isAgg ho, h3]
  | some n =>
    have h1 : takeA (dropA l off) n (fun r => κ (.agg r)) ∈ D := h1
    rw [dropA_eq] at h1
    obtain ⟨hle, h2⟩ := takeA_inv h1
    refine ⟨_, h2, fun {φ ρ w xs} hx => ?_⟩
    refine ⟨.agg ((xs.drop off).take n).toArray, by simp [conc, concL_take n (concL_drop off hx)], ?_⟩
    simp only [part, Sem.run_bind, run_isAgg ho, Result.andThen_ok, Option.isSome_some, if_true, run_size (agg_size ho)]
    simp [List.take_drop]
theorem conc_agg {φ : List Pl} {ρ : Nat → Int} {l : List AV} {a : Value} (h : conc φ ρ (.agg l) = some a) : ∃ xs, concL φ ρ l = some xs ∧ a = .agg xs.toArray := by
  simp only [conc, Option.map_eq_some_iff] at h
  obtain ⟨p, hp, rfl⟩ := h
  exact ⟨p, hp, rfl⟩
theorem fld_sound {T : TypeId} {f : Nat} {x : AV} {κ : AV → R} (hD : fldA P T f x κ ∈ D) : ∃ u, κ u ∈ D ∧ ∀ {φ ρ w a}, conc φ ρ x = some a → RunV P φ ρ w (Instr.field T a f) u := by
  unfold fldA at hD
  split at hD
  · rename_i l
    obtain ⟨p, hp, h1⟩ := optK_inv hD
    obtain ⟨fs, fd, hu, hfd, rfl⟩ := fieldA_und hp
    obtain ⟨u, h2, hu2⟩ := part_sound h1
    refine ⟨u, h2, fun {φ ρ w a} ha => ?_⟩
    obtain ⟨xs, hxs, rfl⟩ := conc_agg ha
    obtain ⟨y, hy, hr⟩ := hu2 (w := w) hxs
    exact ⟨y, hy, by simp [Instr.field, Sem.run_bind, run_underlying hu, hfd, asAgg, hr]⟩
  · cases hD
theorem ix_sound {T : TypeId} {x i : AV} {κ : AV → R} (hD : ixA P T x i κ ∈ D) : ∃ u, κ u ∈ D ∧ ∀ {φ ρ w a b}, conc φ ρ x = some a → conc φ ρ i = some b → RunV P φ ρ w (Instr.index T a b) u := by
  obtain ⟨k, n, rfl, h0⟩ := asNat_inv hD
  rcases brec_cases h0 with ⟨hstr, h1⟩ | ⟨_, h1⟩
  · have hu : P.underlying T = some .string := by
      unfold isStrT at hstr
      split at hstr
      · assumption
      · cases hstr
    unfold ixS at h1
    split at h1
    · rename_i s
      split at h1
      · rename_i c hc
        rw [forceN_eq] at h1
        refine ⟨_, h1, fun {φ ρ w a b} ha hb => ?_⟩
        simp only [conc, SI.ev, Option.some.injEq] at ha hb
        subst ha
        subst hb
        refine ⟨_, rfl, ?_⟩
        have h0 : (0 : Int) ≤ Int.ofNat n := Int.natCast_nonneg n
        have h2 : (if 0 ≤ Int.ofNat n then s[(Int.ofNat n).toNat]? else none) = some c := by rw [if_pos h0]; exact hc
        simp only [Instr.index, asIntOf, Sem.run_bind, Sem.run_pure, Result.andThen_ok, run_underlying hu]
        rw [h2]
        rfl
      · cases h1
    · cases h1
  obtain ⟨d, hd, h2⟩ := optK_inv h1
  split at h2
  · rename_i m e s
    split at h2
    · rename_i l
      obtain ⟨hlt, h3⟩ := brec_inv h2
      rw [natBlt] at hlt
      have hlt := of_decide_eq_true hlt
      obtain ⟨u, h4, hu4⟩ := part_sound h3
      refine ⟨u, h4, fun {φ ρ w a b} ha hb => ?_⟩
      obtain ⟨xs, hxs, rfl⟩ := conc_agg ha
      simp only [conc, SI.ev, Option.some.injEq] at hb
      subst hb
      obtain ⟨hu, hs⟩ := ixOf_arr hd
      obtain ⟨y, hy, hr⟩ := hu4 (w := w) hxs
      have : (n : Int) < (m : Int) := by omega
      exact ⟨y, hy, by simp [Instr.index, asIntOf, Sem.run_bind, run_underlying hu, run_size hs, this]; rw [if_pos hlt]; exact hr⟩
    · cases h2
  · cases h2
theorem ext_sound {x : AV} {n : Nat} {κ : AV → R} (hD : extA x n κ ∈ D) : ∃ u, κ u ∈ D ∧ ∀ {φ ρ w a}, conc φ ρ x = some a → RunV P φ ρ w (Instr.extract a n) u := by
  unfold extA at hD
  split at hD
  · rename_i l
    unfold nthK at hD
    rw [dropA_eq] at hD
    unfold headK at hD
    split at hD
    · cases hD
    · rename_i v l' hl
      refine ⟨v, hD, fun {φ ρ w a} ha => ?_⟩
      simp only [conc, Option.map_eq_some_iff] at ha
      obtain ⟨xs, hxs, rfl⟩ := ha
      have hv : l[n]? = some v := by
        have := congrArg (·[0]?) hl
        simpa using this
      obtain ⟨x, h2, h3⟩ := concL_get hxs hv
      exact ⟨x, h2, by simp [Instr.extract, h3]⟩
  · cases hD
end

end Go.Proofs.YticednpolhnneaaGreat
