/-
  octet.Part of a rope, known ahead.
-/
import Derived.Test.YticednpolhnneaaGreatSxu
set_option linter.unusedVariables false
set_option linter.unusedSimpArgs false
namespace Go.Proofs.YticednpolhnneaaGreat
open Go Go.RowKit

noncomputable section
/-- bytes, the first one high or low -/
def partB (l : List SI) : Bool → SI → (Bool → SI → R) → R := List.rec (motive := fun _ => Bool → SI → (Bool → SI → R) → R) (fun b a κ => κ b a)
  (fun e _ ih b a κ => convK .i64 e fun e => binK .shl .i64 e (.lit (.ofNat (Bool.rec (motive := fun _ => Nat) (nat_lit 0) (nat_lit 8) b))) fun x => binK .add .i64 a x fun a => ih (notF b) a κ) l
/-- nothing but noughts -/
def zeroCs (cs : List Ch) : Bool := List.rec (motive := fun _ => Bool) true (fun c _ ih => Ch.rec (motive := fun _ => Bool) (fun _ => false) (fun _ v => isZ v) (fun _ _ _ => false) c && ih) cs
def parN (b : Bool) : Nat := Bool.rec (motive := fun _ => Nat) (nat_lit 1) (nat_lit 0) b
def partC (cs : List Ch) : Bool → SI → (SI → R) → R := List.rec (motive := fun _ => Bool → SI → (SI → R) → R) (fun _ a κ => κ a)
  (fun c cs ih b a κ => Ch.rec (motive := fun _ => R) (fun l => partB l b a fun b a => ih b a κ) (fun n v => Bool.rec (motive := fun _ => R) (.fail 480) (κ a) (isZ v && zeroCs cs)) (fun j o n => Bool.rec (motive := fun _ => R) (.fail 481) (binK .add .i64 a (.rs j (parN b) o n) κ) (zeroCs cs)) c) cs
def partR (l : List AV) (s : St) (κ : AV → St → R) (alt : R) : R := match l with
  | [x] => Bool.rec (motive := fun _ => R) alt (lenS s.pc x fun n => Bool.rec (motive := fun _ => R) (.fail 483) (readR s.hp s.pc x fun cs pc => partC cs true zeroS fun e => foldK pc.rg e (fun e => κ (.int .i64 e) ⟨s.hp, s.nx, pc⟩) (.fail 482)) (ltB s.pc.rg n)) (ropy s.hp x)
  | _ => alt
def sumPartR : Sums := fun f l s κ alt => Bool.rec (motive := fun _ => R) alt (partR l s κ alt) (Nat.beq f 145)
end
/-- one step of the sum -/
def stp (a z : Int) (i : Nat) : Int := wrap64 (a + binZ .shl .i64 (wrap64 z) (shZ i))
/-- the sum of a list of bytes from a place on -/
def sumI : List Int → Nat → Int → Int
  | [], _, a => a
  | z :: l, i, a => sumI l (i + 1) (stp a z i)
theorem sumI_app : ∀ (l m : List Int) (i : Nat) (a : Int), sumI (l ++ m) i a = sumI m (i + l.length) (sumI l i a)
  | [], m, i, a => rfl
  | z :: l, m, i, a => by
    show sumI (l ++ m) (i + 1) (stp a z i) = _
    rw [sumI_app l m]
    show sumI m (i + 1 + l.length) _ = sumI m (i + (l.length + 1)) _
    congr 1
    omega
def valZ (zs : List Int) (i : Nat) : Int := (zs[i]?).getD 0
theorem sumI_eq (zs : List Int) : ∀ (k i : Nat), i + k = zs.length → sumI (zs.drop i) i (sumZ (valZ zs) i) = sumZ (valZ zs) zs.length
  | 0, i, h => by
    have : i = zs.length := by omega
    subst this
    rw [List.drop_length]; rfl
  | k + 1, i, h => by
    have hi : i < zs.length := by omega
    rw [List.drop_eq_getElem_cons hi]
    show sumI (zs.drop (i + 1)) (i + 1) _ = _
    rw [← sumI_eq zs k (i + 1) (by omega)]
    congr 1
    show wrap64 _ = wrap64 _
    congr 3
    unfold valZ
    rw [List.getElem?_eq_getElem hi]
    rfl
/-- in its range -/
def Rg64 (a : Int) : Prop := wrap64 a = a
theorem rg_stp (a z : Int) (i : Nat) : Rg64 (stp a z i) := by
  unfold Rg64 stp
  rw [wrap64_eq, wrap64_eq]
  omega
theorem rg_sumI : ∀ (l : List Int) (i : Nat) (a : Int), Rg64 a → Rg64 (sumI l i a)
  | [], _, _, h => h
  | z :: l, i, a, _ => rg_sumI l (i + 1) _ (rg_stp a z i)
theorem stp_byte {a z : Int} {i : Nat} (h0 : 0 ≤ z) (h1 : z ≤ 255) : stp a z i = wrap64 (a + z * (if i % 2 = 0 then 256 else 1)) := by
  have hz : wrap64 z = z := by rw [wrap64_eq]; omega
  unfold stp
  rw [hz]
  congr 2
  unfold shZ
  by_cases h : i % 2 = 0
  · rw [if_pos h, if_pos h]
    show IntKind.i64.wrap (z * 2 ^ (min 8 64)) = z * 256
    rw [wrap_i64']
    have : (2 : Int) ^ (min 8 64) = 256 := by decide
    rw [this]
    omega
  · rw [if_neg h, if_neg h]
    show IntKind.i64.wrap (z * 2 ^ (min 0 64)) = z * 1
    rw [wrap_i64']
    have : (2 : Int) ^ (min 0 64) = 1 := by decide
    rw [this]
    omega
theorem sumI_row {ρ : Nat → Int} {j o : Nat} {a : Int} (ha : Rg64 a) (p i : Nat) (hp : p % 2 = i % 2) : ∀ n : Nat, sumI ((List.range n).map fun k => rowB ρ j (o + k)) i a = wrap64 (a + rsZ ρ j p o n)
  | 0 => by
    show a = wrap64 (a + 0)
    rw [Int.add_zero]
    exact ha.symm
  | n + 1 => by
    rw [List.range_succ, List.map_append, sumI_app, sumI_row ha p i hp n]
    obtain ⟨h1, h2⟩ := rowB_in ρ j (o + n)
    show stp (wrap64 (a + rsZ ρ j p o n)) (rowB ρ j (o + n)) (i + ((List.range n).map fun k => rowB ρ j (o + k)).length) = _
    rw [stp_byte h1 h2, List.length_map, List.length_range]
    have e : (if (i + n) % 2 = 0 then (256 : Int) else 1) = if (p + n) % 2 = 0 then 256 else 1 := by
      by_cases h : (i + n) % 2 = 0
      · rw [if_pos h, if_pos (by omega)]
      · rw [if_neg h, if_neg (by omega)]
    rw [e]
    show wrap64 (wrap64 (a + rsZ ρ j p o n) + _) = wrap64 (a + (rsZ ρ j p o n + rowB ρ j (o + n) * (if (p + n) % 2 = 0 then 256 else 1)))
    generalize rowB ρ j (o + n) * (if (p + n) % 2 = 0 then (256 : Int) else 1) = y
    generalize rsZ ρ j p o n = x
    rw [wrap64_eq, wrap64_eq, wrap64_eq]
    omega
theorem sumI_zero {a : Int} (ha : Rg64 a) : ∀ (l : List Int) (i : Nat), (∀ z ∈ l, z = 0) → sumI l i a = a
  | [], _, _ => rfl
  | z :: l, i, h => by
    have hz : z = 0 := h z (by simp)
    subst hz
    show sumI l (i + 1) (stp a 0 i) = a
    rw [stp_byte (by omega) (by omega), Int.zero_mul, Int.add_zero, ha]
    exact sumI_zero ha l (i + 1) fun z hz => h z (by simp [hz])
theorem zeroCs_ok {ρ : Nat → Int} : ∀ {cs : List Ch}, zeroCs cs = true → ∀ z ∈ ropeZ ρ cs, z = 0
  | [], _, z, hz => by cases hz
  | c :: cs, h, z, hz => by
    cases c with
    | bs l => cases h
    | row _ _ _ => cases h
    | fil n v =>
      have h : (isZ v && zeroCs cs) = true := h
      rw [Bool.and_eq_true] at h
      rw [ropeZ_cons, List.mem_append] at hz
      rcases hz with hz | hz
      · simp only [Ch.zs, List.mem_replicate] at hz
        rw [hz.2, isZ_ev h.1]
      · exact zeroCs_ok h.2 z hz
theorem partB_inv {D : Dn} : ∀ {l : List SI} {i : Nat} {a : SI} {κ : Bool → SI → R}, partB l (decide (i % 2 = 0)) a κ ∈ D → ∃ u, κ (decide ((i + l.length) % 2 = 0)) u ∈ D ∧ ∀ ρ, u.ev ρ = sumI (l.map (SI.ev ρ)) i (a.ev ρ)
  | [], i, a, κ, h => ⟨a, h, fun _ => rfl⟩
  | e :: l, i, a, κ, h => by
    have h2 : (convK .i64 e fun e => binK .shl .i64 e (.lit (.ofNat (Bool.rec (motive := fun _ => Nat) (nat_lit 0) (nat_lit 8) (decide (i % 2 = 0))))) fun x => binK .add .i64 a x fun a => partB l (notF (decide (i % 2 = 0))) a κ) ∈ D := h
    obtain ⟨e1, q1, q2⟩ := convK_spec .i64 e (fun e => binK .shl .i64 e (.lit (.ofNat (Bool.rec (motive := fun _ => Nat) (nat_lit 0) (nat_lit 8) (decide (i % 2 = 0))))) fun x => binK .add .i64 a x fun a => partB l (notF (decide (i % 2 = 0))) a κ)
    rw [q1] at h2
    obtain ⟨e2, q3, q4⟩ := binK_spec .shl .i64 e1 (.lit (.ofNat (Bool.rec (motive := fun _ => Nat) (nat_lit 0) (nat_lit 8) (decide (i % 2 = 0))))) (fun x => binK .add .i64 a x fun a => partB l (notF (decide (i % 2 = 0))) a κ)
    rw [q3] at h2
    obtain ⟨e3, q5, q6⟩ := binK_spec .add .i64 a e2 (fun a => partB l (notF (decide (i % 2 = 0))) a κ)
    rw [q5] at h2
    have hb : notF (decide (i % 2 = 0)) = decide ((i + 1) % 2 = 0) := by
      rw [notF_eq]
      by_cases hi : i % 2 = 0
      · rw [decide_eq_true hi, decide_eq_false (by omega : ¬ (i + 1) % 2 = 0)]; rfl
      · rw [decide_eq_false hi, decide_eq_true (by omega : (i + 1) % 2 = 0)]; rfl
    rw [hb] at h2
    obtain ⟨u, h3, h5⟩ := partB_inv h2
    refine ⟨u, by rw [show i + (e :: l).length = i + 1 + l.length by simp only [List.length_cons]; omega]; exact h3, fun ρ => ?_⟩
    rw [h5]
    show _ = sumI (l.map (SI.ev ρ)) (i + 1) _
    congr 1
    rw [q6, q4, q2]
    simp only [SI.ev, binZ, stp]
    have hs : (Int.ofNat (Bool.rec (motive := fun _ => Nat) 0 8 (decide (i % 2 = 0)))) = shZ i := by
      unfold shZ
      by_cases hi : i % 2 = 0
      · rw [decide_eq_true hi, if_pos hi]; rfl
      · rw [decide_eq_false hi, if_neg hi]; rfl
    rw [show (Int.ofNat (Bool.rec (motive := fun _ => Nat) (nat_lit 0) (nat_lit 8) (decide (i % 2 = 0)))) = shZ i from hs]
    simp only [wrap_i64', wrap64_eq]
theorem partC_inv {D : Dn} : ∀ {cs : List Ch} {i : Nat} {a : SI} {κ : SI → R}, partC cs (decide (i % 2 = 0)) a κ ∈ D → ∃ u, κ u ∈ D ∧ ∀ ρ, Rg64 (a.ev ρ) → u.ev ρ = sumI (ropeZ ρ cs) i (a.ev ρ)
  | [], i, a, κ, h => ⟨a, h, fun _ _ => rfl⟩
  | .bs l :: cs, i, a, κ, h => by
    obtain ⟨u, h1, h2⟩ := partB_inv (show partB l (decide (i % 2 = 0)) a (fun b a => partC cs b a κ) ∈ D from h)
    obtain ⟨u', h3, h4⟩ := partC_inv h1
    refine ⟨u', h3, fun ρ ha => ?_⟩
    rw [h4 ρ (by rw [h2]; exact rg_sumI _ _ _ ha), h2, ropeZ_cons, sumI_app]
    simp [Ch.zs]
  | .fil n v :: cs, i, a, κ, h => by
    obtain ⟨hb, h1⟩ := brec_inv (show Bool.rec (motive := fun _ => R) (.fail 480) (κ a) (isZ v && zeroCs cs) ∈ D from h)
    refine ⟨a, h1, fun ρ ha => ?_⟩
    exact (sumI_zero ha _ i (zeroCs_ok (cs := .fil n v :: cs) hb)).symm
  | .row j o n :: cs, i, a, κ, h => by
    obtain ⟨hb, h1⟩ := brec_inv (show Bool.rec (motive := fun _ => R) (.fail 481) (binK .add .i64 a (.rs j (parN (decide (i % 2 = 0))) o n) κ) (zeroCs cs) ∈ D from h)
    obtain ⟨e, h2, h3⟩ := binK_spec .add .i64 a (.rs j (parN (decide (i % 2 = 0))) o n) κ
    rw [h2] at h1
    refine ⟨e, h1, fun ρ ha => ?_⟩
    have hp : parN (decide (i % 2 = 0)) % 2 = i % 2 := by
      by_cases hi : i % 2 = 0
      · rw [decide_eq_true hi, hi]; rfl
      · rw [decide_eq_false hi]
        have : i % 2 = 1 := by omega
        rw [this]; rfl
    rw [h3, ropeZ_cons, sumI_app, sumI_zero (rg_sumI _ _ _ ha) _ _ (zeroCs_ok hb)]
    simp only [Ch.zs]
    rw [sumI_row ha _ i hp]
    show IntKind.i64.wrap _ = _
    rw [wrap_i64', wrap64_eq]
    rfl
/-- where such a slice stands -/
theorem readR_at' {P : Program} {ρ : Nat → Int} {D : Dn} {s : St} {x : AV} {pc : PC} {κ : List Ch → PC → R} (hro : (match x with | .sl _ _ _ _ => true | _ => ropy s.hp x) = true) (hD : readR s.hp pc x κ ∈ D) : ∃ cs pc', κ cs pc' ∈ D ∧ PcExt pc pc' ∧ ∀ {w0 φ w v}, Holds ρ pc' → Gm P ρ w0 φ s w → conc φ ρ x = some v →
    ∃ b o m c, v = .slice (some ⟨b, o, none⟩) m c ∧ m = (ropeZ ρ cs).length ∧ BytesAt w b o (ropeZ ρ cs) := by
  cases x with
  | sl id off len cap =>
    obtain ⟨o, ho, h1⟩ := optK_inv (show optK (s.hp.get id) 414 (fun o => readO o pc (natS off) (natS len) κ) ∈ D from hD)
    obtain ⟨cs, pc', h2, hx, _, h3⟩ := readO_inv h1
    refine ⟨cs, pc', h2, hx, fun {w0 φ w v} hρ hg hv => ?_⟩
    obtain ⟨p, hp, rfl⟩ := conc_sl hv
    obtain ⟨a1, a2, a3, a4, a5⟩ := h3 hρ (hg.hp.obj _ _ ho) hp
    exact ⟨_, _, _, _, rfl, a4.symm, a5⟩
  | ssl id o0 off len cap =>
    obtain ⟨o, ho, h1⟩ := optK_inv (show optK (s.hp.get id) 414 (fun o => readO o pc off len κ) ∈ D from hD)
    obtain ⟨cs, pc', h2, hx, _, h3⟩ := readO_inv h1
    refine ⟨cs, pc', h2, hx, fun {w0 φ w v} hρ hg hv => ?_⟩
    have hpl : ∃ p, φ[id]? = some p := by
      simp only [conc, Option.map_eq_some_iff] at hv
      obtain ⟨p, hp, _⟩ := hv
      exact ⟨p, hp⟩
    obtain ⟨p, hp⟩ := hpl
    obtain ⟨a1, a2, a3, a4, a5⟩ := h3 hρ (hg.hp.obj _ _ ho) hp
    cases cap with
    | some c =>
      rw [ssl_some hp] at hv
      cases hv
      exact ⟨_, _, _, _, rfl, a4.symm, a5⟩
    | none =>
      rw [ssl_none hp] at hv
      cases hv
      split
      · rename_i hz
        have hl := isZ_ev hz.1 ρ
        rw [hl] at a4
        have hn : ropeZ ρ cs = [] := List.length_eq_zero_iff.1 a4
        rw [hn]
        exact ⟨_, _, _, _, rfl, rfl, fun i z hz => by simp at hz⟩
      · exact ⟨_, _, _, _, rfl, a4.symm, a5⟩
  | fsl a o0 off len =>
    obtain ⟨e, h1, he⟩ := plE_inv (show plE pc off len (fun e => leD pc e (.var a) fun b pc => Bool.rec (motive := fun _ => R) (.fail 415) (κ [.row a off len] pc) (b && (Nat.ble (nat_lit 32) a && Nat.blt a (nat_lit 64)))) ∈ D from hD)
    obtain ⟨b, pc', h2, hx, hle⟩ := leD_inv h1
    obtain ⟨hb, h3⟩ := brec_inv h2
    simp only [Bool.and_eq_true, natBle, natBlt, decide_eq_true_eq] at hb
    obtain ⟨rfl, hj1, hj2⟩ := hb
    refine ⟨_, pc', h3, hx, fun {w0 φ w v} hρ hg hv => ?_⟩
    obtain ⟨m1, m2, m3, rfl⟩ := fsl_some hv
    obtain ⟨f1, f2, f3⟩ := he ρ (by rw [← hx.rg]; exact hρ.rg)
    have hl : e.ev ρ ≤ ρ a := (hle ρ hρ).1 rfl
    have hzl : (ropeZ ρ [.row a off len]).length = (len.ev ρ).toNat := by simp [ropeZ, Ch.zs]
    refine ⟨_, _, _, _, rfl, hzl.symm, fun i z hz => ?_⟩
    have hi : i < (len.ev ρ).toNat := by
      rw [← hzl]
      exact (List.getElem?_eq_some_iff.1 hz).1
    have hz2 : z = rowB ρ a ((off.ev ρ).toNat + i) := by
      simp only [ropeZ, List.flatMap_cons, List.flatMap_nil, List.append_nil, Ch.zs, List.getElem?_map, Option.map_eq_some_iff] at hz
      obtain ⟨i', h5, rfl⟩ := hz
      rw [List.getElem?_range hi] at h5
      cases h5
      rfl
    obtain ⟨_, _, hc⟩ := hg.fo a hj1 hj2 m1
    obtain ⟨arr, T, fz, b1, b2⟩ := hc ((off.ev ρ).toNat + i) (by omega)
    have hcap : ¬ (ρ (fCap a)).toNat ≤ (off.ev ρ).toNat := by omega
    rw [if_neg hcap]
    have hblk : w.heap[(ρ (fBlk a)).toNat]? = some (.cells arr T fz) := by
      rw [← b1]
      exact hg.kp.block _ (Array.getElem?_eq_some_iff.1 b1).1 (by simp)
    subst hz2
    simp only [World.cell?, hblk]
    show arr[(ρ (fOff a)).toNat + (off.ev ρ).toNat + i]? = _
    rw [Nat.add_assoc]
    exact b2
  | _ => cases hro
theorem readR_at {P : Program} {ρ : Nat → Int} {D : Dn} {s : St} {x : AV} {pc : PC} {κ : List Ch → PC → R} (hro : ropy s.hp x = true) (hD : readR s.hp pc x κ ∈ D) : ∃ cs pc', κ cs pc' ∈ D ∧ PcExt pc pc' ∧ ∀ {w0 φ w v}, Holds ρ pc' → Gm P ρ w0 φ s w → conc φ ρ x = some v →
    ∃ b o m c, v = .slice (some ⟨b, o, none⟩) m c ∧ m = (ropeZ ρ cs).length ∧ BytesAt w b o (ropeZ ρ cs) := by
  refine readR_at' ?_ hD
  split
  · rfl
  · exact hro
theorem sumPartR_ok : SumsOk Tryz.prog sumPartR := by
  intro ρ f l s κ alt D h
  unfold sumPartR at h
  rcases brec_cases h with ⟨hf, h1⟩ | ⟨_, h1⟩
  · rw [natBeq] at hf
    have hf := of_decide_eq_true hf
    subst hf
    unfold partR at h1
    split at h1
    · rename_i x
      rcases brec_cases h1 with ⟨hro, h2⟩ | ⟨_, h2⟩
      · obtain ⟨n, h2, hn⟩ := lenS_inv h2
        obtain ⟨hlt, h2⟩ := brec_inv h2
        obtain ⟨cs, pc', h3, hx, h4⟩ := readR_at (P := Tryz.prog) (ρ := ρ) hro h2
        obtain ⟨u, h5, h6⟩ := partC_inv (i := 0) h3
        rcases foldK_inv h5 with h8 | ⟨e, h8, h9⟩
        · cases h8
        · refine .inr ⟨_, _, h8, hx, fun {w0 φ w xs} hρ hxs hm => CallsOr.of (enter_of Tryz.func145 (by kernel_rfl) (by kernel_rfl) _ w) ?_⟩
          obtain ⟨y, ys, e1, e2, rfl⟩ := concL_cons.1 hxs
          simp only [concL, Option.some.injEq] at e2
          subst e2
          obtain ⟨b, o, m, c, rfl, hl, hb⟩ := h4 hρ hm e1
          have hsmall : m < 4611686018427387904 := by
            obtain ⟨l1, l2⟩ := ltB_ok hlt (ρ := ρ) (by rw [← hx.rg]; exact hρ.rg)
            obtain ⟨_, _, _, _, e3, e4⟩ := hn (by rw [← hx.rg]; exact hρ.rg) e1
            cases e3
            omega
          refine (part_any b o m c (valZ (ropeZ ρ cs)) hsmall w fun i hi => ?_).mono fun e' w' ⟨he, hk⟩ => ⟨φ, _, he, List.prefix_refl _, ?_, (hm.pc pc').keeps hk⟩
          · rw [hl] at hi
            have := hb i _ (List.getElem?_eq_getElem hi)
            rw [this]
            unfold valZ
            rw [List.getElem?_eq_getElem hi]
            rfl
          · simp only [conc]
            rw [h9 ρ hρ.rg, h6 ρ (by show wrap64 0 = 0; rw [wrap64_eq]; omega)]
            have := sumI_eq (ropeZ ρ cs) (ropeZ ρ cs).length 0 (by omega)
            rw [List.drop_zero, show sumZ (valZ (ropeZ ρ cs)) 0 = 0 from rfl] at this
            rw [show SI.ev ρ zeroS = 0 from rfl, this, hl]
      · exact .inl h2
    · exact .inl h1
  · exact .inl h1
end Go.Proofs.YticednpolhnneaaGreat
