/-
  HostHolds: a round, from a pattern to a pattern.
-/
import Derived.Test.YtoimjmmbppikoaaGreatHha
import Derived.Test.YtoimjmmbppikoaaGreatPlJ
import Derived.Test.YtoimjmmbppikoaaGreatK19
set_option linter.unusedVariables false
set_option linter.unusedSimpArgs false
namespace Go.Proofs.YtoimjmmbppikoaaGreat
open Go

/-! the law's host -/
noncomputable def mineC : AV := .agg [.int .u8 (.lit (.ofNat (nat_lit 2))), .int .u8 (.lit (.ofNat (nat_lit 0))), .int .u8 (.lit (.ofNat (nat_lit 0))), .int .u8 (.lit (.ofNat (nat_lit 0))), .int .u8 (.lit (.ofNat (nat_lit 0))), .int .u8 (.lit (.ofNat (nat_lit 1))), .int .u32 (.lit (.ofNat (nat_lit 167772161))), .int .i64 (.lit (.ofNat (nat_lit 24))), .int .u32 (.lit (.ofNat (nat_lit 167772414)))]
noncomputable def mineX : Value := .agg #[.int .u8 2, .int .u8 0, .int .u8 0, .int .u8 0, .int .u8 0, .int .u8 1, .int .u32 167772161, .int .i64 24, .int .u32 167772414]
theorem mine_conc (φ : List Pl) (ρ : Nat → Int) : conc φ ρ mineC = some mineX := rfl
theorem mine_run : evCall Tryz.prog plans sumsN 100000 6 [] (s0 [] [[]] []) finK = .done mineC ⟨.nil, nat_lit 0, ⟨[], [], []⟩⟩ := by kernel_rfl
noncomputable def mineV : List AV → Option AV
  | [] => some mineC
  | _ => none
theorem mineV_ok : PureOk Tryz.prog 6 mineV := by
  intro l v h φ ρ xs w hx
  cases l with
  | nil =>
    cases h
    simp only [concL, Option.some.injEq] at hx
    subst hx
    have hr := run_sound follows_mixed plans_ok sumsN_ok (D := ⟨fun _ => 0, mineC, ⟨.nil, nat_lit 0, ⟨[], [], []⟩⟩⟩) (by rw [mine_run]; exact ⟨rfl, rfl⟩) (xs := []) (fun _ => 0) rfl (fun x hx => by cases hx) rgOk_nil w (fun a _ _ h => absurd h (show ¬ ((0 : Int) = 1) by decide))
    exact ⟨mineX, mine_conc φ ρ, hr.mono fun e w' ⟨φ', x, he, hx, hk⟩ => by
      have hx : conc φ' (fun _ => 0) mineC = some x := hx
      rw [mine_conc] at hx
      cases hx
      exact ⟨he, hk⟩⟩
  | cons a l => cases h
noncomputable def sumsM : Sums := sumOr (sumPure 6 mineV) sumsK19
theorem sumsM_ok : SumsOk Tryz.prog sumsM := sumOr_ok (sumPure_ok (enter_of Tryz.func6 (by kernel_rfl) (by kernel_rfl)) mineV_ok) sumsK19_ok
noncomputable def ihM : EvT := ev Tryz.prog plansJ sumsM (nat_lit 100000) 100000
noncomputable def callH : CallT := callF Tryz.prog sumsM ihM
theorem ih_ok (ρ : Nat → Int) : CodeSound Tryz.prog ρ plansJ ihM := ev_sound follows_mixed plansJ_ok sumsM_ok 100000 100000 ρ
theorem call_ok (ρ : Nat → Int) : CallSound Tryz.prog ρ callH := callF_sound plansJ_ok sumsM_ok (ih_ok ρ)

/-! the orders of its region -/
noncomputable def treeT : PlT := .br [0, 1, 4, 8, 14] 2 [4] 9 [4]
  (.br [3] 5 [3, 4] 9 [3, 4]
    (.fin [([6, 7], [9], [3, 4, 6, 7]), ([], [10], [3, 4, 6, 7]), ([11, 12], [], [])])
    (.br [] 5 [3, 4] 10 [3, 4]
      (.fin [([6, 7], [10], [3, 4, 6, 7]), ([11, 12], [], [])])
      (.fin [([11], [5], [3, 4, 11]), ([6, 7, 12], [], [])])))
  (.br [] 2 [4] 10 [4]
    (.br [3] 5 [3, 4] 10 [3, 4]
      (.fin [([6, 7], [10], [3, 4, 6, 7]), ([11, 12], [], [])])
      (.fin [([11], [5], [3, 4, 11]), ([6, 7, 12], [], [])]))
    (.fin [([11], [2], [4, 11]), ([3], [5], [3, 4, 11]), ([6, 7, 12], [], [])]))
noncomputable def tailT : Plan := [([], [13], []), ([], [15], []), ([16, 17, 18], [], [])]
noncomputable def tgH (i : Nat) : Bool := [0, 1, 3, 4, 6, 7, 8, 11, 12, 14, 16, 17, 18].contains i
noncomputable def pdH (j : Nat) : List Nat := match j with
  | 2 => [4, 11]
  | 5 => [3, 4, 11]
  | 9 => [3, 4, 6, 7]
  | 10 => [3, 4, 6, 7]
  | _ => []
set_option maxRecDepth 100000 in
theorem tree_ok : (Region.noSelect ops14 && (planTB ops14 tgH pdH tailT treeT (Array.replicate ops14.size false) && decide (planTN tailT treeT = ops14.size))) = true := by kernel_rfl

/-! patterns, one of several -/
noncomputable section
def ks : List Nat := [0, 1, 2, 3, 4, 5, 6, 7, 8, 9, 10, 11, 12, 13, 14, 15, 16, 17, 18, 19, 20, 21, 22, 23, 24, 25, 26, 27, 28, 29, 30, 31]
def lets (r : Ren) (l : List Nat) : List AV := List.rec (motive := fun _ => List AV) [] (fun k _ ih => .int .i64 (optD (.lit (.ofNat (nat_lit 0))) (r.si.get k)) :: ih) l
def outK (j : Nat) (r : Ren) (pc : PC) : R := .done (.tup (.int .i64 (.lit (.ofNat j)) :: lets r ks)) ⟨.nil, nat_lit 0, ⟨pc.l, [], []⟩⟩
def matchL (sz : Nat) (ps : List (Nat × Pat)) (s : St) (t : Ts) : R := List.rec (motive := fun _ => R) (.fail 902) (fun x _ ih => matchP x.2 sz s t ih (fun r => outK x.1 r s.pc)) ps
def kap (ps : List (Nat × Pat)) (e : Ex) (s : St) (t : Ts) : R := Ex.rec (motive := fun _ => R) (matchL (nat_lit 103) ps s t) (fun _ => .fail 900) (.fail 901) e
def heavy (ps : List (Nat × Pat)) (x : St × Ts) : R := evMix Tryz.prog ops14 callH (nat_lit 103) tailT x.1 x.2 (fun s t => ihM 3 (nat_lit 103) rd3 s t (kap ps))
/-- the state that all orders end in, out of one of them -/
def lexK (p : Pat) : St × Ts := (decE (evMix Tryz.prog ops14 callH (nat_lit 103) [([0, 1, 4, 8, 14], [2], [4]), ([3], [5], [4]), ([6, 7], [9], [4]), ([], [10], [4]), ([11, 12], [], [])] (p.st []) (p.ts (nat_lit 103)) encE)).getD (p.st [], p.ts (nat_lit 103))
end
theorem matchL_inv {P : Program} {sz : Nat} {s : St} {t : Ts} {D : Dn} : ∀ {ps : List (Nat × Pat)}, (∀ x ∈ ps, x.2.okB sz = true) → matchL sz ps s t ∈ D → ∃ x ∈ ps, ∃ r, outK x.1 r s.pc ∈ D ∧ ∀ {ρ w0 φ a w}, Holds ρ s.pc → GA φ ρ t sz a → Gm P ρ w0 φ s w → ∃ w0' φ', w0'.w0 = w0.w0 ∧ GA φ' (r.rho ρ) (x.2.ts sz) sz a ∧ Gm P (r.rho ρ) w0' φ' (x.2.st []) w
  | [], _, h => by cases h
  | x :: ps, hp, h => by
    rcases matchP_inv (hp x (by simp)) (show matchP x.2 sz s t (matchL sz ps s t) (fun r => outK x.1 r s.pc) ∈ D from h) with h | ⟨r, h1, h2⟩
    · obtain ⟨y, hy, r, q⟩ := matchL_inv (P := P) (fun z hz => hp z (by simp [hz])) h
      exact ⟨y, by simp [hy], r, q⟩
    · exact ⟨x, by simp, r, h1, fun {ρ w0 φ a w} hρ hg hm => h2 (l := []) hρ hg hm⟩
/-- the world is as the pattern tells it -/
def At (W : World) (p : Pat) (ρ : Nat → Int) (a : Act) (w : World) : Prop := ∃ w0 φ, w0.w0 = W ∧ GA φ ρ (p.ts 103) 103 a ∧ Gm Tryz.prog ρ w0 φ (p.st []) w
theorem rd3_ok : codeOk plansJ 3 rd3 = true := by kernel_rfl
set_option maxRecDepth 100000 in
theorem round_gen {p : Pat} {K : St × Ts} {ps : List (Nat × Pat)} {LL : List (AV × List (SB × Bool))} (hlv : leavesT Tryz.prog ops14 callH 103 treeT (p.st [], p.ts 103) = some [K, K, K, K, K, K]) (hen : endsR (heavy ps K) [] = some LL) (hps : ∀ x ∈ ps, x.2.okB 103 = true)
    {W : World} {ρ : Nat → Int} {a : Act} {w : World} (hrg : RgOk ρ p.rg) (hat : At W p ρ a w) {Qb Q14 : Exit → Act → World → Prop} (hQ14 : ∀ a' w', rd3.wp Tryz.prog Qb a' w' → Q14 .normal a' w')
    (hQ : ∀ x ∈ ps, ∀ (r : Ren) l, (AV.tup (.int .i64 (.lit (.ofNat x.1)) :: lets r ks), l) ∈ LL → (∀ c ∈ l, c.1.ev ρ = c.2) → ∀ a' w', At W x.2 (r.rho ρ) a' w' → Qb .normal a' w') :
    (Code.region 14 ops14 true).wp Tryz.prog Q14 a w := by
  obtain ⟨w0, φ, hW, hg, hm⟩ := hat
  refine wp_region_T (ops := ops14) (tg := tgH) (pd := pdH) (tl := tailT) (T := treeT) follows_mixed tree_ok ?_
  refine leavesT_sound (φ0 := φ) (w0 := w0) (call_ok ρ) hlv hrg (fun y hy hr hl φ' a' w' hp hg' hm' => ?_) (List.prefix_refl _) hg hm
  obtain rfl : y = K := by simpa using hy
  obtain ⟨V, S, l, h1, h2, h3, h4⟩ := endsR_inv (ρ := ρ) _ hen (fun x hx => by cases hx)
  obtain ⟨s2, t2, e1, x1, q1⟩ := evMix_sound (call := callH) (call_ok ρ) (show evMix Tryz.prog ops14 callH (nat_lit 103) tailT y.1 y.2 (fun s t => ihM 3 (nat_lit 103) rd3 s t (kap ps)) ∈ Dn.mk ρ V S from h1)
  obtain ⟨e, s3, t3, e2, x2, q2⟩ := ih_ok ρ (f := 3) (sz := 103) (c := rd3) rd3_ok e1
  cases e with
  | exit i => cases e2
  | ret => cases e2
  | normal =>
    obtain ⟨x, hx, r, e3, q3⟩ := matchL_inv (P := Tryz.prog) hps (show matchL 103 ps s3 t3 ∈ _ from e2)
    obtain ⟨hV, hS⟩ : (AV.tup (.int .i64 (.lit (.ofNat x.1)) :: lets r ks)) = V ∧ (⟨.nil, nat_lit 0, ⟨s3.pc.l, [], []⟩⟩ : St) = S := e3
    have hρ : Holds ρ s3.pc := ⟨by rw [← hS] at h4; exact h4, by rw [x2.rg, x1.rg]; exact hr⟩
    rw [← hV] at h2
    refine q1 (hρ.of_ext x2) hg' hm' _ fun φ2 a2 w2 p2 hg2 hm2 => hQ14 a2 w2 (Code.wp_mono (fun e a3 w3 hp3 => ?_) (q2 hρ hg2 hm2))
    obtain ⟨rfl, φ3, p3, g3, m3⟩ := hp3
    obtain ⟨w0', φ4, hw, g4, m4⟩ := q3 hρ g3 m3
    exact hQ x hx r l h2 h3 a3 w3 ⟨w0', φ4, hw.trans hW, g4, m4⟩

/-! one letter is told -/
noncomputable section
def siSet (k0 : Nat) (v : Int) (l : List Nat) : Tr SI := List.rec (motive := fun _ => Tr SI) .nil (fun k _ ih => Tr.set ih k (Bool.rec (.var k) (.lit v) (Nat.beq k k0))) l
def rSet (k0 : Nat) (v : Int) : Ren := ⟨.nil, siSet k0 v ks, .nil, nat_lit 200, nat_lit 200⟩
end
theorem siSet_get (k0 : Nat) (v : Int) : ∀ (l : List Nat) (k : Nat), k ∈ l → (siSet k0 v l).get k = some (if k = k0 then .lit v else .var k)
  | [], k, h => by cases h
  | x :: l, k, h => by
    show (Tr.set (siSet k0 v l) x (Bool.rec (.var x) (.lit v) (Nat.beq x k0))).get k = _
    rw [Tr.get_set]
    by_cases hx : x = k
    · subst hx
      rw [if_pos rfl]
      by_cases h0 : x = k0
      · subst h0; rw [if_pos rfl, show Nat.beq x x = true from Nat.beq_refl x]
      · rw [if_neg h0, show Nat.beq x k0 = false from by rw [natBeq]; exact decide_eq_false h0]
    · rw [if_neg (by first | exact hx | exact fun e => hx e.symm)]
      rcases List.mem_cons.1 h with h | h
      · exact absurd h.symm hx
      · exact siSet_get k0 v l k h
theorem mem_ks {k : Nat} (h : k < 32) : k ∈ ks := by
  have : ∀ k, k < 32 → k ∈ ks := by decide
  exact this k h
theorem rSet_row {k0 : Nat} {v : Int} (a : Nat) : (rSet k0 v).row a = a := by
  unfold Ren.row
  have : (rSet k0 v).rw.get a = none := Tr.get_nil a
  rw [this]
  simp only [optD]
  cases rowIn a <;> rfl
theorem rSet_rho (k0 : Nat) (v : Int) (ρ : Nat → Int) (k : Nat) (h0 : k0 < 32) : (rSet k0 v).rho ρ k = if k = k0 then v else ρ k := by
  by_cases hk : k < 32
  · unfold Ren.rho
    rw [if_pos hk]
    have : (rSet k0 v).si.get k = _ := siSet_get k0 v ks k (mem_ks hk)
    rw [this]
    by_cases h : k = k0
    · rw [if_pos h, if_pos h]; rfl
    · rw [if_neg h, if_neg h]; rfl
  · rw [Ren.rho_ge (by omega), if_neg (by omega)]
    congr 1
    unfold Ren.ix
    simp only [rSet_row]
    repeat' split
    all_goals omega
theorem at_set {p : Pat} {k0 : Nat} {v : Int} (h0 : k0 < 32) (hok : p.okB 103 = true) (c4 : chkH p.rg (rSet k0 v) p.h (Tr.toL p.h (nat_lit 0) (nat_lit 1) []) .nil = true) {L : List (Nat × AV)} (cT : chkTm p.rg (rSet k0 v) (p.ts 103) L = true) (hL : ∀ x ∈ L, x ∈ p.tm)
    {W : World} {ρ : Nat → Int} {a a' : Act} {w : World} (hrg : RgOk ρ p.rg) (hat : At W p ρ a w) {S : List Nat} (hS : Same a a' S) (hLS : ∀ x ∈ L, x.1 ∉ S) :
    ∃ w0 φ, w0.w0 = W ∧ a'.tmps.size = 103 ∧ a'.defers = [] ∧ (∀ x ∈ L, conc φ ((rSet k0 v).rho ρ) x.2 = some (Act.at a' x.1)) ∧ Gm Tryz.prog ((rSet k0 v).rho ρ) w0 φ (p.st []) w := by
  obtain ⟨w0, φ, hW, hg, hm⟩ := hat
  obtain ⟨p1, p2, p3⟩ := Pat.okB_h hok
  obtain ⟨w0', φ', e1, e2, e3⟩ := Gm.sub (s := p.st []) (r := rSet k0 v) (pc := ⟨[], [[]], p.rg⟩) hrg hm c4 p1 p3
  refine ⟨w0', φ', e1.trans hW, hS.1.trans hg.size, ?_, fun x hx => ?_, e3⟩
  · rw [hS.2.1]
    have := hg.df
    cases hs : (p.ts 103).get 103 with
    | none =>
      rw [hs] at this
      generalize a.defers = ds at this ⊢
      cases this
      rfl
    | some v =>
      rcases tsP_get hs with ⟨x, hx, h5, _⟩ | hv
      · have := (p2 x hx).1
        omega
      · rw [show (skel 8).get 103 = none from skel_getP _] at hv
        cases hv
  · obtain ⟨u, u1, u2⟩ := chkTm_inv cT x hx
    have h3 := u2.2 _ ρ φ φ' (p2 x (hL x hx)).2.1 (p2 x (hL x hx)).2.2 hrg e2
    rw [← h3]
    have := hg.tm _ _ u1
    rw [this]
    exact congrArg some (hS.2.2 x.1 (hLS x hx)).symm
end Go.Proofs.YtoimjmmbppikoaaGreat
