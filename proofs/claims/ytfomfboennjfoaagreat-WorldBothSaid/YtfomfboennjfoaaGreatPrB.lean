/-
  WorldBoth: what a run says, whatever the ranges.
-/
import Derived.Test.YtfomfboennjfoaaGreatSgM
import Derived.Test.YtfomfboennjfoaaGreatPlsOk
set_option linter.unusedVariables false
set_option linter.unusedSimpArgs false
namespace Go.Proofs.YtfomfboennjfoaaGreat.worldBoth
open Go

noncomputable section
def argsB : List AV := [.int .i64 (.var 0), .fsl 32 zeroS zeroS (.var 32), .fsl 33 zeroS zeroS (.var 33)]
abbrev zB : Int × Int := (.ofNat 0, .ofNat 0)
def rgB (p q la ha lb hb : Int) : List (Int × Int) := [(.ofNat 1, .ofNat 65535), zB, zB, (.ofNat 0, p), (.ofNat 0, q), zB, zB, zB, zB, zB, zB, zB, zB, zB, zB, zB, zB, zB, zB, zB, zB, zB, zB, zB, zB, zB, zB, zB, zB, zB, zB, zB, (la, ha), (lb, hb)]
def padQ (o : Option Int) (n : Nat) : Int := match o with
  | some k => padV k n
  | none => 0
def padR (o : Option Int) : Int := match o with
  | some _ => .ofNat 5
  | none => .ofNat 0
end
theorem zB_ok {ρ : Nat → Int} {rg : List (Int × Int)} (h : ρ 0 = 0) (hr : RgOk (fun i => ρ (i + 1)) rg) : RgOk ρ (zB :: rg) := rgOk_cons ⟨by rw [h]; exact Int.le_refl _, by rw [h]; exact Int.le_refl _⟩ hr
theorem padQ_ok {o : Option Int} {n : Nat} (h : ∀ k, o = some k → k + 1 ≤ (n : Int)) : (0 : Int) ≤ padQ o n ∧ padQ o n ≤ padR o := by
  cases o with
  | none => exact ⟨Int.le_refl _, Int.le_refl _⟩
  | some k => exact padV_rg (h k rfl)
def AnyB (la ha lb hb : Int) : Prop := ∀ (w : World) (a0 : Int), 1 ≤ a0 ∧ a0 ≤ 65535 → ∀ r1 : RowD, r1.Ok w → la ≤ (r1.n : Int) ∧ (r1.n : Int) ≤ ha → ∀ r2 : RowD, r2.Ok w → lb ≤ (r2.n : Int) ∧ (r2.n : Int) ≤ hb →
    Calls Tryz.prog 6 #[.int .i64 a0, r1.v, r2.v] w fun e w' => e = .returned (.bool true) ∧ Kp [] w w'
theorem run_any {pl : Plans} {sm : Sums} (hP : PlansOk Tryz.prog pl) (hS : SumsOk Tryz.prog sm) {pm : List (SB × Bool)} {oa ob : Option Int} {la ha lb hb' : Int}
    (hr : okT2 0 (.ofNat 0) 0 (isB true) (evCall Tryz.prog pl sm 100000 6 argsB (s0 pm [[]] (rgB (padR oa) (padR ob) la ha lb hb')) finK) pm = true)
    {ga gb gc gd : Int} (hp : ∀ ρ : Nat → Int, ∀ n m : Nat, ρ 32 = (n : Int) → ρ 33 = (m : Int) → ρ 3 = padQ oa n → ρ 4 = padQ ob m → ga ≤ (n : Int) ∧ (n : Int) ≤ gb → gc ≤ (m : Int) ∧ (m : Int) ≤ gd → ∀ x ∈ pm, x.1.ev ρ = x.2) (hb : (ga ≤ la ∧ ha ≤ gb) ∧ (gc ≤ lb ∧ hb' ≤ gd)) (hoa : ∀ k, oa = some k → k + 1 ≤ la) (hob : ∀ k, ob = some k → k + 1 ≤ lb) :
    AnyB la ha lb hb' := by
  intro w a0 h0 r1 k1 h1 r2 k2 h2
  refine run_bool2P follows_mixed hP hS hr (rhoG [a0, 0, 0, padQ oa r1.n, padQ ob r2.n] [r1, r2] []) (hp _ r1.n r2.n rfl rfl rfl rfl ⟨Int.le_trans hb.1.1 h1.1, Int.le_trans h1.2 hb.1.2⟩ ⟨Int.le_trans hb.2.1 h2.1, Int.le_trans h2.2 hb.2.2⟩) ?_ (.inl rfl) (xs := [.int .i64 a0, r1.v, r2.v]) (concL_mk rfl (concL_mk (conc_rhoG (by decide) (by decide) rfl k1.le) (concL_mk (conc_rhoG (by decide) (by decide) rfl k2.le) rfl))) w (foOk_rhoG (List.forall_mem_cons.2 ⟨k1, List.forall_mem_cons.2 ⟨k2, fun x hx => by cases hx⟩⟩))
  exact rgOk_cons ⟨h0.1, h0.2⟩ (zB_ok rfl (zB_ok rfl (rgOk_cons (padQ_ok fun k e => by have := hoa k e; omega) (rgOk_cons (padQ_ok fun k e => by have := hob k e; omega) (zB_ok rfl (zB_ok rfl (zB_ok rfl (zB_ok rfl (zB_ok rfl (zB_ok rfl (zB_ok rfl (zB_ok rfl (zB_ok rfl (zB_ok rfl (zB_ok rfl (zB_ok rfl (zB_ok rfl (zB_ok rfl (zB_ok rfl (zB_ok rfl (zB_ok rfl (zB_ok rfl (zB_ok rfl (zB_ok rfl (zB_ok rfl (zB_ok rfl (zB_ok rfl (zB_ok rfl (zB_ok rfl (zB_ok rfl (zB_ok rfl ((rgOk_cons ⟨h1.1, h1.2⟩ (rgOk_cons ⟨h2.1, h2.2⟩ rgOk_nil))))))))))))))))))))))))))))))))))

end Go.Proofs.YtfomfboennjfoaaGreat.worldBoth
