/-
  A run reckoned ahead: each quiet operation does what was reckoned.
-/
import Derived.Test.YtdklpcjipkhenaaSxh
set_option linter.unusedVariables false
set_option linter.unusedSimpArgs false
namespace Go.Proofs.Ytdklpcjipkhenaa
open Go

section
variable {P : Program} {D : Dn} {h : Tr AObj}

theorem nilA_sound {v : AV} {κ : AV → R} (hD : nilA κ v ∈ D) : κ v ∈ D ∧ ∀ {φ ρ x}, conc φ ρ v = some x → (∃ p, x = .pointer (some p)) ∨ (∃ p n c, x = .slice p n c) ∨ (∃ r, x = .map r) ∨ (∃ f a b, x = .func (.func f) a b) ∨ (∃ t y, x = .iface t y) := by
  unfold nilA at hD
  obtain ⟨hb, h1⟩ := brec_inv hD
  refine ⟨h1, fun {φ ρ x} hx => ?_⟩
  cases v
  case ptr =>
    obtain ⟨p, _, rfl⟩ := conc_ptr hx
    exact .inl ⟨_, rfl⟩
  case map =>
    simp only [conc, Option.map_eq_some_iff] at hx
    obtain ⟨p, _, rfl⟩ := hx
    exact .inr (.inr (.inl ⟨_, rfl⟩))
  case sl =>
    obtain ⟨p, _, rfl⟩ := conc_sl hx
    exact .inr (.inl ⟨_, _, _, rfl⟩)
  case emp =>
    simp only [conc, Option.map_eq_some_iff] at hx
    obtain ⟨p, _, rfl⟩ := hx
    split
    · exact .inr (.inl ⟨_, _, _, rfl⟩)
    · exact .inr (.inl ⟨_, _, _, rfl⟩)
  case fn f a b =>
    cases f with
    | func g =>
      simp only [conc, Option.bind_eq_some_iff, Option.map_eq_some_iff] at hx
      obtain ⟨p, _, q, _, rfl⟩ := hx
      exact .inr (.inr (.inr (.inl ⟨_, _, _, rfl⟩)))
    | _ => cases hb
  case iface =>
    simp only [conc, Option.map_eq_some_iff] at hx
    obtain ⟨p, _, rfl⟩ := hx
    exact .inr (.inr (.inr (.inr ⟨_, _, rfl⟩)))
  all_goals cases hb

theorem OptOk.of_opds {φ : List Pl} {ρ : Nat → Int} {a : Act} {o : Option Operand} {vs : List AV} (hl : vs.length = o.toList.length) (hc : concL φ ρ vs = some (o.toList.map a.eval)) : OptOk φ ρ vs.head? (o.map a.eval) := by
  cases o with
  | none =>
    have : vs = [] := by simpa using hl
    subst this
    exact .no
  | some o =>
    cases vs with
    | nil => simp at hl
    | cons v vs =>
      obtain ⟨x, ys, h1, h2, h3⟩ := concL_cons.1 hc
      simp at h3
      obtain ⟨rfl, rfl⟩ := h3
      exact .yes h1

/-- what the model's side owes -/
def RunO (P : Program) (φ : List Pl) (ρ : Nat → Int) (a : Act) (w : World) (op : Op) (v : AV) : Prop := ∃ x, conc φ ρ v = some x ∧ ∀ o : Oper, o.op = op → (execOp a.eval o).run P w = .ok (.value x) w
theorem RunO.of {φ : List Pl} {ρ : Nat → Int} {a : Act} {w : World} {op : Op} {v : AV} {m : Sem Value} (hr : RunV P φ ρ w m v) (he : ∀ o : Oper, o.op = op → execOp a.eval o = (do pure (.value (← m)))) : RunO P φ ρ a w op v := by
  obtain ⟨x, hx, h1⟩ := hr.value
  exact ⟨x, hx, fun o ho => by rw [he o ho]; exact h1⟩

theorem evQ_sound {t : Ts} {pc : PC} {op : Op} {κ : AV → PC → R} (hD : evQ P h t pc op κ ∈ D) : ∃ v pc', κ v pc' ∈ D ∧ PcExt pc pc' ∧ ∀ {φ ρ sz a w}, Holds ρ pc' → GA φ ρ t sz a → Hp P φ ρ h w → RunO P φ ρ a w op v := by
  cases op
  case move x =>
    obtain ⟨v, h1, hv⟩ := opd_inv (show opd t x (fun v => κ v pc) ∈ D from hD)
    exact ⟨v, pc, h1, .refl _, fun {φ ρ sz a w} _ hg _ => ⟨_, hv hg, fun o ho => by simp [execOp, ho]⟩⟩
  case assign x =>
    obtain ⟨v, h1, hv⟩ := opd_inv (show opd t x (fun v => κ v pc) ∈ D from hD)
    exact ⟨v, pc, h1, .refl _, fun {φ ρ sz a w} _ hg _ => ⟨_, hv hg, fun o ho => by simp [execOp, ho]⟩⟩
  case pick c x y =>
    obtain ⟨v, h1, hv⟩ := opd_inv (show opd t c (fun c => opd t x fun a => opd t y fun b => asBoolA c fun c => decK pc c fun c pc => κ (Bool.rec (motive := fun _ => AV) b a c) pc) ∈ D from hD)
    obtain ⟨u1, h1, hu1⟩ := opd_inv h1
    obtain ⟨u2, h1, hu2⟩ := opd_inv h1
    obtain ⟨b, rfl, h2⟩ := asBoolA_inv h1
    obtain ⟨d, pc', h3, hx, hd⟩ := decK_inv h2
    refine ⟨_, pc', h3, hx, fun {φ ρ sz a w} hρ hg _ => ?_⟩
    have hc := hv hg
    simp only [conc, Option.some.injEq, hd ρ hρ] at hc
    cases d with
    | false => exact ⟨_, hu2 hg, fun o ho => by simp [execOp, ho, Sem.run_bind, ← hc, asBool]⟩
    | true => exact ⟨_, hu1 hg, fun o ho => by simp [execOp, ho, Sem.run_bind, ← hc, asBool]⟩
  case load T x =>
    obtain ⟨v, h1, hv⟩ := opd_inv (show opd t x (fun v => loadA P h T v fun v => κ v pc) ∈ D from hD)
    obtain ⟨u, h2, hu⟩ := load_sound h1
    exact ⟨u, pc, h2, .refl _, fun {φ ρ sz a w} _ hg hp => .of (hu hp (hv hg)) fun o ho => by unfold execOp; simp only [ho]⟩
  case nilCheck x =>
    obtain ⟨v, h1, hv⟩ := opd_inv (show opd t x (fun v => nilA (fun v => κ v pc) v) ∈ D from hD)
    obtain ⟨h2, hn⟩ := nilA_sound h1
    refine ⟨v, pc, h2, .refl _, fun {φ ρ sz a w} _ hg _ => ⟨_, hv hg, fun o ho => ?_⟩⟩
    unfold execOp
    simp only [ho]
    rcases hn (hv hg) with ⟨p, e⟩ | ⟨p, n, c, e⟩ | ⟨r, e⟩ | ⟨f, b, c, e⟩ | ⟨T, y, e⟩ <;> rw [e] <;> rfl
  case binOp op T x y yT =>
    obtain ⟨v, h1, hv⟩ := opd_inv (show opd t x (fun x => opd t y fun y => binA P op T h x y fun v => κ v pc) ∈ D from hD)
    obtain ⟨v', h2, hv'⟩ := opd_inv h1
    obtain ⟨u, h3, hu⟩ := bin_sound h2
    exact ⟨u, pc, h3, .refl _, fun {φ ρ sz a w} _ hg hp => .of (hu (o1 := x) (o2 := y) hp (hv hg) (hv' hg)) fun o ho => by unfold execOp; simp only [ho]⟩
  case unOp op T x =>
    obtain ⟨v, h1, hv⟩ := opd_inv (show opd t x (fun x => unA op x fun v => κ v pc) ∈ D from hD)
    obtain ⟨u, h3, hu⟩ := un_sound (P := P) h1
    exact ⟨u, pc, h3, .refl _, fun {φ ρ sz a w} _ hg hp => .of (hu (hv hg)) fun o ho => by unfold execOp; simp only [ho]⟩
  case convert src dst x =>
    obtain ⟨v, h1, hv⟩ := opd_inv (show opd t x (fun x => convA P src dst x fun v => κ v pc) ∈ D from hD)
    obtain ⟨u, h3, hu⟩ := conv_sound h1
    exact ⟨u, pc, h3, .refl _, fun {φ ρ sz a w} _ hg hp => .of (hu (hv hg)) fun o ho => by unfold execOp; simp only [ho]⟩
  case fieldAddr T x f =>
    obtain ⟨v, h1, hv⟩ := opd_inv (show opd t x (fun x => fldAddr P T f x fun v => κ v pc) ∈ D from hD)
    obtain ⟨u, h3, hu⟩ := fldAddr_sound h1
    exact ⟨u, pc, h3, .refl _, fun {φ ρ sz a w} _ hg hp => .of (hu (hv hg)) fun o ho => by unfold execOp; simp only [ho]⟩
  case field T x f =>
    obtain ⟨v, h1, hv⟩ := opd_inv (show opd t x (fun x => fldA P T f x fun v => κ v pc) ∈ D from hD)
    obtain ⟨u, h3, hu⟩ := fld_sound h1
    exact ⟨u, pc, h3, .refl _, fun {φ ρ sz a w} _ hg hp => .of (hu (hv hg)) fun o ho => by unfold execOp; simp only [ho]⟩
  case indexAddr T x i =>
    obtain ⟨v, h1, hv⟩ := opd_inv (show opd t x (fun x => opd t i fun i => ixAddr P T x i fun v => κ v pc) ∈ D from hD)
    obtain ⟨v', h2, hv'⟩ := opd_inv h1
    obtain ⟨u, h3, hu⟩ := ixAddr_sound h2
    exact ⟨u, pc, h3, .refl _, fun {φ ρ sz a w} _ hg hp => .of (hu (hv hg) (hv' hg)) fun o ho => by unfold execOp; simp only [ho]⟩
  case index T x i =>
    obtain ⟨v, h1, hv⟩ := opd_inv (show opd t x (fun x => opd t i fun i => ixA P T x i fun v => κ v pc) ∈ D from hD)
    obtain ⟨v', h2, hv'⟩ := opd_inv h1
    obtain ⟨u, h3, hu⟩ := ix_sound h2
    exact ⟨u, pc, h3, .refl _, fun {φ ρ sz a w} _ hg hp => .of (hu (hv hg) (hv' hg)) fun o ho => by unfold execOp; simp only [ho]⟩
  case slice T x lo hi mx =>
    obtain ⟨v, h1, hv⟩ := opd_inv (show opd t x (fun x => opds t lo.toList fun lo' => opds t hi.toList fun hi' => opds t mx.toList fun mx' => sliceA P T h x lo'.head? hi'.head? mx'.head? fun v => κ v pc) ∈ D from hD)
    obtain ⟨v1, h2, l1, hv1⟩ := opds_inv h1
    obtain ⟨v2, h3, l2, hv2⟩ := opds_inv h2
    obtain ⟨v3, h4, l3, hv3⟩ := opds_inv h3
    obtain ⟨u, h5, hu⟩ := slice_sound h4
    exact ⟨u, pc, h5, .refl _, fun {φ ρ sz a w} _ hg hp => .of (hu hp (hv hg) (.of_opds l1 (hv1 hg)) (.of_opds l2 (hv2 hg)) (.of_opds l3 (hv3 hg))) fun o ho => by unfold execOp; simp only [ho]⟩
  case lookup T x i ok =>
    obtain ⟨v, h1, hv⟩ := opd_inv (show opd t x (fun x => opd t i fun i => lookA P T h x i ok fun v => κ v pc) ∈ D from hD)
    obtain ⟨v', h2, hv'⟩ := opd_inv h1
    obtain ⟨u, h3, hu⟩ := look_sound h2
    exact ⟨u, pc, h3, .refl _, fun {φ ρ sz a w} _ hg hp => .of (hu hp (hv hg) (hv' hg)) fun o ho => by unfold execOp; simp only [ho]⟩
  case extract x n =>
    obtain ⟨v, h1, hv⟩ := opd_inv (show opd t x (fun x => extA x n fun v => κ v pc) ∈ D from hD)
    obtain ⟨u, h3, hu⟩ := ext_sound (P := P) h1
    exact ⟨u, pc, h3, .refl _, fun {φ ρ sz a w} _ hg hp => .of (hu (hv hg)) fun o ho => by unfold execOp; simp only [ho]⟩
  case makeFunc fn first captured =>
    obtain ⟨v1, h1, l1, hv1⟩ := opds_inv (show opds t first.toList (fun a => opds t captured.toList fun b => κ (.fn fn a b) pc) ∈ D from hD)
    obtain ⟨v2, h2, l2, hv2⟩ := opds_inv h1
    refine ⟨_, pc, h2, .refl _, fun {φ ρ sz a w} _ hg hp => .of (m := Instr.makeFunc fn (first.map a.eval) (captured.map a.eval)) ⟨.func fn (first.map a.eval) (captured.map a.eval), ?_, rfl⟩ fun o ho => by unfold execOp; simp only [ho]⟩
    simp [conc, hv1 hg, hv2 hg, ← Array.toList_map]
  case build T parts =>
    obtain ⟨u, h3, hu⟩ := build_sound (show buildA P T t parts (fun v => κ v pc) ∈ D from hD)
    exact ⟨u, pc, h3, .refl _, fun {φ ρ sz a w} _ hg hp => .of (hu hg) fun o ho => by unfold execOp; simp only [ho]⟩
  case call c =>
    have hD : qCall P t pc κ c ∈ D := hD
    unfold qCall at hD
    split at hD
    · rename_i b hb
      obtain ⟨vs, h1, _, hvs⟩ := opds_inv hD
      obtain ⟨u, pc', h2, hx, hu⟩ := bltQ_sound h1
      refine ⟨u, pc', h2, hx, fun {φ ρ sz a w} hρ hg hp => ?_⟩
      have key : ∀ (T : TypeId) (cs : Array Bool), ∃ x, conc φ ρ u = some x ∧ (builtin b c.argTypes T cs (c.args.map a.eval)).run P w = .ok (.value x) w := fun T cs => by
        obtain ⟨x, hx1, hx2⟩ := hu (w := w) (T := T) (cs := cs) hρ (hvs hg)
        exact ⟨x, hx1, by rw [← hx2]; congr 1; congr 1; apply Array.toList_inj.1; simp⟩
      obtain ⟨x, hx1, _⟩ := key 0 #[]
      refine ⟨x, hx1, fun o ho => ?_⟩
      unfold execOp
      simp only [ho, Sem.run_bind, resolve, hb, Sem.run_pure, Result.andThen_ok, invoke]
      obtain ⟨y, hy1, hy2⟩ := key o.type (c.args.map fun | .const _ => true | _ => false)
      rw [hx1] at hy1
      cases hy1
      exact hy2
    · cases hD
  all_goals cases hD
end

end Go.Proofs.Ytdklpcjipkhenaa
