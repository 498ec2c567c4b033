/-
  A run reckoned ahead: counters that many may add to (sync/atomic), by one who is alone.
-/
import Derived.Test.YticednpolhnneaaGreatSxv
import Derived.Laws.LoneSync
import Derived.Lib.Overlaps
set_option linter.unusedVariables false
set_option linter.unusedSimpArgs false
namespace Go.Proofs.YticednpolhnneaaGreat
open Go

noncomputable section
def atCell (s : St) (id off : Nat) (κ : SI → R) : R := objK s.hp id fun n c d T r => Bool.rec (motive := fun _ => R) (.fail 401) (cellK c d off fun v => intV v (nat_lit 402) fun k e => Bool.rec (motive := fun _ => R) (.fail 403) (κ e) (kindEq k .i64)) (Nat.blt off n)
def atLoad (l : List AV) (s : St) (κ : AV → St → R) (alt : R) : R := match l with
  | [.ptr id off] => atCell s id off fun e => κ (.int .i64 e) s
  | _ => alt
def sumLoad (f0 : FuncId) : Sums := fun f l s κ alt => Bool.rec (motive := fun _ => R) alt (atLoad l s κ alt) (Nat.beq f f0)
def atCas (l : List AV) (s : St) (κ : AV → St → R) (alt : R) : R := match l with
  | [.ptr id off, .int .i64 a, .int .i64 b] => atCell s id off fun e => Bool.rec (motive := fun _ => R) (.fail 404) (storeL s id off [.int .i64 b] fun s => κ (.bool (.lit true)) s) (SI.beq e a)
  | _ => alt
def sumCas (f0 : FuncId) : Sums := fun f l s κ alt => Bool.rec (motive := fun _ => R) alt (atCas l s κ alt) (Nat.beq f f0)
/-- slices.overlaps: rows in two blocks -/
def ovlA (l : List AV) (s : St) (κ : AV → St → R) (alt : R) : R := match l with
  | [.sl i oi li ci, .sl j oj lj cj] => Bool.rec (motive := fun _ => R) (objK s.hp i fun n c d T r => objK s.hp j fun m c' d' T' r' => Bool.rec (motive := fun _ => R) (.fail 405) (κ (.bool (.lit false)) s) (notF r && Nat.blt (nat_lit 0) m)) alt (Nat.beq i j)
  | _ => alt
def sumOvl (f0 : FuncId) : Sums := fun f l s κ alt => Bool.rec (motive := fun _ => R) alt (ovlA l s κ alt) (Nat.beq f f0)
end
section
variable {P : Program} {f0 : FuncId} {fn : Func}
theorem sumOvl_ok (hf : P.funcs[f0]? = some fn) (hname : (fn.name == "runtime.NumGoroutine") = false) (hb : fn.body.isNone = true) (hn : Extern.findNext fn = none) {tS tR e : TypeId} {sz : Nat} (ht : P.underlying tS = some (.slice e)) (hz : sizeA P e = some sz) (he : Extern.find fn = some (Extern.SlicesOverlaps.overlaps #[tS, tS] #[tR])) : SumsOk P (sumOvl f0) := by
  intro ρ f l s κ alt D h
  unfold sumOvl at h
  rcases brec_cases h with ⟨hff, h1⟩ | ⟨_, h1⟩
  · rw [natBeq, decide_eq_true_eq] at hff
    subst hff
    unfold ovlA at h1
    split at h1
    · rename_i i oi li ci j oj lj cj
      rcases brec_cases h1 with ⟨_, h2⟩ | ⟨hij, h2⟩
      · exact .inl h2
      · rw [natBeq] at hij
        have hij := of_decide_eq_false hij
        obtain ⟨n, c, d, T, r, hi, h3⟩ := objK_inv h2
        obtain ⟨m, c', d', T', r', hj, h4⟩ := objK_inv h3
        obtain ⟨hr, h5⟩ := brec_inv h4
        simp only [Bool.and_eq_true, notF_eq, Bool.not_eq_true', natBlt, decide_eq_true_eq] at hr
        obtain ⟨rfl, hm0⟩ := hr
        refine .inr ⟨_, s, h5, .refl _, fun {w0 φ w xs} hρ hx hm => ?_⟩
        obtain ⟨y, ys, e1, e2, rfl⟩ := concL_cons.1 hx
        obtain ⟨y2, ys2, e3, e4, rfl⟩ := concL_cons.1 e2
        simp only [concL, Option.some.injEq] at e4
        subst e4
        obtain ⟨p, hp, rfl⟩ := conc_sl e1
        obtain ⟨q, hq, rfl⟩ := conc_sl e3
        obtain ⟨p', arr, fz, hp', hc⟩ := hm.hp.obj _ _ hi
        rw [hp] at hp'; cases hp'
        obtain ⟨q', arr', fz', hq', hc'⟩ := hm.hp.obj _ _ hj
        rw [hq] at hq'; cases hq'
        have hne : p.blk ≠ q.blk := fun h => hij (hm.hp.sep i j _ _ p q hi hj rfl rfl hp hq h)
        obtain ⟨_, _, hfz, _⟩ := hc.fix rfl
        subst hfz
        refine .inr ⟨.bool false, w, ?_, φ, List.prefix_refl _, rfl, hm⟩
        rw [run_callFunc_extern hf hname hb hn he, Lib.run_overlaps_apart w tS tR e ht sz (fun w => run_size hz) _ _ _ _ _ _ hne T T' arr.size arr'.size]
        · rfl
        · simp [World.shape?, hc.blk]
        · simp [World.shape?, hc'.blk]
        · rw [hc'.size]; have := hc'.le; omega
        · simp [World.frozen?, hc.blk]
        · simp [World.frozen?, hc.blk]
    · exact .inl h1
  · exact .inl h1
theorem atCell_inv {s : St} {id off : Nat} {κ : SI → R} {D : Dn} (h : atCell s id off κ ∈ D) : ∃ e, κ e ∈ D ∧ ∀ {ρ w0 φ w p}, Gm P ρ w0 φ s w → φ[id]? = some p → w.cell? ⟨p.blk, p.sh + off, none⟩ = some (.int .i64 (e.ev ρ)) ∧ w.frozen? ⟨p.blk, p.sh + off, none⟩ = false := by
  obtain ⟨n, c, d, T, r, hid, h1⟩ := objK_inv h
  obtain ⟨hb, h2⟩ := brec_inv h1
  obtain ⟨v, hv, h3⟩ := cellK_inv h2
  obtain ⟨k, e, rfl, h4⟩ := intV_inv h3
  obtain ⟨hk, h5⟩ := brec_inv h4
  have hk := kindEq_of hk
  subst hk
  rw [natBlt, decide_eq_true_eq] at hb
  refine ⟨e, h5, fun {ρ w0 φ w p} hm hp => ?_⟩
  obtain ⟨p', arr, fz, hp', hc⟩ := hm.hp.obj _ _ hid
  rw [hp] at hp'; cases hp'
  obtain ⟨u, x, e1, e2, e3, _⟩ := hc.cell off hb
  rw [hv] at e1; cases e1
  simp only [conc, Option.some.injEq] at e2
  subst e2
  have hlt : p.sh + off < p.sz := by have := hc.le; omega
  refine ⟨by simp [World.cell?, hc.blk, e3], ?_⟩
  have := hc.fr (p.sh + off) hlt
  simp only [World.frozen?, hc.blk]
  simpa using this
theorem sumLoad_ok (hf : P.funcs[f0]? = some fn) (hname : (fn.name == "runtime.NumGoroutine") = false) (hb : fn.body.isNone = true) (hn : Extern.findNext fn = none) (he : Extern.find fn = some (Extern.Atomic.loadT (.int .i64))) : SumsOk P (sumLoad f0) := by
  intro ρ f l s κ alt D h
  unfold sumLoad at h
  rcases brec_cases h with ⟨hff, h1⟩ | ⟨_, h1⟩
  · rw [natBeq, decide_eq_true_eq] at hff
    subst hff
    unfold atLoad at h1
    split at h1
    · rename_i id off
      obtain ⟨e, h2, h3⟩ := atCell_inv (P := P) h1
      refine .inr ⟨_, s, h2, .refl _, fun {w0 φ w xs} hρ hx hm => ?_⟩
      obtain ⟨y, ys, e1, e2, rfl⟩ := concL_cons.1 hx
      simp only [concL, Option.some.injEq] at e2
      subst e2
      obtain ⟨p, hp, rfl⟩ := conc_ptr e1
      exact .inr ⟨_, w, run_call_load hf hname hb hn .i64 he (h3 hm hp).1, φ, List.prefix_refl _, rfl, hm⟩
    · exact .inl h1
  · exact .inl h1
theorem sumCas_ok (hf : P.funcs[f0]? = some fn) (hname : (fn.name == "runtime.NumGoroutine") = false) (hb : fn.body.isNone = true) (hn : Extern.findNext fn = none) (he : Extern.find fn = some (Extern.Atomic.casT (.int .i64))) : SumsOk P (sumCas f0) := by
  intro ρ f l s κ alt D h
  unfold sumCas at h
  rcases brec_cases h with ⟨hff, h1⟩ | ⟨_, h1⟩
  · rw [natBeq, decide_eq_true_eq] at hff
    subst hff
    unfold atCas at h1
    split at h1
    · rename_i id off a b
      obtain ⟨e, h2, h3⟩ := atCell_inv (P := P) h1
      obtain ⟨hab, h4⟩ := brec_inv h2
      have hab := SI.beq_eq _ _ hab
      subst hab
      obtain ⟨s', h5, hpc, h6⟩ := stP_sound (P := P) (ρ := ρ) h4
      refine .inr ⟨_, s', h5, by rw [hpc]; exact .refl _, fun {w0 φ w xs} hρ hx hm => ?_⟩
      obtain ⟨y, ys, e1, e2, rfl⟩ := concL_cons.1 hx
      obtain ⟨y2, ys2, e3, e4, rfl⟩ := concL_cons.1 e2
      obtain ⟨y3, ys3, e5, e6, rfl⟩ := concL_cons.1 e4
      simp only [concL, Option.some.injEq] at e6
      subst e6
      obtain ⟨p, hp, rfl⟩ := conc_ptr e1
      simp only [conc, Option.some.injEq] at e3 e5
      subst e3; subst e5
      obtain ⟨c1, c2⟩ := h3 hm hp
      obtain ⟨w', r1, r2⟩ := h6 hm hp (concL_cons.2 ⟨.int .i64 (b.ev ρ), [], rfl, rfl, rfl⟩)
      have hw : w' = w.setCell ⟨p.blk, p.sh + off, none⟩ (.int .i64 (b.ev ρ)) := by
        have : (storeCells ⟨p.blk, p.sh + off, none⟩ [.int .i64 (b.ev ρ)]).run P w = .ok () (w.setCell ⟨p.blk, p.sh + off, none⟩ (.int .i64 (b.ev ρ))) := by
          simp [storeCells, store, Sem.run, Sem.run_bind, c1, c2, Addr.add]
        rw [this] at r1
        cases r1
        rfl
      subst hw
      exact .inr ⟨_, _, run_call_cas_hit hf hname hb hn .i64 he c1 c2, φ, List.prefix_refl _, rfl, r2⟩
    · exact .inl h1
  · exact .inl h1
end

end Go.Proofs.YticednpolhnneaaGreat
