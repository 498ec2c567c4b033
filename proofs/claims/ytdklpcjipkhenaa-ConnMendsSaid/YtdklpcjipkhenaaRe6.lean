/-
  Functions told without temporaries. Printed by res2_all.py.
-/
import Derived.Test.YtdklpcjipkhenaaRd0
set_option linter.unusedVariables false
set_option linter.unusedSimpArgs false
namespace Go.Proofs.Ytdklpcjipkhenaa
open Go

noncomputable section
def CG16 (N : Nat) (G30 : AV → St → (AV → St → R) → R) (G31 : St → (AV → St → R) → R) (G32 : AV → AV → St → (AV → St → R) → R) (a0 a1 a2 : AV) (s : St) (κ : AV → St → R) : R := boxA 34 a1 s fun v1 s2 => binA Try.prog .eql 23 s2.hp a0 (ofValue (Value.pointer none)) fun v3 => (fun (j6 : AV → St → R) => wantS s2 false (fun b4 s5 => Bool.rec (motive := fun _ => R) (j6 undefA s5) (loadA Try.prog s5.hp 34 v1 fun v9 => G30 v9 s5 fun v10 s11 => j6 v10 s11) b4) v3) (fun p8 s7 => boolV v3 (nat_lit 6) fun c12 => decS s7 c12 fun b13 s14 => boolV (Bool.rec (motive := fun _ => AV) p8 (.bool (.lit true)) b13) (nat_lit 180) fun c15 => decS s14 c15 fun b16 s17 => Bool.rec (motive := fun _ => R) (buildV Try.prog 66 [(0, a0), (1, a2)] fun v18 => boxA 66 v18 s17 fun v19 s20 => (fun (j21 : St → R) => nilA (fun v23 => fldAddr Try.prog 82 1 v23 fun v24 => loadA Try.prog s20.hp 3 v24 fun v25 => G31  s20 fun v26 s27 => nilA (fun v28 => Bool.rec (motive := fun _ => R) (.fail 171) (fldAddr Try.prog 82 1 v23 fun v29 => Bool.rec (motive := fun _ => R) (.fail 171) (loadA Try.prog s27.hp 3 v24 fun v30 => Bool.rec (motive := fun _ => R) (.fail 171) (lookA Try.prog 70 s27.hp v26 v25 true fun v31 => extA v31 0 fun v32 => extA v31 1 fun v33 => boolV v33 (nat_lit 180) fun c34 => decS s27 c34 fun b35 s36 => Bool.rec (motive := fun _ => R) (loadA Try.prog s36.hp 34 v1 fun v37 => G32 v19 v37 s36 fun v38 s39 => j21 s39) (loadA Try.prog s36.hp 34 v1 fun v40 => callV (callF Try.prog (smFG16 G30 G31 G32) (ev Try.prog plans (smFG16 G30 G31 G32) N 992)) s36 [v19, v40] (fun v41 s42 => j21 s42) v32) b35) (AV.beq v25 v30)) (AV.beq v24 v29)) (AV.beq v23 v28)) a0) a0) (fun s22 => nilA (fun v43 => fldAddr Try.prog 66 2 v43 fun v44 => loadA Try.prog s22.hp 30 v44 fun v45 => κ v45 s22) v19)) (κ (ofValue (Value.slice none 0 0)) s17) b16)
set_option maxRecDepth 1000000 in
theorem CG16_eq (N : Nat) (G30 : AV → St → (AV → St → R) → R) (G31 : St → (AV → St → R) → R) (G32 : AV → AV → St → (AV → St → R) → R) (a0 a1 a2 : AV) (s : St) (κ : AV → St → R) : callG Try.prog (ev Try.prog plans (smFG16 G30 G31 G32) N 1000) 16 [a0, a1, a2] s κ = CG16 N G30 G31 G32 a0 a1 a2 s κ := by kernel_rfl
set_option maxRecDepth 1000000 in
theorem C16_eq (a0 a1 a2 : AV) (s : St) (κ : AV → St → R) : callG Try.prog (ev Try.prog plans smF16 (nat_lit 100000) 1000) 16 [a0, a1, a2] s κ = C16 a0 a1 a2 s κ := (CG16_eq (nat_lit 100000) C30 C31 C32 a0 a1 a2 s κ).trans (show CG16 (nat_lit 100000) C30 C31 C32 a0 a1 a2 s κ = C16 a0 a1 a2 s κ by kernel_rfl)
end
end Go.Proofs.Ytdklpcjipkhenaa
