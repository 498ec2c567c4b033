/-
  The plans serve every region that draws its order. Printed by plans.py.
-/
import Derived.Test.YtdklpcjipkhenaaGreatSxs
import Derived.Test.YtdklpcjipkhenaaGreatProg
import Derived.Test.YtdklpcjipkhenaaGreatPls
set_option linter.unusedVariables false
set_option linter.unusedSimpArgs false
namespace Go.Proofs.YtdklpcjipkhenaaGreat
open Go

theorem follows_mixed : Tryz.prog.follows .mixedOrders = true := by kernel_rfl
def bodyOk (pl : Plans) (f : FuncId) (fn : Func) : Bool := match fn.body with
  | some c => codeOk pl f c
  | none => true
set_option maxRecDepth 100000 in
theorem plan_ok8 : bodyOk plans 8 Tryz.f8 = true := by kernel_rfl
set_option maxRecDepth 100000 in
theorem plan_ok14 : bodyOk plans 14 Tryz.f14 = true := by kernel_rfl
set_option maxRecDepth 100000 in
theorem plan_ok15 : bodyOk plans 15 Tryz.f15 = true := by kernel_rfl
set_option maxRecDepth 100000 in
theorem plan_ok16 : bodyOk plans 16 Tryz.f16 = true := by kernel_rfl
set_option maxRecDepth 100000 in
theorem plan_ok17 : bodyOk plans 17 Tryz.f17 = true := by kernel_rfl
set_option maxRecDepth 100000 in
theorem plan_ok19 : bodyOk plans 19 Tryz.f19 = true := by kernel_rfl
set_option maxRecDepth 100000 in
theorem plan_ok20 : bodyOk plans 20 Tryz.f20 = true := by kernel_rfl
set_option maxRecDepth 100000 in
theorem plan_ok23 : bodyOk plans 23 Tryz.f23 = true := by kernel_rfl
set_option maxRecDepth 100000 in
theorem plan_ok27 : bodyOk plans 27 Tryz.f27 = true := by kernel_rfl
set_option maxRecDepth 100000 in
theorem plan_ok29 : bodyOk plans 29 Tryz.f29 = true := by kernel_rfl
set_option maxRecDepth 100000 in
theorem plan_ok32 : bodyOk plans 32 Tryz.f32 = true := by kernel_rfl
set_option maxRecDepth 100000 in
theorem plan_ok33 : bodyOk plans 33 Tryz.f33 = true := by kernel_rfl
set_option maxRecDepth 100000 in
theorem plan_ok35 : bodyOk plans 35 Tryz.f35 = true := by kernel_rfl
set_option maxRecDepth 100000 in
theorem plan_ok41 : bodyOk plans 41 Tryz.f41 = true := by kernel_rfl
set_option maxRecDepth 100000 in
theorem plan_ok42 : bodyOk plans 42 Tryz.f42 = true := by kernel_rfl
set_option maxRecDepth 100000 in
theorem plan_ok44 : bodyOk plans 44 Tryz.f44 = true := by kernel_rfl
set_option maxRecDepth 100000 in
theorem plan_ok49 : bodyOk plans 49 Tryz.f49 = true := by kernel_rfl
set_option maxRecDepth 100000 in
theorem plan_ok51 : bodyOk plans 51 Tryz.f51 = true := by kernel_rfl
set_option maxRecDepth 100000 in
theorem plan_ok56 : bodyOk plans 56 Tryz.f56 = true := by kernel_rfl
set_option maxRecDepth 100000 in
theorem plan_ok57 : bodyOk plans 57 Tryz.f57 = true := by kernel_rfl
set_option maxRecDepth 100000 in
theorem plan_ok60 : bodyOk plans 60 Tryz.f60 = true := by kernel_rfl
set_option maxRecDepth 100000 in
theorem plan_ok61 : bodyOk plans 61 Tryz.f61 = true := by kernel_rfl
set_option maxRecDepth 100000 in
theorem plan_ok62 : bodyOk plans 62 Tryz.f62 = true := by kernel_rfl
set_option maxRecDepth 100000 in
theorem plan_ok63 : bodyOk plans 63 Tryz.f63 = true := by kernel_rfl
set_option maxRecDepth 100000 in
theorem plan_ok66 : bodyOk plans 66 Tryz.f66 = true := by kernel_rfl
set_option maxRecDepth 100000 in
theorem plan_ok68 : bodyOk plans 68 Tryz.f68 = true := by kernel_rfl
set_option maxRecDepth 100000 in
theorem plan_ok69 : bodyOk plans 69 Tryz.f69 = true := by kernel_rfl
set_option maxRecDepth 100000 in
theorem plan_ok71 : bodyOk plans 71 Tryz.f71 = true := by kernel_rfl
set_option maxRecDepth 100000 in
theorem plan_ok72 : bodyOk plans 72 Tryz.f72 = true := by kernel_rfl
set_option maxRecDepth 100000 in
theorem plan_ok73 : bodyOk plans 73 Tryz.f73 = true := by kernel_rfl
set_option maxRecDepth 100000 in
theorem plan_ok78 : bodyOk plans 78 Tryz.f78 = true := by kernel_rfl
set_option maxRecDepth 100000 in
theorem plan_ok79 : bodyOk plans 79 Tryz.f79 = true := by kernel_rfl
set_option maxRecDepth 100000 in
theorem plan_ok80 : bodyOk plans 80 Tryz.f80 = true := by kernel_rfl
set_option maxRecDepth 100000 in
theorem plan_ok81 : bodyOk plans 81 Tryz.f81 = true := by kernel_rfl
set_option maxRecDepth 100000 in
theorem plan_ok82 : bodyOk plans 82 Tryz.f82 = true := by kernel_rfl
set_option maxRecDepth 100000 in
theorem plan_ok83 : bodyOk plans 83 Tryz.f83 = true := by kernel_rfl
set_option maxRecDepth 100000 in
theorem plan_ok84 : bodyOk plans 84 Tryz.f84 = true := by kernel_rfl
set_option maxRecDepth 100000 in
theorem plan_ok87 : bodyOk plans 87 Tryz.f87 = true := by kernel_rfl
set_option maxRecDepth 100000 in
theorem plan_ok89 : bodyOk plans 89 Tryz.f89 = true := by kernel_rfl
set_option maxRecDepth 100000 in
theorem plan_ok92 : bodyOk plans 92 Tryz.f92 = true := by kernel_rfl
set_option maxRecDepth 100000 in
theorem plan_ok95 : bodyOk plans 95 Tryz.f95 = true := by kernel_rfl
set_option maxRecDepth 100000 in
theorem plan_ok96 : bodyOk plans 96 Tryz.f96 = true := by kernel_rfl
set_option maxRecDepth 100000 in
theorem plan_ok98 : bodyOk plans 98 Tryz.f98 = true := by kernel_rfl
set_option maxRecDepth 100000 in
theorem plan_ok107 : bodyOk plans 107 Tryz.f107 = true := by kernel_rfl
set_option maxRecDepth 100000 in
theorem plan_ok108 : bodyOk plans 108 Tryz.f108 = true := by kernel_rfl
set_option maxRecDepth 100000 in
theorem plan_ok109 : bodyOk plans 109 Tryz.f109 = true := by kernel_rfl
set_option maxRecDepth 100000 in
theorem plan_ok110 : bodyOk plans 110 Tryz.f110 = true := by kernel_rfl
set_option maxRecDepth 100000 in
theorem plan_ok125 : bodyOk plans 125 Tryz.f125 = true := by kernel_rfl
set_option maxRecDepth 100000 in
theorem plan_ok126 : bodyOk plans 126 Tryz.f126 = true := by kernel_rfl
set_option maxRecDepth 100000 in
theorem plan_ok127 : bodyOk plans 127 Tryz.f127 = true := by kernel_rfl
set_option maxRecDepth 100000 in
theorem plan_ok130 : bodyOk plans 130 Tryz.f130 = true := by kernel_rfl
set_option maxRecDepth 100000 in
theorem plan_ok131 : bodyOk plans 131 Tryz.f131 = true := by kernel_rfl
set_option maxRecDepth 100000 in
theorem plan_ok132 : bodyOk plans 132 Tryz.f132 = true := by kernel_rfl
set_option maxRecDepth 100000 in
theorem plan_ok133 : bodyOk plans 133 Tryz.f133 = true := by kernel_rfl
set_option maxRecDepth 100000 in
theorem plan_ok134 : bodyOk plans 134 Tryz.f134 = true := by kernel_rfl
set_option maxRecDepth 100000 in
theorem plan_ok140 : bodyOk plans 140 Tryz.f140 = true := by kernel_rfl
set_option maxRecDepth 100000 in
theorem plan_ok143 : bodyOk plans 143 Tryz.f143 = true := by kernel_rfl
set_option maxRecDepth 100000 in
theorem plan_ok144 : bodyOk plans 144 Tryz.f144 = true := by kernel_rfl
set_option maxRecDepth 100000 in
theorem plan_ok146 : bodyOk plans 146 Tryz.f146 = true := by kernel_rfl
set_option maxRecDepth 100000 in
theorem plan_ok147 : bodyOk plans 147 Tryz.f147 = true := by kernel_rfl
set_option maxRecDepth 100000 in
theorem plan_ok148 : bodyOk plans 148 Tryz.f148 = true := by kernel_rfl
set_option maxRecDepth 100000 in
theorem plan_ok151 : bodyOk plans 151 Tryz.f151 = true := by kernel_rfl
set_option maxRecDepth 100000 in
theorem plan_ok154 : bodyOk plans 154 Tryz.f154 = true := by kernel_rfl
set_option maxRecDepth 100000 in
theorem plan_ok155 : bodyOk plans 155 Tryz.f155 = true := by kernel_rfl
set_option maxRecDepth 100000 in
theorem plan_ok156 : bodyOk plans 156 Tryz.f156 = true := by kernel_rfl
set_option maxRecDepth 100000 in
theorem plan_ok161 : bodyOk plans 161 Tryz.f161 = true := by kernel_rfl
set_option maxRecDepth 100000 in
theorem plan_ok162 : bodyOk plans 162 Tryz.f162 = true := by kernel_rfl
set_option maxRecDepth 100000 in
theorem plan_ok168 : bodyOk plans 168 Tryz.f168 = true := by kernel_rfl
set_option maxRecDepth 100000 in
theorem plan_ok169 : bodyOk plans 169 Tryz.f169 = true := by kernel_rfl
set_option maxRecDepth 100000 in
theorem plan_ok174 : bodyOk plans 174 Tryz.f174 = true := by kernel_rfl
set_option maxRecDepth 100000 in
theorem plan_ok175 : bodyOk plans 175 Tryz.f175 = true := by kernel_rfl
set_option maxRecDepth 100000 in
theorem plan_ok176 : bodyOk plans 176 Tryz.f176 = true := by kernel_rfl
set_option maxRecDepth 100000 in
theorem plan_ok182 : bodyOk plans 182 Tryz.f182 = true := by kernel_rfl
set_option maxRecDepth 100000 in
theorem plan_ok187 : bodyOk plans 187 Tryz.f187 = true := by kernel_rfl
set_option maxRecDepth 100000 in
theorem plan_ok191 : bodyOk plans 191 Tryz.f191 = true := by kernel_rfl
set_option maxRecDepth 100000 in
theorem plan_ok192 : bodyOk plans 192 Tryz.f192 = true := by kernel_rfl
set_option maxRecDepth 100000 in
theorem plan_ok193 : bodyOk plans 193 Tryz.f193 = true := by kernel_rfl
set_option maxRecDepth 100000 in
theorem plan_ok197 : bodyOk plans 197 Tryz.f197 = true := by kernel_rfl
def planFs : List Nat := [8, 14, 15, 16, 17, 19, 20, 23, 27, 29, 32, 33, 35, 41, 42, 44, 49, 51, 56, 57, 60, 61, 62, 63, 66, 68, 69, 71, 72, 73, 78, 79, 80, 81, 82, 83, 84, 87, 89, 92, 95, 96, 98, 107, 108, 109, 110, 125, 126, 127, 130, 131, 132, 133, 134, 140, 143, 144, 146, 147, 148, 151, 154, 155, 156, 161, 162, 168, 169, 174, 175, 176, 182, 187, 191, 192, 193, 197]
set_option maxRecDepth 100000 in
theorem plans_rest : (Tryz.prog.funcs.toList.zipIdx.all fun x => planFs.contains x.2 || bodyOk plans x.2 x.1) = true := by kernel_rfl
theorem plans_ok : PlansOk Tryz.prog plans := by
  have key : ∀ f fn, Tryz.prog.funcs[f]? = some fn → bodyOk plans f fn = true := by
    intro f fn hf
    have h := List.all_eq_true.1 plans_rest (fn, f) (by rw [List.mem_zipIdx_iff_getElem?]; simpa using hf)
    simp only [Bool.or_eq_true] at h
    rcases h with h | h
    · have h := List.contains_iff_mem.1 h
      simp only [planFs, List.mem_cons, List.not_mem_nil, or_false] at h
      rcases h with rfl | rfl | rfl | rfl | rfl | rfl | rfl | rfl | rfl | rfl | rfl | rfl | rfl | rfl | rfl | rfl | rfl | rfl | rfl | rfl | rfl | rfl | rfl | rfl | rfl | rfl | rfl | rfl | rfl | rfl | rfl | rfl | rfl | rfl | rfl | rfl | rfl | rfl | rfl | rfl | rfl | rfl | rfl | rfl | rfl | rfl | rfl | rfl | rfl | rfl | rfl | rfl | rfl | rfl | rfl | rfl | rfl | rfl | rfl | rfl | rfl | rfl | rfl | rfl | rfl | rfl | rfl | rfl | rfl | rfl | rfl | rfl | rfl | rfl | rfl | rfl | rfl | rfl
      · rw [Tryz.func8] at hf; cases hf; exact plan_ok8
      · rw [Tryz.func14] at hf; cases hf; exact plan_ok14
      · rw [Tryz.func15] at hf; cases hf; exact plan_ok15
      · rw [Tryz.func16] at hf; cases hf; exact plan_ok16
      · rw [Tryz.func17] at hf; cases hf; exact plan_ok17
      · rw [Tryz.func19] at hf; cases hf; exact plan_ok19
      · rw [Tryz.func20] at hf; cases hf; exact plan_ok20
      · rw [Tryz.func23] at hf; cases hf; exact plan_ok23
      · rw [Tryz.func27] at hf; cases hf; exact plan_ok27
      · rw [Tryz.func29] at hf; cases hf; exact plan_ok29
      · rw [Tryz.func32] at hf; cases hf; exact plan_ok32
      · rw [Tryz.func33] at hf; cases hf; exact plan_ok33
      · rw [Tryz.func35] at hf; cases hf; exact plan_ok35
      · rw [Tryz.func41] at hf; cases hf; exact plan_ok41
      · rw [Tryz.func42] at hf; cases hf; exact plan_ok42
      · rw [Tryz.func44] at hf; cases hf; exact plan_ok44
      · rw [Tryz.func49] at hf; cases hf; exact plan_ok49
      · rw [Tryz.func51] at hf; cases hf; exact plan_ok51
      · rw [Tryz.func56] at hf; cases hf; exact plan_ok56
      · rw [Tryz.func57] at hf; cases hf; exact plan_ok57
      · rw [Tryz.func60] at hf; cases hf; exact plan_ok60
      · rw [Tryz.func61] at hf; cases hf; exact plan_ok61
      · rw [Tryz.func62] at hf; cases hf; exact plan_ok62
      · rw [Tryz.func63] at hf; cases hf; exact plan_ok63
      · rw [Tryz.func66] at hf; cases hf; exact plan_ok66
      · rw [Tryz.func68] at hf; cases hf; exact plan_ok68
      · rw [Tryz.func69] at hf; cases hf; exact plan_ok69
      · rw [Tryz.func71] at hf; cases hf; exact plan_ok71
      · rw [Tryz.func72] at hf; cases hf; exact plan_ok72
      · rw [Tryz.func73] at hf; cases hf; exact plan_ok73
      · rw [Tryz.func78] at hf; cases hf; exact plan_ok78
      · rw [Tryz.func79] at hf; cases hf; exact plan_ok79
      · rw [Tryz.func80] at hf; cases hf; exact plan_ok80
      · rw [Tryz.func81] at hf; cases hf; exact plan_ok81
      · rw [Tryz.func82] at hf; cases hf; exact plan_ok82
      · rw [Tryz.func83] at hf; cases hf; exact plan_ok83
      · rw [Tryz.func84] at hf; cases hf; exact plan_ok84
      · rw [Tryz.func87] at hf; cases hf; exact plan_ok87
      · rw [Tryz.func89] at hf; cases hf; exact plan_ok89
      · rw [Tryz.func92] at hf; cases hf; exact plan_ok92
      · rw [Tryz.func95] at hf; cases hf; exact plan_ok95
      · rw [Tryz.func96] at hf; cases hf; exact plan_ok96
      · rw [Tryz.func98] at hf; cases hf; exact plan_ok98
      · rw [Tryz.func107] at hf; cases hf; exact plan_ok107
      · rw [Tryz.func108] at hf; cases hf; exact plan_ok108
      · rw [Tryz.func109] at hf; cases hf; exact plan_ok109
      · rw [Tryz.func110] at hf; cases hf; exact plan_ok110
      · rw [Tryz.func125] at hf; cases hf; exact plan_ok125
      · rw [Tryz.func126] at hf; cases hf; exact plan_ok126
      · rw [Tryz.func127] at hf; cases hf; exact plan_ok127
      · rw [Tryz.func130] at hf; cases hf; exact plan_ok130
      · rw [Tryz.func131] at hf; cases hf; exact plan_ok131
      · rw [Tryz.func132] at hf; cases hf; exact plan_ok132
      · rw [Tryz.func133] at hf; cases hf; exact plan_ok133
      · rw [Tryz.func134] at hf; cases hf; exact plan_ok134
      · rw [Tryz.func140] at hf; cases hf; exact plan_ok140
      · rw [Tryz.func143] at hf; cases hf; exact plan_ok143
      · rw [Tryz.func144] at hf; cases hf; exact plan_ok144
      · rw [Tryz.func146] at hf; cases hf; exact plan_ok146
      · rw [Tryz.func147] at hf; cases hf; exact plan_ok147
      · rw [Tryz.func148] at hf; cases hf; exact plan_ok148
      · rw [Tryz.func151] at hf; cases hf; exact plan_ok151
      · rw [Tryz.func154] at hf; cases hf; exact plan_ok154
      · rw [Tryz.func155] at hf; cases hf; exact plan_ok155
      · rw [Tryz.func156] at hf; cases hf; exact plan_ok156
      · rw [Tryz.func161] at hf; cases hf; exact plan_ok161
      · rw [Tryz.func162] at hf; cases hf; exact plan_ok162
      · rw [Tryz.func168] at hf; cases hf; exact plan_ok168
      · rw [Tryz.func169] at hf; cases hf; exact plan_ok169
      · rw [Tryz.func174] at hf; cases hf; exact plan_ok174
      · rw [Tryz.func175] at hf; cases hf; exact plan_ok175
      · rw [Tryz.func176] at hf; cases hf; exact plan_ok176
      · rw [Tryz.func182] at hf; cases hf; exact plan_ok182
      · rw [Tryz.func187] at hf; cases hf; exact plan_ok187
      · rw [Tryz.func191] at hf; cases hf; exact plan_ok191
      · rw [Tryz.func192] at hf; cases hf; exact plan_ok192
      · rw [Tryz.func193] at hf; cases hf; exact plan_ok193
      · rw [Tryz.func197] at hf; cases hf; exact plan_ok197
    · exact h
  intro f fn c hf hc
  simpa [bodyOk, hc] using key f fn hf

end Go.Proofs.YtdklpcjipkhenaaGreat
