/-
  The program's closed facts, in lots.
-/
import Derived.Test.YtooebogidjejoaaGreatProg
import Derived.JoinedOf
set_option linter.unusedVariables false
set_option linter.unusedSimpArgs false
namespace Go.Proofs.YtooebogidjejoaaGreat
open Go

noncomputable def mapRow (t : TypeId) : Bool := match Tryz.prog.underlying t with
  | some (.map _ e) => decide (e < Tryz.prog.types.size)
  | _ => true
set_option maxRecDepth 100000 in
theorem lo0 : (List.range' 0 120).all (rowFine Tryz.prog) = true := by kernel_rfl
set_option maxRecDepth 100000 in
theorem lo1 : (List.range' 120 60).all (rowFine Tryz.prog) = true := by kernel_rfl
set_option maxRecDepth 100000 in
theorem mr0 : (List.range' 0 120).all (mapRow) = true := by kernel_rfl
set_option maxRecDepth 100000 in
theorem mr1 : (List.range' 120 60).all (mapRow) = true := by kernel_rfl
theorem types_cut : List.range Tryz.prog.types.size = List.range' 0 120 ++ List.range' 120 60 := by kernel_rfl
set_option maxRecDepth 100000 in
theorem globals_fine : (Tryz.prog.globals.all fun g => decide (g.type < Tryz.prog.types.size)) = true := by kernel_rfl
set_option maxRecDepth 100000 in
theorem funcs_fine : (Tryz.prog.funcs.all fun f => f.params.all fun t => decide (t < Tryz.prog.types.size)) = true := by kernel_rfl
set_option maxRecDepth 100000 in
theorem laid_out : laidOutB Tryz.prog = true := by
  unfold laidOutB
  rw [types_cut, globals_fine, funcs_fine]
  simp only [List.all_append, lo0, lo1, Bool.and_self]
theorem maps_same : mapsRowed Tryz.prog = (List.range Tryz.prog.types.size).all mapRow := by kernel_rfl
set_option maxRecDepth 100000 in
theorem maps_rowed : mapsRowed Tryz.prog = true := by
  rw [maps_same, types_cut]
  simp only [List.all_append, mr0, mr1, Bool.and_self]

end Go.Proofs.YtooebogidjejoaaGreat
