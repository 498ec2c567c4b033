/-
  The program's closed facts, in lots.
-/
import Derived.Test.YtjblchdoalipeaaProg
import Derived.JoinedOf
set_option linter.unusedVariables false
set_option linter.unusedSimpArgs false
namespace Go.Proofs.Ytjblchdoalipeaa
open Go

noncomputable def mapRow (t : TypeId) : Bool := match Try.prog.underlying t with
  | some (.map _ e) => decide (e < Try.prog.types.size)
  | _ => true
set_option maxRecDepth 100000 in
theorem lo0 : (List.range' 0 120).all (rowFine Try.prog) = true := by kernel_rfl
set_option maxRecDepth 100000 in
theorem lo1 : (List.range' 120 27).all (rowFine Try.prog) = true := by kernel_rfl
set_option maxRecDepth 100000 in
theorem mr0 : (List.range' 0 120).all (mapRow) = true := by kernel_rfl
set_option maxRecDepth 100000 in
theorem mr1 : (List.range' 120 27).all (mapRow) = true := by kernel_rfl
theorem types_cut : List.range Try.prog.types.size = List.range' 0 120 ++ List.range' 120 27 := by kernel_rfl
set_option maxRecDepth 100000 in
theorem globals_fine : (Try.prog.globals.all fun g => decide (g.type < Try.prog.types.size)) = true := by kernel_rfl
set_option maxRecDepth 100000 in
theorem funcs_fine : (Try.prog.funcs.all fun f => f.params.all fun t => decide (t < Try.prog.types.size)) = true := by kernel_rfl
set_option maxRecDepth 100000 in
theorem laid_out : laidOutB Try.prog = true := by
  unfold laidOutB
  rw [types_cut, globals_fine, funcs_fine]
  simp only [List.all_append, lo0, lo1, Bool.and_self]
theorem maps_same : mapsRowed Try.prog = (List.range Try.prog.types.size).all mapRow := by kernel_rfl
set_option maxRecDepth 100000 in
theorem maps_rowed : mapsRowed Try.prog = true := by
  rw [maps_same, types_cut]
  simp only [List.all_append, mr0, mr1, Bool.and_self]

end Go.Proofs.Ytjblchdoalipeaa
