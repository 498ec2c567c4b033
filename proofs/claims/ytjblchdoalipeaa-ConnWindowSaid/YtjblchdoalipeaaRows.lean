/-
  No cell of these rows narrows 'for every input' (looked for: loops, veiled, ifaces, maps, wideKeys, modest, calm, conditions, laid).
  DERIVED. THE GIVEN ROWS OF THIS SEAT. 2 by the template 'for every input the law returns true; each argument reads behind the call as it read before'; 0 by the template 'total and deterministic' (their statements: YtjblchdoalipeaaTotals.lean).
  GIVEN WITH THE SEED: the statements are not yours to turn. If you find one false, say at which input.
  Laid BY PROGRAM, IN A SANDBOX (cutbox-rows.mjs): the forced cells as the released guide's own fill.sh prints them over the translation 999bc613c3754c13… (all of the seat's roots in one cut). By AI agents, Wed Nov 11 2026. No macro, syntax, notation, axiom, sorry.
-/
import Derived.Test.YtjblchdoalipeaaChecked
import GoSem.Claim
import GoSem.ClaimJoined
import GoSem.ClaimMapViews
import Derived.JoinedTies
import Derived.KernelRfl
namespace Go.Proofs.Ytjblchdoalipeaa
/- THE CELL 'sum', in the pinned program and in every row, IS THE sha256 OF THE DUMP (.gsa) THAT YtjblchdoalipeaaProg.lean LOADS. Nothing in Lean hashes anything: it is a label: what it is worth is what the hold of that sum in a sandbox is worth. -/
noncomputable def Try.pinned : Pinned := { name := "ytjblchdoalipeaa", sum := "999bc613c3754c13490009c0a82f86aa34e829b727893020417d5a50e336f212", checked := Try.checked }
namespace Rows
def none {H : Type} : Left H := { results := [], args := [] }

/-- 'wharflaw17.ConnWindow': WHATEVER THE INPUT: true; the input reads as it did. -/
def connWindowSpec : ChangeSpec := { name := "connWindow", fn := fun _ => fun
  | [d1, d2, d3] => { results := [.lit (.bool true)], args := [d1, d2, d3] }
  | _ => none }
def connWindowRow : OpenClaim := { program := "ytjblchdoalipeaa", sum := "999bc613c3754c13490009c0a82f86aa34e829b727893020417d5a50e336f212", func := "wharf/wharflaw17.ConnWindow", spec := "connWindow", unfollowed := true, recurses := true, apart := false }
def ConnWindowSaid : Prop := connWindowRow.holds Try.pinned (OpenSpec.ofChange connWindowSpec)

/-- ITS FALSE NEIGHBOUR: 'it returns false'. Refute it at one input. -/
def connWindowWrong : ChangeSpec := { name := "connWindow", fn := fun _ => fun
  | [d1, d2, d3] => { results := [.lit (.bool false)], args := [d1, d2, d3] }
  | _ => none }
def ConnWindowWrongFalsely : Prop := connWindowRow.holds Try.pinned (OpenSpec.ofChange connWindowWrong)

/-- 'wharflaw17.ConnTurned': WHATEVER THE INPUT: true; the input reads as it did. -/
def connTurnedSpec : ChangeSpec := { name := "connTurned", fn := fun _ => fun
  | [d1, d2] => { results := [.lit (.bool true)], args := [d1, d2] }
  | _ => none }
def connTurnedRow : OpenClaim := { program := "ytjblchdoalipeaa", sum := "999bc613c3754c13490009c0a82f86aa34e829b727893020417d5a50e336f212", func := "wharf/wharflaw17.ConnTurned", spec := "connTurned", unfollowed := true, recurses := true, apart := false }
def ConnTurnedSaid : Prop := connTurnedRow.holds Try.pinned (OpenSpec.ofChange connTurnedSpec)

/-- ITS FALSE NEIGHBOUR: 'it returns false'. Refute it at one input. -/
def connTurnedWrong : ChangeSpec := { name := "connTurned", fn := fun _ => fun
  | [d1, d2] => { results := [.lit (.bool false)], args := [d1, d2] }
  | _ => none }
def ConnTurnedWrongFalsely : Prop := connTurnedRow.holds Try.pinned (OpenSpec.ofChange connTurnedWrong)

/- THE SECOND FORM. 'bulk': how many values and letters a reading holds, each counted each time it is reached (what is shared counts as often as it is met; a slice's spare places count too). A statement '..UptoSaid' is the law's where the arguments, and the package variables that the reading takes, are together of bulk at most 1048576: NARROWER than '..Said'. Prove '..Said' where nothing that the law and all that it calls make is longer than what came in: it says more and counts as full. Else prove '..UptoSaid'. A law counts once. -/
mutual
def uptoBulk {H : Type} : DataW H → Nat
  | .lit (.string bytes) => bytes.length + 1
  | .lit _ => 1
  | .nil => 1
  | .ptr d => uptoBulk d + 1
  | .slice elems spare => uptoBulkAll elems + uptoBulkAll spare + 1
  | .agg parts => uptoBulkAll parts + 1
  | .iface _ d => uptoBulk d + 1
  | .map entries => uptoBulkEntries entries + 1
  | .held _ => 1
def uptoBulkAll {H : Type} : List (DataW H) → Nat
  | [] => 0
  | d :: r => uptoBulk d + uptoBulkAll r
def uptoBulkEntries {H : Type} : List (Lit × DataW H) → Nat
  | [] => 0
  | x :: r => uptoBulkEntry x + uptoBulkEntries r
def uptoBulkEntry {H : Type} : Lit × DataW H → Nat
  | (.string bytes, d) => bytes.length + uptoBulk d + 1
  | (_, d) => uptoBulk d + 1
 end
def uptoSmall : (H : Type) → List (DataW H) → Bool := fun _ ds => decide (uptoBulkAll ds ≤ 1048576)
def OpenSpec.upto (s : _root_.Go.ChangeSpec) : _root_.Go.OpenSpec := { _root_.Go.OpenSpec.ofChange s with cond := some uptoSmall }

/-- 'wharflaw17.ConnWindow', WHERE WHAT IT READS IS OF BULK AT MOST 1048576: true; the input reads as it did. -/
def connWindowUptoRow : OpenClaim := { program := "ytjblchdoalipeaa", sum := "999bc613c3754c13490009c0a82f86aa34e829b727893020417d5a50e336f212", func := "wharf/wharflaw17.ConnWindow", spec := "connWindow", unfollowed := true, recurses := true, apart := false, narrowed := true }
def ConnWindowUptoSaid : Prop := connWindowUptoRow.holds Try.pinned (OpenSpec.upto connWindowSpec)

/-- 'wharflaw17.ConnTurned', WHERE WHAT IT READS IS OF BULK AT MOST 1048576: true; the input reads as it did. -/
def connTurnedUptoRow : OpenClaim := { program := "ytjblchdoalipeaa", sum := "999bc613c3754c13490009c0a82f86aa34e829b727893020417d5a50e336f212", func := "wharf/wharflaw17.ConnTurned", spec := "connTurned", unfollowed := true, recurses := true, apart := false, narrowed := true }
def ConnTurnedUptoSaid : Prop := connTurnedUptoRow.holds Try.pinned (OpenSpec.upto connTurnedSpec)

end Rows
end Go.Proofs.Ytjblchdoalipeaa
