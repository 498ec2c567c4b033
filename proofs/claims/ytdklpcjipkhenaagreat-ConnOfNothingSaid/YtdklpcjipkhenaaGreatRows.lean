/-
  No cell of these rows narrows 'for every input' (looked for: loops, veiled, ifaces, maps, wideKeys, modest, calm, conditions, laid).
  DERIVED. THE GIVEN ROWS OF THIS SEAT. 5 by the template 'for every input the law returns true; each argument reads behind the call as it read before'; 0 by the template 'total and deterministic' (their statements: YtdklpcjipkhenaaGreatTotals.lean).
  GIVEN WITH THE SEED: the statements are not yours to turn. If you find one false, say at which input.
  Laid BY PROGRAM, IN A SANDBOX (cutbox-rows.mjs): the forced cells as the released guide's own fill.sh prints them over the translation 599d29621c3bed18… (all of the seat's roots in one cut). By AI agents, Wed Nov 11 2026. No macro, syntax, notation, axiom, sorry.
-/
import Derived.Test.YtdklpcjipkhenaaGreatChecked
import GoSem.Claim
import GoSem.ClaimJoined
import GoSem.ClaimMapViews
import Derived.JoinedTies
import Derived.KernelRfl
namespace Go.Proofs.YtdklpcjipkhenaaGreat
/- THE CELL 'sum', in the pinned program and in every row, IS THE sha256 OF THE DUMP (.gsa) THAT YtdklpcjipkhenaaGreatProg.lean LOADS. Nothing in Lean hashes anything: it is a label: what it is worth is what the hold of that sum in a sandbox is worth. -/
noncomputable def Tryz.pinned : Pinned := { name := "ytdklpcjipkhenaagreat", sum := "599d29621c3bed18f134a35226f364829adf3d1048b4968f9d3228b0ce8d4517", checked := Tryz.checked }
namespace Rows
def none {H : Type} : Left H := { results := [], args := [] }

/-- 'wharflaw17.ConnStreams': WHATEVER THE INPUT: true; the input reads as it did. -/
def connStreamsSpec : ChangeSpec := { name := "connStreams", fn := fun _ => fun
  | [d1, d2] => { results := [.lit (.bool true)], args := [d1, d2] }
  | _ => none }
def connStreamsRow : OpenClaim := { program := "ytdklpcjipkhenaagreat", sum := "599d29621c3bed18f134a35226f364829adf3d1048b4968f9d3228b0ce8d4517", func := "wharf/wharflaw17.ConnStreams", spec := "connStreams", unfollowed := true, recurses := true, apart := false }
def ConnStreamsSaid : Prop := connStreamsRow.holds Tryz.pinned (OpenSpec.ofChange connStreamsSpec)

/-- ITS FALSE NEIGHBOUR: 'it returns false'. Refute it at one input. -/
def connStreamsWrong : ChangeSpec := { name := "connStreams", fn := fun _ => fun
  | [d1, d2] => { results := [.lit (.bool false)], args := [d1, d2] }
  | _ => none }
def ConnStreamsWrongFalsely : Prop := connStreamsRow.holds Tryz.pinned (OpenSpec.ofChange connStreamsWrong)

/-- 'wharflaw17.ConnDelivers': WHATEVER THE INPUT: true; the input reads as it did. -/
def connDeliversSpec : ChangeSpec := { name := "connDelivers", fn := fun _ => fun
  | [d1, d2, d3] => { results := [.lit (.bool true)], args := [d1, d2, d3] }
  | _ => none }
def connDeliversRow : OpenClaim := { program := "ytdklpcjipkhenaagreat", sum := "599d29621c3bed18f134a35226f364829adf3d1048b4968f9d3228b0ce8d4517", func := "wharf/wharflaw17.ConnDelivers", spec := "connDelivers", unfollowed := true, recurses := true, apart := false }
def ConnDeliversSaid : Prop := connDeliversRow.holds Tryz.pinned (OpenSpec.ofChange connDeliversSpec)

/-- ITS FALSE NEIGHBOUR: 'it returns false'. Refute it at one input. -/
def connDeliversWrong : ChangeSpec := { name := "connDelivers", fn := fun _ => fun
  | [d1, d2, d3] => { results := [.lit (.bool false)], args := [d1, d2, d3] }
  | _ => none }
def ConnDeliversWrongFalsely : Prop := connDeliversRow.holds Tryz.pinned (OpenSpec.ofChange connDeliversWrong)

/-- 'wharflaw17.ConnOfNothing': WHATEVER THE INPUT: true; the input reads as it did. -/
def connOfNothingSpec : ChangeSpec := { name := "connOfNothing", fn := fun _ => fun
  | [d1, d2, d3] => { results := [.lit (.bool true)], args := [d1, d2, d3] }
  | _ => none }
def connOfNothingRow : OpenClaim := { program := "ytdklpcjipkhenaagreat", sum := "599d29621c3bed18f134a35226f364829adf3d1048b4968f9d3228b0ce8d4517", func := "wharf/wharflaw17.ConnOfNothing", spec := "connOfNothing", unfollowed := true, recurses := true, apart := false }
def ConnOfNothingSaid : Prop := connOfNothingRow.holds Tryz.pinned (OpenSpec.ofChange connOfNothingSpec)

/-- ITS FALSE NEIGHBOUR: 'it returns false'. Refute it at one input. -/
def connOfNothingWrong : ChangeSpec := { name := "connOfNothing", fn := fun _ => fun
  | [d1, d2, d3] => { results := [.lit (.bool false)], args := [d1, d2, d3] }
  | _ => none }
def ConnOfNothingWrongFalsely : Prop := connOfNothingRow.holds Tryz.pinned (OpenSpec.ofChange connOfNothingWrong)

/-- 'wharflaw17.ConnPlays': WHATEVER THE INPUT: true; the input reads as it did. -/
def connPlaysSpec : ChangeSpec := { name := "connPlays", fn := fun _ => fun
  | [d1, d2] => { results := [.lit (.bool true)], args := [d1, d2] }
  | _ => none }
def connPlaysRow : OpenClaim := { program := "ytdklpcjipkhenaagreat", sum := "599d29621c3bed18f134a35226f364829adf3d1048b4968f9d3228b0ce8d4517", func := "wharf/wharflaw17.ConnPlays", spec := "connPlays", unfollowed := true, recurses := true, apart := false }
def ConnPlaysSaid : Prop := connPlaysRow.holds Tryz.pinned (OpenSpec.ofChange connPlaysSpec)

/-- ITS FALSE NEIGHBOUR: 'it returns false'. Refute it at one input. -/
def connPlaysWrong : ChangeSpec := { name := "connPlays", fn := fun _ => fun
  | [d1, d2] => { results := [.lit (.bool false)], args := [d1, d2] }
  | _ => none }
def ConnPlaysWrongFalsely : Prop := connPlaysRow.holds Tryz.pinned (OpenSpec.ofChange connPlaysWrong)

/-- 'wharflaw17.ConnPairs': WHATEVER THE INPUT: true; the input reads as it did. -/
def connPairsSpec : ChangeSpec := { name := "connPairs", fn := fun _ => fun
  | [d1, d2, d3] => { results := [.lit (.bool true)], args := [d1, d2, d3] }
  | _ => none }
def connPairsRow : OpenClaim := { program := "ytdklpcjipkhenaagreat", sum := "599d29621c3bed18f134a35226f364829adf3d1048b4968f9d3228b0ce8d4517", func := "wharf/wharflaw17.ConnPairs", spec := "connPairs", unfollowed := true, recurses := true, apart := false }
def ConnPairsSaid : Prop := connPairsRow.holds Tryz.pinned (OpenSpec.ofChange connPairsSpec)

/-- ITS FALSE NEIGHBOUR: 'it returns false'. Refute it at one input. -/
def connPairsWrong : ChangeSpec := { name := "connPairs", fn := fun _ => fun
  | [d1, d2, d3] => { results := [.lit (.bool false)], args := [d1, d2, d3] }
  | _ => none }
def ConnPairsWrongFalsely : Prop := connPairsRow.holds Tryz.pinned (OpenSpec.ofChange connPairsWrong)

/- THE SECOND FORM. 'bulk': how many values and letters a reading holds, each counted each time it is reached (what is shared counts as often as it is met; a slice's spare places count too). A statement '..UptoSaid' is the law's where the arguments, and the package variables that the reading takes, are together of bulk at most 1048576: NARROWER than '..Said'. Prove '..Said' where nothing that the law and all that it calls make is longer than what came in: it says more and counts as full. Else prove '..UptoSaid'. A law counts once. -/
mutual
def uptoBulk {H : Type} : DataW H → Nat
  | .lit (.string bytes) => bytes.length + 1
  | .lit _ => 1
  | .nil => 1
  | .ptr d => uptoBulk d + 1
  | .slice elems spare => uptoBulkAll elems + uptoBulkAll spare + 1
  | .agg parts => uptoBulkAll parts + 1
  | .iface _ d => uptoBulk d + 1
  | .map entries => uptoBulkEntries entries + 1
  | .held _ => 1
def uptoBulkAll {H : Type} : List (DataW H) → Nat
  | [] => 0
  | d :: r => uptoBulk d + uptoBulkAll r
def uptoBulkEntries {H : Type} : List (Lit × DataW H) → Nat
  | [] => 0
  | x :: r => uptoBulkEntry x + uptoBulkEntries r
def uptoBulkEntry {H : Type} : Lit × DataW H → Nat
  | (.string bytes, d) => bytes.length + uptoBulk d + 1
  | (_, d) => uptoBulk d + 1
 end
def uptoSmall : (H : Type) → List (DataW H) → Bool := fun _ ds => decide (uptoBulkAll ds ≤ 1048576)
def OpenSpec.upto (s : _root_.Go.ChangeSpec) : _root_.Go.OpenSpec := { _root_.Go.OpenSpec.ofChange s with cond := some uptoSmall }

/-- 'wharflaw17.ConnStreams', WHERE WHAT IT READS IS OF BULK AT MOST 1048576: true; the input reads as it did. -/
def connStreamsUptoRow : OpenClaim := { program := "ytdklpcjipkhenaagreat", sum := "599d29621c3bed18f134a35226f364829adf3d1048b4968f9d3228b0ce8d4517", func := "wharf/wharflaw17.ConnStreams", spec := "connStreams", unfollowed := true, recurses := true, apart := false, narrowed := true }
def ConnStreamsUptoSaid : Prop := connStreamsUptoRow.holds Tryz.pinned (OpenSpec.upto connStreamsSpec)

/-- 'wharflaw17.ConnDelivers', WHERE WHAT IT READS IS OF BULK AT MOST 1048576: true; the input reads as it did. -/
def connDeliversUptoRow : OpenClaim := { program := "ytdklpcjipkhenaagreat", sum := "599d29621c3bed18f134a35226f364829adf3d1048b4968f9d3228b0ce8d4517", func := "wharf/wharflaw17.ConnDelivers", spec := "connDelivers", unfollowed := true, recurses := true, apart := false, narrowed := true }
def ConnDeliversUptoSaid : Prop := connDeliversUptoRow.holds Tryz.pinned (OpenSpec.upto connDeliversSpec)

/-- 'wharflaw17.ConnOfNothing', WHERE WHAT IT READS IS OF BULK AT MOST 1048576: true; the input reads as it did. -/
def connOfNothingUptoRow : OpenClaim := { program := "ytdklpcjipkhenaagreat", sum := "599d29621c3bed18f134a35226f364829adf3d1048b4968f9d3228b0ce8d4517", func := "wharf/wharflaw17.ConnOfNothing", spec := "connOfNothing", unfollowed := true, recurses := true, apart := false, narrowed := true }
def ConnOfNothingUptoSaid : Prop := connOfNothingUptoRow.holds Tryz.pinned (OpenSpec.upto connOfNothingSpec)

/-- 'wharflaw17.ConnPlays', WHERE WHAT IT READS IS OF BULK AT MOST 1048576: true; the input reads as it did. -/
def connPlaysUptoRow : OpenClaim := { program := "ytdklpcjipkhenaagreat", sum := "599d29621c3bed18f134a35226f364829adf3d1048b4968f9d3228b0ce8d4517", func := "wharf/wharflaw17.ConnPlays", spec := "connPlays", unfollowed := true, recurses := true, apart := false, narrowed := true }
def ConnPlaysUptoSaid : Prop := connPlaysUptoRow.holds Tryz.pinned (OpenSpec.upto connPlaysSpec)

/-- 'wharflaw17.ConnPairs', WHERE WHAT IT READS IS OF BULK AT MOST 1048576: true; the input reads as it did. -/
def connPairsUptoRow : OpenClaim := { program := "ytdklpcjipkhenaagreat", sum := "599d29621c3bed18f134a35226f364829adf3d1048b4968f9d3228b0ce8d4517", func := "wharf/wharflaw17.ConnPairs", spec := "connPairs", unfollowed := true, recurses := true, apart := false, narrowed := true }
def ConnPairsUptoSaid : Prop := connPairsUptoRow.holds Tryz.pinned (OpenSpec.upto connPairsSpec)

end Rows
end Go.Proofs.YtdklpcjipkhenaaGreat
