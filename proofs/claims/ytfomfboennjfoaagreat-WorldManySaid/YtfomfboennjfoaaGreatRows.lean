/-
  No cell of these rows narrows 'for every input' (looked for: loops, veiled, ifaces, maps, wideKeys, modest, calm, conditions, laid).
  DERIVED. THE GIVEN ROWS OF THIS SEAT. 8 by the template 'for every input the law returns true; each argument reads behind the call as it read before'; 0 by the template 'total and deterministic' (their statements: YtfomfboennjfoaaGreatTotals.lean).
  GIVEN WITH THE SEED: the statements are not yours to turn. If you find one false, say at which input.
  Laid BY PROGRAM, IN A SANDBOX (cutbox-rows.mjs): the forced cells as the released guide's own fill.sh prints them over the translation 51c201506b3cd9ef… (all of the seat's roots in one cut). By AI agents, Wed Nov 11 2026. No macro, syntax, notation, axiom, sorry.
-/
import Derived.Test.YtfomfboennjfoaaGreatChecked
import GoSem.Claim
import GoSem.ClaimJoined
import GoSem.ClaimMapViews
import Derived.JoinedTies
import Derived.KernelRfl
namespace Go.Proofs.YtfomfboennjfoaaGreat
/- THE CELL 'sum', in the pinned program and in every row, IS THE sha256 OF THE DUMP (.gsa) THAT YtfomfboennjfoaaGreatProg.lean LOADS. Nothing in Lean hashes anything: it is a label: what it is worth is what the hold of that sum in a sandbox is worth. -/
noncomputable def Tryz.pinned : Pinned := { name := "ytfomfboennjfoaagreat", sum := "51c201506b3cd9ef168a2ac5c4f20fa172ff1c611ab6572521278476689f0dcb", checked := Tryz.checked }
namespace Rows
def none {H : Type} : Left H := { results := [], args := [] }

/-- 'wharflaw19.HostSends': WHATEVER THE INPUT: true; the input reads as it did. -/
def hostSendsSpec : ChangeSpec := { name := "hostSends", fn := fun _ => fun
  | [d1, d2, d3] => { results := [.lit (.bool true)], args := [d1, d2, d3] }
  | _ => none }
def hostSendsRow : OpenClaim := { program := "ytfomfboennjfoaagreat", sum := "51c201506b3cd9ef168a2ac5c4f20fa172ff1c611ab6572521278476689f0dcb", func := "wharf/wharflaw19.HostSends", spec := "hostSends", inPlace := ["sync/atomic.LoadInt64", "sync/atomic.CompareAndSwapInt64", "slices.overlaps[wharf/api.Route]"], unfollowed := true, recurses := true, plainKeys := false, apart := false }
def HostSendsSaid : Prop := hostSendsRow.holds Tryz.pinned (OpenSpec.ofChange hostSendsSpec)

/-- ITS FALSE NEIGHBOUR: 'it returns false'. Refute it at one input. -/
def hostSendsWrong : ChangeSpec := { name := "hostSends", fn := fun _ => fun
  | [d1, d2, d3] => { results := [.lit (.bool false)], args := [d1, d2, d3] }
  | _ => none }
def HostSendsWrongFalsely : Prop := hostSendsRow.holds Tryz.pinned (OpenSpec.ofChange hostSendsWrong)

/-- 'wharflaw19.HostAltered': WHATEVER THE INPUT: true; the input reads as it did. -/
def hostAlteredSpec : ChangeSpec := { name := "hostAltered", fn := fun _ => fun
  | [d1, d2, d3, d4] => { results := [.lit (.bool true)], args := [d1, d2, d3, d4] }
  | _ => none }
def hostAlteredRow : OpenClaim := { program := "ytfomfboennjfoaagreat", sum := "51c201506b3cd9ef168a2ac5c4f20fa172ff1c611ab6572521278476689f0dcb", func := "wharf/wharflaw19.HostAltered", spec := "hostAltered", inPlace := ["sync/atomic.LoadInt64", "sync/atomic.CompareAndSwapInt64", "slices.overlaps[wharf/api.Route]"], unfollowed := true, recurses := true, plainKeys := false, apart := false }
def HostAlteredSaid : Prop := hostAlteredRow.holds Tryz.pinned (OpenSpec.ofChange hostAlteredSpec)

/-- ITS FALSE NEIGHBOUR: 'it returns false'. Refute it at one input. -/
def hostAlteredWrong : ChangeSpec := { name := "hostAltered", fn := fun _ => fun
  | [d1, d2, d3, d4] => { results := [.lit (.bool false)], args := [d1, d2, d3, d4] }
  | _ => none }
def HostAlteredWrongFalsely : Prop := hostAlteredRow.holds Tryz.pinned (OpenSpec.ofChange hostAlteredWrong)

/-- 'wharflaw19.HostHolds': WHATEVER THE INPUT: true; the input reads as it did. -/
def hostHoldsSpec : ChangeSpec := { name := "hostHolds", fn := fun _ => fun
  | [d1, d2] => { results := [.lit (.bool true)], args := [d1, d2] }
  | _ => none }
def hostHoldsRow : OpenClaim := { program := "ytfomfboennjfoaagreat", sum := "51c201506b3cd9ef168a2ac5c4f20fa172ff1c611ab6572521278476689f0dcb", func := "wharf/wharflaw19.HostHolds", spec := "hostHolds", inPlace := ["sync/atomic.LoadInt64", "sync/atomic.CompareAndSwapInt64", "slices.overlaps[wharf/api.Route]"], unfollowed := true, recurses := true, plainKeys := false, apart := false }
def HostHoldsSaid : Prop := hostHoldsRow.holds Tryz.pinned (OpenSpec.ofChange hostHoldsSpec)

/-- ITS FALSE NEIGHBOUR: 'it returns false'. Refute it at one input. -/
def hostHoldsWrong : ChangeSpec := { name := "hostHolds", fn := fun _ => fun
  | [d1, d2] => { results := [.lit (.bool false)], args := [d1, d2] }
  | _ => none }
def HostHoldsWrongFalsely : Prop := hostHoldsRow.holds Tryz.pinned (OpenSpec.ofChange hostHoldsWrong)

/-- 'wharflaw24.WorldBoth': WHATEVER THE INPUT: true; the input reads as it did. -/
def worldBothSpec : ChangeSpec := { name := "worldBoth", fn := fun _ => fun
  | [d1, d2, d3] => { results := [.lit (.bool true)], args := [d1, d2, d3] }
  | _ => none }
def worldBothRow : OpenClaim := { program := "ytfomfboennjfoaagreat", sum := "51c201506b3cd9ef168a2ac5c4f20fa172ff1c611ab6572521278476689f0dcb", func := "wharf/wharflaw24.WorldBoth", spec := "worldBoth", inPlace := ["sync/atomic.LoadInt64", "sync/atomic.CompareAndSwapInt64", "slices.overlaps[wharf/api.Route]"], unfollowed := true, recurses := true, plainKeys := false, apart := false }
def WorldBothSaid : Prop := worldBothRow.holds Tryz.pinned (OpenSpec.ofChange worldBothSpec)

/-- ITS FALSE NEIGHBOUR: 'it returns false'. Refute it at one input. -/
def worldBothWrong : ChangeSpec := { name := "worldBoth", fn := fun _ => fun
  | [d1, d2, d3] => { results := [.lit (.bool false)], args := [d1, d2, d3] }
  | _ => none }
def WorldBothWrongFalsely : Prop := worldBothRow.holds Tryz.pinned (OpenSpec.ofChange worldBothWrong)

/-- 'wharflaw24.WorldMany': WHATEVER THE INPUT: true; the input reads as it did. -/
def worldManySpec : ChangeSpec := { name := "worldMany", fn := fun _ => fun
  | [d1, d2] => { results := [.lit (.bool true)], args := [d1, d2] }
  | _ => none }
def worldManyRow : OpenClaim := { program := "ytfomfboennjfoaagreat", sum := "51c201506b3cd9ef168a2ac5c4f20fa172ff1c611ab6572521278476689f0dcb", func := "wharf/wharflaw24.WorldMany", spec := "worldMany", inPlace := ["sync/atomic.LoadInt64", "sync/atomic.CompareAndSwapInt64", "slices.overlaps[wharf/api.Route]"], unfollowed := true, recurses := true, plainKeys := false, apart := false }
def WorldManySaid : Prop := worldManyRow.holds Tryz.pinned (OpenSpec.ofChange worldManySpec)

/-- ITS FALSE NEIGHBOUR: 'it returns false'. Refute it at one input. -/
def worldManyWrong : ChangeSpec := { name := "worldMany", fn := fun _ => fun
  | [d1, d2] => { results := [.lit (.bool false)], args := [d1, d2] }
  | _ => none }
def WorldManyWrongFalsely : Prop := worldManyRow.holds Tryz.pinned (OpenSpec.ofChange worldManyWrong)

/-- 'wharflaw20.SockBegins': WHATEVER THE INPUT: true; the input reads as it did. -/
def sockBeginsSpec : ChangeSpec := { name := "sockBegins", fn := fun _ => fun
  | [d] => { results := [.lit (.bool true)], args := [d] }
  | _ => none }
def sockBeginsRow : OpenClaim := { program := "ytfomfboennjfoaagreat", sum := "51c201506b3cd9ef168a2ac5c4f20fa172ff1c611ab6572521278476689f0dcb", func := "wharf/wharflaw20.SockBegins", spec := "sockBegins", inPlace := ["sync/atomic.LoadInt64", "sync/atomic.CompareAndSwapInt64", "slices.overlaps[wharf/api.Route]"], unfollowed := true, recurses := true, plainKeys := false, apart := false }
def SockBeginsSaid : Prop := sockBeginsRow.holds Tryz.pinned (OpenSpec.ofChange sockBeginsSpec)

/-- ITS FALSE NEIGHBOUR: 'it returns false'. Refute it at one input. -/
def sockBeginsWrong : ChangeSpec := { name := "sockBegins", fn := fun _ => fun
  | [d] => { results := [.lit (.bool false)], args := [d] }
  | _ => none }
def SockBeginsWrongFalsely : Prop := sockBeginsRow.holds Tryz.pinned (OpenSpec.ofChange sockBeginsWrong)

/-- 'wharflaw24.WorldFull': WHATEVER THE INPUT: true; the input reads as it did. -/
def worldFullSpec : ChangeSpec := { name := "worldFull", fn := fun _ => fun
  | [d1, d2] => { results := [.lit (.bool true)], args := [d1, d2] }
  | _ => none }
def worldFullRow : OpenClaim := { program := "ytfomfboennjfoaagreat", sum := "51c201506b3cd9ef168a2ac5c4f20fa172ff1c611ab6572521278476689f0dcb", func := "wharf/wharflaw24.WorldFull", spec := "worldFull", inPlace := ["sync/atomic.LoadInt64", "sync/atomic.CompareAndSwapInt64", "slices.overlaps[wharf/api.Route]"], unfollowed := true, recurses := true, plainKeys := false, apart := false }
def WorldFullSaid : Prop := worldFullRow.holds Tryz.pinned (OpenSpec.ofChange worldFullSpec)

/-- ITS FALSE NEIGHBOUR: 'it returns false'. Refute it at one input. -/
def worldFullWrong : ChangeSpec := { name := "worldFull", fn := fun _ => fun
  | [d1, d2] => { results := [.lit (.bool false)], args := [d1, d2] }
  | _ => none }
def WorldFullWrongFalsely : Prop := worldFullRow.holds Tryz.pinned (OpenSpec.ofChange worldFullWrong)

/-- 'wharflaw24.WorldDatagrams': WHATEVER THE INPUT: true; the input reads as it did. -/
def worldDatagramsSpec : ChangeSpec := { name := "worldDatagrams", fn := fun _ => fun
  | [d1, d2] => { results := [.lit (.bool true)], args := [d1, d2] }
  | _ => none }
def worldDatagramsRow : OpenClaim := { program := "ytfomfboennjfoaagreat", sum := "51c201506b3cd9ef168a2ac5c4f20fa172ff1c611ab6572521278476689f0dcb", func := "wharf/wharflaw24.WorldDatagrams", spec := "worldDatagrams", inPlace := ["sync/atomic.LoadInt64", "sync/atomic.CompareAndSwapInt64", "slices.overlaps[wharf/api.Route]"], unfollowed := true, recurses := true, plainKeys := false, apart := false }
def WorldDatagramsSaid : Prop := worldDatagramsRow.holds Tryz.pinned (OpenSpec.ofChange worldDatagramsSpec)

/-- ITS FALSE NEIGHBOUR: 'it returns false'. Refute it at one input. -/
def worldDatagramsWrong : ChangeSpec := { name := "worldDatagrams", fn := fun _ => fun
  | [d1, d2] => { results := [.lit (.bool false)], args := [d1, d2] }
  | _ => none }
def WorldDatagramsWrongFalsely : Prop := worldDatagramsRow.holds Tryz.pinned (OpenSpec.ofChange worldDatagramsWrong)

/- THE SECOND FORM. 'bulk': how many values and letters a reading holds, each counted each time it is reached (what is shared counts as often as it is met; a slice's spare places count too). A statement '..UptoSaid' is the law's where the arguments, and the package variables that the reading takes, are together of bulk at most 1048576: NARROWER than '..Said'. Prove '..Said' where nothing that the law and all that it calls make is longer than what came in: it says more and counts as full. Else prove '..UptoSaid'. A law counts once. -/
mutual
def uptoBulk {H : Type} : DataW H → Nat
  | .lit (.string bytes) => bytes.length + 1
  | .lit _ => 1
  | .nil => 1
  | .ptr d => uptoBulk d + 1
  | .slice elems spare => uptoBulkAll elems + uptoBulkAll spare + 1
  | .agg parts => uptoBulkAll parts + 1
  | .iface _ d => uptoBulk d + 1
  | .map entries => uptoBulkEntries entries + 1
  | .held _ => 1
def uptoBulkAll {H : Type} : List (DataW H) → Nat
  | [] => 0
  | d :: r => uptoBulk d + uptoBulkAll r
def uptoBulkEntries {H : Type} : List (Lit × DataW H) → Nat
  | [] => 0
  | x :: r => uptoBulkEntry x + uptoBulkEntries r
def uptoBulkEntry {H : Type} : Lit × DataW H → Nat
  | (.string bytes, d) => bytes.length + uptoBulk d + 1
  | (_, d) => uptoBulk d + 1
 end
def uptoSmall : (H : Type) → List (DataW H) → Bool := fun _ ds => decide (uptoBulkAll ds ≤ 1048576)
def OpenSpec.upto (s : _root_.Go.ChangeSpec) : _root_.Go.OpenSpec := { _root_.Go.OpenSpec.ofChange s with cond := some uptoSmall }

/-- 'wharflaw19.HostSends', WHERE WHAT IT READS IS OF BULK AT MOST 1048576: true; the input reads as it did. -/
def hostSendsUptoRow : OpenClaim := { program := "ytfomfboennjfoaagreat", sum := "51c201506b3cd9ef168a2ac5c4f20fa172ff1c611ab6572521278476689f0dcb", func := "wharf/wharflaw19.HostSends", spec := "hostSends", inPlace := ["sync/atomic.LoadInt64", "sync/atomic.CompareAndSwapInt64", "slices.overlaps[wharf/api.Route]"], unfollowed := true, recurses := true, plainKeys := false, apart := false, narrowed := true }
def HostSendsUptoSaid : Prop := hostSendsUptoRow.holds Tryz.pinned (OpenSpec.upto hostSendsSpec)

/-- 'wharflaw19.HostAltered', WHERE WHAT IT READS IS OF BULK AT MOST 1048576: true; the input reads as it did. -/
def hostAlteredUptoRow : OpenClaim := { program := "ytfomfboennjfoaagreat", sum := "51c201506b3cd9ef168a2ac5c4f20fa172ff1c611ab6572521278476689f0dcb", func := "wharf/wharflaw19.HostAltered", spec := "hostAltered", inPlace := ["sync/atomic.LoadInt64", "sync/atomic.CompareAndSwapInt64", "slices.overlaps[wharf/api.Route]"], unfollowed := true, recurses := true, plainKeys := false, apart := false, narrowed := true }
def HostAlteredUptoSaid : Prop := hostAlteredUptoRow.holds Tryz.pinned (OpenSpec.upto hostAlteredSpec)

/-- 'wharflaw19.HostHolds', WHERE WHAT IT READS IS OF BULK AT MOST 1048576: true; the input reads as it did. -/
def hostHoldsUptoRow : OpenClaim := { program := "ytfomfboennjfoaagreat", sum := "51c201506b3cd9ef168a2ac5c4f20fa172ff1c611ab6572521278476689f0dcb", func := "wharf/wharflaw19.HostHolds", spec := "hostHolds", inPlace := ["sync/atomic.LoadInt64", "sync/atomic.CompareAndSwapInt64", "slices.overlaps[wharf/api.Route]"], unfollowed := true, recurses := true, plainKeys := false, apart := false, narrowed := true }
def HostHoldsUptoSaid : Prop := hostHoldsUptoRow.holds Tryz.pinned (OpenSpec.upto hostHoldsSpec)

/-- 'wharflaw24.WorldBoth', WHERE WHAT IT READS IS OF BULK AT MOST 1048576: true; the input reads as it did. -/
def worldBothUptoRow : OpenClaim := { program := "ytfomfboennjfoaagreat", sum := "51c201506b3cd9ef168a2ac5c4f20fa172ff1c611ab6572521278476689f0dcb", func := "wharf/wharflaw24.WorldBoth", spec := "worldBoth", inPlace := ["sync/atomic.LoadInt64", "sync/atomic.CompareAndSwapInt64", "slices.overlaps[wharf/api.Route]"], unfollowed := true, recurses := true, plainKeys := false, apart := false, narrowed := true }
def WorldBothUptoSaid : Prop := worldBothUptoRow.holds Tryz.pinned (OpenSpec.upto worldBothSpec)

/-- 'wharflaw24.WorldMany', WHERE WHAT IT READS IS OF BULK AT MOST 1048576: true; the input reads as it did. -/
def worldManyUptoRow : OpenClaim := { program := "ytfomfboennjfoaagreat", sum := "51c201506b3cd9ef168a2ac5c4f20fa172ff1c611ab6572521278476689f0dcb", func := "wharf/wharflaw24.WorldMany", spec := "worldMany", inPlace := ["sync/atomic.LoadInt64", "sync/atomic.CompareAndSwapInt64", "slices.overlaps[wharf/api.Route]"], unfollowed := true, recurses := true, plainKeys := false, apart := false, narrowed := true }
def WorldManyUptoSaid : Prop := worldManyUptoRow.holds Tryz.pinned (OpenSpec.upto worldManySpec)

/-- 'wharflaw20.SockBegins', WHERE WHAT IT READS IS OF BULK AT MOST 1048576: true; the input reads as it did. -/
def sockBeginsUptoRow : OpenClaim := { program := "ytfomfboennjfoaagreat", sum := "51c201506b3cd9ef168a2ac5c4f20fa172ff1c611ab6572521278476689f0dcb", func := "wharf/wharflaw20.SockBegins", spec := "sockBegins", inPlace := ["sync/atomic.LoadInt64", "sync/atomic.CompareAndSwapInt64", "slices.overlaps[wharf/api.Route]"], unfollowed := true, recurses := true, plainKeys := false, apart := false, narrowed := true }
def SockBeginsUptoSaid : Prop := sockBeginsUptoRow.holds Tryz.pinned (OpenSpec.upto sockBeginsSpec)

/-- 'wharflaw24.WorldFull', WHERE WHAT IT READS IS OF BULK AT MOST 1048576: true; the input reads as it did. -/
def worldFullUptoRow : OpenClaim := { program := "ytfomfboennjfoaagreat", sum := "51c201506b3cd9ef168a2ac5c4f20fa172ff1c611ab6572521278476689f0dcb", func := "wharf/wharflaw24.WorldFull", spec := "worldFull", inPlace := ["sync/atomic.LoadInt64", "sync/atomic.CompareAndSwapInt64", "slices.overlaps[wharf/api.Route]"], unfollowed := true, recurses := true, plainKeys := false, apart := false, narrowed := true }
def WorldFullUptoSaid : Prop := worldFullUptoRow.holds Tryz.pinned (OpenSpec.upto worldFullSpec)

/-- 'wharflaw24.WorldDatagrams', WHERE WHAT IT READS IS OF BULK AT MOST 1048576: true; the input reads as it did. -/
def worldDatagramsUptoRow : OpenClaim := { program := "ytfomfboennjfoaagreat", sum := "51c201506b3cd9ef168a2ac5c4f20fa172ff1c611ab6572521278476689f0dcb", func := "wharf/wharflaw24.WorldDatagrams", spec := "worldDatagrams", inPlace := ["sync/atomic.LoadInt64", "sync/atomic.CompareAndSwapInt64", "slices.overlaps[wharf/api.Route]"], unfollowed := true, recurses := true, plainKeys := false, apart := false, narrowed := true }
def WorldDatagramsUptoSaid : Prop := worldDatagramsUptoRow.holds Tryz.pinned (OpenSpec.upto worldDatagramsSpec)

end Rows
end Go.Proofs.YtfomfboennjfoaaGreat
