/-
  No cell of these rows narrows 'for every input' (looked for: loops, veiled, ifaces, maps, wideKeys, modest, calm, conditions, laid).
  DERIVED. THE GIVEN ROWS OF THIS SEAT. 11 by the template 'for every input the law returns true; each argument reads behind the call as it read before'; 0 by the template 'total and deterministic' (their statements: YtggoagemdhflfaaGreatTotals.lean).
  GIVEN WITH THE SEED: the statements are not yours to turn. If you find one false, say at which input.
  Laid BY PROGRAM, IN A SANDBOX (cutbox-rows.mjs): the forced cells as the released guide's own fill.sh prints them over the translation 42db061bc209e96f… (all of the seat's roots in one cut). By AI agents, Wed Nov 11 2026. No macro, syntax, notation, axiom, sorry.
-/
import Derived.Test.YtggoagemdhflfaaGreatChecked
import GoSem.Claim
import GoSem.ClaimJoined
import GoSem.ClaimMapViews
import Derived.JoinedTies
import Derived.KernelRfl
namespace Go.Proofs.YtggoagemdhflfaaGreat
/- THE CELL 'sum', in the pinned program and in every row, IS THE sha256 OF THE DUMP (.gsa) THAT YtggoagemdhflfaaGreatProg.lean LOADS. Nothing in Lean hashes anything: it is a label: what it is worth is what the hold of that sum in a sandbox is worth. -/
noncomputable def Tryz.pinned : Pinned := { name := "ytggoagemdhflfaagreat", sum := "42db061bc209e96f47cb1b073de006c876049be774aee4e605183a416f44ce6e", checked := Tryz.checked }
namespace Rows
def none {H : Type} : Left H := { results := [], args := [] }

/-- 'wharflaw19.HostOwn': WHATEVER THE INPUT: true; the input reads as it did. -/
def hostOwnSpec : ChangeSpec := { name := "hostOwn", fn := fun _ => fun
  | [d1, d2, d3] => { results := [.lit (.bool true)], args := [d1, d2, d3] }
  | _ => none }
def hostOwnRow : OpenClaim := { program := "ytggoagemdhflfaagreat", sum := "42db061bc209e96f47cb1b073de006c876049be774aee4e605183a416f44ce6e", func := "wharf/wharflaw19.HostOwn", spec := "hostOwn", inPlace := ["sync/atomic.LoadInt64", "sync/atomic.CompareAndSwapInt64", "slices.overlaps[wharf/api.Route]"], unfollowed := true, recurses := true, plainKeys := false, apart := false }
def HostOwnSaid : Prop := hostOwnRow.holds Tryz.pinned (OpenSpec.ofChange hostOwnSpec)

/-- ITS FALSE NEIGHBOUR: 'it returns false'. Refute it at one input. -/
def hostOwnWrong : ChangeSpec := { name := "hostOwn", fn := fun _ => fun
  | [d1, d2, d3] => { results := [.lit (.bool false)], args := [d1, d2, d3] }
  | _ => none }
def HostOwnWrongFalsely : Prop := hostOwnRow.holds Tryz.pinned (OpenSpec.ofChange hostOwnWrong)

/-- 'wharflaw19.HostEchoes': WHATEVER THE INPUT: true; the input reads as it did. -/
def hostEchoesSpec : ChangeSpec := { name := "hostEchoes", fn := fun _ => fun
  | [d1, d2, d3] => { results := [.lit (.bool true)], args := [d1, d2, d3] }
  | _ => none }
def hostEchoesRow : OpenClaim := { program := "ytggoagemdhflfaagreat", sum := "42db061bc209e96f47cb1b073de006c876049be774aee4e605183a416f44ce6e", func := "wharf/wharflaw19.HostEchoes", spec := "hostEchoes", inPlace := ["sync/atomic.LoadInt64", "sync/atomic.CompareAndSwapInt64", "slices.overlaps[wharf/api.Route]"], unfollowed := true, recurses := true, plainKeys := false, apart := false }
def HostEchoesSaid : Prop := hostEchoesRow.holds Tryz.pinned (OpenSpec.ofChange hostEchoesSpec)

/-- ITS FALSE NEIGHBOUR: 'it returns false'. Refute it at one input. -/
def hostEchoesWrong : ChangeSpec := { name := "hostEchoes", fn := fun _ => fun
  | [d1, d2, d3] => { results := [.lit (.bool false)], args := [d1, d2, d3] }
  | _ => none }
def HostEchoesWrongFalsely : Prop := hostEchoesRow.holds Tryz.pinned (OpenSpec.ofChange hostEchoesWrong)

/-- 'wharflaw19.HostHolds': WHATEVER THE INPUT: true; the input reads as it did. -/
def hostHoldsSpec : ChangeSpec := { name := "hostHolds", fn := fun _ => fun
  | [d1, d2] => { results := [.lit (.bool true)], args := [d1, d2] }
  | _ => none }
def hostHoldsRow : OpenClaim := { program := "ytggoagemdhflfaagreat", sum := "42db061bc209e96f47cb1b073de006c876049be774aee4e605183a416f44ce6e", func := "wharf/wharflaw19.HostHolds", spec := "hostHolds", inPlace := ["sync/atomic.LoadInt64", "sync/atomic.CompareAndSwapInt64", "slices.overlaps[wharf/api.Route]"], unfollowed := true, recurses := true, plainKeys := false, apart := false }
def HostHoldsSaid : Prop := hostHoldsRow.holds Tryz.pinned (OpenSpec.ofChange hostHoldsSpec)

/-- ITS FALSE NEIGHBOUR: 'it returns false'. Refute it at one input. -/
def hostHoldsWrong : ChangeSpec := { name := "hostHolds", fn := fun _ => fun
  | [d1, d2] => { results := [.lit (.bool false)], args := [d1, d2] }
  | _ => none }
def HostHoldsWrongFalsely : Prop := hostHoldsRow.holds Tryz.pinned (OpenSpec.ofChange hostHoldsWrong)

/-- 'wharflaw20.SockRoom': WHATEVER THE INPUT: true; the input reads as it did. -/
def sockRoomSpec : ChangeSpec := { name := "sockRoom", fn := fun _ => fun
  | [d1, d2] => { results := [.lit (.bool true)], args := [d1, d2] }
  | _ => none }
def sockRoomRow : OpenClaim := { program := "ytggoagemdhflfaagreat", sum := "42db061bc209e96f47cb1b073de006c876049be774aee4e605183a416f44ce6e", func := "wharf/wharflaw20.SockRoom", spec := "sockRoom", inPlace := ["sync/atomic.LoadInt64", "sync/atomic.CompareAndSwapInt64", "slices.overlaps[wharf/api.Route]"], unfollowed := true, recurses := true, plainKeys := false, apart := false }
def SockRoomSaid : Prop := sockRoomRow.holds Tryz.pinned (OpenSpec.ofChange sockRoomSpec)

/-- ITS FALSE NEIGHBOUR: 'it returns false'. Refute it at one input. -/
def sockRoomWrong : ChangeSpec := { name := "sockRoom", fn := fun _ => fun
  | [d1, d2] => { results := [.lit (.bool false)], args := [d1, d2] }
  | _ => none }
def SockRoomWrongFalsely : Prop := sockRoomRow.holds Tryz.pinned (OpenSpec.ofChange sockRoomWrong)

/-- 'wharflaw20.SockBegins': WHATEVER THE INPUT: true; the input reads as it did. -/
def sockBeginsSpec : ChangeSpec := { name := "sockBegins", fn := fun _ => fun
  | [d] => { results := [.lit (.bool true)], args := [d] }
  | _ => none }
def sockBeginsRow : OpenClaim := { program := "ytggoagemdhflfaagreat", sum := "42db061bc209e96f47cb1b073de006c876049be774aee4e605183a416f44ce6e", func := "wharf/wharflaw20.SockBegins", spec := "sockBegins", inPlace := ["sync/atomic.LoadInt64", "sync/atomic.CompareAndSwapInt64", "slices.overlaps[wharf/api.Route]"], unfollowed := true, recurses := true, plainKeys := false, apart := false }
def SockBeginsSaid : Prop := sockBeginsRow.holds Tryz.pinned (OpenSpec.ofChange sockBeginsSpec)

/-- ITS FALSE NEIGHBOUR: 'it returns false'. Refute it at one input. -/
def sockBeginsWrong : ChangeSpec := { name := "sockBegins", fn := fun _ => fun
  | [d] => { results := [.lit (.bool false)], args := [d] }
  | _ => none }
def SockBeginsWrongFalsely : Prop := sockBeginsRow.holds Tryz.pinned (OpenSpec.ofChange sockBeginsWrong)

/-- 'wharflaw24.WorldRefuses': WHATEVER THE INPUT: true; the input reads as it did. -/
def worldRefusesSpec : ChangeSpec := { name := "worldRefuses", fn := fun _ => fun
  | [d1, d2] => { results := [.lit (.bool true)], args := [d1, d2] }
  | _ => none }
def worldRefusesRow : OpenClaim := { program := "ytggoagemdhflfaagreat", sum := "42db061bc209e96f47cb1b073de006c876049be774aee4e605183a416f44ce6e", func := "wharf/wharflaw24.WorldRefuses", spec := "worldRefuses", inPlace := ["sync/atomic.LoadInt64", "sync/atomic.CompareAndSwapInt64", "slices.overlaps[wharf/api.Route]"], unfollowed := true, recurses := true, plainKeys := false, apart := false }
def WorldRefusesSaid : Prop := worldRefusesRow.holds Tryz.pinned (OpenSpec.ofChange worldRefusesSpec)

/-- ITS FALSE NEIGHBOUR: 'it returns false'. Refute it at one input. -/
def worldRefusesWrong : ChangeSpec := { name := "worldRefuses", fn := fun _ => fun
  | [d1, d2] => { results := [.lit (.bool false)], args := [d1, d2] }
  | _ => none }
def WorldRefusesWrongFalsely : Prop := worldRefusesRow.holds Tryz.pinned (OpenSpec.ofChange worldRefusesWrong)

/-- 'wharflaw24.WorldBoth': WHATEVER THE INPUT: true; the input reads as it did. -/
def worldBothSpec : ChangeSpec := { name := "worldBoth", fn := fun _ => fun
  | [d1, d2, d3] => { results := [.lit (.bool true)], args := [d1, d2, d3] }
  | _ => none }
def worldBothRow : OpenClaim := { program := "ytggoagemdhflfaagreat", sum := "42db061bc209e96f47cb1b073de006c876049be774aee4e605183a416f44ce6e", func := "wharf/wharflaw24.WorldBoth", spec := "worldBoth", inPlace := ["sync/atomic.LoadInt64", "sync/atomic.CompareAndSwapInt64", "slices.overlaps[wharf/api.Route]"], unfollowed := true, recurses := true, plainKeys := false, apart := false }
def WorldBothSaid : Prop := worldBothRow.holds Tryz.pinned (OpenSpec.ofChange worldBothSpec)

/-- ITS FALSE NEIGHBOUR: 'it returns false'. Refute it at one input. -/
def worldBothWrong : ChangeSpec := { name := "worldBoth", fn := fun _ => fun
  | [d1, d2, d3] => { results := [.lit (.bool false)], args := [d1, d2, d3] }
  | _ => none }
def WorldBothWrongFalsely : Prop := worldBothRow.holds Tryz.pinned (OpenSpec.ofChange worldBothWrong)

/-- 'wharflaw24.WorldWakes': WHATEVER THE INPUT: true; the input reads as it did. -/
def worldWakesSpec : ChangeSpec := { name := "worldWakes", fn := fun _ => fun
  | [d1, d2] => { results := [.lit (.bool true)], args := [d1, d2] }
  | _ => none }
def worldWakesRow : OpenClaim := { program := "ytggoagemdhflfaagreat", sum := "42db061bc209e96f47cb1b073de006c876049be774aee4e605183a416f44ce6e", func := "wharf/wharflaw24.WorldWakes", spec := "worldWakes", inPlace := ["sync/atomic.LoadInt64", "sync/atomic.CompareAndSwapInt64", "slices.overlaps[wharf/api.Route]"], unfollowed := true, recurses := true, plainKeys := false, apart := false }
def WorldWakesSaid : Prop := worldWakesRow.holds Tryz.pinned (OpenSpec.ofChange worldWakesSpec)

/-- ITS FALSE NEIGHBOUR: 'it returns false'. Refute it at one input. -/
def worldWakesWrong : ChangeSpec := { name := "worldWakes", fn := fun _ => fun
  | [d1, d2] => { results := [.lit (.bool false)], args := [d1, d2] }
  | _ => none }
def WorldWakesWrongFalsely : Prop := worldWakesRow.holds Tryz.pinned (OpenSpec.ofChange worldWakesWrong)

/-- 'wharflaw24.WorldCloses': WHATEVER THE INPUT: true; the input reads as it did. -/
def worldClosesSpec : ChangeSpec := { name := "worldCloses", fn := fun _ => fun
  | [d] => { results := [.lit (.bool true)], args := [d] }
  | _ => none }
def worldClosesRow : OpenClaim := { program := "ytggoagemdhflfaagreat", sum := "42db061bc209e96f47cb1b073de006c876049be774aee4e605183a416f44ce6e", func := "wharf/wharflaw24.WorldCloses", spec := "worldCloses", inPlace := ["sync/atomic.LoadInt64", "sync/atomic.CompareAndSwapInt64", "slices.overlaps[wharf/api.Route]"], unfollowed := true, recurses := true, plainKeys := false, apart := false }
def WorldClosesSaid : Prop := worldClosesRow.holds Tryz.pinned (OpenSpec.ofChange worldClosesSpec)

/-- ITS FALSE NEIGHBOUR: 'it returns false'. Refute it at one input. -/
def worldClosesWrong : ChangeSpec := { name := "worldCloses", fn := fun _ => fun
  | [d] => { results := [.lit (.bool false)], args := [d] }
  | _ => none }
def WorldClosesWrongFalsely : Prop := worldClosesRow.holds Tryz.pinned (OpenSpec.ofChange worldClosesWrong)

/-- 'wharflaw24.WorldMany': WHATEVER THE INPUT: true; the input reads as it did. -/
def worldManySpec : ChangeSpec := { name := "worldMany", fn := fun _ => fun
  | [d1, d2] => { results := [.lit (.bool true)], args := [d1, d2] }
  | _ => none }
def worldManyRow : OpenClaim := { program := "ytggoagemdhflfaagreat", sum := "42db061bc209e96f47cb1b073de006c876049be774aee4e605183a416f44ce6e", func := "wharf/wharflaw24.WorldMany", spec := "worldMany", inPlace := ["sync/atomic.LoadInt64", "sync/atomic.CompareAndSwapInt64", "slices.overlaps[wharf/api.Route]"], unfollowed := true, recurses := true, plainKeys := false, apart := false }
def WorldManySaid : Prop := worldManyRow.holds Tryz.pinned (OpenSpec.ofChange worldManySpec)

/-- ITS FALSE NEIGHBOUR: 'it returns false'. Refute it at one input. -/
def worldManyWrong : ChangeSpec := { name := "worldMany", fn := fun _ => fun
  | [d1, d2] => { results := [.lit (.bool false)], args := [d1, d2] }
  | _ => none }
def WorldManyWrongFalsely : Prop := worldManyRow.holds Tryz.pinned (OpenSpec.ofChange worldManyWrong)

/-- 'wharflaw24.WorldNames': WHATEVER THE INPUT: true; the input reads as it did. -/
def worldNamesSpec : ChangeSpec := { name := "worldNames", fn := fun _ => fun
  | [d] => { results := [.lit (.bool true)], args := [d] }
  | _ => none }
def worldNamesRow : OpenClaim := { program := "ytggoagemdhflfaagreat", sum := "42db061bc209e96f47cb1b073de006c876049be774aee4e605183a416f44ce6e", func := "wharf/wharflaw24.WorldNames", spec := "worldNames", inPlace := ["sync/atomic.LoadInt64", "sync/atomic.CompareAndSwapInt64", "slices.overlaps[wharf/api.Route]"], unfollowed := true, recurses := true, plainKeys := false, apart := false }
def WorldNamesSaid : Prop := worldNamesRow.holds Tryz.pinned (OpenSpec.ofChange worldNamesSpec)

/-- ITS FALSE NEIGHBOUR: 'it returns false'. Refute it at one input. -/
def worldNamesWrong : ChangeSpec := { name := "worldNames", fn := fun _ => fun
  | [d] => { results := [.lit (.bool false)], args := [d] }
  | _ => none }
def WorldNamesWrongFalsely : Prop := worldNamesRow.holds Tryz.pinned (OpenSpec.ofChange worldNamesWrong)

/- THE SECOND FORM. 'bulk': how many values and letters a reading holds, each counted each time it is reached (what is shared counts as often as it is met; a slice's spare places count too). A statement '..UptoSaid' is the law's where the arguments, and the package variables that the reading takes, are together of bulk at most 1048576: NARROWER than '..Said'. Prove '..Said' where nothing that the law and all that it calls make is longer than what came in: it says more and counts as full. Else prove '..UptoSaid'. A law counts once. -/
mutual
def uptoBulk {H : Type} : DataW H → Nat
  | .lit (.string bytes) => bytes.length + 1
  | .lit _ => 1
  | .nil => 1
  | .ptr d => uptoBulk d + 1
  | .slice elems spare => uptoBulkAll elems + uptoBulkAll spare + 1
  | .agg parts => uptoBulkAll parts + 1
  | .iface _ d => uptoBulk d + 1
  | .map entries => uptoBulkEntries entries + 1
  | .held _ => 1
def uptoBulkAll {H : Type} : List (DataW H) → Nat
  | [] => 0
  | d :: r => uptoBulk d + uptoBulkAll r
def uptoBulkEntries {H : Type} : List (Lit × DataW H) → Nat
  | [] => 0
  | x :: r => uptoBulkEntry x + uptoBulkEntries r
def uptoBulkEntry {H : Type} : Lit × DataW H → Nat
  | (.string bytes, d) => bytes.length + uptoBulk d + 1
  | (_, d) => uptoBulk d + 1
 end
def uptoSmall : (H : Type) → List (DataW H) → Bool := fun _ ds => decide (uptoBulkAll ds ≤ 1048576)
def OpenSpec.upto (s : _root_.Go.ChangeSpec) : _root_.Go.OpenSpec := { _root_.Go.OpenSpec.ofChange s with cond := some uptoSmall }

/-- 'wharflaw19.HostOwn', WHERE WHAT IT READS IS OF BULK AT MOST 1048576: true; the input reads as it did. -/
def hostOwnUptoRow : OpenClaim := { program := "ytggoagemdhflfaagreat", sum := "42db061bc209e96f47cb1b073de006c876049be774aee4e605183a416f44ce6e", func := "wharf/wharflaw19.HostOwn", spec := "hostOwn", inPlace := ["sync/atomic.LoadInt64", "sync/atomic.CompareAndSwapInt64", "slices.overlaps[wharf/api.Route]"], unfollowed := true, recurses := true, plainKeys := false, apart := false, narrowed := true }
def HostOwnUptoSaid : Prop := hostOwnUptoRow.holds Tryz.pinned (OpenSpec.upto hostOwnSpec)

/-- 'wharflaw19.HostEchoes', WHERE WHAT IT READS IS OF BULK AT MOST 1048576: true; the input reads as it did. -/
def hostEchoesUptoRow : OpenClaim := { program := "ytggoagemdhflfaagreat", sum := "42db061bc209e96f47cb1b073de006c876049be774aee4e605183a416f44ce6e", func := "wharf/wharflaw19.HostEchoes", spec := "hostEchoes", inPlace := ["sync/atomic.LoadInt64", "sync/atomic.CompareAndSwapInt64", "slices.overlaps[wharf/api.Route]"], unfollowed := true, recurses := true, plainKeys := false, apart := false, narrowed := true }
def HostEchoesUptoSaid : Prop := hostEchoesUptoRow.holds Tryz.pinned (OpenSpec.upto hostEchoesSpec)

/-- 'wharflaw19.HostHolds', WHERE WHAT IT READS IS OF BULK AT MOST 1048576: true; the input reads as it did. -/
def hostHoldsUptoRow : OpenClaim := { program := "ytggoagemdhflfaagreat", sum := "42db061bc209e96f47cb1b073de006c876049be774aee4e605183a416f44ce6e", func := "wharf/wharflaw19.HostHolds", spec := "hostHolds", inPlace := ["sync/atomic.LoadInt64", "sync/atomic.CompareAndSwapInt64", "slices.overlaps[wharf/api.Route]"], unfollowed := true, recurses := true, plainKeys := false, apart := false, narrowed := true }
def HostHoldsUptoSaid : Prop := hostHoldsUptoRow.holds Tryz.pinned (OpenSpec.upto hostHoldsSpec)

/-- 'wharflaw20.SockRoom', WHERE WHAT IT READS IS OF BULK AT MOST 1048576: true; the input reads as it did. -/
def sockRoomUptoRow : OpenClaim := { program := "ytggoagemdhflfaagreat", sum := "42db061bc209e96f47cb1b073de006c876049be774aee4e605183a416f44ce6e", func := "wharf/wharflaw20.SockRoom", spec := "sockRoom", inPlace := ["sync/atomic.LoadInt64", "sync/atomic.CompareAndSwapInt64", "slices.overlaps[wharf/api.Route]"], unfollowed := true, recurses := true, plainKeys := false, apart := false, narrowed := true }
def SockRoomUptoSaid : Prop := sockRoomUptoRow.holds Tryz.pinned (OpenSpec.upto sockRoomSpec)

/-- 'wharflaw20.SockBegins', WHERE WHAT IT READS IS OF BULK AT MOST 1048576: true; the input reads as it did. -/
def sockBeginsUptoRow : OpenClaim := { program := "ytggoagemdhflfaagreat", sum := "42db061bc209e96f47cb1b073de006c876049be774aee4e605183a416f44ce6e", func := "wharf/wharflaw20.SockBegins", spec := "sockBegins", inPlace := ["sync/atomic.LoadInt64", "sync/atomic.CompareAndSwapInt64", "slices.overlaps[wharf/api.Route]"], unfollowed := true, recurses := true, plainKeys := false, apart := false, narrowed := true }
def SockBeginsUptoSaid : Prop := sockBeginsUptoRow.holds Tryz.pinned (OpenSpec.upto sockBeginsSpec)

/-- 'wharflaw24.WorldRefuses', WHERE WHAT IT READS IS OF BULK AT MOST 1048576: true; the input reads as it did. -/
def worldRefusesUptoRow : OpenClaim := { program := "ytggoagemdhflfaagreat", sum := "42db061bc209e96f47cb1b073de006c876049be774aee4e605183a416f44ce6e", func := "wharf/wharflaw24.WorldRefuses", spec := "worldRefuses", inPlace := ["sync/atomic.LoadInt64", "sync/atomic.CompareAndSwapInt64", "slices.overlaps[wharf/api.Route]"], unfollowed := true, recurses := true, plainKeys := false, apart := false, narrowed := true }
def WorldRefusesUptoSaid : Prop := worldRefusesUptoRow.holds Tryz.pinned (OpenSpec.upto worldRefusesSpec)

/-- 'wharflaw24.WorldBoth', WHERE WHAT IT READS IS OF BULK AT MOST 1048576: true; the input reads as it did. -/
def worldBothUptoRow : OpenClaim := { program := "ytggoagemdhflfaagreat", sum := "42db061bc209e96f47cb1b073de006c876049be774aee4e605183a416f44ce6e", func := "wharf/wharflaw24.WorldBoth", spec := "worldBoth", inPlace := ["sync/atomic.LoadInt64", "sync/atomic.CompareAndSwapInt64", "slices.overlaps[wharf/api.Route]"], unfollowed := true, recurses := true, plainKeys := false, apart := false, narrowed := true }
def WorldBothUptoSaid : Prop := worldBothUptoRow.holds Tryz.pinned (OpenSpec.upto worldBothSpec)

/-- 'wharflaw24.WorldWakes', WHERE WHAT IT READS IS OF BULK AT MOST 1048576: true; the input reads as it did. -/
def worldWakesUptoRow : OpenClaim := { program := "ytggoagemdhflfaagreat", sum := "42db061bc209e96f47cb1b073de006c876049be774aee4e605183a416f44ce6e", func := "wharf/wharflaw24.WorldWakes", spec := "worldWakes", inPlace := ["sync/atomic.LoadInt64", "sync/atomic.CompareAndSwapInt64", "slices.overlaps[wharf/api.Route]"], unfollowed := true, recurses := true, plainKeys := false, apart := false, narrowed := true }
def WorldWakesUptoSaid : Prop := worldWakesUptoRow.holds Tryz.pinned (OpenSpec.upto worldWakesSpec)

/-- 'wharflaw24.WorldCloses', WHERE WHAT IT READS IS OF BULK AT MOST 1048576: true; the input reads as it did. -/
def worldClosesUptoRow : OpenClaim := { program := "ytggoagemdhflfaagreat", sum := "42db061bc209e96f47cb1b073de006c876049be774aee4e605183a416f44ce6e", func := "wharf/wharflaw24.WorldCloses", spec := "worldCloses", inPlace := ["sync/atomic.LoadInt64", "sync/atomic.CompareAndSwapInt64", "slices.overlaps[wharf/api.Route]"], unfollowed := true, recurses := true, plainKeys := false, apart := false, narrowed := true }
def WorldClosesUptoSaid : Prop := worldClosesUptoRow.holds Tryz.pinned (OpenSpec.upto worldClosesSpec)

/-- 'wharflaw24.WorldMany', WHERE WHAT IT READS IS OF BULK AT MOST 1048576: true; the input reads as it did. -/
def worldManyUptoRow : OpenClaim := { program := "ytggoagemdhflfaagreat", sum := "42db061bc209e96f47cb1b073de006c876049be774aee4e605183a416f44ce6e", func := "wharf/wharflaw24.WorldMany", spec := "worldMany", inPlace := ["sync/atomic.LoadInt64", "sync/atomic.CompareAndSwapInt64", "slices.overlaps[wharf/api.Route]"], unfollowed := true, recurses := true, plainKeys := false, apart := false, narrowed := true }
def WorldManyUptoSaid : Prop := worldManyUptoRow.holds Tryz.pinned (OpenSpec.upto worldManySpec)

/-- 'wharflaw24.WorldNames', WHERE WHAT IT READS IS OF BULK AT MOST 1048576: true; the input reads as it did. -/
def worldNamesUptoRow : OpenClaim := { program := "ytggoagemdhflfaagreat", sum := "42db061bc209e96f47cb1b073de006c876049be774aee4e605183a416f44ce6e", func := "wharf/wharflaw24.WorldNames", spec := "worldNames", inPlace := ["sync/atomic.LoadInt64", "sync/atomic.CompareAndSwapInt64", "slices.overlaps[wharf/api.Route]"], unfollowed := true, recurses := true, plainKeys := false, apart := false, narrowed := true }
def WorldNamesUptoSaid : Prop := worldNamesUptoRow.holds Tryz.pinned (OpenSpec.upto worldNamesSpec)

end Rows
end Go.Proofs.YtggoagemdhflfaaGreat
