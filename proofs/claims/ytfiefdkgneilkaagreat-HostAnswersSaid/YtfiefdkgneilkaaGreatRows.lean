/-
  No cell of these rows narrows 'for every input' (looked for: loops, veiled, ifaces, maps, wideKeys, modest, calm, conditions, laid).
  DERIVED. THE GIVEN ROWS OF THIS SEAT. 17 by the template 'for every input the law returns true; each argument reads behind the call as it read before'; 0 by the template 'total and deterministic' (their statements: YtfiefdkgneilkaaGreatTotals.lean).
  GIVEN WITH THE SEED: the statements are not yours to turn. If you find one false, say at which input.
  Laid BY PROGRAM, IN A SANDBOX (cutbox-rows.mjs): the forced cells as the released guide's own fill.sh prints them over the translation 108a8dcfcd933dc2… (all of the seat's roots in one cut). By AI agents, Wed Nov 11 2026. No macro, syntax, notation, axiom, sorry.
-/
import Derived.Test.YtfiefdkgneilkaaGreatChecked
import GoSem.Claim
import GoSem.ClaimJoined
import GoSem.ClaimMapViews
import Derived.JoinedTies
import Derived.KernelRfl
namespace Go.Proofs.YtfiefdkgneilkaaGreat
/- THE CELL 'sum', in the pinned program and in every row, IS THE sha256 OF THE DUMP (.gsa) THAT YtfiefdkgneilkaaGreatProg.lean LOADS. Nothing in Lean hashes anything: it is a label: what it is worth is what the hold of that sum in a sandbox is worth. -/
noncomputable def Tryz.pinned : Pinned := { name := "ytfiefdkgneilkaagreat", sum := "108a8dcfcd933dc2bd6d6dd91be146ae254b11b11a78ca2085fb390d3cd2bb4e", checked := Tryz.checked }
namespace Rows
def none {H : Type} : Left H := { results := [], args := [] }

/-- 'wharflaw18.HubStrays': WHATEVER THE INPUT: true; the input reads as it did. -/
def hubStraysSpec : ChangeSpec := { name := "hubStrays", fn := fun _ => fun
  | [d] => { results := [.lit (.bool true)], args := [d] }
  | _ => none }
def hubStraysRow : OpenClaim := { program := "ytfiefdkgneilkaagreat", sum := "108a8dcfcd933dc2bd6d6dd91be146ae254b11b11a78ca2085fb390d3cd2bb4e", func := "wharf/wharflaw18.HubStrays", spec := "hubStrays", unfollowed := true, recurses := true, plainKeys := false, apart := false }
def HubStraysSaid : Prop := hubStraysRow.holds Tryz.pinned (OpenSpec.ofChange hubStraysSpec)

/-- ITS FALSE NEIGHBOUR: 'it returns false'. Refute it at one input. -/
def hubStraysWrong : ChangeSpec := { name := "hubStrays", fn := fun _ => fun
  | [d] => { results := [.lit (.bool false)], args := [d] }
  | _ => none }
def HubStraysWrongFalsely : Prop := hubStraysRow.holds Tryz.pinned (OpenSpec.ofChange hubStraysWrong)

/-- 'wharflaw18.HubTwice': WHATEVER THE INPUT: true; the input reads as it did. -/
def hubTwiceSpec : ChangeSpec := { name := "hubTwice", fn := fun _ => fun
  | [d1, d2] => { results := [.lit (.bool true)], args := [d1, d2] }
  | _ => none }
def hubTwiceRow : OpenClaim := { program := "ytfiefdkgneilkaagreat", sum := "108a8dcfcd933dc2bd6d6dd91be146ae254b11b11a78ca2085fb390d3cd2bb4e", func := "wharf/wharflaw18.HubTwice", spec := "hubTwice", unfollowed := true, recurses := true, plainKeys := false, apart := false }
def HubTwiceSaid : Prop := hubTwiceRow.holds Tryz.pinned (OpenSpec.ofChange hubTwiceSpec)

/-- ITS FALSE NEIGHBOUR: 'it returns false'. Refute it at one input. -/
def hubTwiceWrong : ChangeSpec := { name := "hubTwice", fn := fun _ => fun
  | [d1, d2] => { results := [.lit (.bool false)], args := [d1, d2] }
  | _ => none }
def HubTwiceWrongFalsely : Prop := hubTwiceRow.holds Tryz.pinned (OpenSpec.ofChange hubTwiceWrong)

/-- 'wharflaw18.HubDeaf': WHATEVER THE INPUT: true; the input reads as it did. -/
def hubDeafSpec : ChangeSpec := { name := "hubDeaf", fn := fun _ => fun
  | [d1, d2] => { results := [.lit (.bool true)], args := [d1, d2] }
  | _ => none }
def hubDeafRow : OpenClaim := { program := "ytfiefdkgneilkaagreat", sum := "108a8dcfcd933dc2bd6d6dd91be146ae254b11b11a78ca2085fb390d3cd2bb4e", func := "wharf/wharflaw18.HubDeaf", spec := "hubDeaf", unfollowed := true, recurses := true, plainKeys := false, apart := false }
def HubDeafSaid : Prop := hubDeafRow.holds Tryz.pinned (OpenSpec.ofChange hubDeafSpec)

/-- ITS FALSE NEIGHBOUR: 'it returns false'. Refute it at one input. -/
def hubDeafWrong : ChangeSpec := { name := "hubDeaf", fn := fun _ => fun
  | [d1, d2] => { results := [.lit (.bool false)], args := [d1, d2] }
  | _ => none }
def HubDeafWrongFalsely : Prop := hubDeafRow.holds Tryz.pinned (OpenSpec.ofChange hubDeafWrong)

/-- 'wharflaw18.HubOfNothing': WHATEVER THE INPUT: true; the input reads as it did. -/
def hubOfNothingSpec : ChangeSpec := { name := "hubOfNothing", fn := fun _ => fun
  | [d1, d2] => { results := [.lit (.bool true)], args := [d1, d2] }
  | _ => none }
def hubOfNothingRow : OpenClaim := { program := "ytfiefdkgneilkaagreat", sum := "108a8dcfcd933dc2bd6d6dd91be146ae254b11b11a78ca2085fb390d3cd2bb4e", func := "wharf/wharflaw18.HubOfNothing", spec := "hubOfNothing", unfollowed := true, recurses := true, plainKeys := false, apart := false }
def HubOfNothingSaid : Prop := hubOfNothingRow.holds Tryz.pinned (OpenSpec.ofChange hubOfNothingSpec)

/-- ITS FALSE NEIGHBOUR: 'it returns false'. Refute it at one input. -/
def hubOfNothingWrong : ChangeSpec := { name := "hubOfNothing", fn := fun _ => fun
  | [d1, d2] => { results := [.lit (.bool false)], args := [d1, d2] }
  | _ => none }
def HubOfNothingWrongFalsely : Prop := hubOfNothingRow.holds Tryz.pinned (OpenSpec.ofChange hubOfNothingWrong)

/-- 'wharflaw19.HostRoutes': WHATEVER THE INPUT: true; the input reads as it did. -/
def hostRoutesSpec : ChangeSpec := { name := "hostRoutes", fn := fun _ => fun
  | [d1, d2] => { results := [.lit (.bool true)], args := [d1, d2] }
  | _ => none }
def hostRoutesRow : OpenClaim := { program := "ytfiefdkgneilkaagreat", sum := "108a8dcfcd933dc2bd6d6dd91be146ae254b11b11a78ca2085fb390d3cd2bb4e", func := "wharf/wharflaw19.HostRoutes", spec := "hostRoutes", inPlace := ["sync/atomic.LoadInt64", "sync/atomic.CompareAndSwapInt64", "slices.overlaps[wharf/api.Route]"], unfollowed := true, recurses := true, plainKeys := false, apart := false }
def HostRoutesSaid : Prop := hostRoutesRow.holds Tryz.pinned (OpenSpec.ofChange hostRoutesSpec)

/-- ITS FALSE NEIGHBOUR: 'it returns false'. Refute it at one input. -/
def hostRoutesWrong : ChangeSpec := { name := "hostRoutes", fn := fun _ => fun
  | [d1, d2] => { results := [.lit (.bool false)], args := [d1, d2] }
  | _ => none }
def HostRoutesWrongFalsely : Prop := hostRoutesRow.holds Tryz.pinned (OpenSpec.ofChange hostRoutesWrong)

/-- 'wharflaw19.HostAnswers': WHATEVER THE INPUT: true; the input reads as it did. -/
def hostAnswersSpec : ChangeSpec := { name := "hostAnswers", fn := fun _ => fun
  | [d1, d2] => { results := [.lit (.bool true)], args := [d1, d2] }
  | _ => none }
def hostAnswersRow : OpenClaim := { program := "ytfiefdkgneilkaagreat", sum := "108a8dcfcd933dc2bd6d6dd91be146ae254b11b11a78ca2085fb390d3cd2bb4e", func := "wharf/wharflaw19.HostAnswers", spec := "hostAnswers", inPlace := ["sync/atomic.LoadInt64", "sync/atomic.CompareAndSwapInt64", "slices.overlaps[wharf/api.Route]"], unfollowed := true, recurses := true, plainKeys := false, apart := false }
def HostAnswersSaid : Prop := hostAnswersRow.holds Tryz.pinned (OpenSpec.ofChange hostAnswersSpec)

/-- ITS FALSE NEIGHBOUR: 'it returns false'. Refute it at one input. -/
def hostAnswersWrong : ChangeSpec := { name := "hostAnswers", fn := fun _ => fun
  | [d1, d2] => { results := [.lit (.bool false)], args := [d1, d2] }
  | _ => none }
def HostAnswersWrongFalsely : Prop := hostAnswersRow.holds Tryz.pinned (OpenSpec.ofChange hostAnswersWrong)

/-- 'wharflaw19.HostGroups': WHATEVER THE INPUT: true; the input reads as it did. -/
def hostGroupsSpec : ChangeSpec := { name := "hostGroups", fn := fun _ => fun
  | [d1, d2, d3] => { results := [.lit (.bool true)], args := [d1, d2, d3] }
  | _ => none }
def hostGroupsRow : OpenClaim := { program := "ytfiefdkgneilkaagreat", sum := "108a8dcfcd933dc2bd6d6dd91be146ae254b11b11a78ca2085fb390d3cd2bb4e", func := "wharf/wharflaw19.HostGroups", spec := "hostGroups", inPlace := ["sync/atomic.LoadInt64", "sync/atomic.CompareAndSwapInt64", "slices.overlaps[wharf/api.Route]", "slices.overlaps[wharf/igmp.group]"], unfollowed := true, recurses := true, plainKeys := false, apart := false }
def HostGroupsSaid : Prop := hostGroupsRow.holds Tryz.pinned (OpenSpec.ofChange hostGroupsSpec)

/-- ITS FALSE NEIGHBOUR: 'it returns false'. Refute it at one input. -/
def hostGroupsWrong : ChangeSpec := { name := "hostGroups", fn := fun _ => fun
  | [d1, d2, d3] => { results := [.lit (.bool false)], args := [d1, d2, d3] }
  | _ => none }
def HostGroupsWrongFalsely : Prop := hostGroupsRow.holds Tryz.pinned (OpenSpec.ofChange hostGroupsWrong)

/-- 'wharflaw19.HostRefused': WHATEVER THE INPUT: true; the input reads as it did. -/
def hostRefusedSpec : ChangeSpec := { name := "hostRefused", fn := fun _ => fun
  | [d1, d2] => { results := [.lit (.bool true)], args := [d1, d2] }
  | _ => none }
def hostRefusedRow : OpenClaim := { program := "ytfiefdkgneilkaagreat", sum := "108a8dcfcd933dc2bd6d6dd91be146ae254b11b11a78ca2085fb390d3cd2bb4e", func := "wharf/wharflaw19.HostRefused", spec := "hostRefused", inPlace := ["sync/atomic.LoadInt64", "sync/atomic.CompareAndSwapInt64", "slices.overlaps[wharf/api.Route]"], unfollowed := true, recurses := true, plainKeys := false, apart := false }
def HostRefusedSaid : Prop := hostRefusedRow.holds Tryz.pinned (OpenSpec.ofChange hostRefusedSpec)

/-- ITS FALSE NEIGHBOUR: 'it returns false'. Refute it at one input. -/
def hostRefusedWrong : ChangeSpec := { name := "hostRefused", fn := fun _ => fun
  | [d1, d2] => { results := [.lit (.bool false)], args := [d1, d2] }
  | _ => none }
def HostRefusedWrongFalsely : Prop := hostRefusedRow.holds Tryz.pinned (OpenSpec.ofChange hostRefusedWrong)

/-- 'wharflaw19.HostLost': WHATEVER THE INPUT: true; the input reads as it did. -/
def hostLostSpec : ChangeSpec := { name := "hostLost", fn := fun _ => fun
  | [d] => { results := [.lit (.bool true)], args := [d] }
  | _ => none }
def hostLostRow : OpenClaim := { program := "ytfiefdkgneilkaagreat", sum := "108a8dcfcd933dc2bd6d6dd91be146ae254b11b11a78ca2085fb390d3cd2bb4e", func := "wharf/wharflaw19.HostLost", spec := "hostLost", inPlace := ["sync/atomic.LoadInt64", "sync/atomic.CompareAndSwapInt64", "slices.overlaps[wharf/api.Route]"], unfollowed := true, recurses := true, plainKeys := false, apart := false }
def HostLostSaid : Prop := hostLostRow.holds Tryz.pinned (OpenSpec.ofChange hostLostSpec)

/-- ITS FALSE NEIGHBOUR: 'it returns false'. Refute it at one input. -/
def hostLostWrong : ChangeSpec := { name := "hostLost", fn := fun _ => fun
  | [d] => { results := [.lit (.bool false)], args := [d] }
  | _ => none }
def HostLostWrongFalsely : Prop := hostLostRow.holds Tryz.pinned (OpenSpec.ofChange hostLostWrong)

/-- 'wharflaw19.HostOfNothing': WHATEVER THE INPUT: true; the input reads as it did. -/
def hostOfNothingSpec : ChangeSpec := { name := "hostOfNothing", fn := fun _ => fun
  | [d1, d2, d3] => { results := [.lit (.bool true)], args := [d1, d2, d3] }
  | _ => none }
def hostOfNothingRow : OpenClaim := { program := "ytfiefdkgneilkaagreat", sum := "108a8dcfcd933dc2bd6d6dd91be146ae254b11b11a78ca2085fb390d3cd2bb4e", func := "wharf/wharflaw19.HostOfNothing", spec := "hostOfNothing", inPlace := ["sync/atomic.LoadInt64", "sync/atomic.CompareAndSwapInt64", "slices.overlaps[wharf/igmp.group]", "slices.overlaps[wharf/api.Route]"], unfollowed := true, recurses := true, plainKeys := false, apart := false }
def HostOfNothingSaid : Prop := hostOfNothingRow.holds Tryz.pinned (OpenSpec.ofChange hostOfNothingSpec)

/-- ITS FALSE NEIGHBOUR: 'it returns false'. Refute it at one input. -/
def hostOfNothingWrong : ChangeSpec := { name := "hostOfNothing", fn := fun _ => fun
  | [d1, d2, d3] => { results := [.lit (.bool false)], args := [d1, d2, d3] }
  | _ => none }
def HostOfNothingWrongFalsely : Prop := hostOfNothingRow.holds Tryz.pinned (OpenSpec.ofChange hostOfNothingWrong)

/-- 'wharflaw20.SockRoom': WHATEVER THE INPUT: true; the input reads as it did. -/
def sockRoomSpec : ChangeSpec := { name := "sockRoom", fn := fun _ => fun
  | [d1, d2] => { results := [.lit (.bool true)], args := [d1, d2] }
  | _ => none }
def sockRoomRow : OpenClaim := { program := "ytfiefdkgneilkaagreat", sum := "108a8dcfcd933dc2bd6d6dd91be146ae254b11b11a78ca2085fb390d3cd2bb4e", func := "wharf/wharflaw20.SockRoom", spec := "sockRoom", inPlace := ["sync/atomic.LoadInt64", "sync/atomic.CompareAndSwapInt64", "slices.overlaps[wharf/api.Route]"], unfollowed := true, recurses := true, plainKeys := false, apart := false }
def SockRoomSaid : Prop := sockRoomRow.holds Tryz.pinned (OpenSpec.ofChange sockRoomSpec)

/-- ITS FALSE NEIGHBOUR: 'it returns false'. Refute it at one input. -/
def sockRoomWrong : ChangeSpec := { name := "sockRoom", fn := fun _ => fun
  | [d1, d2] => { results := [.lit (.bool false)], args := [d1, d2] }
  | _ => none }
def SockRoomWrongFalsely : Prop := sockRoomRow.holds Tryz.pinned (OpenSpec.ofChange sockRoomWrong)

/-- 'wharflaw20.SockBegins': WHATEVER THE INPUT: true; the input reads as it did. -/
def sockBeginsSpec : ChangeSpec := { name := "sockBegins", fn := fun _ => fun
  | [d] => { results := [.lit (.bool true)], args := [d] }
  | _ => none }
def sockBeginsRow : OpenClaim := { program := "ytfiefdkgneilkaagreat", sum := "108a8dcfcd933dc2bd6d6dd91be146ae254b11b11a78ca2085fb390d3cd2bb4e", func := "wharf/wharflaw20.SockBegins", spec := "sockBegins", inPlace := ["sync/atomic.LoadInt64", "sync/atomic.CompareAndSwapInt64", "slices.overlaps[wharf/api.Route]"], unfollowed := true, recurses := true, plainKeys := false, apart := false }
def SockBeginsSaid : Prop := sockBeginsRow.holds Tryz.pinned (OpenSpec.ofChange sockBeginsSpec)

/-- ITS FALSE NEIGHBOUR: 'it returns false'. Refute it at one input. -/
def sockBeginsWrong : ChangeSpec := { name := "sockBegins", fn := fun _ => fun
  | [d] => { results := [.lit (.bool false)], args := [d] }
  | _ => none }
def SockBeginsWrongFalsely : Prop := sockBeginsRow.holds Tryz.pinned (OpenSpec.ofChange sockBeginsWrong)

/-- 'wharflaw20.SockOfNothing': WHATEVER THE INPUT: true; the input reads as it did. -/
def sockOfNothingSpec : ChangeSpec := { name := "sockOfNothing", fn := fun _ => fun
  | [d1, d2] => { results := [.lit (.bool true)], args := [d1, d2] }
  | _ => none }
def sockOfNothingRow : OpenClaim := { program := "ytfiefdkgneilkaagreat", sum := "108a8dcfcd933dc2bd6d6dd91be146ae254b11b11a78ca2085fb390d3cd2bb4e", func := "wharf/wharflaw20.SockOfNothing", spec := "sockOfNothing", inPlace := ["sync/atomic.LoadInt64", "sync/atomic.CompareAndSwapInt64", "slices.overlaps[wharf/api.Route]"], unfollowed := true, recurses := true, plainKeys := false, apart := false }
def SockOfNothingSaid : Prop := sockOfNothingRow.holds Tryz.pinned (OpenSpec.ofChange sockOfNothingSpec)

/-- ITS FALSE NEIGHBOUR: 'it returns false'. Refute it at one input. -/
def sockOfNothingWrong : ChangeSpec := { name := "sockOfNothing", fn := fun _ => fun
  | [d1, d2] => { results := [.lit (.bool false)], args := [d1, d2] }
  | _ => none }
def SockOfNothingWrongFalsely : Prop := sockOfNothingRow.holds Tryz.pinned (OpenSpec.ofChange sockOfNothingWrong)

/-- 'wharflaw24.WorldCloses': WHATEVER THE INPUT: true; the input reads as it did. -/
def worldClosesSpec : ChangeSpec := { name := "worldCloses", fn := fun _ => fun
  | [d] => { results := [.lit (.bool true)], args := [d] }
  | _ => none }
def worldClosesRow : OpenClaim := { program := "ytfiefdkgneilkaagreat", sum := "108a8dcfcd933dc2bd6d6dd91be146ae254b11b11a78ca2085fb390d3cd2bb4e", func := "wharf/wharflaw24.WorldCloses", spec := "worldCloses", inPlace := ["sync/atomic.LoadInt64", "sync/atomic.CompareAndSwapInt64", "slices.overlaps[wharf/api.Route]"], unfollowed := true, recurses := true, plainKeys := false, apart := false }
def WorldClosesSaid : Prop := worldClosesRow.holds Tryz.pinned (OpenSpec.ofChange worldClosesSpec)

/-- ITS FALSE NEIGHBOUR: 'it returns false'. Refute it at one input. -/
def worldClosesWrong : ChangeSpec := { name := "worldCloses", fn := fun _ => fun
  | [d] => { results := [.lit (.bool false)], args := [d] }
  | _ => none }
def WorldClosesWrongFalsely : Prop := worldClosesRow.holds Tryz.pinned (OpenSpec.ofChange worldClosesWrong)

/-- 'wharflaw24.WorldMany': WHATEVER THE INPUT: true; the input reads as it did. -/
def worldManySpec : ChangeSpec := { name := "worldMany", fn := fun _ => fun
  | [d1, d2] => { results := [.lit (.bool true)], args := [d1, d2] }
  | _ => none }
def worldManyRow : OpenClaim := { program := "ytfiefdkgneilkaagreat", sum := "108a8dcfcd933dc2bd6d6dd91be146ae254b11b11a78ca2085fb390d3cd2bb4e", func := "wharf/wharflaw24.WorldMany", spec := "worldMany", inPlace := ["sync/atomic.LoadInt64", "sync/atomic.CompareAndSwapInt64", "slices.overlaps[wharf/api.Route]"], unfollowed := true, recurses := true, plainKeys := false, apart := false }
def WorldManySaid : Prop := worldManyRow.holds Tryz.pinned (OpenSpec.ofChange worldManySpec)

/-- ITS FALSE NEIGHBOUR: 'it returns false'. Refute it at one input. -/
def worldManyWrong : ChangeSpec := { name := "worldMany", fn := fun _ => fun
  | [d1, d2] => { results := [.lit (.bool false)], args := [d1, d2] }
  | _ => none }
def WorldManyWrongFalsely : Prop := worldManyRow.holds Tryz.pinned (OpenSpec.ofChange worldManyWrong)

/-- 'wharflaw24.WorldNames': WHATEVER THE INPUT: true; the input reads as it did. -/
def worldNamesSpec : ChangeSpec := { name := "worldNames", fn := fun _ => fun
  | [d] => { results := [.lit (.bool true)], args := [d] }
  | _ => none }
def worldNamesRow : OpenClaim := { program := "ytfiefdkgneilkaagreat", sum := "108a8dcfcd933dc2bd6d6dd91be146ae254b11b11a78ca2085fb390d3cd2bb4e", func := "wharf/wharflaw24.WorldNames", spec := "worldNames", inPlace := ["sync/atomic.LoadInt64", "sync/atomic.CompareAndSwapInt64", "slices.overlaps[wharf/api.Route]"], unfollowed := true, recurses := true, plainKeys := false, apart := false }
def WorldNamesSaid : Prop := worldNamesRow.holds Tryz.pinned (OpenSpec.ofChange worldNamesSpec)

/-- ITS FALSE NEIGHBOUR: 'it returns false'. Refute it at one input. -/
def worldNamesWrong : ChangeSpec := { name := "worldNames", fn := fun _ => fun
  | [d] => { results := [.lit (.bool false)], args := [d] }
  | _ => none }
def WorldNamesWrongFalsely : Prop := worldNamesRow.holds Tryz.pinned (OpenSpec.ofChange worldNamesWrong)

/-- 'wharflaw24.WorldOfNothing': WHATEVER THE INPUT: true; the input reads as it did. -/
def worldOfNothingSpec : ChangeSpec := { name := "worldOfNothing", fn := fun _ => fun
  | [d1, d2] => { results := [.lit (.bool true)], args := [d1, d2] }
  | _ => none }
def worldOfNothingRow : OpenClaim := { program := "ytfiefdkgneilkaagreat", sum := "108a8dcfcd933dc2bd6d6dd91be146ae254b11b11a78ca2085fb390d3cd2bb4e", func := "wharf/wharflaw24.WorldOfNothing", spec := "worldOfNothing", inPlace := ["sync/atomic.LoadInt64", "sync/atomic.CompareAndSwapInt64", "slices.overlaps[wharf/api.Route]"], unfollowed := true, recurses := true, plainKeys := false, apart := false }
def WorldOfNothingSaid : Prop := worldOfNothingRow.holds Tryz.pinned (OpenSpec.ofChange worldOfNothingSpec)

/-- ITS FALSE NEIGHBOUR: 'it returns false'. Refute it at one input. -/
def worldOfNothingWrong : ChangeSpec := { name := "worldOfNothing", fn := fun _ => fun
  | [d1, d2] => { results := [.lit (.bool false)], args := [d1, d2] }
  | _ => none }
def WorldOfNothingWrongFalsely : Prop := worldOfNothingRow.holds Tryz.pinned (OpenSpec.ofChange worldOfNothingWrong)

/- THE SECOND FORM. 'bulk': how many values and letters a reading holds, each counted each time it is reached (what is shared counts as often as it is met; a slice's spare places count too). A statement '..UptoSaid' is the law's where the arguments, and the package variables that the reading takes, are together of bulk at most 1048576: NARROWER than '..Said'. Prove '..Said' where nothing that the law and all that it calls make is longer than what came in: it says more and counts as full. Else prove '..UptoSaid'. A law counts once. -/
mutual
def uptoBulk {H : Type} : DataW H → Nat
  | .lit (.string bytes) => bytes.length + 1
  | .lit _ => 1
  | .nil => 1
  | .ptr d => uptoBulk d + 1
  | .slice elems spare => uptoBulkAll elems + uptoBulkAll spare + 1
  | .agg parts => uptoBulkAll parts + 1
  | .iface _ d => uptoBulk d + 1
  | .map entries => uptoBulkEntries entries + 1
  | .held _ => 1
def uptoBulkAll {H : Type} : List (DataW H) → Nat
  | [] => 0
  | d :: r => uptoBulk d + uptoBulkAll r
def uptoBulkEntries {H : Type} : List (Lit × DataW H) → Nat
  | [] => 0
  | x :: r => uptoBulkEntry x + uptoBulkEntries r
def uptoBulkEntry {H : Type} : Lit × DataW H → Nat
  | (.string bytes, d) => bytes.length + uptoBulk d + 1
  | (_, d) => uptoBulk d + 1
 end
def uptoSmall : (H : Type) → List (DataW H) → Bool := fun _ ds => decide (uptoBulkAll ds ≤ 1048576)
def OpenSpec.upto (s : _root_.Go.ChangeSpec) : _root_.Go.OpenSpec := { _root_.Go.OpenSpec.ofChange s with cond := some uptoSmall }

/-- 'wharflaw18.HubStrays', WHERE WHAT IT READS IS OF BULK AT MOST 1048576: true; the input reads as it did. -/
def hubStraysUptoRow : OpenClaim := { program := "ytfiefdkgneilkaagreat", sum := "108a8dcfcd933dc2bd6d6dd91be146ae254b11b11a78ca2085fb390d3cd2bb4e", func := "wharf/wharflaw18.HubStrays", spec := "hubStrays", unfollowed := true, recurses := true, plainKeys := false, apart := false, narrowed := true }
def HubStraysUptoSaid : Prop := hubStraysUptoRow.holds Tryz.pinned (OpenSpec.upto hubStraysSpec)

/-- 'wharflaw18.HubTwice', WHERE WHAT IT READS IS OF BULK AT MOST 1048576: true; the input reads as it did. -/
def hubTwiceUptoRow : OpenClaim := { program := "ytfiefdkgneilkaagreat", sum := "108a8dcfcd933dc2bd6d6dd91be146ae254b11b11a78ca2085fb390d3cd2bb4e", func := "wharf/wharflaw18.HubTwice", spec := "hubTwice", unfollowed := true, recurses := true, plainKeys := false, apart := false, narrowed := true }
def HubTwiceUptoSaid : Prop := hubTwiceUptoRow.holds Tryz.pinned (OpenSpec.upto hubTwiceSpec)

/-- 'wharflaw18.HubDeaf', WHERE WHAT IT READS IS OF BULK AT MOST 1048576: true; the input reads as it did. -/
def hubDeafUptoRow : OpenClaim := { program := "ytfiefdkgneilkaagreat", sum := "108a8dcfcd933dc2bd6d6dd91be146ae254b11b11a78ca2085fb390d3cd2bb4e", func := "wharf/wharflaw18.HubDeaf", spec := "hubDeaf", unfollowed := true, recurses := true, plainKeys := false, apart := false, narrowed := true }
def HubDeafUptoSaid : Prop := hubDeafUptoRow.holds Tryz.pinned (OpenSpec.upto hubDeafSpec)

/-- 'wharflaw18.HubOfNothing', WHERE WHAT IT READS IS OF BULK AT MOST 1048576: true; the input reads as it did. -/
def hubOfNothingUptoRow : OpenClaim := { program := "ytfiefdkgneilkaagreat", sum := "108a8dcfcd933dc2bd6d6dd91be146ae254b11b11a78ca2085fb390d3cd2bb4e", func := "wharf/wharflaw18.HubOfNothing", spec := "hubOfNothing", unfollowed := true, recurses := true, plainKeys := false, apart := false, narrowed := true }
def HubOfNothingUptoSaid : Prop := hubOfNothingUptoRow.holds Tryz.pinned (OpenSpec.upto hubOfNothingSpec)

/-- 'wharflaw19.HostRoutes', WHERE WHAT IT READS IS OF BULK AT MOST 1048576: true; the input reads as it did. -/
def hostRoutesUptoRow : OpenClaim := { program := "ytfiefdkgneilkaagreat", sum := "108a8dcfcd933dc2bd6d6dd91be146ae254b11b11a78ca2085fb390d3cd2bb4e", func := "wharf/wharflaw19.HostRoutes", spec := "hostRoutes", inPlace := ["sync/atomic.LoadInt64", "sync/atomic.CompareAndSwapInt64", "slices.overlaps[wharf/api.Route]"], unfollowed := true, recurses := true, plainKeys := false, apart := false, narrowed := true }
def HostRoutesUptoSaid : Prop := hostRoutesUptoRow.holds Tryz.pinned (OpenSpec.upto hostRoutesSpec)

/-- 'wharflaw19.HostAnswers', WHERE WHAT IT READS IS OF BULK AT MOST 1048576: true; the input reads as it did. -/
def hostAnswersUptoRow : OpenClaim := { program := "ytfiefdkgneilkaagreat", sum := "108a8dcfcd933dc2bd6d6dd91be146ae254b11b11a78ca2085fb390d3cd2bb4e", func := "wharf/wharflaw19.HostAnswers", spec := "hostAnswers", inPlace := ["sync/atomic.LoadInt64", "sync/atomic.CompareAndSwapInt64", "slices.overlaps[wharf/api.Route]"], unfollowed := true, recurses := true, plainKeys := false, apart := false, narrowed := true }
def HostAnswersUptoSaid : Prop := hostAnswersUptoRow.holds Tryz.pinned (OpenSpec.upto hostAnswersSpec)

/-- 'wharflaw19.HostGroups', WHERE WHAT IT READS IS OF BULK AT MOST 1048576: true; the input reads as it did. -/
def hostGroupsUptoRow : OpenClaim := { program := "ytfiefdkgneilkaagreat", sum := "108a8dcfcd933dc2bd6d6dd91be146ae254b11b11a78ca2085fb390d3cd2bb4e", func := "wharf/wharflaw19.HostGroups", spec := "hostGroups", inPlace := ["sync/atomic.LoadInt64", "sync/atomic.CompareAndSwapInt64", "slices.overlaps[wharf/api.Route]", "slices.overlaps[wharf/igmp.group]"], unfollowed := true, recurses := true, plainKeys := false, apart := false, narrowed := true }
def HostGroupsUptoSaid : Prop := hostGroupsUptoRow.holds Tryz.pinned (OpenSpec.upto hostGroupsSpec)

/-- 'wharflaw19.HostRefused', WHERE WHAT IT READS IS OF BULK AT MOST 1048576: true; the input reads as it did. -/
def hostRefusedUptoRow : OpenClaim := { program := "ytfiefdkgneilkaagreat", sum := "108a8dcfcd933dc2bd6d6dd91be146ae254b11b11a78ca2085fb390d3cd2bb4e", func := "wharf/wharflaw19.HostRefused", spec := "hostRefused", inPlace := ["sync/atomic.LoadInt64", "sync/atomic.CompareAndSwapInt64", "slices.overlaps[wharf/api.Route]"], unfollowed := true, recurses := true, plainKeys := false, apart := false, narrowed := true }
def HostRefusedUptoSaid : Prop := hostRefusedUptoRow.holds Tryz.pinned (OpenSpec.upto hostRefusedSpec)

/-- 'wharflaw19.HostLost', WHERE WHAT IT READS IS OF BULK AT MOST 1048576: true; the input reads as it did. -/
def hostLostUptoRow : OpenClaim := { program := "ytfiefdkgneilkaagreat", sum := "108a8dcfcd933dc2bd6d6dd91be146ae254b11b11a78ca2085fb390d3cd2bb4e", func := "wharf/wharflaw19.HostLost", spec := "hostLost", inPlace := ["sync/atomic.LoadInt64", "sync/atomic.CompareAndSwapInt64", "slices.overlaps[wharf/api.Route]"], unfollowed := true, recurses := true, plainKeys := false, apart := false, narrowed := true }
def HostLostUptoSaid : Prop := hostLostUptoRow.holds Tryz.pinned (OpenSpec.upto hostLostSpec)

/-- 'wharflaw19.HostOfNothing', WHERE WHAT IT READS IS OF BULK AT MOST 1048576: true; the input reads as it did. -/
def hostOfNothingUptoRow : OpenClaim := { program := "ytfiefdkgneilkaagreat", sum := "108a8dcfcd933dc2bd6d6dd91be146ae254b11b11a78ca2085fb390d3cd2bb4e", func := "wharf/wharflaw19.HostOfNothing", spec := "hostOfNothing", inPlace := ["sync/atomic.LoadInt64", "sync/atomic.CompareAndSwapInt64", "slices.overlaps[wharf/igmp.group]", "slices.overlaps[wharf/api.Route]"], unfollowed := true, recurses := true, plainKeys := false, apart := false, narrowed := true }
def HostOfNothingUptoSaid : Prop := hostOfNothingUptoRow.holds Tryz.pinned (OpenSpec.upto hostOfNothingSpec)

/-- 'wharflaw20.SockRoom', WHERE WHAT IT READS IS OF BULK AT MOST 1048576: true; the input reads as it did. -/
def sockRoomUptoRow : OpenClaim := { program := "ytfiefdkgneilkaagreat", sum := "108a8dcfcd933dc2bd6d6dd91be146ae254b11b11a78ca2085fb390d3cd2bb4e", func := "wharf/wharflaw20.SockRoom", spec := "sockRoom", inPlace := ["sync/atomic.LoadInt64", "sync/atomic.CompareAndSwapInt64", "slices.overlaps[wharf/api.Route]"], unfollowed := true, recurses := true, plainKeys := false, apart := false, narrowed := true }
def SockRoomUptoSaid : Prop := sockRoomUptoRow.holds Tryz.pinned (OpenSpec.upto sockRoomSpec)

/-- 'wharflaw20.SockBegins', WHERE WHAT IT READS IS OF BULK AT MOST 1048576: true; the input reads as it did. -/
def sockBeginsUptoRow : OpenClaim := { program := "ytfiefdkgneilkaagreat", sum := "108a8dcfcd933dc2bd6d6dd91be146ae254b11b11a78ca2085fb390d3cd2bb4e", func := "wharf/wharflaw20.SockBegins", spec := "sockBegins", inPlace := ["sync/atomic.LoadInt64", "sync/atomic.CompareAndSwapInt64", "slices.overlaps[wharf/api.Route]"], unfollowed := true, recurses := true, plainKeys := false, apart := false, narrowed := true }
def SockBeginsUptoSaid : Prop := sockBeginsUptoRow.holds Tryz.pinned (OpenSpec.upto sockBeginsSpec)

/-- 'wharflaw20.SockOfNothing', WHERE WHAT IT READS IS OF BULK AT MOST 1048576: true; the input reads as it did. -/
def sockOfNothingUptoRow : OpenClaim := { program := "ytfiefdkgneilkaagreat", sum := "108a8dcfcd933dc2bd6d6dd91be146ae254b11b11a78ca2085fb390d3cd2bb4e", func := "wharf/wharflaw20.SockOfNothing", spec := "sockOfNothing", inPlace := ["sync/atomic.LoadInt64", "sync/atomic.CompareAndSwapInt64", "slices.overlaps[wharf/api.Route]"], unfollowed := true, recurses := true, plainKeys := false, apart := false, narrowed := true }
def SockOfNothingUptoSaid : Prop := sockOfNothingUptoRow.holds Tryz.pinned (OpenSpec.upto sockOfNothingSpec)

/-- 'wharflaw24.WorldCloses', WHERE WHAT IT READS IS OF BULK AT MOST 1048576: true; the input reads as it did. -/
def worldClosesUptoRow : OpenClaim := { program := "ytfiefdkgneilkaagreat", sum := "108a8dcfcd933dc2bd6d6dd91be146ae254b11b11a78ca2085fb390d3cd2bb4e", func := "wharf/wharflaw24.WorldCloses", spec := "worldCloses", inPlace := ["sync/atomic.LoadInt64", "sync/atomic.CompareAndSwapInt64", "slices.overlaps[wharf/api.Route]"], unfollowed := true, recurses := true, plainKeys := false, apart := false, narrowed := true }
def WorldClosesUptoSaid : Prop := worldClosesUptoRow.holds Tryz.pinned (OpenSpec.upto worldClosesSpec)

/-- 'wharflaw24.WorldMany', WHERE WHAT IT READS IS OF BULK AT MOST 1048576: true; the input reads as it did. -/
def worldManyUptoRow : OpenClaim := { program := "ytfiefdkgneilkaagreat", sum := "108a8dcfcd933dc2bd6d6dd91be146ae254b11b11a78ca2085fb390d3cd2bb4e", func := "wharf/wharflaw24.WorldMany", spec := "worldMany", inPlace := ["sync/atomic.LoadInt64", "sync/atomic.CompareAndSwapInt64", "slices.overlaps[wharf/api.Route]"], unfollowed := true, recurses := true, plainKeys := false, apart := false, narrowed := true }
def WorldManyUptoSaid : Prop := worldManyUptoRow.holds Tryz.pinned (OpenSpec.upto worldManySpec)

/-- 'wharflaw24.WorldNames', WHERE WHAT IT READS IS OF BULK AT MOST 1048576: true; the input reads as it did. -/
def worldNamesUptoRow : OpenClaim := { program := "ytfiefdkgneilkaagreat", sum := "108a8dcfcd933dc2bd6d6dd91be146ae254b11b11a78ca2085fb390d3cd2bb4e", func := "wharf/wharflaw24.WorldNames", spec := "worldNames", inPlace := ["sync/atomic.LoadInt64", "sync/atomic.CompareAndSwapInt64", "slices.overlaps[wharf/api.Route]"], unfollowed := true, recurses := true, plainKeys := false, apart := false, narrowed := true }
def WorldNamesUptoSaid : Prop := worldNamesUptoRow.holds Tryz.pinned (OpenSpec.upto worldNamesSpec)

/-- 'wharflaw24.WorldOfNothing', WHERE WHAT IT READS IS OF BULK AT MOST 1048576: true; the input reads as it did. -/
def worldOfNothingUptoRow : OpenClaim := { program := "ytfiefdkgneilkaagreat", sum := "108a8dcfcd933dc2bd6d6dd91be146ae254b11b11a78ca2085fb390d3cd2bb4e", func := "wharf/wharflaw24.WorldOfNothing", spec := "worldOfNothing", inPlace := ["sync/atomic.LoadInt64", "sync/atomic.CompareAndSwapInt64", "slices.overlaps[wharf/api.Route]"], unfollowed := true, recurses := true, plainKeys := false, apart := false, narrowed := true }
def WorldOfNothingUptoSaid : Prop := worldOfNothingUptoRow.holds Tryz.pinned (OpenSpec.upto worldOfNothingSpec)

end Rows
end Go.Proofs.YtfiefdkgneilkaaGreat
