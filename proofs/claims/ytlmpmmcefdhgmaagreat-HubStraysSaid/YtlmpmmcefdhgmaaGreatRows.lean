/-
  No cell of these rows narrows 'for every input' (looked for: loops, veiled, ifaces, maps, wideKeys, modest, calm, conditions, laid).
  DERIVED. THE GIVEN ROWS OF THIS SEAT. 4 by the template 'for every input the law returns true; each argument reads behind the call as it read before'; 0 by the template 'total and deterministic' (their statements: YtlmpmmcefdhgmaaGreatTotals.lean).
  GIVEN WITH THE SEED: the statements are not yours to turn. If you find one false, say at which input.
  Laid BY PROGRAM, IN A SANDBOX (cutbox-rows.mjs): the forced cells as the released guide's own fill.sh prints them over the translation 5bab884cd9fb12c6… (all of the seat's roots in one cut). By AI agents, Wed Nov 11 2026. No macro, syntax, notation, axiom, sorry.
-/
import Derived.Test.YtlmpmmcefdhgmaaGreatChecked
import GoSem.Claim
import GoSem.ClaimJoined
import GoSem.ClaimMapViews
import Derived.JoinedTies
import Derived.KernelRfl
namespace Go.Proofs.YtlmpmmcefdhgmaaGreat
/- THE CELL 'sum', in the pinned program and in every row, IS THE sha256 OF THE DUMP (.gsa) THAT YtlmpmmcefdhgmaaGreatProg.lean LOADS. Nothing in Lean hashes anything: it is a label: what it is worth is what the hold of that sum in a sandbox is worth. -/
noncomputable def Tryz.pinned : Pinned := { name := "ytlmpmmcefdhgmaagreat", sum := "5bab884cd9fb12c63cb2bd59933be957b53d60a3d292f81664ad29192c733270", checked := Tryz.checked }
namespace Rows
def none {H : Type} : Left H := { results := [], args := [] }

/-- 'wharflaw18.HubFloods': WHATEVER THE INPUT: true; the input reads as it did. -/
def hubFloodsSpec : ChangeSpec := { name := "hubFloods", fn := fun _ => fun
  | [d1, d2, d3] => { results := [.lit (.bool true)], args := [d1, d2, d3] }
  | _ => none }
def hubFloodsRow : OpenClaim := { program := "ytlmpmmcefdhgmaagreat", sum := "5bab884cd9fb12c63cb2bd59933be957b53d60a3d292f81664ad29192c733270", func := "wharf/wharflaw18.HubFloods", spec := "hubFloods", unfollowed := true, recurses := true, plainKeys := false, apart := false }
def HubFloodsSaid : Prop := hubFloodsRow.holds Tryz.pinned (OpenSpec.ofChange hubFloodsSpec)

/-- ITS FALSE NEIGHBOUR: 'it returns false'. Refute it at one input. -/
def hubFloodsWrong : ChangeSpec := { name := "hubFloods", fn := fun _ => fun
  | [d1, d2, d3] => { results := [.lit (.bool false)], args := [d1, d2, d3] }
  | _ => none }
def HubFloodsWrongFalsely : Prop := hubFloodsRow.holds Tryz.pinned (OpenSpec.ofChange hubFloodsWrong)

/-- 'wharflaw18.HubStrays': WHATEVER THE INPUT: true; the input reads as it did. -/
def hubStraysSpec : ChangeSpec := { name := "hubStrays", fn := fun _ => fun
  | [d] => { results := [.lit (.bool true)], args := [d] }
  | _ => none }
def hubStraysRow : OpenClaim := { program := "ytlmpmmcefdhgmaagreat", sum := "5bab884cd9fb12c63cb2bd59933be957b53d60a3d292f81664ad29192c733270", func := "wharf/wharflaw18.HubStrays", spec := "hubStrays", unfollowed := true, recurses := true, plainKeys := false, apart := false }
def HubStraysSaid : Prop := hubStraysRow.holds Tryz.pinned (OpenSpec.ofChange hubStraysSpec)

/-- ITS FALSE NEIGHBOUR: 'it returns false'. Refute it at one input. -/
def hubStraysWrong : ChangeSpec := { name := "hubStrays", fn := fun _ => fun
  | [d] => { results := [.lit (.bool false)], args := [d] }
  | _ => none }
def HubStraysWrongFalsely : Prop := hubStraysRow.holds Tryz.pinned (OpenSpec.ofChange hubStraysWrong)

/-- 'wharflaw18.HubPairs': WHATEVER THE INPUT: true; the input reads as it did. -/
def hubPairsSpec : ChangeSpec := { name := "hubPairs", fn := fun _ => fun
  | [d] => { results := [.lit (.bool true)], args := [d] }
  | _ => none }
def hubPairsRow : OpenClaim := { program := "ytlmpmmcefdhgmaagreat", sum := "5bab884cd9fb12c63cb2bd59933be957b53d60a3d292f81664ad29192c733270", func := "wharf/wharflaw18.HubPairs", spec := "hubPairs", unfollowed := true, recurses := true, plainKeys := false, apart := false }
def HubPairsSaid : Prop := hubPairsRow.holds Tryz.pinned (OpenSpec.ofChange hubPairsSpec)

/-- ITS FALSE NEIGHBOUR: 'it returns false'. Refute it at one input. -/
def hubPairsWrong : ChangeSpec := { name := "hubPairs", fn := fun _ => fun
  | [d] => { results := [.lit (.bool false)], args := [d] }
  | _ => none }
def HubPairsWrongFalsely : Prop := hubPairsRow.holds Tryz.pinned (OpenSpec.ofChange hubPairsWrong)

/-- 'wharflaw18.HubDeaf': WHATEVER THE INPUT: true; the input reads as it did. -/
def hubDeafSpec : ChangeSpec := { name := "hubDeaf", fn := fun _ => fun
  | [d1, d2] => { results := [.lit (.bool true)], args := [d1, d2] }
  | _ => none }
def hubDeafRow : OpenClaim := { program := "ytlmpmmcefdhgmaagreat", sum := "5bab884cd9fb12c63cb2bd59933be957b53d60a3d292f81664ad29192c733270", func := "wharf/wharflaw18.HubDeaf", spec := "hubDeaf", unfollowed := true, recurses := true, plainKeys := false, apart := false }
def HubDeafSaid : Prop := hubDeafRow.holds Tryz.pinned (OpenSpec.ofChange hubDeafSpec)

/-- ITS FALSE NEIGHBOUR: 'it returns false'. Refute it at one input. -/
def hubDeafWrong : ChangeSpec := { name := "hubDeaf", fn := fun _ => fun
  | [d1, d2] => { results := [.lit (.bool false)], args := [d1, d2] }
  | _ => none }
def HubDeafWrongFalsely : Prop := hubDeafRow.holds Tryz.pinned (OpenSpec.ofChange hubDeafWrong)

/- THE SECOND FORM. 'bulk': how many values and letters a reading holds, each counted each time it is reached (what is shared counts as often as it is met; a slice's spare places count too). A statement '..UptoSaid' is the law's where the arguments, and the package variables that the reading takes, are together of bulk at most 1048576: NARROWER than '..Said'. Prove '..Said' where nothing that the law and all that it calls make is longer than what came in: it says more and counts as full. Else prove '..UptoSaid'. A law counts once. -/
mutual
def uptoBulk {H : Type} : DataW H → Nat
  | .lit (.string bytes) => bytes.length + 1
  | .lit _ => 1
  | .nil => 1
  | .ptr d => uptoBulk d + 1
  | .slice elems spare => uptoBulkAll elems + uptoBulkAll spare + 1
  | .agg parts => uptoBulkAll parts + 1
  | .iface _ d => uptoBulk d + 1
  | .map entries => uptoBulkEntries entries + 1
  | .held _ => 1
def uptoBulkAll {H : Type} : List (DataW H) → Nat
  | [] => 0
  | d :: r => uptoBulk d + uptoBulkAll r
def uptoBulkEntries {H : Type} : List (Lit × DataW H) → Nat
  | [] => 0
  | x :: r => uptoBulkEntry x + uptoBulkEntries r
def uptoBulkEntry {H : Type} : Lit × DataW H → Nat
  | (.string bytes, d) => bytes.length + uptoBulk d + 1
  | (_, d) => uptoBulk d + 1
 end
def uptoSmall : (H : Type) → List (DataW H) → Bool := fun _ ds => decide (uptoBulkAll ds ≤ 1048576)
def OpenSpec.upto (s : _root_.Go.ChangeSpec) : _root_.Go.OpenSpec := { _root_.Go.OpenSpec.ofChange s with cond := some uptoSmall }

/-- 'wharflaw18.HubFloods', WHERE WHAT IT READS IS OF BULK AT MOST 1048576: true; the input reads as it did. -/
def hubFloodsUptoRow : OpenClaim := { program := "ytlmpmmcefdhgmaagreat", sum := "5bab884cd9fb12c63cb2bd59933be957b53d60a3d292f81664ad29192c733270", func := "wharf/wharflaw18.HubFloods", spec := "hubFloods", unfollowed := true, recurses := true, plainKeys := false, apart := false, narrowed := true }
def HubFloodsUptoSaid : Prop := hubFloodsUptoRow.holds Tryz.pinned (OpenSpec.upto hubFloodsSpec)

/-- 'wharflaw18.HubStrays', WHERE WHAT IT READS IS OF BULK AT MOST 1048576: true; the input reads as it did. -/
def hubStraysUptoRow : OpenClaim := { program := "ytlmpmmcefdhgmaagreat", sum := "5bab884cd9fb12c63cb2bd59933be957b53d60a3d292f81664ad29192c733270", func := "wharf/wharflaw18.HubStrays", spec := "hubStrays", unfollowed := true, recurses := true, plainKeys := false, apart := false, narrowed := true }
def HubStraysUptoSaid : Prop := hubStraysUptoRow.holds Tryz.pinned (OpenSpec.upto hubStraysSpec)

/-- 'wharflaw18.HubPairs', WHERE WHAT IT READS IS OF BULK AT MOST 1048576: true; the input reads as it did. -/
def hubPairsUptoRow : OpenClaim := { program := "ytlmpmmcefdhgmaagreat", sum := "5bab884cd9fb12c63cb2bd59933be957b53d60a3d292f81664ad29192c733270", func := "wharf/wharflaw18.HubPairs", spec := "hubPairs", unfollowed := true, recurses := true, plainKeys := false, apart := false, narrowed := true }
def HubPairsUptoSaid : Prop := hubPairsUptoRow.holds Tryz.pinned (OpenSpec.upto hubPairsSpec)

/-- 'wharflaw18.HubDeaf', WHERE WHAT IT READS IS OF BULK AT MOST 1048576: true; the input reads as it did. -/
def hubDeafUptoRow : OpenClaim := { program := "ytlmpmmcefdhgmaagreat", sum := "5bab884cd9fb12c63cb2bd59933be957b53d60a3d292f81664ad29192c733270", func := "wharf/wharflaw18.HubDeaf", spec := "hubDeaf", unfollowed := true, recurses := true, plainKeys := false, apart := false, narrowed := true }
def HubDeafUptoSaid : Prop := hubDeafUptoRow.holds Tryz.pinned (OpenSpec.upto hubDeafSpec)

end Rows
end Go.Proofs.YtlmpmmcefdhgmaaGreat
