/-
  No cell of these rows narrows 'for every input' (looked for: loops, veiled, ifaces, maps, wideKeys, modest, calm, conditions, laid).
  DERIVED. THE GIVEN ROWS OF THIS SEAT. 12 by the template 'for every input the law returns true; each argument reads behind the call as it read before'; 0 by the template 'total and deterministic' (their statements: YtegkplalnljgjaaTotals.lean).
  GIVEN WITH THE SEED: the statements are not yours to turn. If you find one false, say at which input.
  Laid BY PROGRAM, IN A SANDBOX (cutbox-rows.mjs): the forced cells as the released guide's own fill.sh prints them over the translation 897eaeb246160ab5… (all of the seat's roots in one cut). By AI agents, Wed Nov 11 2026. No macro, syntax, notation, axiom, sorry.
-/
import Derived.Test.YtegkplalnljgjaaChecked
import GoSem.Claim
import GoSem.ClaimJoined
import GoSem.ClaimMapViews
import Derived.JoinedTies
import Derived.KernelRfl
namespace Go.Proofs.Ytegkplalnljgjaa
/- THE CELL 'sum', in the pinned program and in every row, IS THE sha256 OF THE DUMP (.gsa) THAT YtegkplalnljgjaaProg.lean LOADS. Nothing in Lean hashes anything: it is a label: what it is worth is what the hold of that sum in a sandbox is worth. -/
noncomputable def Try.pinned : Pinned := { name := "ytegkplalnljgjaa", sum := "897eaeb246160ab55d66e5235cd1228e9c20769fda84ab2ba4246f7c5d64fbdb", checked := Try.checked }
namespace Rows
def none {H : Type} : Left H := { results := [], args := [] }

/-- 'laws.FnExactIsLaw': WHATEVER THE INPUT: true; the input reads as it did. -/
def fnExactIsLawSpec : ChangeSpec := { name := "fnExactIsLaw", fn := fun _ => fun
  | [d1, d2] => { results := [.lit (.bool true)], args := [d1, d2] }
  | _ => none }
def fnExactIsLawRow : OpenClaim := { program := "ytegkplalnljgjaa", sum := "897eaeb246160ab55d66e5235cd1228e9c20769fda84ab2ba4246f7c5d64fbdb", func := "loop.example/g00599/laws.FnExactIsLaw", spec := "fnExactIsLaw", apart := false }
def FnExactIsLawSaid : Prop := fnExactIsLawRow.holds Try.pinned (OpenSpec.ofChange fnExactIsLawSpec)

/-- ITS FALSE NEIGHBOUR: 'it returns false'. Refute it at one input. -/
def fnExactIsLawWrong : ChangeSpec := { name := "fnExactIsLaw", fn := fun _ => fun
  | [d1, d2] => { results := [.lit (.bool false)], args := [d1, d2] }
  | _ => none }
def FnExactIsLawWrongFalsely : Prop := fnExactIsLawRow.holds Try.pinned (OpenSpec.ofChange fnExactIsLawWrong)

/-- 'laws.FnExactIsLanding': WHATEVER THE INPUT: true; the input reads as it did. -/
def fnExactIsLandingSpec : ChangeSpec := { name := "fnExactIsLanding", fn := fun _ => fun
  | [d1, d2, d3] => { results := [.lit (.bool true)], args := [d1, d2, d3] }
  | _ => none }
def fnExactIsLandingRow : OpenClaim := { program := "ytegkplalnljgjaa", sum := "897eaeb246160ab55d66e5235cd1228e9c20769fda84ab2ba4246f7c5d64fbdb", func := "loop.example/g00599/laws.FnExactIsLanding", spec := "fnExactIsLanding", apart := false }
def FnExactIsLandingSaid : Prop := fnExactIsLandingRow.holds Try.pinned (OpenSpec.ofChange fnExactIsLandingSpec)

/-- ITS FALSE NEIGHBOUR: 'it returns false'. Refute it at one input. -/
def fnExactIsLandingWrong : ChangeSpec := { name := "fnExactIsLanding", fn := fun _ => fun
  | [d1, d2, d3] => { results := [.lit (.bool false)], args := [d1, d2, d3] }
  | _ => none }
def FnExactIsLandingWrongFalsely : Prop := fnExactIsLandingRow.holds Try.pinned (OpenSpec.ofChange fnExactIsLandingWrong)

/-- 'laws.FnStreams': WHATEVER THE INPUT: true; the input reads as it did. -/
def fnStreamsSpec : ChangeSpec := { name := "fnStreams", fn := fun _ => fun
  | [d] => { results := [.lit (.bool true)], args := [d] }
  | _ => none }
def fnStreamsRow : OpenClaim := { program := "ytegkplalnljgjaa", sum := "897eaeb246160ab55d66e5235cd1228e9c20769fda84ab2ba4246f7c5d64fbdb", func := "loop.example/g00599/laws.FnStreams", spec := "fnStreams", inPlace := ["slices.overlaps[int]"], apart := false }
def FnStreamsSaid : Prop := fnStreamsRow.holds Try.pinned (OpenSpec.ofChange fnStreamsSpec)

/-- ITS FALSE NEIGHBOUR: 'it returns false'. Refute it at one input. -/
def fnStreamsWrong : ChangeSpec := { name := "fnStreams", fn := fun _ => fun
  | [d] => { results := [.lit (.bool false)], args := [d] }
  | _ => none }
def FnStreamsWrongFalsely : Prop := fnStreamsRow.holds Try.pinned (OpenSpec.ofChange fnStreamsWrong)

/-- 'laws.FnExactAcceptSeq': WHATEVER THE INPUT: true; the input reads as it did. -/
def fnExactAcceptSeqSpec : ChangeSpec := { name := "fnExactAcceptSeq", fn := fun _ => fun
  | [d1, d2] => { results := [.lit (.bool true)], args := [d1, d2] }
  | _ => none }
def fnExactAcceptSeqRow : OpenClaim := { program := "ytegkplalnljgjaa", sum := "897eaeb246160ab55d66e5235cd1228e9c20769fda84ab2ba4246f7c5d64fbdb", func := "loop.example/g00599/laws.FnExactAcceptSeq", spec := "fnExactAcceptSeq", inPlace := ["slices.overlaps[int]"], apart := false }
def FnExactAcceptSeqSaid : Prop := fnExactAcceptSeqRow.holds Try.pinned (OpenSpec.ofChange fnExactAcceptSeqSpec)

/-- ITS FALSE NEIGHBOUR: 'it returns false'. Refute it at one input. -/
def fnExactAcceptSeqWrong : ChangeSpec := { name := "fnExactAcceptSeq", fn := fun _ => fun
  | [d1, d2] => { results := [.lit (.bool false)], args := [d1, d2] }
  | _ => none }
def FnExactAcceptSeqWrongFalsely : Prop := fnExactAcceptSeqRow.holds Try.pinned (OpenSpec.ofChange fnExactAcceptSeqWrong)

/-- 'laws.FnExactAcceptAll': WHATEVER THE INPUT: true; the input reads as it did. -/
def fnExactAcceptAllSpec : ChangeSpec := { name := "fnExactAcceptAll", fn := fun _ => fun
  | [d1, d2] => { results := [.lit (.bool true)], args := [d1, d2] }
  | _ => none }
def fnExactAcceptAllRow : OpenClaim := { program := "ytegkplalnljgjaa", sum := "897eaeb246160ab55d66e5235cd1228e9c20769fda84ab2ba4246f7c5d64fbdb", func := "loop.example/g00599/laws.FnExactAcceptAll", spec := "fnExactAcceptAll", inPlace := ["slices.overlaps[int]"], apart := false }
def FnExactAcceptAllSaid : Prop := fnExactAcceptAllRow.holds Try.pinned (OpenSpec.ofChange fnExactAcceptAllSpec)

/-- ITS FALSE NEIGHBOUR: 'it returns false'. Refute it at one input. -/
def fnExactAcceptAllWrong : ChangeSpec := { name := "fnExactAcceptAll", fn := fun _ => fun
  | [d1, d2] => { results := [.lit (.bool false)], args := [d1, d2] }
  | _ => none }
def FnExactAcceptAllWrongFalsely : Prop := fnExactAcceptAllRow.holds Try.pinned (OpenSpec.ofChange fnExactAcceptAllWrong)

/-- 'laws.FnExactLandingFor': WHATEVER THE INPUT: true; the input reads as it did. -/
def fnExactLandingForSpec : ChangeSpec := { name := "fnExactLandingFor", fn := fun _ => fun
  | [d1, d2, d3, d4] => { results := [.lit (.bool true)], args := [d1, d2, d3, d4] }
  | _ => none }
def fnExactLandingForRow : OpenClaim := { program := "ytegkplalnljgjaa", sum := "897eaeb246160ab55d66e5235cd1228e9c20769fda84ab2ba4246f7c5d64fbdb", func := "loop.example/g00599/laws.FnExactLandingFor", spec := "fnExactLandingFor", unfollowed := true, recurses := true, apart := false }
def FnExactLandingForSaid : Prop := fnExactLandingForRow.holds Try.pinned (OpenSpec.ofChange fnExactLandingForSpec)

/-- ITS FALSE NEIGHBOUR: 'it returns false'. Refute it at one input. -/
def fnExactLandingForWrong : ChangeSpec := { name := "fnExactLandingFor", fn := fun _ => fun
  | [d1, d2, d3, d4] => { results := [.lit (.bool false)], args := [d1, d2, d3, d4] }
  | _ => none }
def FnExactLandingForWrongFalsely : Prop := fnExactLandingForRow.holds Try.pinned (OpenSpec.ofChange fnExactLandingForWrong)

/-- 'laws.FnExactServedBy': WHATEVER THE INPUT: true; the input reads as it did. -/
def fnExactServedBySpec : ChangeSpec := { name := "fnExactServedBy", fn := fun _ => fun
  | [d1, d2, d3] => { results := [.lit (.bool true)], args := [d1, d2, d3] }
  | _ => none }
def fnExactServedByRow : OpenClaim := { program := "ytegkplalnljgjaa", sum := "897eaeb246160ab55d66e5235cd1228e9c20769fda84ab2ba4246f7c5d64fbdb", func := "loop.example/g00599/laws.FnExactServedBy", spec := "fnExactServedBy", unfollowed := true, recurses := true, apart := false }
def FnExactServedBySaid : Prop := fnExactServedByRow.holds Try.pinned (OpenSpec.ofChange fnExactServedBySpec)

/-- ITS FALSE NEIGHBOUR: 'it returns false'. Refute it at one input. -/
def fnExactServedByWrong : ChangeSpec := { name := "fnExactServedBy", fn := fun _ => fun
  | [d1, d2, d3] => { results := [.lit (.bool false)], args := [d1, d2, d3] }
  | _ => none }
def FnExactServedByWrongFalsely : Prop := fnExactServedByRow.holds Try.pinned (OpenSpec.ofChange fnExactServedByWrong)

/-- 'laws.FnExactLawfulFlows': WHATEVER THE INPUT: true; the input reads as it did. -/
def fnExactLawfulFlowsSpec : ChangeSpec := { name := "fnExactLawfulFlows", fn := fun _ => fun
  | [d1, d2, d3] => { results := [.lit (.bool true)], args := [d1, d2, d3] }
  | _ => none }
def fnExactLawfulFlowsRow : OpenClaim := { program := "ytegkplalnljgjaa", sum := "897eaeb246160ab55d66e5235cd1228e9c20769fda84ab2ba4246f7c5d64fbdb", func := "loop.example/g00599/laws.FnExactLawfulFlows", spec := "fnExactLawfulFlows", apart := false }
def FnExactLawfulFlowsSaid : Prop := fnExactLawfulFlowsRow.holds Try.pinned (OpenSpec.ofChange fnExactLawfulFlowsSpec)

/-- ITS FALSE NEIGHBOUR: 'it returns false'. Refute it at one input. -/
def fnExactLawfulFlowsWrong : ChangeSpec := { name := "fnExactLawfulFlows", fn := fun _ => fun
  | [d1, d2, d3] => { results := [.lit (.bool false)], args := [d1, d2, d3] }
  | _ => none }
def FnExactLawfulFlowsWrongFalsely : Prop := fnExactLawfulFlowsRow.holds Try.pinned (OpenSpec.ofChange fnExactLawfulFlowsWrong)

/-- 'laws.FnBorders': WHATEVER THE INPUT: true; the input reads as it did. -/
def fnBordersSpec : ChangeSpec := { name := "fnBorders", fn := fun _ => fun
  | [d] => { results := [.lit (.bool true)], args := [d] }
  | _ => none }
def fnBordersRow : OpenClaim := { program := "ytegkplalnljgjaa", sum := "897eaeb246160ab55d66e5235cd1228e9c20769fda84ab2ba4246f7c5d64fbdb", func := "loop.example/g00599/laws.FnBorders", spec := "fnBorders", unfollowed := true, recurses := true, apart := false }
def FnBordersSaid : Prop := fnBordersRow.holds Try.pinned (OpenSpec.ofChange fnBordersSpec)

/-- ITS FALSE NEIGHBOUR: 'it returns false'. Refute it at one input. -/
def fnBordersWrong : ChangeSpec := { name := "fnBorders", fn := fun _ => fun
  | [d] => { results := [.lit (.bool false)], args := [d] }
  | _ => none }
def FnBordersWrongFalsely : Prop := fnBordersRow.holds Try.pinned (OpenSpec.ofChange fnBordersWrong)

/-- 'laws.FnExactRouteIn': WHATEVER THE INPUT: true; the input reads as it did. -/
def fnExactRouteInSpec : ChangeSpec := { name := "fnExactRouteIn", fn := fun _ => fun
  | [d1, d2, d3] => { results := [.lit (.bool true)], args := [d1, d2, d3] }
  | _ => none }
def fnExactRouteInRow : OpenClaim := { program := "ytegkplalnljgjaa", sum := "897eaeb246160ab55d66e5235cd1228e9c20769fda84ab2ba4246f7c5d64fbdb", func := "loop.example/g00599/laws.FnExactRouteIn", spec := "fnExactRouteIn", apart := false }
def FnExactRouteInSaid : Prop := fnExactRouteInRow.holds Try.pinned (OpenSpec.ofChange fnExactRouteInSpec)

/-- ITS FALSE NEIGHBOUR: 'it returns false'. Refute it at one input. -/
def fnExactRouteInWrong : ChangeSpec := { name := "fnExactRouteIn", fn := fun _ => fun
  | [d1, d2, d3] => { results := [.lit (.bool false)], args := [d1, d2, d3] }
  | _ => none }
def FnExactRouteInWrongFalsely : Prop := fnExactRouteInRow.holds Try.pinned (OpenSpec.ofChange fnExactRouteInWrong)

/-- 'laws.FnExactReservedOn': WHATEVER THE INPUT: true; the input reads as it did. -/
def fnExactReservedOnSpec : ChangeSpec := { name := "fnExactReservedOn", fn := fun _ => fun
  | [d1, d2, d3, d4, d5] => { results := [.lit (.bool true)], args := [d1, d2, d3, d4, d5] }
  | _ => none }
def fnExactReservedOnRow : OpenClaim := { program := "ytegkplalnljgjaa", sum := "897eaeb246160ab55d66e5235cd1228e9c20769fda84ab2ba4246f7c5d64fbdb", func := "loop.example/g00599/laws.FnExactReservedOn", spec := "fnExactReservedOn", apart := false }
def FnExactReservedOnSaid : Prop := fnExactReservedOnRow.holds Try.pinned (OpenSpec.ofChange fnExactReservedOnSpec)

/-- ITS FALSE NEIGHBOUR: 'it returns false'. Refute it at one input. -/
def fnExactReservedOnWrong : ChangeSpec := { name := "fnExactReservedOn", fn := fun _ => fun
  | [d1, d2, d3, d4, d5] => { results := [.lit (.bool false)], args := [d1, d2, d3, d4, d5] }
  | _ => none }
def FnExactReservedOnWrongFalsely : Prop := fnExactReservedOnRow.holds Try.pinned (OpenSpec.ofChange fnExactReservedOnWrong)

/-- 'laws.FnExactHasRoom': WHATEVER THE INPUT: true; the input reads as it did. -/
def fnExactHasRoomSpec : ChangeSpec := { name := "fnExactHasRoom", fn := fun _ => fun
  | [d1, d2, d3, d4] => { results := [.lit (.bool true)], args := [d1, d2, d3, d4] }
  | _ => none }
def fnExactHasRoomRow : OpenClaim := { program := "ytegkplalnljgjaa", sum := "897eaeb246160ab55d66e5235cd1228e9c20769fda84ab2ba4246f7c5d64fbdb", func := "loop.example/g00599/laws.FnExactHasRoom", spec := "fnExactHasRoom", apart := false }
def FnExactHasRoomSaid : Prop := fnExactHasRoomRow.holds Try.pinned (OpenSpec.ofChange fnExactHasRoomSpec)

/-- ITS FALSE NEIGHBOUR: 'it returns false'. Refute it at one input. -/
def fnExactHasRoomWrong : ChangeSpec := { name := "fnExactHasRoom", fn := fun _ => fun
  | [d1, d2, d3, d4] => { results := [.lit (.bool false)], args := [d1, d2, d3, d4] }
  | _ => none }
def FnExactHasRoomWrongFalsely : Prop := fnExactHasRoomRow.holds Try.pinned (OpenSpec.ofChange fnExactHasRoomWrong)

/- THE SECOND FORM. 'bulk': how many values and letters a reading holds, each counted each time it is reached (what is shared counts as often as it is met; a slice's spare places count too). A statement '..UptoSaid' is the law's where the arguments, and the package variables that the reading takes, are together of bulk at most 1048576: NARROWER than '..Said'. Prove '..Said' where nothing that the law and all that it calls make is longer than what came in: it says more and counts as full. Else prove '..UptoSaid'. A law counts once. -/
mutual
def uptoBulk {H : Type} : DataW H → Nat
  | .lit (.string bytes) => bytes.length + 1
  | .lit _ => 1
  | .nil => 1
  | .ptr d => uptoBulk d + 1
  | .slice elems spare => uptoBulkAll elems + uptoBulkAll spare + 1
  | .agg parts => uptoBulkAll parts + 1
  | .iface _ d => uptoBulk d + 1
  | .map entries => uptoBulkEntries entries + 1
  | .held _ => 1
def uptoBulkAll {H : Type} : List (DataW H) → Nat
  | [] => 0
  | d :: r => uptoBulk d + uptoBulkAll r
def uptoBulkEntries {H : Type} : List (Lit × DataW H) → Nat
  | [] => 0
  | x :: r => uptoBulkEntry x + uptoBulkEntries r
def uptoBulkEntry {H : Type} : Lit × DataW H → Nat
  | (.string bytes, d) => bytes.length + uptoBulk d + 1
  | (_, d) => uptoBulk d + 1
 end
def uptoSmall : (H : Type) → List (DataW H) → Bool := fun _ ds => decide (uptoBulkAll ds ≤ 1048576)
def OpenSpec.upto (s : _root_.Go.ChangeSpec) : _root_.Go.OpenSpec := { _root_.Go.OpenSpec.ofChange s with cond := some uptoSmall }

/-- 'laws.FnExactIsLaw', WHERE WHAT IT READS IS OF BULK AT MOST 1048576: true; the input reads as it did. -/
def fnExactIsLawUptoRow : OpenClaim := { program := "ytegkplalnljgjaa", sum := "897eaeb246160ab55d66e5235cd1228e9c20769fda84ab2ba4246f7c5d64fbdb", func := "loop.example/g00599/laws.FnExactIsLaw", spec := "fnExactIsLaw", apart := false, narrowed := true }
def FnExactIsLawUptoSaid : Prop := fnExactIsLawUptoRow.holds Try.pinned (OpenSpec.upto fnExactIsLawSpec)

/-- 'laws.FnExactIsLanding', WHERE WHAT IT READS IS OF BULK AT MOST 1048576: true; the input reads as it did. -/
def fnExactIsLandingUptoRow : OpenClaim := { program := "ytegkplalnljgjaa", sum := "897eaeb246160ab55d66e5235cd1228e9c20769fda84ab2ba4246f7c5d64fbdb", func := "loop.example/g00599/laws.FnExactIsLanding", spec := "fnExactIsLanding", apart := false, narrowed := true }
def FnExactIsLandingUptoSaid : Prop := fnExactIsLandingUptoRow.holds Try.pinned (OpenSpec.upto fnExactIsLandingSpec)

/-- 'laws.FnStreams', WHERE WHAT IT READS IS OF BULK AT MOST 1048576: true; the input reads as it did. -/
def fnStreamsUptoRow : OpenClaim := { program := "ytegkplalnljgjaa", sum := "897eaeb246160ab55d66e5235cd1228e9c20769fda84ab2ba4246f7c5d64fbdb", func := "loop.example/g00599/laws.FnStreams", spec := "fnStreams", inPlace := ["slices.overlaps[int]"], apart := false, narrowed := true }
def FnStreamsUptoSaid : Prop := fnStreamsUptoRow.holds Try.pinned (OpenSpec.upto fnStreamsSpec)

/-- 'laws.FnExactAcceptSeq', WHERE WHAT IT READS IS OF BULK AT MOST 1048576: true; the input reads as it did. -/
def fnExactAcceptSeqUptoRow : OpenClaim := { program := "ytegkplalnljgjaa", sum := "897eaeb246160ab55d66e5235cd1228e9c20769fda84ab2ba4246f7c5d64fbdb", func := "loop.example/g00599/laws.FnExactAcceptSeq", spec := "fnExactAcceptSeq", inPlace := ["slices.overlaps[int]"], apart := false, narrowed := true }
def FnExactAcceptSeqUptoSaid : Prop := fnExactAcceptSeqUptoRow.holds Try.pinned (OpenSpec.upto fnExactAcceptSeqSpec)

/-- 'laws.FnExactAcceptAll', WHERE WHAT IT READS IS OF BULK AT MOST 1048576: true; the input reads as it did. -/
def fnExactAcceptAllUptoRow : OpenClaim := { program := "ytegkplalnljgjaa", sum := "897eaeb246160ab55d66e5235cd1228e9c20769fda84ab2ba4246f7c5d64fbdb", func := "loop.example/g00599/laws.FnExactAcceptAll", spec := "fnExactAcceptAll", inPlace := ["slices.overlaps[int]"], apart := false, narrowed := true }
def FnExactAcceptAllUptoSaid : Prop := fnExactAcceptAllUptoRow.holds Try.pinned (OpenSpec.upto fnExactAcceptAllSpec)

/-- 'laws.FnExactLandingFor', WHERE WHAT IT READS IS OF BULK AT MOST 1048576: true; the input reads as it did. -/
def fnExactLandingForUptoRow : OpenClaim := { program := "ytegkplalnljgjaa", sum := "897eaeb246160ab55d66e5235cd1228e9c20769fda84ab2ba4246f7c5d64fbdb", func := "loop.example/g00599/laws.FnExactLandingFor", spec := "fnExactLandingFor", unfollowed := true, recurses := true, apart := false, narrowed := true }
def FnExactLandingForUptoSaid : Prop := fnExactLandingForUptoRow.holds Try.pinned (OpenSpec.upto fnExactLandingForSpec)

/-- 'laws.FnExactServedBy', WHERE WHAT IT READS IS OF BULK AT MOST 1048576: true; the input reads as it did. -/
def fnExactServedByUptoRow : OpenClaim := { program := "ytegkplalnljgjaa", sum := "897eaeb246160ab55d66e5235cd1228e9c20769fda84ab2ba4246f7c5d64fbdb", func := "loop.example/g00599/laws.FnExactServedBy", spec := "fnExactServedBy", unfollowed := true, recurses := true, apart := false, narrowed := true }
def FnExactServedByUptoSaid : Prop := fnExactServedByUptoRow.holds Try.pinned (OpenSpec.upto fnExactServedBySpec)

/-- 'laws.FnExactLawfulFlows', WHERE WHAT IT READS IS OF BULK AT MOST 1048576: true; the input reads as it did. -/
def fnExactLawfulFlowsUptoRow : OpenClaim := { program := "ytegkplalnljgjaa", sum := "897eaeb246160ab55d66e5235cd1228e9c20769fda84ab2ba4246f7c5d64fbdb", func := "loop.example/g00599/laws.FnExactLawfulFlows", spec := "fnExactLawfulFlows", apart := false, narrowed := true }
def FnExactLawfulFlowsUptoSaid : Prop := fnExactLawfulFlowsUptoRow.holds Try.pinned (OpenSpec.upto fnExactLawfulFlowsSpec)

/-- 'laws.FnBorders', WHERE WHAT IT READS IS OF BULK AT MOST 1048576: true; the input reads as it did. -/
def fnBordersUptoRow : OpenClaim := { program := "ytegkplalnljgjaa", sum := "897eaeb246160ab55d66e5235cd1228e9c20769fda84ab2ba4246f7c5d64fbdb", func := "loop.example/g00599/laws.FnBorders", spec := "fnBorders", unfollowed := true, recurses := true, apart := false, narrowed := true }
def FnBordersUptoSaid : Prop := fnBordersUptoRow.holds Try.pinned (OpenSpec.upto fnBordersSpec)

/-- 'laws.FnExactRouteIn', WHERE WHAT IT READS IS OF BULK AT MOST 1048576: true; the input reads as it did. -/
def fnExactRouteInUptoRow : OpenClaim := { program := "ytegkplalnljgjaa", sum := "897eaeb246160ab55d66e5235cd1228e9c20769fda84ab2ba4246f7c5d64fbdb", func := "loop.example/g00599/laws.FnExactRouteIn", spec := "fnExactRouteIn", apart := false, narrowed := true }
def FnExactRouteInUptoSaid : Prop := fnExactRouteInUptoRow.holds Try.pinned (OpenSpec.upto fnExactRouteInSpec)

/-- 'laws.FnExactReservedOn', WHERE WHAT IT READS IS OF BULK AT MOST 1048576: true; the input reads as it did. -/
def fnExactReservedOnUptoRow : OpenClaim := { program := "ytegkplalnljgjaa", sum := "897eaeb246160ab55d66e5235cd1228e9c20769fda84ab2ba4246f7c5d64fbdb", func := "loop.example/g00599/laws.FnExactReservedOn", spec := "fnExactReservedOn", apart := false, narrowed := true }
def FnExactReservedOnUptoSaid : Prop := fnExactReservedOnUptoRow.holds Try.pinned (OpenSpec.upto fnExactReservedOnSpec)

/-- 'laws.FnExactHasRoom', WHERE WHAT IT READS IS OF BULK AT MOST 1048576: true; the input reads as it did. -/
def fnExactHasRoomUptoRow : OpenClaim := { program := "ytegkplalnljgjaa", sum := "897eaeb246160ab55d66e5235cd1228e9c20769fda84ab2ba4246f7c5d64fbdb", func := "loop.example/g00599/laws.FnExactHasRoom", spec := "fnExactHasRoom", apart := false, narrowed := true }
def FnExactHasRoomUptoSaid : Prop := fnExactHasRoomUptoRow.holds Try.pinned (OpenSpec.upto fnExactHasRoomSpec)

end Rows
end Go.Proofs.Ytegkplalnljgjaa
