/-
  No cell of these rows narrows 'for every input' (looked for: loops, veiled, ifaces, maps, wideKeys, modest, calm, conditions, laid).
  DERIVED. THE GIVEN ROWS OF THIS SEAT. 12 by the template 'for every input the law returns true; each argument reads behind the call as it read before'; 0 by the template 'total and deterministic' (their statements: YtindlpkkapelhaaTotals.lean).
  GIVEN WITH THE SEED: the statements are not yours to turn. If you find one false, say at which input.
  Laid BY PROGRAM, IN A SANDBOX (cutbox-rows.mjs): the forced cells as the released guide's own fill.sh prints them over the translation c9d911dd9dbd7b02… (all of the seat's roots in one cut). By AI agents, Wed Nov 11 2026. No macro, syntax, notation, axiom, sorry.
-/
import Derived.Test.YtindlpkkapelhaaChecked
import GoSem.Claim
import GoSem.ClaimJoined
import GoSem.ClaimMapViews
import Derived.JoinedTies
import Derived.KernelRfl
namespace Go.Proofs.Ytindlpkkapelhaa
/- THE CELL 'sum', in the pinned program and in every row, IS THE sha256 OF THE DUMP (.gsa) THAT YtindlpkkapelhaaProg.lean LOADS. Nothing in Lean hashes anything: it is a label: what it is worth is what the hold of that sum in a sandbox is worth. -/
noncomputable def Try.pinned : Pinned := { name := "ytindlpkkapelhaa", sum := "c9d911dd9dbd7b02331ab5ec9f9914844a9e7b2946554f9a4163029a8c08d546", checked := Try.checked }
namespace Rows
def none {H : Type} : Left H := { results := [], args := [] }

/-- 'laws.FnExactLinksDown': WHATEVER THE INPUT: true; the input reads as it did. -/
def fnExactLinksDownSpec : ChangeSpec := { name := "fnExactLinksDown", fn := fun _ => fun
  | [d1, d2, d3] => { results := [.lit (.bool true)], args := [d1, d2, d3] }
  | _ => none }
def fnExactLinksDownRow : OpenClaim := { program := "ytindlpkkapelhaa", sum := "c9d911dd9dbd7b02331ab5ec9f9914844a9e7b2946554f9a4163029a8c08d546", func := "loop.example/g00599/laws.FnExactLinksDown", spec := "fnExactLinksDown", apart := false }
def FnExactLinksDownSaid : Prop := fnExactLinksDownRow.holds Try.pinned (OpenSpec.ofChange fnExactLinksDownSpec)

/-- ITS FALSE NEIGHBOUR: 'it returns false'. Refute it at one input. -/
def fnExactLinksDownWrong : ChangeSpec := { name := "fnExactLinksDown", fn := fun _ => fun
  | [d1, d2, d3] => { results := [.lit (.bool false)], args := [d1, d2, d3] }
  | _ => none }
def FnExactLinksDownWrongFalsely : Prop := fnExactLinksDownRow.holds Try.pinned (OpenSpec.ofChange fnExactLinksDownWrong)

/-- 'laws.FnExactLendParts': WHATEVER THE INPUT: true; the input reads as it did. -/
def fnExactLendPartsSpec : ChangeSpec := { name := "fnExactLendParts", fn := fun _ => fun
  | [d1, d2, d3, d4] => { results := [.lit (.bool true)], args := [d1, d2, d3, d4] }
  | _ => none }
def fnExactLendPartsRow : OpenClaim := { program := "ytindlpkkapelhaa", sum := "c9d911dd9dbd7b02331ab5ec9f9914844a9e7b2946554f9a4163029a8c08d546", func := "loop.example/g00599/laws.FnExactLendParts", spec := "fnExactLendParts", apart := false }
def FnExactLendPartsSaid : Prop := fnExactLendPartsRow.holds Try.pinned (OpenSpec.ofChange fnExactLendPartsSpec)

/-- ITS FALSE NEIGHBOUR: 'it returns false'. Refute it at one input. -/
def fnExactLendPartsWrong : ChangeSpec := { name := "fnExactLendParts", fn := fun _ => fun
  | [d1, d2, d3, d4] => { results := [.lit (.bool false)], args := [d1, d2, d3, d4] }
  | _ => none }
def FnExactLendPartsWrongFalsely : Prop := fnExactLendPartsRow.holds Try.pinned (OpenSpec.ofChange fnExactLendPartsWrong)

/-- 'laws.FnExactCountDown': WHATEVER THE INPUT: true; the input reads as it did. -/
def fnExactCountDownSpec : ChangeSpec := { name := "fnExactCountDown", fn := fun _ => fun
  | [d1, d2, d3] => { results := [.lit (.bool true)], args := [d1, d2, d3] }
  | _ => none }
def fnExactCountDownRow : OpenClaim := { program := "ytindlpkkapelhaa", sum := "c9d911dd9dbd7b02331ab5ec9f9914844a9e7b2946554f9a4163029a8c08d546", func := "loop.example/g00599/laws.FnExactCountDown", spec := "fnExactCountDown", apart := false }
def FnExactCountDownSaid : Prop := fnExactCountDownRow.holds Try.pinned (OpenSpec.ofChange fnExactCountDownSpec)

/-- ITS FALSE NEIGHBOUR: 'it returns false'. Refute it at one input. -/
def fnExactCountDownWrong : ChangeSpec := { name := "fnExactCountDown", fn := fun _ => fun
  | [d1, d2, d3] => { results := [.lit (.bool false)], args := [d1, d2, d3] }
  | _ => none }
def FnExactCountDownWrongFalsely : Prop := fnExactCountDownRow.holds Try.pinned (OpenSpec.ofChange fnExactCountDownWrong)

/-- 'laws.FnExactDeadFor': WHATEVER THE INPUT: true; the input reads as it did. -/
def fnExactDeadForSpec : ChangeSpec := { name := "fnExactDeadFor", fn := fun _ => fun
  | [d1, d2, d3, d4] => { results := [.lit (.bool true)], args := [d1, d2, d3, d4] }
  | _ => none }
def fnExactDeadForRow : OpenClaim := { program := "ytindlpkkapelhaa", sum := "c9d911dd9dbd7b02331ab5ec9f9914844a9e7b2946554f9a4163029a8c08d546", func := "loop.example/g00599/laws.FnExactDeadFor", spec := "fnExactDeadFor", apart := false }
def FnExactDeadForSaid : Prop := fnExactDeadForRow.holds Try.pinned (OpenSpec.ofChange fnExactDeadForSpec)

/-- ITS FALSE NEIGHBOUR: 'it returns false'. Refute it at one input. -/
def fnExactDeadForWrong : ChangeSpec := { name := "fnExactDeadFor", fn := fun _ => fun
  | [d1, d2, d3, d4] => { results := [.lit (.bool false)], args := [d1, d2, d3, d4] }
  | _ => none }
def FnExactDeadForWrongFalsely : Prop := fnExactDeadForRow.holds Try.pinned (OpenSpec.ofChange fnExactDeadForWrong)

/-- 'laws.FnExactIsSmooth': WHATEVER THE INPUT: true; the input reads as it did. -/
def fnExactIsSmoothSpec : ChangeSpec := { name := "fnExactIsSmooth", fn := fun _ => fun
  | [d] => { results := [.lit (.bool true)], args := [d] }
  | _ => none }
def fnExactIsSmoothRow : OpenClaim := { program := "ytindlpkkapelhaa", sum := "c9d911dd9dbd7b02331ab5ec9f9914844a9e7b2946554f9a4163029a8c08d546", func := "loop.example/g00599/laws.FnExactIsSmooth", spec := "fnExactIsSmooth", unfollowed := true, recurses := true, apart := false }
def FnExactIsSmoothSaid : Prop := fnExactIsSmoothRow.holds Try.pinned (OpenSpec.ofChange fnExactIsSmoothSpec)

/-- ITS FALSE NEIGHBOUR: 'it returns false'. Refute it at one input. -/
def fnExactIsSmoothWrong : ChangeSpec := { name := "fnExactIsSmooth", fn := fun _ => fun
  | [d] => { results := [.lit (.bool false)], args := [d] }
  | _ => none }
def FnExactIsSmoothWrongFalsely : Prop := fnExactIsSmoothRow.holds Try.pinned (OpenSpec.ofChange fnExactIsSmoothWrong)

/-- 'laws.FnExactPushPacket': WHATEVER THE INPUT: true; the input reads as it did. -/
def fnExactPushPacketSpec : ChangeSpec := { name := "fnExactPushPacket", fn := fun _ => fun
  | [d1, d2] => { results := [.lit (.bool true)], args := [d1, d2] }
  | _ => none }
def fnExactPushPacketRow : OpenClaim := { program := "ytindlpkkapelhaa", sum := "c9d911dd9dbd7b02331ab5ec9f9914844a9e7b2946554f9a4163029a8c08d546", func := "loop.example/g00599/laws.FnExactPushPacket", spec := "fnExactPushPacket", unfollowed := true, recurses := true, apart := false }
def FnExactPushPacketSaid : Prop := fnExactPushPacketRow.holds Try.pinned (OpenSpec.ofChange fnExactPushPacketSpec)

/-- ITS FALSE NEIGHBOUR: 'it returns false'. Refute it at one input. -/
def fnExactPushPacketWrong : ChangeSpec := { name := "fnExactPushPacket", fn := fun _ => fun
  | [d1, d2] => { results := [.lit (.bool false)], args := [d1, d2] }
  | _ => none }
def FnExactPushPacketWrongFalsely : Prop := fnExactPushPacketRow.holds Try.pinned (OpenSpec.ofChange fnExactPushPacketWrong)

/-- 'laws.FnExactShareOf': WHATEVER THE INPUT: true; the input reads as it did. -/
def fnExactShareOfSpec : ChangeSpec := { name := "fnExactShareOf", fn := fun _ => fun
  | [d1, d2, d3] => { results := [.lit (.bool true)], args := [d1, d2, d3] }
  | _ => none }
def fnExactShareOfRow : OpenClaim := { program := "ytindlpkkapelhaa", sum := "c9d911dd9dbd7b02331ab5ec9f9914844a9e7b2946554f9a4163029a8c08d546", func := "loop.example/g00599/laws.FnExactShareOf", spec := "fnExactShareOf", unfollowed := true, recurses := true, apart := false }
def FnExactShareOfSaid : Prop := fnExactShareOfRow.holds Try.pinned (OpenSpec.ofChange fnExactShareOfSpec)

/-- ITS FALSE NEIGHBOUR: 'it returns false'. Refute it at one input. -/
def fnExactShareOfWrong : ChangeSpec := { name := "fnExactShareOf", fn := fun _ => fun
  | [d1, d2, d3] => { results := [.lit (.bool false)], args := [d1, d2, d3] }
  | _ => none }
def FnExactShareOfWrongFalsely : Prop := fnExactShareOfRow.holds Try.pinned (OpenSpec.ofChange fnExactShareOfWrong)

/-- 'laws.FnExactSplitTotal': WHATEVER THE INPUT: true; the input reads as it did. -/
def fnExactSplitTotalSpec : ChangeSpec := { name := "fnExactSplitTotal", fn := fun _ => fun
  | [d1, d2] => { results := [.lit (.bool true)], args := [d1, d2] }
  | _ => none }
def fnExactSplitTotalRow : OpenClaim := { program := "ytindlpkkapelhaa", sum := "c9d911dd9dbd7b02331ab5ec9f9914844a9e7b2946554f9a4163029a8c08d546", func := "loop.example/g00599/laws.FnExactSplitTotal", spec := "fnExactSplitTotal", unfollowed := true, recurses := true, apart := false }
def FnExactSplitTotalSaid : Prop := fnExactSplitTotalRow.holds Try.pinned (OpenSpec.ofChange fnExactSplitTotalSpec)

/-- ITS FALSE NEIGHBOUR: 'it returns false'. Refute it at one input. -/
def fnExactSplitTotalWrong : ChangeSpec := { name := "fnExactSplitTotal", fn := fun _ => fun
  | [d1, d2] => { results := [.lit (.bool false)], args := [d1, d2] }
  | _ => none }
def FnExactSplitTotalWrongFalsely : Prop := fnExactSplitTotalRow.holds Try.pinned (OpenSpec.ofChange fnExactSplitTotalWrong)

/-- 'laws.FnExactIsWithin': WHATEVER THE INPUT: true; the input reads as it did. -/
def fnExactIsWithinSpec : ChangeSpec := { name := "fnExactIsWithin", fn := fun _ => fun
  | [d1, d2, d3] => { results := [.lit (.bool true)], args := [d1, d2, d3] }
  | _ => none }
def fnExactIsWithinRow : OpenClaim := { program := "ytindlpkkapelhaa", sum := "c9d911dd9dbd7b02331ab5ec9f9914844a9e7b2946554f9a4163029a8c08d546", func := "loop.example/g00599/laws.FnExactIsWithin", spec := "fnExactIsWithin", unfollowed := true, recurses := true, apart := false }
def FnExactIsWithinSaid : Prop := fnExactIsWithinRow.holds Try.pinned (OpenSpec.ofChange fnExactIsWithinSpec)

/-- ITS FALSE NEIGHBOUR: 'it returns false'. Refute it at one input. -/
def fnExactIsWithinWrong : ChangeSpec := { name := "fnExactIsWithin", fn := fun _ => fun
  | [d1, d2, d3] => { results := [.lit (.bool false)], args := [d1, d2, d3] }
  | _ => none }
def FnExactIsWithinWrongFalsely : Prop := fnExactIsWithinRow.holds Try.pinned (OpenSpec.ofChange fnExactIsWithinWrong)

/-- 'laws.FnFaults': WHATEVER THE INPUT: true; the input reads as it did. -/
def fnFaultsSpec : ChangeSpec := { name := "fnFaults", fn := fun _ => fun
  | [d] => { results := [.lit (.bool true)], args := [d] }
  | _ => none }
def fnFaultsRow : OpenClaim := { program := "ytindlpkkapelhaa", sum := "c9d911dd9dbd7b02331ab5ec9f9914844a9e7b2946554f9a4163029a8c08d546", func := "loop.example/g00599/laws.FnFaults", spec := "fnFaults", apart := false }
def FnFaultsSaid : Prop := fnFaultsRow.holds Try.pinned (OpenSpec.ofChange fnFaultsSpec)

/-- ITS FALSE NEIGHBOUR: 'it returns false'. Refute it at one input. -/
def fnFaultsWrong : ChangeSpec := { name := "fnFaults", fn := fun _ => fun
  | [d] => { results := [.lit (.bool false)], args := [d] }
  | _ => none }
def FnFaultsWrongFalsely : Prop := fnFaultsRow.holds Try.pinned (OpenSpec.ofChange fnFaultsWrong)

/-- 'laws.FnShared': WHATEVER THE INPUT: true; the input reads as it did. -/
def fnSharedSpec : ChangeSpec := { name := "fnShared", fn := fun _ => fun
  | [d] => { results := [.lit (.bool true)], args := [d] }
  | _ => none }
def fnSharedRow : OpenClaim := { program := "ytindlpkkapelhaa", sum := "c9d911dd9dbd7b02331ab5ec9f9914844a9e7b2946554f9a4163029a8c08d546", func := "loop.example/g00599/laws.FnShared", spec := "fnShared", unfollowed := true, recurses := true, apart := false }
def FnSharedSaid : Prop := fnSharedRow.holds Try.pinned (OpenSpec.ofChange fnSharedSpec)

/-- ITS FALSE NEIGHBOUR: 'it returns false'. Refute it at one input. -/
def fnSharedWrong : ChangeSpec := { name := "fnShared", fn := fun _ => fun
  | [d] => { results := [.lit (.bool false)], args := [d] }
  | _ => none }
def FnSharedWrongFalsely : Prop := fnSharedRow.holds Try.pinned (OpenSpec.ofChange fnSharedWrong)

/-- 'laws.FnExactExampleSky': WHATEVER THE INPUT: true; the input reads as it did. -/
def fnExactExampleSkySpec : ChangeSpec := { name := "fnExactExampleSky", fn := fun _ => fun
  | [d] => { results := [.lit (.bool true)], args := [d] }
  | _ => none }
def fnExactExampleSkyRow : OpenClaim := { program := "ytindlpkkapelhaa", sum := "c9d911dd9dbd7b02331ab5ec9f9914844a9e7b2946554f9a4163029a8c08d546", func := "loop.example/g00599/laws.FnExactExampleSky", spec := "fnExactExampleSky", unfollowed := true, recurses := true, apart := false }
def FnExactExampleSkySaid : Prop := fnExactExampleSkyRow.holds Try.pinned (OpenSpec.ofChange fnExactExampleSkySpec)

/-- ITS FALSE NEIGHBOUR: 'it returns false'. Refute it at one input. -/
def fnExactExampleSkyWrong : ChangeSpec := { name := "fnExactExampleSky", fn := fun _ => fun
  | [d] => { results := [.lit (.bool false)], args := [d] }
  | _ => none }
def FnExactExampleSkyWrongFalsely : Prop := fnExactExampleSkyRow.holds Try.pinned (OpenSpec.ofChange fnExactExampleSkyWrong)

/- THE SECOND FORM. 'bulk': how many values and letters a reading holds, each counted each time it is reached (what is shared counts as often as it is met; a slice's spare places count too). A statement '..UptoSaid' is the law's where the arguments, and the package variables that the reading takes, are together of bulk at most 1048576: NARROWER than '..Said'. Prove '..Said' where nothing that the law and all that it calls make is longer than what came in: it says more and counts as full. Else prove '..UptoSaid'. A law counts once. -/
mutual
def uptoBulk {H : Type} : DataW H → Nat
  | .lit (.string bytes) => bytes.length + 1
  | .lit _ => 1
  | .nil => 1
  | .ptr d => uptoBulk d + 1
  | .slice elems spare => uptoBulkAll elems + uptoBulkAll spare + 1
  | .agg parts => uptoBulkAll parts + 1
  | .iface _ d => uptoBulk d + 1
  | .map entries => uptoBulkEntries entries + 1
  | .held _ => 1
def uptoBulkAll {H : Type} : List (DataW H) → Nat
  | [] => 0
  | d :: r => uptoBulk d + uptoBulkAll r
def uptoBulkEntries {H : Type} : List (Lit × DataW H) → Nat
  | [] => 0
  | x :: r => uptoBulkEntry x + uptoBulkEntries r
def uptoBulkEntry {H : Type} : Lit × DataW H → Nat
  | (.string bytes, d) => bytes.length + uptoBulk d + 1
  | (_, d) => uptoBulk d + 1
 end
def uptoSmall : (H : Type) → List (DataW H) → Bool := fun _ ds => decide (uptoBulkAll ds ≤ 1048576)
def OpenSpec.upto (s : _root_.Go.ChangeSpec) : _root_.Go.OpenSpec := { _root_.Go.OpenSpec.ofChange s with cond := some uptoSmall }

/-- 'laws.FnExactLinksDown', WHERE WHAT IT READS IS OF BULK AT MOST 1048576: true; the input reads as it did. -/
def fnExactLinksDownUptoRow : OpenClaim := { program := "ytindlpkkapelhaa", sum := "c9d911dd9dbd7b02331ab5ec9f9914844a9e7b2946554f9a4163029a8c08d546", func := "loop.example/g00599/laws.FnExactLinksDown", spec := "fnExactLinksDown", apart := false, narrowed := true }
def FnExactLinksDownUptoSaid : Prop := fnExactLinksDownUptoRow.holds Try.pinned (OpenSpec.upto fnExactLinksDownSpec)

/-- 'laws.FnExactLendParts', WHERE WHAT IT READS IS OF BULK AT MOST 1048576: true; the input reads as it did. -/
def fnExactLendPartsUptoRow : OpenClaim := { program := "ytindlpkkapelhaa", sum := "c9d911dd9dbd7b02331ab5ec9f9914844a9e7b2946554f9a4163029a8c08d546", func := "loop.example/g00599/laws.FnExactLendParts", spec := "fnExactLendParts", apart := false, narrowed := true }
def FnExactLendPartsUptoSaid : Prop := fnExactLendPartsUptoRow.holds Try.pinned (OpenSpec.upto fnExactLendPartsSpec)

/-- 'laws.FnExactCountDown', WHERE WHAT IT READS IS OF BULK AT MOST 1048576: true; the input reads as it did. -/
def fnExactCountDownUptoRow : OpenClaim := { program := "ytindlpkkapelhaa", sum := "c9d911dd9dbd7b02331ab5ec9f9914844a9e7b2946554f9a4163029a8c08d546", func := "loop.example/g00599/laws.FnExactCountDown", spec := "fnExactCountDown", apart := false, narrowed := true }
def FnExactCountDownUptoSaid : Prop := fnExactCountDownUptoRow.holds Try.pinned (OpenSpec.upto fnExactCountDownSpec)

/-- 'laws.FnExactDeadFor', WHERE WHAT IT READS IS OF BULK AT MOST 1048576: true; the input reads as it did. -/
def fnExactDeadForUptoRow : OpenClaim := { program := "ytindlpkkapelhaa", sum := "c9d911dd9dbd7b02331ab5ec9f9914844a9e7b2946554f9a4163029a8c08d546", func := "loop.example/g00599/laws.FnExactDeadFor", spec := "fnExactDeadFor", apart := false, narrowed := true }
def FnExactDeadForUptoSaid : Prop := fnExactDeadForUptoRow.holds Try.pinned (OpenSpec.upto fnExactDeadForSpec)

/-- 'laws.FnExactIsSmooth', WHERE WHAT IT READS IS OF BULK AT MOST 1048576: true; the input reads as it did. -/
def fnExactIsSmoothUptoRow : OpenClaim := { program := "ytindlpkkapelhaa", sum := "c9d911dd9dbd7b02331ab5ec9f9914844a9e7b2946554f9a4163029a8c08d546", func := "loop.example/g00599/laws.FnExactIsSmooth", spec := "fnExactIsSmooth", unfollowed := true, recurses := true, apart := false, narrowed := true }
def FnExactIsSmoothUptoSaid : Prop := fnExactIsSmoothUptoRow.holds Try.pinned (OpenSpec.upto fnExactIsSmoothSpec)

/-- 'laws.FnExactPushPacket', WHERE WHAT IT READS IS OF BULK AT MOST 1048576: true; the input reads as it did. -/
def fnExactPushPacketUptoRow : OpenClaim := { program := "ytindlpkkapelhaa", sum := "c9d911dd9dbd7b02331ab5ec9f9914844a9e7b2946554f9a4163029a8c08d546", func := "loop.example/g00599/laws.FnExactPushPacket", spec := "fnExactPushPacket", unfollowed := true, recurses := true, apart := false, narrowed := true }
def FnExactPushPacketUptoSaid : Prop := fnExactPushPacketUptoRow.holds Try.pinned (OpenSpec.upto fnExactPushPacketSpec)

/-- 'laws.FnExactShareOf', WHERE WHAT IT READS IS OF BULK AT MOST 1048576: true; the input reads as it did. -/
def fnExactShareOfUptoRow : OpenClaim := { program := "ytindlpkkapelhaa", sum := "c9d911dd9dbd7b02331ab5ec9f9914844a9e7b2946554f9a4163029a8c08d546", func := "loop.example/g00599/laws.FnExactShareOf", spec := "fnExactShareOf", unfollowed := true, recurses := true, apart := false, narrowed := true }
def FnExactShareOfUptoSaid : Prop := fnExactShareOfUptoRow.holds Try.pinned (OpenSpec.upto fnExactShareOfSpec)

/-- 'laws.FnExactSplitTotal', WHERE WHAT IT READS IS OF BULK AT MOST 1048576: true; the input reads as it did. -/
def fnExactSplitTotalUptoRow : OpenClaim := { program := "ytindlpkkapelhaa", sum := "c9d911dd9dbd7b02331ab5ec9f9914844a9e7b2946554f9a4163029a8c08d546", func := "loop.example/g00599/laws.FnExactSplitTotal", spec := "fnExactSplitTotal", unfollowed := true, recurses := true, apart := false, narrowed := true }
def FnExactSplitTotalUptoSaid : Prop := fnExactSplitTotalUptoRow.holds Try.pinned (OpenSpec.upto fnExactSplitTotalSpec)

/-- 'laws.FnExactIsWithin', WHERE WHAT IT READS IS OF BULK AT MOST 1048576: true; the input reads as it did. -/
def fnExactIsWithinUptoRow : OpenClaim := { program := "ytindlpkkapelhaa", sum := "c9d911dd9dbd7b02331ab5ec9f9914844a9e7b2946554f9a4163029a8c08d546", func := "loop.example/g00599/laws.FnExactIsWithin", spec := "fnExactIsWithin", unfollowed := true, recurses := true, apart := false, narrowed := true }
def FnExactIsWithinUptoSaid : Prop := fnExactIsWithinUptoRow.holds Try.pinned (OpenSpec.upto fnExactIsWithinSpec)

/-- 'laws.FnFaults', WHERE WHAT IT READS IS OF BULK AT MOST 1048576: true; the input reads as it did. -/
def fnFaultsUptoRow : OpenClaim := { program := "ytindlpkkapelhaa", sum := "c9d911dd9dbd7b02331ab5ec9f9914844a9e7b2946554f9a4163029a8c08d546", func := "loop.example/g00599/laws.FnFaults", spec := "fnFaults", apart := false, narrowed := true }
def FnFaultsUptoSaid : Prop := fnFaultsUptoRow.holds Try.pinned (OpenSpec.upto fnFaultsSpec)

/-- 'laws.FnShared', WHERE WHAT IT READS IS OF BULK AT MOST 1048576: true; the input reads as it did. -/
def fnSharedUptoRow : OpenClaim := { program := "ytindlpkkapelhaa", sum := "c9d911dd9dbd7b02331ab5ec9f9914844a9e7b2946554f9a4163029a8c08d546", func := "loop.example/g00599/laws.FnShared", spec := "fnShared", unfollowed := true, recurses := true, apart := false, narrowed := true }
def FnSharedUptoSaid : Prop := fnSharedUptoRow.holds Try.pinned (OpenSpec.upto fnSharedSpec)

/-- 'laws.FnExactExampleSky', WHERE WHAT IT READS IS OF BULK AT MOST 1048576: true; the input reads as it did. -/
def fnExactExampleSkyUptoRow : OpenClaim := { program := "ytindlpkkapelhaa", sum := "c9d911dd9dbd7b02331ab5ec9f9914844a9e7b2946554f9a4163029a8c08d546", func := "loop.example/g00599/laws.FnExactExampleSky", spec := "fnExactExampleSky", unfollowed := true, recurses := true, apart := false, narrowed := true }
def FnExactExampleSkyUptoSaid : Prop := fnExactExampleSkyUptoRow.holds Try.pinned (OpenSpec.upto fnExactExampleSkySpec)

end Rows
end Go.Proofs.Ytindlpkkapelhaa
