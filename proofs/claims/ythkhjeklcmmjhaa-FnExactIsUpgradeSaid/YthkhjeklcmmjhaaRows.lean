/-
  No cell of these rows narrows 'for every input' (looked for: loops, veiled, ifaces, maps, wideKeys, modest, calm, conditions, laid).
  DERIVED. THE GIVEN ROWS OF THIS SEAT. 12 by the template 'for every input the law returns true; each argument reads behind the call as it read before'; 0 by the template 'total and deterministic' (their statements: YthkhjeklcmmjhaaTotals.lean).
  GIVEN WITH THE SEED: the statements are not yours to turn. If you find one false, say at which input.
  Laid BY PROGRAM, IN A SANDBOX (cutbox-rows.mjs): the forced cells as the released guide's own fill.sh prints them over the translation ac179c84c19cb15c… (all of the seat's roots in one cut). By AI agents, Wed Nov 11 2026. No macro, syntax, notation, axiom, sorry.
-/
import Derived.Test.YthkhjeklcmmjhaaChecked
import GoSem.Claim
import GoSem.ClaimJoined
import GoSem.ClaimMapViews
import Derived.JoinedTies
import Derived.KernelRfl
namespace Go.Proofs.Ythkhjeklcmmjhaa
/- THE CELL 'sum', in the pinned program and in every row, IS THE sha256 OF THE DUMP (.gsa) THAT YthkhjeklcmmjhaaProg.lean LOADS. Nothing in Lean hashes anything: it is a label: what it is worth is what the hold of that sum in a sandbox is worth. -/
noncomputable def Try.pinned : Pinned := { name := "ythkhjeklcmmjhaa", sum := "ac179c84c19cb15c1514a051aaad4ecb7d3a6050ae7afa70771660f569adb89a", checked := Try.checked }
namespace Rows
def none {H : Type} : Left H := { results := [], args := [] }

/-- 'laws.FnExactIsFlow': WHATEVER THE INPUT: true; the input reads as it did. -/
def fnExactIsFlowSpec : ChangeSpec := { name := "fnExactIsFlow", fn := fun _ => fun
  | [d1, d2] => { results := [.lit (.bool true)], args := [d1, d2] }
  | _ => none }
def fnExactIsFlowRow : OpenClaim := { program := "ythkhjeklcmmjhaa", sum := "ac179c84c19cb15c1514a051aaad4ecb7d3a6050ae7afa70771660f569adb89a", func := "loop.example/g00599/laws.FnExactIsFlow", spec := "fnExactIsFlow", apart := false }
def FnExactIsFlowSaid : Prop := fnExactIsFlowRow.holds Try.pinned (OpenSpec.ofChange fnExactIsFlowSpec)

/-- ITS FALSE NEIGHBOUR: 'it returns false'. Refute it at one input. -/
def fnExactIsFlowWrong : ChangeSpec := { name := "fnExactIsFlow", fn := fun _ => fun
  | [d1, d2] => { results := [.lit (.bool false)], args := [d1, d2] }
  | _ => none }
def FnExactIsFlowWrongFalsely : Prop := fnExactIsFlowRow.holds Try.pinned (OpenSpec.ofChange fnExactIsFlowWrong)

/-- 'laws.FnExactIsFault': WHATEVER THE INPUT: true; the input reads as it did. -/
def fnExactIsFaultSpec : ChangeSpec := { name := "fnExactIsFault", fn := fun _ => fun
  | [d1, d2] => { results := [.lit (.bool true)], args := [d1, d2] }
  | _ => none }
def fnExactIsFaultRow : OpenClaim := { program := "ythkhjeklcmmjhaa", sum := "ac179c84c19cb15c1514a051aaad4ecb7d3a6050ae7afa70771660f569adb89a", func := "loop.example/g00599/laws.FnExactIsFault", spec := "fnExactIsFault", apart := false }
def FnExactIsFaultSaid : Prop := fnExactIsFaultRow.holds Try.pinned (OpenSpec.ofChange fnExactIsFaultSpec)

/-- ITS FALSE NEIGHBOUR: 'it returns false'. Refute it at one input. -/
def fnExactIsFaultWrong : ChangeSpec := { name := "fnExactIsFault", fn := fun _ => fun
  | [d1, d2] => { results := [.lit (.bool false)], args := [d1, d2] }
  | _ => none }
def FnExactIsFaultWrongFalsely : Prop := fnExactIsFaultRow.holds Try.pinned (OpenSpec.ofChange fnExactIsFaultWrong)

/-- 'laws.FnExactLastRound': WHATEVER THE INPUT: true; the input reads as it did. -/
def fnExactLastRoundSpec : ChangeSpec := { name := "fnExactLastRound", fn := fun _ => fun
  | [d] => { results := [.lit (.bool true)], args := [d] }
  | _ => none }
def fnExactLastRoundRow : OpenClaim := { program := "ythkhjeklcmmjhaa", sum := "ac179c84c19cb15c1514a051aaad4ecb7d3a6050ae7afa70771660f569adb89a", func := "loop.example/g00599/laws.FnExactLastRound", spec := "fnExactLastRound", apart := false }
def FnExactLastRoundSaid : Prop := fnExactLastRoundRow.holds Try.pinned (OpenSpec.ofChange fnExactLastRoundSpec)

/-- ITS FALSE NEIGHBOUR: 'it returns false'. Refute it at one input. -/
def fnExactLastRoundWrong : ChangeSpec := { name := "fnExactLastRound", fn := fun _ => fun
  | [d] => { results := [.lit (.bool false)], args := [d] }
  | _ => none }
def FnExactLastRoundWrongFalsely : Prop := fnExactLastRoundRow.holds Try.pinned (OpenSpec.ofChange fnExactLastRoundWrong)

/-- 'laws.FnExactInRound': WHATEVER THE INPUT: true; the input reads as it did. -/
def fnExactInRoundSpec : ChangeSpec := { name := "fnExactInRound", fn := fun _ => fun
  | [d1, d2] => { results := [.lit (.bool true)], args := [d1, d2] }
  | _ => none }
def fnExactInRoundRow : OpenClaim := { program := "ythkhjeklcmmjhaa", sum := "ac179c84c19cb15c1514a051aaad4ecb7d3a6050ae7afa70771660f569adb89a", func := "loop.example/g00599/laws.FnExactInRound", spec := "fnExactInRound", apart := false }
def FnExactInRoundSaid : Prop := fnExactInRoundRow.holds Try.pinned (OpenSpec.ofChange fnExactInRoundSpec)

/-- ITS FALSE NEIGHBOUR: 'it returns false'. Refute it at one input. -/
def fnExactInRoundWrong : ChangeSpec := { name := "fnExactInRound", fn := fun _ => fun
  | [d1, d2] => { results := [.lit (.bool false)], args := [d1, d2] }
  | _ => none }
def FnExactInRoundWrongFalsely : Prop := fnExactInRoundRow.holds Try.pinned (OpenSpec.ofChange fnExactInRoundWrong)

/-- 'laws.FnExactIsDown': WHATEVER THE INPUT: true; the input reads as it did. -/
def fnExactIsDownSpec : ChangeSpec := { name := "fnExactIsDown", fn := fun _ => fun
  | [d1, d2, d3] => { results := [.lit (.bool true)], args := [d1, d2, d3] }
  | _ => none }
def fnExactIsDownRow : OpenClaim := { program := "ythkhjeklcmmjhaa", sum := "ac179c84c19cb15c1514a051aaad4ecb7d3a6050ae7afa70771660f569adb89a", func := "loop.example/g00599/laws.FnExactIsDown", spec := "fnExactIsDown", apart := false }
def FnExactIsDownSaid : Prop := fnExactIsDownRow.holds Try.pinned (OpenSpec.ofChange fnExactIsDownSpec)

/-- ITS FALSE NEIGHBOUR: 'it returns false'. Refute it at one input. -/
def fnExactIsDownWrong : ChangeSpec := { name := "fnExactIsDown", fn := fun _ => fun
  | [d1, d2, d3] => { results := [.lit (.bool false)], args := [d1, d2, d3] }
  | _ => none }
def FnExactIsDownWrongFalsely : Prop := fnExactIsDownRow.holds Try.pinned (OpenSpec.ofChange fnExactIsDownWrong)

/-- 'laws.FnExactIsContract': WHATEVER THE INPUT: true; the input reads as it did. -/
def fnExactIsContractSpec : ChangeSpec := { name := "fnExactIsContract", fn := fun _ => fun
  | [d] => { results := [.lit (.bool true)], args := [d] }
  | _ => none }
def fnExactIsContractRow : OpenClaim := { program := "ythkhjeklcmmjhaa", sum := "ac179c84c19cb15c1514a051aaad4ecb7d3a6050ae7afa70771660f569adb89a", func := "loop.example/g00599/laws.FnExactIsContract", spec := "fnExactIsContract", apart := false }
def FnExactIsContractSaid : Prop := fnExactIsContractRow.holds Try.pinned (OpenSpec.ofChange fnExactIsContractSpec)

/-- ITS FALSE NEIGHBOUR: 'it returns false'. Refute it at one input. -/
def fnExactIsContractWrong : ChangeSpec := { name := "fnExactIsContract", fn := fun _ => fun
  | [d] => { results := [.lit (.bool false)], args := [d] }
  | _ => none }
def FnExactIsContractWrongFalsely : Prop := fnExactIsContractRow.holds Try.pinned (OpenSpec.ofChange fnExactIsContractWrong)

/-- 'laws.FnExactIsStream': WHATEVER THE INPUT: true; the input reads as it did. -/
def fnExactIsStreamSpec : ChangeSpec := { name := "fnExactIsStream", fn := fun _ => fun
  | [d] => { results := [.lit (.bool true)], args := [d] }
  | _ => none }
def fnExactIsStreamRow : OpenClaim := { program := "ythkhjeklcmmjhaa", sum := "ac179c84c19cb15c1514a051aaad4ecb7d3a6050ae7afa70771660f569adb89a", func := "loop.example/g00599/laws.FnExactIsStream", spec := "fnExactIsStream", apart := false }
def FnExactIsStreamSaid : Prop := fnExactIsStreamRow.holds Try.pinned (OpenSpec.ofChange fnExactIsStreamSpec)

/-- ITS FALSE NEIGHBOUR: 'it returns false'. Refute it at one input. -/
def fnExactIsStreamWrong : ChangeSpec := { name := "fnExactIsStream", fn := fun _ => fun
  | [d] => { results := [.lit (.bool false)], args := [d] }
  | _ => none }
def FnExactIsStreamWrongFalsely : Prop := fnExactIsStreamRow.holds Try.pinned (OpenSpec.ofChange fnExactIsStreamWrong)

/-- 'laws.FnExactLastFault': WHATEVER THE INPUT: true; the input reads as it did. -/
def fnExactLastFaultSpec : ChangeSpec := { name := "fnExactLastFault", fn := fun _ => fun
  | [d] => { results := [.lit (.bool true)], args := [d] }
  | _ => none }
def fnExactLastFaultRow : OpenClaim := { program := "ythkhjeklcmmjhaa", sum := "ac179c84c19cb15c1514a051aaad4ecb7d3a6050ae7afa70771660f569adb89a", func := "loop.example/g00599/laws.FnExactLastFault", spec := "fnExactLastFault", apart := false }
def FnExactLastFaultSaid : Prop := fnExactLastFaultRow.holds Try.pinned (OpenSpec.ofChange fnExactLastFaultSpec)

/-- ITS FALSE NEIGHBOUR: 'it returns false'. Refute it at one input. -/
def fnExactLastFaultWrong : ChangeSpec := { name := "fnExactLastFault", fn := fun _ => fun
  | [d] => { results := [.lit (.bool false)], args := [d] }
  | _ => none }
def FnExactLastFaultWrongFalsely : Prop := fnExactLastFaultRow.holds Try.pinned (OpenSpec.ofChange fnExactLastFaultWrong)

/-- 'laws.FnExactEqualStreams': WHATEVER THE INPUT: true; the input reads as it did. -/
def fnExactEqualStreamsSpec : ChangeSpec := { name := "fnExactEqualStreams", fn := fun _ => fun
  | [d1, d2] => { results := [.lit (.bool true)], args := [d1, d2] }
  | _ => none }
def fnExactEqualStreamsRow : OpenClaim := { program := "ythkhjeklcmmjhaa", sum := "ac179c84c19cb15c1514a051aaad4ecb7d3a6050ae7afa70771660f569adb89a", func := "loop.example/g00599/laws.FnExactEqualStreams", spec := "fnExactEqualStreams", apart := false }
def FnExactEqualStreamsSaid : Prop := fnExactEqualStreamsRow.holds Try.pinned (OpenSpec.ofChange fnExactEqualStreamsSpec)

/-- ITS FALSE NEIGHBOUR: 'it returns false'. Refute it at one input. -/
def fnExactEqualStreamsWrong : ChangeSpec := { name := "fnExactEqualStreams", fn := fun _ => fun
  | [d1, d2] => { results := [.lit (.bool false)], args := [d1, d2] }
  | _ => none }
def FnExactEqualStreamsWrongFalsely : Prop := fnExactEqualStreamsRow.holds Try.pinned (OpenSpec.ofChange fnExactEqualStreamsWrong)

/-- 'laws.FnExactWaitsFor': WHATEVER THE INPUT: true; the input reads as it did. -/
def fnExactWaitsForSpec : ChangeSpec := { name := "fnExactWaitsFor", fn := fun _ => fun
  | [d] => { results := [.lit (.bool true)], args := [d] }
  | _ => none }
def fnExactWaitsForRow : OpenClaim := { program := "ythkhjeklcmmjhaa", sum := "ac179c84c19cb15c1514a051aaad4ecb7d3a6050ae7afa70771660f569adb89a", func := "loop.example/g00599/laws.FnExactWaitsFor", spec := "fnExactWaitsFor", apart := false }
def FnExactWaitsForSaid : Prop := fnExactWaitsForRow.holds Try.pinned (OpenSpec.ofChange fnExactWaitsForSpec)

/-- ITS FALSE NEIGHBOUR: 'it returns false'. Refute it at one input. -/
def fnExactWaitsForWrong : ChangeSpec := { name := "fnExactWaitsFor", fn := fun _ => fun
  | [d] => { results := [.lit (.bool false)], args := [d] }
  | _ => none }
def FnExactWaitsForWrongFalsely : Prop := fnExactWaitsForRow.holds Try.pinned (OpenSpec.ofChange fnExactWaitsForWrong)

/-- 'laws.FnExactIsCut': WHATEVER THE INPUT: true; the input reads as it did. -/
def fnExactIsCutSpec : ChangeSpec := { name := "fnExactIsCut", fn := fun _ => fun
  | [d1, d2, d3, d4] => { results := [.lit (.bool true)], args := [d1, d2, d3, d4] }
  | _ => none }
def fnExactIsCutRow : OpenClaim := { program := "ythkhjeklcmmjhaa", sum := "ac179c84c19cb15c1514a051aaad4ecb7d3a6050ae7afa70771660f569adb89a", func := "loop.example/g00599/laws.FnExactIsCut", spec := "fnExactIsCut", apart := false }
def FnExactIsCutSaid : Prop := fnExactIsCutRow.holds Try.pinned (OpenSpec.ofChange fnExactIsCutSpec)

/-- ITS FALSE NEIGHBOUR: 'it returns false'. Refute it at one input. -/
def fnExactIsCutWrong : ChangeSpec := { name := "fnExactIsCut", fn := fun _ => fun
  | [d1, d2, d3, d4] => { results := [.lit (.bool false)], args := [d1, d2, d3, d4] }
  | _ => none }
def FnExactIsCutWrongFalsely : Prop := fnExactIsCutRow.holds Try.pinned (OpenSpec.ofChange fnExactIsCutWrong)

/-- 'laws.FnExactIsUpgrade': WHATEVER THE INPUT: true; the input reads as it did. -/
def fnExactIsUpgradeSpec : ChangeSpec := { name := "fnExactIsUpgrade", fn := fun _ => fun
  | [d1, d2] => { results := [.lit (.bool true)], args := [d1, d2] }
  | _ => none }
def fnExactIsUpgradeRow : OpenClaim := { program := "ythkhjeklcmmjhaa", sum := "ac179c84c19cb15c1514a051aaad4ecb7d3a6050ae7afa70771660f569adb89a", func := "loop.example/g00599/laws.FnExactIsUpgrade", spec := "fnExactIsUpgrade", apart := false }
def FnExactIsUpgradeSaid : Prop := fnExactIsUpgradeRow.holds Try.pinned (OpenSpec.ofChange fnExactIsUpgradeSpec)

/-- ITS FALSE NEIGHBOUR: 'it returns false'. Refute it at one input. -/
def fnExactIsUpgradeWrong : ChangeSpec := { name := "fnExactIsUpgrade", fn := fun _ => fun
  | [d1, d2] => { results := [.lit (.bool false)], args := [d1, d2] }
  | _ => none }
def FnExactIsUpgradeWrongFalsely : Prop := fnExactIsUpgradeRow.holds Try.pinned (OpenSpec.ofChange fnExactIsUpgradeWrong)

/- THE SECOND FORM. 'bulk': how many values and letters a reading holds, each counted each time it is reached (what is shared counts as often as it is met; a slice's spare places count too). A statement '..UptoSaid' is the law's where the arguments, and the package variables that the reading takes, are together of bulk at most 1048576: NARROWER than '..Said'. Prove '..Said' where nothing that the law and all that it calls make is longer than what came in: it says more and counts as full. Else prove '..UptoSaid'. A law counts once. -/
mutual
def uptoBulk {H : Type} : DataW H → Nat
  | .lit (.string bytes) => bytes.length + 1
  | .lit _ => 1
  | .nil => 1
  | .ptr d => uptoBulk d + 1
  | .slice elems spare => uptoBulkAll elems + uptoBulkAll spare + 1
  | .agg parts => uptoBulkAll parts + 1
  | .iface _ d => uptoBulk d + 1
  | .map entries => uptoBulkEntries entries + 1
  | .held _ => 1
def uptoBulkAll {H : Type} : List (DataW H) → Nat
  | [] => 0
  | d :: r => uptoBulk d + uptoBulkAll r
def uptoBulkEntries {H : Type} : List (Lit × DataW H) → Nat
  | [] => 0
  | x :: r => uptoBulkEntry x + uptoBulkEntries r
def uptoBulkEntry {H : Type} : Lit × DataW H → Nat
  | (.string bytes, d) => bytes.length + uptoBulk d + 1
  | (_, d) => uptoBulk d + 1
 end
def uptoSmall : (H : Type) → List (DataW H) → Bool := fun _ ds => decide (uptoBulkAll ds ≤ 1048576)
def OpenSpec.upto (s : _root_.Go.ChangeSpec) : _root_.Go.OpenSpec := { _root_.Go.OpenSpec.ofChange s with cond := some uptoSmall }

/-- 'laws.FnExactIsFlow', WHERE WHAT IT READS IS OF BULK AT MOST 1048576: true; the input reads as it did. -/
def fnExactIsFlowUptoRow : OpenClaim := { program := "ythkhjeklcmmjhaa", sum := "ac179c84c19cb15c1514a051aaad4ecb7d3a6050ae7afa70771660f569adb89a", func := "loop.example/g00599/laws.FnExactIsFlow", spec := "fnExactIsFlow", apart := false, narrowed := true }
def FnExactIsFlowUptoSaid : Prop := fnExactIsFlowUptoRow.holds Try.pinned (OpenSpec.upto fnExactIsFlowSpec)

/-- 'laws.FnExactIsFault', WHERE WHAT IT READS IS OF BULK AT MOST 1048576: true; the input reads as it did. -/
def fnExactIsFaultUptoRow : OpenClaim := { program := "ythkhjeklcmmjhaa", sum := "ac179c84c19cb15c1514a051aaad4ecb7d3a6050ae7afa70771660f569adb89a", func := "loop.example/g00599/laws.FnExactIsFault", spec := "fnExactIsFault", apart := false, narrowed := true }
def FnExactIsFaultUptoSaid : Prop := fnExactIsFaultUptoRow.holds Try.pinned (OpenSpec.upto fnExactIsFaultSpec)

/-- 'laws.FnExactLastRound', WHERE WHAT IT READS IS OF BULK AT MOST 1048576: true; the input reads as it did. -/
def fnExactLastRoundUptoRow : OpenClaim := { program := "ythkhjeklcmmjhaa", sum := "ac179c84c19cb15c1514a051aaad4ecb7d3a6050ae7afa70771660f569adb89a", func := "loop.example/g00599/laws.FnExactLastRound", spec := "fnExactLastRound", apart := false, narrowed := true }
def FnExactLastRoundUptoSaid : Prop := fnExactLastRoundUptoRow.holds Try.pinned (OpenSpec.upto fnExactLastRoundSpec)

/-- 'laws.FnExactInRound', WHERE WHAT IT READS IS OF BULK AT MOST 1048576: true; the input reads as it did. -/
def fnExactInRoundUptoRow : OpenClaim := { program := "ythkhjeklcmmjhaa", sum := "ac179c84c19cb15c1514a051aaad4ecb7d3a6050ae7afa70771660f569adb89a", func := "loop.example/g00599/laws.FnExactInRound", spec := "fnExactInRound", apart := false, narrowed := true }
def FnExactInRoundUptoSaid : Prop := fnExactInRoundUptoRow.holds Try.pinned (OpenSpec.upto fnExactInRoundSpec)

/-- 'laws.FnExactIsDown', WHERE WHAT IT READS IS OF BULK AT MOST 1048576: true; the input reads as it did. -/
def fnExactIsDownUptoRow : OpenClaim := { program := "ythkhjeklcmmjhaa", sum := "ac179c84c19cb15c1514a051aaad4ecb7d3a6050ae7afa70771660f569adb89a", func := "loop.example/g00599/laws.FnExactIsDown", spec := "fnExactIsDown", apart := false, narrowed := true }
def FnExactIsDownUptoSaid : Prop := fnExactIsDownUptoRow.holds Try.pinned (OpenSpec.upto fnExactIsDownSpec)

/-- 'laws.FnExactIsContract', WHERE WHAT IT READS IS OF BULK AT MOST 1048576: true; the input reads as it did. -/
def fnExactIsContractUptoRow : OpenClaim := { program := "ythkhjeklcmmjhaa", sum := "ac179c84c19cb15c1514a051aaad4ecb7d3a6050ae7afa70771660f569adb89a", func := "loop.example/g00599/laws.FnExactIsContract", spec := "fnExactIsContract", apart := false, narrowed := true }
def FnExactIsContractUptoSaid : Prop := fnExactIsContractUptoRow.holds Try.pinned (OpenSpec.upto fnExactIsContractSpec)

/-- 'laws.FnExactIsStream', WHERE WHAT IT READS IS OF BULK AT MOST 1048576: true; the input reads as it did. -/
def fnExactIsStreamUptoRow : OpenClaim := { program := "ythkhjeklcmmjhaa", sum := "ac179c84c19cb15c1514a051aaad4ecb7d3a6050ae7afa70771660f569adb89a", func := "loop.example/g00599/laws.FnExactIsStream", spec := "fnExactIsStream", apart := false, narrowed := true }
def FnExactIsStreamUptoSaid : Prop := fnExactIsStreamUptoRow.holds Try.pinned (OpenSpec.upto fnExactIsStreamSpec)

/-- 'laws.FnExactLastFault', WHERE WHAT IT READS IS OF BULK AT MOST 1048576: true; the input reads as it did. -/
def fnExactLastFaultUptoRow : OpenClaim := { program := "ythkhjeklcmmjhaa", sum := "ac179c84c19cb15c1514a051aaad4ecb7d3a6050ae7afa70771660f569adb89a", func := "loop.example/g00599/laws.FnExactLastFault", spec := "fnExactLastFault", apart := false, narrowed := true }
def FnExactLastFaultUptoSaid : Prop := fnExactLastFaultUptoRow.holds Try.pinned (OpenSpec.upto fnExactLastFaultSpec)

/-- 'laws.FnExactEqualStreams', WHERE WHAT IT READS IS OF BULK AT MOST 1048576: true; the input reads as it did. -/
def fnExactEqualStreamsUptoRow : OpenClaim := { program := "ythkhjeklcmmjhaa", sum := "ac179c84c19cb15c1514a051aaad4ecb7d3a6050ae7afa70771660f569adb89a", func := "loop.example/g00599/laws.FnExactEqualStreams", spec := "fnExactEqualStreams", apart := false, narrowed := true }
def FnExactEqualStreamsUptoSaid : Prop := fnExactEqualStreamsUptoRow.holds Try.pinned (OpenSpec.upto fnExactEqualStreamsSpec)

/-- 'laws.FnExactWaitsFor', WHERE WHAT IT READS IS OF BULK AT MOST 1048576: true; the input reads as it did. -/
def fnExactWaitsForUptoRow : OpenClaim := { program := "ythkhjeklcmmjhaa", sum := "ac179c84c19cb15c1514a051aaad4ecb7d3a6050ae7afa70771660f569adb89a", func := "loop.example/g00599/laws.FnExactWaitsFor", spec := "fnExactWaitsFor", apart := false, narrowed := true }
def FnExactWaitsForUptoSaid : Prop := fnExactWaitsForUptoRow.holds Try.pinned (OpenSpec.upto fnExactWaitsForSpec)

/-- 'laws.FnExactIsCut', WHERE WHAT IT READS IS OF BULK AT MOST 1048576: true; the input reads as it did. -/
def fnExactIsCutUptoRow : OpenClaim := { program := "ythkhjeklcmmjhaa", sum := "ac179c84c19cb15c1514a051aaad4ecb7d3a6050ae7afa70771660f569adb89a", func := "loop.example/g00599/laws.FnExactIsCut", spec := "fnExactIsCut", apart := false, narrowed := true }
def FnExactIsCutUptoSaid : Prop := fnExactIsCutUptoRow.holds Try.pinned (OpenSpec.upto fnExactIsCutSpec)

/-- 'laws.FnExactIsUpgrade', WHERE WHAT IT READS IS OF BULK AT MOST 1048576: true; the input reads as it did. -/
def fnExactIsUpgradeUptoRow : OpenClaim := { program := "ythkhjeklcmmjhaa", sum := "ac179c84c19cb15c1514a051aaad4ecb7d3a6050ae7afa70771660f569adb89a", func := "loop.example/g00599/laws.FnExactIsUpgrade", spec := "fnExactIsUpgrade", apart := false, narrowed := true }
def FnExactIsUpgradeUptoSaid : Prop := fnExactIsUpgradeUptoRow.holds Try.pinned (OpenSpec.upto fnExactIsUpgradeSpec)

end Rows
end Go.Proofs.Ythkhjeklcmmjhaa
