/-
  No cell of these rows narrows 'for every input' (looked for: loops, veiled, ifaces, maps, wideKeys, modest, calm, conditions, laid).
  DERIVED. THE GIVEN ROWS OF THIS SEAT. 8 by the template 'for every input the law returns true; each argument reads behind the call as it read before'; 0 by the template 'total and deterministic' (their statements: YtdodogkgmpaioaaTotals.lean).
  GIVEN WITH THE SEED: the statements are not yours to turn. If you find one false, say at which input.
  Laid BY PROGRAM, IN A SANDBOX (cutbox-rows.mjs): the forced cells as the released guide's own fill.sh prints them over the translation d98163b240c3cd24… (all of the seat's roots in one cut). By AI agents, Wed Nov 11 2026. No macro, syntax, notation, axiom, sorry.
-/
import Derived.Test.YtdodogkgmpaioaaChecked
import GoSem.Claim
import GoSem.ClaimJoined
import GoSem.ClaimMapViews
import Derived.JoinedTies
import Derived.KernelRfl
namespace Go.Proofs.Ytdodogkgmpaioaa
/- THE CELL 'sum', in the pinned program and in every row, IS THE sha256 OF THE DUMP (.gsa) THAT YtdodogkgmpaioaaProg.lean LOADS. Nothing in Lean hashes anything: it is a label: what it is worth is what the hold of that sum in a sandbox is worth. -/
noncomputable def Try.pinned : Pinned := { name := "ytdodogkgmpaioaa", sum := "d98163b240c3cd2433cbae53baf45c41643ec0b3195a7f69b6a7aea846d2074b", checked := Try.checked }
namespace Rows
def none {H : Type} : Left H := { results := [], args := [] }

/-- 'laws.FnExactGreatestLoad': WHATEVER THE INPUT: true; the input reads as it did. -/
def fnExactGreatestLoadSpec : ChangeSpec := { name := "fnExactGreatestLoad", fn := fun _ => fun
  | [d1, d2] => { results := [.lit (.bool true)], args := [d1, d2] }
  | _ => none }
def fnExactGreatestLoadRow : OpenClaim := { program := "ytdodogkgmpaioaa", sum := "d98163b240c3cd2433cbae53baf45c41643ec0b3195a7f69b6a7aea846d2074b", func := "loop.example/g00599/laws.FnExactGreatestLoad", spec := "fnExactGreatestLoad", apart := false }
def FnExactGreatestLoadSaid : Prop := fnExactGreatestLoadRow.holds Try.pinned (OpenSpec.ofChange fnExactGreatestLoadSpec)

/-- ITS FALSE NEIGHBOUR: 'it returns false'. Refute it at one input. -/
def fnExactGreatestLoadWrong : ChangeSpec := { name := "fnExactGreatestLoad", fn := fun _ => fun
  | [d1, d2] => { results := [.lit (.bool false)], args := [d1, d2] }
  | _ => none }
def FnExactGreatestLoadWrongFalsely : Prop := fnExactGreatestLoadRow.holds Try.pinned (OpenSpec.ofChange fnExactGreatestLoadWrong)

/-- 'laws.FnExactAdmitFlow': WHATEVER THE INPUT: true; the input reads as it did. -/
def fnExactAdmitFlowSpec : ChangeSpec := { name := "fnExactAdmitFlow", fn := fun _ => fun
  | [d1, d2, d3, d4] => { results := [.lit (.bool true)], args := [d1, d2, d3, d4] }
  | _ => none }
def fnExactAdmitFlowRow : OpenClaim := { program := "ytdodogkgmpaioaa", sum := "d98163b240c3cd2433cbae53baf45c41643ec0b3195a7f69b6a7aea846d2074b", func := "loop.example/g00599/laws.FnExactAdmitFlow", spec := "fnExactAdmitFlow", unfollowed := true, recurses := true, apart := false }
def FnExactAdmitFlowSaid : Prop := fnExactAdmitFlowRow.holds Try.pinned (OpenSpec.ofChange fnExactAdmitFlowSpec)

/-- ITS FALSE NEIGHBOUR: 'it returns false'. Refute it at one input. -/
def fnExactAdmitFlowWrong : ChangeSpec := { name := "fnExactAdmitFlow", fn := fun _ => fun
  | [d1, d2, d3, d4] => { results := [.lit (.bool false)], args := [d1, d2, d3, d4] }
  | _ => none }
def FnExactAdmitFlowWrongFalsely : Prop := fnExactAdmitFlowRow.holds Try.pinned (OpenSpec.ofChange fnExactAdmitFlowWrong)

/-- 'laws.FnReserved': WHATEVER THE INPUT: true; the input reads as it did. -/
def fnReservedSpec : ChangeSpec := { name := "fnReserved", fn := fun _ => fun
  | [d] => { results := [.lit (.bool true)], args := [d] }
  | _ => none }
def fnReservedRow : OpenClaim := { program := "ytdodogkgmpaioaa", sum := "d98163b240c3cd2433cbae53baf45c41643ec0b3195a7f69b6a7aea846d2074b", func := "loop.example/g00599/laws.FnReserved", spec := "fnReserved", unfollowed := true, recurses := true, apart := false }
def FnReservedSaid : Prop := fnReservedRow.holds Try.pinned (OpenSpec.ofChange fnReservedSpec)

/-- ITS FALSE NEIGHBOUR: 'it returns false'. Refute it at one input. -/
def fnReservedWrong : ChangeSpec := { name := "fnReserved", fn := fun _ => fun
  | [d] => { results := [.lit (.bool false)], args := [d] }
  | _ => none }
def FnReservedWrongFalsely : Prop := fnReservedRow.holds Try.pinned (OpenSpec.ofChange fnReservedWrong)

/-- 'laws.FnExactArrivalAt': WHATEVER THE INPUT: true; the input reads as it did. -/
def fnExactArrivalAtSpec : ChangeSpec := { name := "fnExactArrivalAt", fn := fun _ => fun
  | [d1, d2, d3, d4, d5] => { results := [.lit (.bool true)], args := [d1, d2, d3, d4, d5] }
  | _ => none }
def fnExactArrivalAtRow : OpenClaim := { program := "ytdodogkgmpaioaa", sum := "d98163b240c3cd2433cbae53baf45c41643ec0b3195a7f69b6a7aea846d2074b", func := "loop.example/g00599/laws.FnExactArrivalAt", spec := "fnExactArrivalAt", unfollowed := true, recurses := true, apart := false }
def FnExactArrivalAtSaid : Prop := fnExactArrivalAtRow.holds Try.pinned (OpenSpec.ofChange fnExactArrivalAtSpec)

/-- ITS FALSE NEIGHBOUR: 'it returns false'. Refute it at one input. -/
def fnExactArrivalAtWrong : ChangeSpec := { name := "fnExactArrivalAt", fn := fun _ => fun
  | [d1, d2, d3, d4, d5] => { results := [.lit (.bool false)], args := [d1, d2, d3, d4, d5] }
  | _ => none }
def FnExactArrivalAtWrongFalsely : Prop := fnExactArrivalAtRow.holds Try.pinned (OpenSpec.ofChange fnExactArrivalAtWrong)

/-- 'laws.FnExactReachCount': WHATEVER THE INPUT: true; the input reads as it did. -/
def fnExactReachCountSpec : ChangeSpec := { name := "fnExactReachCount", fn := fun _ => fun
  | [d1, d2, d3, d4] => { results := [.lit (.bool true)], args := [d1, d2, d3, d4] }
  | _ => none }
def fnExactReachCountRow : OpenClaim := { program := "ytdodogkgmpaioaa", sum := "d98163b240c3cd2433cbae53baf45c41643ec0b3195a7f69b6a7aea846d2074b", func := "loop.example/g00599/laws.FnExactReachCount", spec := "fnExactReachCount", unfollowed := true, recurses := true, apart := false }
def FnExactReachCountSaid : Prop := fnExactReachCountRow.holds Try.pinned (OpenSpec.ofChange fnExactReachCountSpec)

/-- ITS FALSE NEIGHBOUR: 'it returns false'. Refute it at one input. -/
def fnExactReachCountWrong : ChangeSpec := { name := "fnExactReachCount", fn := fun _ => fun
  | [d1, d2, d3, d4] => { results := [.lit (.bool false)], args := [d1, d2, d3, d4] }
  | _ => none }
def FnExactReachCountWrongFalsely : Prop := fnExactReachCountRow.holds Try.pinned (OpenSpec.ofChange fnExactReachCountWrong)

/-- 'laws.FnExactReachFrom': WHATEVER THE INPUT: true; the input reads as it did. -/
def fnExactReachFromSpec : ChangeSpec := { name := "fnExactReachFrom", fn := fun _ => fun
  | [d1, d2, d3, d4] => { results := [.lit (.bool true)], args := [d1, d2, d3, d4] }
  | _ => none }
def fnExactReachFromRow : OpenClaim := { program := "ytdodogkgmpaioaa", sum := "d98163b240c3cd2433cbae53baf45c41643ec0b3195a7f69b6a7aea846d2074b", func := "loop.example/g00599/laws.FnExactReachFrom", spec := "fnExactReachFrom", unfollowed := true, recurses := true, apart := false }
def FnExactReachFromSaid : Prop := fnExactReachFromRow.holds Try.pinned (OpenSpec.ofChange fnExactReachFromSpec)

/-- ITS FALSE NEIGHBOUR: 'it returns false'. Refute it at one input. -/
def fnExactReachFromWrong : ChangeSpec := { name := "fnExactReachFrom", fn := fun _ => fun
  | [d1, d2, d3, d4] => { results := [.lit (.bool false)], args := [d1, d2, d3, d4] }
  | _ => none }
def FnExactReachFromWrongFalsely : Prop := fnExactReachFromRow.holds Try.pinned (OpenSpec.ofChange fnExactReachFromWrong)

/-- 'laws.FnExactIsWhole': WHATEVER THE INPUT: true; the input reads as it did. -/
def fnExactIsWholeSpec : ChangeSpec := { name := "fnExactIsWhole", fn := fun _ => fun
  | [d1, d2, d3] => { results := [.lit (.bool true)], args := [d1, d2, d3] }
  | _ => none }
def fnExactIsWholeRow : OpenClaim := { program := "ytdodogkgmpaioaa", sum := "d98163b240c3cd2433cbae53baf45c41643ec0b3195a7f69b6a7aea846d2074b", func := "loop.example/g00599/laws.FnExactIsWhole", spec := "fnExactIsWhole", unfollowed := true, recurses := true, apart := false }
def FnExactIsWholeSaid : Prop := fnExactIsWholeRow.holds Try.pinned (OpenSpec.ofChange fnExactIsWholeSpec)

/-- ITS FALSE NEIGHBOUR: 'it returns false'. Refute it at one input. -/
def fnExactIsWholeWrong : ChangeSpec := { name := "fnExactIsWhole", fn := fun _ => fun
  | [d1, d2, d3] => { results := [.lit (.bool false)], args := [d1, d2, d3] }
  | _ => none }
def FnExactIsWholeWrongFalsely : Prop := fnExactIsWholeRow.holds Try.pinned (OpenSpec.ofChange fnExactIsWholeWrong)

/-- 'laws.FnReach': WHATEVER THE INPUT: true; the input reads as it did. -/
def fnReachSpec : ChangeSpec := { name := "fnReach", fn := fun _ => fun
  | [d] => { results := [.lit (.bool true)], args := [d] }
  | _ => none }
def fnReachRow : OpenClaim := { program := "ytdodogkgmpaioaa", sum := "d98163b240c3cd2433cbae53baf45c41643ec0b3195a7f69b6a7aea846d2074b", func := "loop.example/g00599/laws.FnReach", spec := "fnReach", unfollowed := true, recurses := true, apart := false }
def FnReachSaid : Prop := fnReachRow.holds Try.pinned (OpenSpec.ofChange fnReachSpec)

/-- ITS FALSE NEIGHBOUR: 'it returns false'. Refute it at one input. -/
def fnReachWrong : ChangeSpec := { name := "fnReach", fn := fun _ => fun
  | [d] => { results := [.lit (.bool false)], args := [d] }
  | _ => none }
def FnReachWrongFalsely : Prop := fnReachRow.holds Try.pinned (OpenSpec.ofChange fnReachWrong)

/- THE SECOND FORM. 'bulk': how many values and letters a reading holds, each counted each time it is reached (what is shared counts as often as it is met; a slice's spare places count too). A statement '..UptoSaid' is the law's where the arguments, and the package variables that the reading takes, are together of bulk at most 1048576: NARROWER than '..Said'. Prove '..Said' where nothing that the law and all that it calls make is longer than what came in: it says more and counts as full. Else prove '..UptoSaid'. A law counts once. -/
mutual
def uptoBulk {H : Type} : DataW H → Nat
  | .lit (.string bytes) => bytes.length + 1
  | .lit _ => 1
  | .nil => 1
  | .ptr d => uptoBulk d + 1
  | .slice elems spare => uptoBulkAll elems + uptoBulkAll spare + 1
  | .agg parts => uptoBulkAll parts + 1
  | .iface _ d => uptoBulk d + 1
  | .map entries => uptoBulkEntries entries + 1
  | .held _ => 1
def uptoBulkAll {H : Type} : List (DataW H) → Nat
  | [] => 0
  | d :: r => uptoBulk d + uptoBulkAll r
def uptoBulkEntries {H : Type} : List (Lit × DataW H) → Nat
  | [] => 0
  | x :: r => uptoBulkEntry x + uptoBulkEntries r
def uptoBulkEntry {H : Type} : Lit × DataW H → Nat
  | (.string bytes, d) => bytes.length + uptoBulk d + 1
  | (_, d) => uptoBulk d + 1
 end
def uptoSmall : (H : Type) → List (DataW H) → Bool := fun _ ds => decide (uptoBulkAll ds ≤ 1048576)
def OpenSpec.upto (s : _root_.Go.ChangeSpec) : _root_.Go.OpenSpec := { _root_.Go.OpenSpec.ofChange s with cond := some uptoSmall }

/-- 'laws.FnExactGreatestLoad', WHERE WHAT IT READS IS OF BULK AT MOST 1048576: true; the input reads as it did. -/
def fnExactGreatestLoadUptoRow : OpenClaim := { program := "ytdodogkgmpaioaa", sum := "d98163b240c3cd2433cbae53baf45c41643ec0b3195a7f69b6a7aea846d2074b", func := "loop.example/g00599/laws.FnExactGreatestLoad", spec := "fnExactGreatestLoad", apart := false, narrowed := true }
def FnExactGreatestLoadUptoSaid : Prop := fnExactGreatestLoadUptoRow.holds Try.pinned (OpenSpec.upto fnExactGreatestLoadSpec)

/-- 'laws.FnExactAdmitFlow', WHERE WHAT IT READS IS OF BULK AT MOST 1048576: true; the input reads as it did. -/
def fnExactAdmitFlowUptoRow : OpenClaim := { program := "ytdodogkgmpaioaa", sum := "d98163b240c3cd2433cbae53baf45c41643ec0b3195a7f69b6a7aea846d2074b", func := "loop.example/g00599/laws.FnExactAdmitFlow", spec := "fnExactAdmitFlow", unfollowed := true, recurses := true, apart := false, narrowed := true }
def FnExactAdmitFlowUptoSaid : Prop := fnExactAdmitFlowUptoRow.holds Try.pinned (OpenSpec.upto fnExactAdmitFlowSpec)

/-- 'laws.FnReserved', WHERE WHAT IT READS IS OF BULK AT MOST 1048576: true; the input reads as it did. -/
def fnReservedUptoRow : OpenClaim := { program := "ytdodogkgmpaioaa", sum := "d98163b240c3cd2433cbae53baf45c41643ec0b3195a7f69b6a7aea846d2074b", func := "loop.example/g00599/laws.FnReserved", spec := "fnReserved", unfollowed := true, recurses := true, apart := false, narrowed := true }
def FnReservedUptoSaid : Prop := fnReservedUptoRow.holds Try.pinned (OpenSpec.upto fnReservedSpec)

/-- 'laws.FnExactArrivalAt', WHERE WHAT IT READS IS OF BULK AT MOST 1048576: true; the input reads as it did. -/
def fnExactArrivalAtUptoRow : OpenClaim := { program := "ytdodogkgmpaioaa", sum := "d98163b240c3cd2433cbae53baf45c41643ec0b3195a7f69b6a7aea846d2074b", func := "loop.example/g00599/laws.FnExactArrivalAt", spec := "fnExactArrivalAt", unfollowed := true, recurses := true, apart := false, narrowed := true }
def FnExactArrivalAtUptoSaid : Prop := fnExactArrivalAtUptoRow.holds Try.pinned (OpenSpec.upto fnExactArrivalAtSpec)

/-- 'laws.FnExactReachCount', WHERE WHAT IT READS IS OF BULK AT MOST 1048576: true; the input reads as it did. -/
def fnExactReachCountUptoRow : OpenClaim := { program := "ytdodogkgmpaioaa", sum := "d98163b240c3cd2433cbae53baf45c41643ec0b3195a7f69b6a7aea846d2074b", func := "loop.example/g00599/laws.FnExactReachCount", spec := "fnExactReachCount", unfollowed := true, recurses := true, apart := false, narrowed := true }
def FnExactReachCountUptoSaid : Prop := fnExactReachCountUptoRow.holds Try.pinned (OpenSpec.upto fnExactReachCountSpec)

/-- 'laws.FnExactReachFrom', WHERE WHAT IT READS IS OF BULK AT MOST 1048576: true; the input reads as it did. -/
def fnExactReachFromUptoRow : OpenClaim := { program := "ytdodogkgmpaioaa", sum := "d98163b240c3cd2433cbae53baf45c41643ec0b3195a7f69b6a7aea846d2074b", func := "loop.example/g00599/laws.FnExactReachFrom", spec := "fnExactReachFrom", unfollowed := true, recurses := true, apart := false, narrowed := true }
def FnExactReachFromUptoSaid : Prop := fnExactReachFromUptoRow.holds Try.pinned (OpenSpec.upto fnExactReachFromSpec)

/-- 'laws.FnExactIsWhole', WHERE WHAT IT READS IS OF BULK AT MOST 1048576: true; the input reads as it did. -/
def fnExactIsWholeUptoRow : OpenClaim := { program := "ytdodogkgmpaioaa", sum := "d98163b240c3cd2433cbae53baf45c41643ec0b3195a7f69b6a7aea846d2074b", func := "loop.example/g00599/laws.FnExactIsWhole", spec := "fnExactIsWhole", unfollowed := true, recurses := true, apart := false, narrowed := true }
def FnExactIsWholeUptoSaid : Prop := fnExactIsWholeUptoRow.holds Try.pinned (OpenSpec.upto fnExactIsWholeSpec)

/-- 'laws.FnReach', WHERE WHAT IT READS IS OF BULK AT MOST 1048576: true; the input reads as it did. -/
def fnReachUptoRow : OpenClaim := { program := "ytdodogkgmpaioaa", sum := "d98163b240c3cd2433cbae53baf45c41643ec0b3195a7f69b6a7aea846d2074b", func := "loop.example/g00599/laws.FnReach", spec := "fnReach", unfollowed := true, recurses := true, apart := false, narrowed := true }
def FnReachUptoSaid : Prop := fnReachUptoRow.holds Try.pinned (OpenSpec.upto fnReachSpec)

end Rows
end Go.Proofs.Ytdodogkgmpaioaa
