/-
  No cell of these rows narrows 'for every input' (looked for: loops, veiled, ifaces, maps, wideKeys, modest, calm, conditions, laid).
  DERIVED. THE GIVEN ROWS OF THIS SEAT. 9 by the template 'for every input the law returns true; each argument reads behind the call as it read before'; 0 by the template 'total and deterministic' (their statements: YtlogjmgghnifoaaTotals.lean).
  GIVEN WITH THE SEED: the statements are not yours to turn. If you find one false, say at which input.
  Laid BY PROGRAM, IN A SANDBOX (cutbox-rows.mjs): the forced cells as the released guide's own fill.sh prints them over the translation f46e127223f6ad28… (all of the seat's roots in one cut). By AI agents, Wed Nov 11 2026. No macro, syntax, notation, axiom, sorry.
-/
import Derived.Test.YtlogjmgghnifoaaChecked
import GoSem.Claim
import GoSem.ClaimJoined
import GoSem.ClaimMapViews
import Derived.JoinedTies
import Derived.KernelRfl
namespace Go.Proofs.Ytlogjmgghnifoaa
/- THE CELL 'sum', in the pinned program and in every row, IS THE sha256 OF THE DUMP (.gsa) THAT YtlogjmgghnifoaaProg.lean LOADS. Nothing in Lean hashes anything: it is a label: what it is worth is what the hold of that sum in a sandbox is worth. -/
noncomputable def Try.pinned : Pinned := { name := "ytlogjmgghnifoaa", sum := "f46e127223f6ad286e0692c0c9fa7d8017e0c9f8acfef69db0221bbe84dd3b18", checked := Try.checked }
namespace Rows
def none {H : Type} : Left H := { results := [], args := [] }

/-- 'laws.FnExactGapsOf': WHATEVER THE INPUT: true; the input reads as it did. -/
def fnExactGapsOfSpec : ChangeSpec := { name := "fnExactGapsOf", fn := fun _ => fun
  | [d1, d2] => { results := [.lit (.bool true)], args := [d1, d2] }
  | _ => none }
def fnExactGapsOfRow : OpenClaim := { program := "ytlogjmgghnifoaa", sum := "f46e127223f6ad286e0692c0c9fa7d8017e0c9f8acfef69db0221bbe84dd3b18", func := "loop.example/g00599/laws.FnExactGapsOf", spec := "fnExactGapsOf", unfollowed := true, recurses := true, apart := false }
def FnExactGapsOfSaid : Prop := fnExactGapsOfRow.holds Try.pinned (OpenSpec.ofChange fnExactGapsOfSpec)

/-- ITS FALSE NEIGHBOUR: 'it returns false'. Refute it at one input. -/
def fnExactGapsOfWrong : ChangeSpec := { name := "fnExactGapsOf", fn := fun _ => fun
  | [d1, d2] => { results := [.lit (.bool false)], args := [d1, d2] }
  | _ => none }
def FnExactGapsOfWrongFalsely : Prop := fnExactGapsOfRow.holds Try.pinned (OpenSpec.ofChange fnExactGapsOfWrong)

/-- 'laws.FnExactServiceOf': WHATEVER THE INPUT: true; the input reads as it did. -/
def fnExactServiceOfSpec : ChangeSpec := { name := "fnExactServiceOf", fn := fun _ => fun
  | [d1, d2, d3] => { results := [.lit (.bool true)], args := [d1, d2, d3] }
  | _ => none }
def fnExactServiceOfRow : OpenClaim := { program := "ytlogjmgghnifoaa", sum := "f46e127223f6ad286e0692c0c9fa7d8017e0c9f8acfef69db0221bbe84dd3b18", func := "loop.example/g00599/laws.FnExactServiceOf", spec := "fnExactServiceOf", unfollowed := true, recurses := true, apart := false }
def FnExactServiceOfSaid : Prop := fnExactServiceOfRow.holds Try.pinned (OpenSpec.ofChange fnExactServiceOfSpec)

/-- ITS FALSE NEIGHBOUR: 'it returns false'. Refute it at one input. -/
def fnExactServiceOfWrong : ChangeSpec := { name := "fnExactServiceOf", fn := fun _ => fun
  | [d1, d2, d3] => { results := [.lit (.bool false)], args := [d1, d2, d3] }
  | _ => none }
def FnExactServiceOfWrongFalsely : Prop := fnExactServiceOfRow.holds Try.pinned (OpenSpec.ofChange fnExactServiceOfWrong)

/-- 'laws.FnExactPacketPlaces': WHATEVER THE INPUT: true; the input reads as it did. -/
def fnExactPacketPlacesSpec : ChangeSpec := { name := "fnExactPacketPlaces", fn := fun _ => fun
  | [d1, d2] => { results := [.lit (.bool true)], args := [d1, d2] }
  | _ => none }
def fnExactPacketPlacesRow : OpenClaim := { program := "ytlogjmgghnifoaa", sum := "f46e127223f6ad286e0692c0c9fa7d8017e0c9f8acfef69db0221bbe84dd3b18", func := "loop.example/g00599/laws.FnExactPacketPlaces", spec := "fnExactPacketPlaces", apart := false }
def FnExactPacketPlacesSaid : Prop := fnExactPacketPlacesRow.holds Try.pinned (OpenSpec.ofChange fnExactPacketPlacesSpec)

/-- ITS FALSE NEIGHBOUR: 'it returns false'. Refute it at one input. -/
def fnExactPacketPlacesWrong : ChangeSpec := { name := "fnExactPacketPlaces", fn := fun _ => fun
  | [d1, d2] => { results := [.lit (.bool false)], args := [d1, d2] }
  | _ => none }
def FnExactPacketPlacesWrongFalsely : Prop := fnExactPacketPlacesRow.holds Try.pinned (OpenSpec.ofChange fnExactPacketPlacesWrong)

/-- 'laws.FnExactServersIn': WHATEVER THE INPUT: true; the input reads as it did. -/
def fnExactServersInSpec : ChangeSpec := { name := "fnExactServersIn", fn := fun _ => fun
  | [d1, d2, d3] => { results := [.lit (.bool true)], args := [d1, d2, d3] }
  | _ => none }
def fnExactServersInRow : OpenClaim := { program := "ytlogjmgghnifoaa", sum := "f46e127223f6ad286e0692c0c9fa7d8017e0c9f8acfef69db0221bbe84dd3b18", func := "loop.example/g00599/laws.FnExactServersIn", spec := "fnExactServersIn", recurses := true, apart := false }
def FnExactServersInSaid : Prop := fnExactServersInRow.holds Try.pinned (OpenSpec.ofChange fnExactServersInSpec)

/-- ITS FALSE NEIGHBOUR: 'it returns false'. Refute it at one input. -/
def fnExactServersInWrong : ChangeSpec := { name := "fnExactServersIn", fn := fun _ => fun
  | [d1, d2, d3] => { results := [.lit (.bool false)], args := [d1, d2, d3] }
  | _ => none }
def FnExactServersInWrongFalsely : Prop := fnExactServersInRow.holds Try.pinned (OpenSpec.ofChange fnExactServersInWrong)

/-- 'laws.FnHandovers': WHATEVER THE INPUT: true; the input reads as it did. -/
def fnHandoversSpec : ChangeSpec := { name := "fnHandovers", fn := fun _ => fun
  | [d] => { results := [.lit (.bool true)], args := [d] }
  | _ => none }
def fnHandoversRow : OpenClaim := { program := "ytlogjmgghnifoaa", sum := "f46e127223f6ad286e0692c0c9fa7d8017e0c9f8acfef69db0221bbe84dd3b18", func := "loop.example/g00599/laws.FnHandovers", spec := "fnHandovers", unfollowed := true, recurses := true, apart := false }
def FnHandoversSaid : Prop := fnHandoversRow.holds Try.pinned (OpenSpec.ofChange fnHandoversSpec)

/-- ITS FALSE NEIGHBOUR: 'it returns false'. Refute it at one input. -/
def fnHandoversWrong : ChangeSpec := { name := "fnHandovers", fn := fun _ => fun
  | [d] => { results := [.lit (.bool false)], args := [d] }
  | _ => none }
def FnHandoversWrongFalsely : Prop := fnHandoversRow.holds Try.pinned (OpenSpec.ofChange fnHandoversWrong)

/-- 'laws.FnExactLongestGap': WHATEVER THE INPUT: true; the input reads as it did. -/
def fnExactLongestGapSpec : ChangeSpec := { name := "fnExactLongestGap", fn := fun _ => fun
  | [d1, d2] => { results := [.lit (.bool true)], args := [d1, d2] }
  | _ => none }
def fnExactLongestGapRow : OpenClaim := { program := "ytlogjmgghnifoaa", sum := "f46e127223f6ad286e0692c0c9fa7d8017e0c9f8acfef69db0221bbe84dd3b18", func := "loop.example/g00599/laws.FnExactLongestGap", spec := "fnExactLongestGap", unfollowed := true, recurses := true, apart := false }
def FnExactLongestGapSaid : Prop := fnExactLongestGapRow.holds Try.pinned (OpenSpec.ofChange fnExactLongestGapSpec)

/-- ITS FALSE NEIGHBOUR: 'it returns false'. Refute it at one input. -/
def fnExactLongestGapWrong : ChangeSpec := { name := "fnExactLongestGap", fn := fun _ => fun
  | [d1, d2] => { results := [.lit (.bool false)], args := [d1, d2] }
  | _ => none }
def FnExactLongestGapWrongFalsely : Prop := fnExactLongestGapRow.holds Try.pinned (OpenSpec.ofChange fnExactLongestGapWrong)

/-- 'laws.FnExactHandoversOf': WHATEVER THE INPUT: true; the input reads as it did. -/
def fnExactHandoversOfSpec : ChangeSpec := { name := "fnExactHandoversOf", fn := fun _ => fun
  | [d1, d2] => { results := [.lit (.bool true)], args := [d1, d2] }
  | _ => none }
def fnExactHandoversOfRow : OpenClaim := { program := "ytlogjmgghnifoaa", sum := "f46e127223f6ad286e0692c0c9fa7d8017e0c9f8acfef69db0221bbe84dd3b18", func := "loop.example/g00599/laws.FnExactHandoversOf", spec := "fnExactHandoversOf", recurses := true, apart := false }
def FnExactHandoversOfSaid : Prop := fnExactHandoversOfRow.holds Try.pinned (OpenSpec.ofChange fnExactHandoversOfSpec)

/-- ITS FALSE NEIGHBOUR: 'it returns false'. Refute it at one input. -/
def fnExactHandoversOfWrong : ChangeSpec := { name := "fnExactHandoversOf", fn := fun _ => fun
  | [d1, d2] => { results := [.lit (.bool false)], args := [d1, d2] }
  | _ => none }
def FnExactHandoversOfWrongFalsely : Prop := fnExactHandoversOfRow.holds Try.pinned (OpenSpec.ofChange fnExactHandoversOfWrong)

/-- 'laws.FnExactRoundsOf': WHATEVER THE INPUT: true; the input reads as it did. -/
def fnExactRoundsOfSpec : ChangeSpec := { name := "fnExactRoundsOf", fn := fun _ => fun
  | [d1, d2] => { results := [.lit (.bool true)], args := [d1, d2] }
  | _ => none }
def fnExactRoundsOfRow : OpenClaim := { program := "ytlogjmgghnifoaa", sum := "f46e127223f6ad286e0692c0c9fa7d8017e0c9f8acfef69db0221bbe84dd3b18", func := "loop.example/g00599/laws.FnExactRoundsOf", spec := "fnExactRoundsOf", recurses := true, apart := false }
def FnExactRoundsOfSaid : Prop := fnExactRoundsOfRow.holds Try.pinned (OpenSpec.ofChange fnExactRoundsOfSpec)

/-- ITS FALSE NEIGHBOUR: 'it returns false'. Refute it at one input. -/
def fnExactRoundsOfWrong : ChangeSpec := { name := "fnExactRoundsOf", fn := fun _ => fun
  | [d1, d2] => { results := [.lit (.bool false)], args := [d1, d2] }
  | _ => none }
def FnExactRoundsOfWrongFalsely : Prop := fnExactRoundsOfRow.holds Try.pinned (OpenSpec.ofChange fnExactRoundsOfWrong)

/-- 'laws.FnUpgrades': WHATEVER THE INPUT: true; the input reads as it did. -/
def fnUpgradesSpec : ChangeSpec := { name := "fnUpgrades", fn := fun _ => fun
  | [d] => { results := [.lit (.bool true)], args := [d] }
  | _ => none }
def fnUpgradesRow : OpenClaim := { program := "ytlogjmgghnifoaa", sum := "f46e127223f6ad286e0692c0c9fa7d8017e0c9f8acfef69db0221bbe84dd3b18", func := "loop.example/g00599/laws.FnUpgrades", spec := "fnUpgrades", recurses := true, apart := false }
def FnUpgradesSaid : Prop := fnUpgradesRow.holds Try.pinned (OpenSpec.ofChange fnUpgradesSpec)

/-- ITS FALSE NEIGHBOUR: 'it returns false'. Refute it at one input. -/
def fnUpgradesWrong : ChangeSpec := { name := "fnUpgrades", fn := fun _ => fun
  | [d] => { results := [.lit (.bool false)], args := [d] }
  | _ => none }
def FnUpgradesWrongFalsely : Prop := fnUpgradesRow.holds Try.pinned (OpenSpec.ofChange fnUpgradesWrong)

/- THE SECOND FORM. 'bulk': how many values and letters a reading holds, each counted each time it is reached (what is shared counts as often as it is met; a slice's spare places count too). A statement '..UptoSaid' is the law's where the arguments, and the package variables that the reading takes, are together of bulk at most 1048576: NARROWER than '..Said'. Prove '..Said' where nothing that the law and all that it calls make is longer than what came in: it says more and counts as full. Else prove '..UptoSaid'. A law counts once. -/
mutual
def uptoBulk {H : Type} : DataW H → Nat
  | .lit (.string bytes) => bytes.length + 1
  | .lit _ => 1
  | .nil => 1
  | .ptr d => uptoBulk d + 1
  | .slice elems spare => uptoBulkAll elems + uptoBulkAll spare + 1
  | .agg parts => uptoBulkAll parts + 1
  | .iface _ d => uptoBulk d + 1
  | .map entries => uptoBulkEntries entries + 1
  | .held _ => 1
def uptoBulkAll {H : Type} : List (DataW H) → Nat
  | [] => 0
  | d :: r => uptoBulk d + uptoBulkAll r
def uptoBulkEntries {H : Type} : List (Lit × DataW H) → Nat
  | [] => 0
  | x :: r => uptoBulkEntry x + uptoBulkEntries r
def uptoBulkEntry {H : Type} : Lit × DataW H → Nat
  | (.string bytes, d) => bytes.length + uptoBulk d + 1
  | (_, d) => uptoBulk d + 1
 end
def uptoSmall : (H : Type) → List (DataW H) → Bool := fun _ ds => decide (uptoBulkAll ds ≤ 1048576)
def OpenSpec.upto (s : _root_.Go.ChangeSpec) : _root_.Go.OpenSpec := { _root_.Go.OpenSpec.ofChange s with cond := some uptoSmall }

/-- 'laws.FnExactGapsOf', WHERE WHAT IT READS IS OF BULK AT MOST 1048576: true; the input reads as it did. -/
def fnExactGapsOfUptoRow : OpenClaim := { program := "ytlogjmgghnifoaa", sum := "f46e127223f6ad286e0692c0c9fa7d8017e0c9f8acfef69db0221bbe84dd3b18", func := "loop.example/g00599/laws.FnExactGapsOf", spec := "fnExactGapsOf", unfollowed := true, recurses := true, apart := false, narrowed := true }
def FnExactGapsOfUptoSaid : Prop := fnExactGapsOfUptoRow.holds Try.pinned (OpenSpec.upto fnExactGapsOfSpec)

/-- 'laws.FnExactServiceOf', WHERE WHAT IT READS IS OF BULK AT MOST 1048576: true; the input reads as it did. -/
def fnExactServiceOfUptoRow : OpenClaim := { program := "ytlogjmgghnifoaa", sum := "f46e127223f6ad286e0692c0c9fa7d8017e0c9f8acfef69db0221bbe84dd3b18", func := "loop.example/g00599/laws.FnExactServiceOf", spec := "fnExactServiceOf", unfollowed := true, recurses := true, apart := false, narrowed := true }
def FnExactServiceOfUptoSaid : Prop := fnExactServiceOfUptoRow.holds Try.pinned (OpenSpec.upto fnExactServiceOfSpec)

/-- 'laws.FnExactPacketPlaces', WHERE WHAT IT READS IS OF BULK AT MOST 1048576: true; the input reads as it did. -/
def fnExactPacketPlacesUptoRow : OpenClaim := { program := "ytlogjmgghnifoaa", sum := "f46e127223f6ad286e0692c0c9fa7d8017e0c9f8acfef69db0221bbe84dd3b18", func := "loop.example/g00599/laws.FnExactPacketPlaces", spec := "fnExactPacketPlaces", apart := false, narrowed := true }
def FnExactPacketPlacesUptoSaid : Prop := fnExactPacketPlacesUptoRow.holds Try.pinned (OpenSpec.upto fnExactPacketPlacesSpec)

/-- 'laws.FnExactServersIn', WHERE WHAT IT READS IS OF BULK AT MOST 1048576: true; the input reads as it did. -/
def fnExactServersInUptoRow : OpenClaim := { program := "ytlogjmgghnifoaa", sum := "f46e127223f6ad286e0692c0c9fa7d8017e0c9f8acfef69db0221bbe84dd3b18", func := "loop.example/g00599/laws.FnExactServersIn", spec := "fnExactServersIn", recurses := true, apart := false, narrowed := true }
def FnExactServersInUptoSaid : Prop := fnExactServersInUptoRow.holds Try.pinned (OpenSpec.upto fnExactServersInSpec)

/-- 'laws.FnHandovers', WHERE WHAT IT READS IS OF BULK AT MOST 1048576: true; the input reads as it did. -/
def fnHandoversUptoRow : OpenClaim := { program := "ytlogjmgghnifoaa", sum := "f46e127223f6ad286e0692c0c9fa7d8017e0c9f8acfef69db0221bbe84dd3b18", func := "loop.example/g00599/laws.FnHandovers", spec := "fnHandovers", unfollowed := true, recurses := true, apart := false, narrowed := true }
def FnHandoversUptoSaid : Prop := fnHandoversUptoRow.holds Try.pinned (OpenSpec.upto fnHandoversSpec)

/-- 'laws.FnExactLongestGap', WHERE WHAT IT READS IS OF BULK AT MOST 1048576: true; the input reads as it did. -/
def fnExactLongestGapUptoRow : OpenClaim := { program := "ytlogjmgghnifoaa", sum := "f46e127223f6ad286e0692c0c9fa7d8017e0c9f8acfef69db0221bbe84dd3b18", func := "loop.example/g00599/laws.FnExactLongestGap", spec := "fnExactLongestGap", unfollowed := true, recurses := true, apart := false, narrowed := true }
def FnExactLongestGapUptoSaid : Prop := fnExactLongestGapUptoRow.holds Try.pinned (OpenSpec.upto fnExactLongestGapSpec)

/-- 'laws.FnExactHandoversOf', WHERE WHAT IT READS IS OF BULK AT MOST 1048576: true; the input reads as it did. -/
def fnExactHandoversOfUptoRow : OpenClaim := { program := "ytlogjmgghnifoaa", sum := "f46e127223f6ad286e0692c0c9fa7d8017e0c9f8acfef69db0221bbe84dd3b18", func := "loop.example/g00599/laws.FnExactHandoversOf", spec := "fnExactHandoversOf", recurses := true, apart := false, narrowed := true }
def FnExactHandoversOfUptoSaid : Prop := fnExactHandoversOfUptoRow.holds Try.pinned (OpenSpec.upto fnExactHandoversOfSpec)

/-- 'laws.FnExactRoundsOf', WHERE WHAT IT READS IS OF BULK AT MOST 1048576: true; the input reads as it did. -/
def fnExactRoundsOfUptoRow : OpenClaim := { program := "ytlogjmgghnifoaa", sum := "f46e127223f6ad286e0692c0c9fa7d8017e0c9f8acfef69db0221bbe84dd3b18", func := "loop.example/g00599/laws.FnExactRoundsOf", spec := "fnExactRoundsOf", recurses := true, apart := false, narrowed := true }
def FnExactRoundsOfUptoSaid : Prop := fnExactRoundsOfUptoRow.holds Try.pinned (OpenSpec.upto fnExactRoundsOfSpec)

/-- 'laws.FnUpgrades', WHERE WHAT IT READS IS OF BULK AT MOST 1048576: true; the input reads as it did. -/
def fnUpgradesUptoRow : OpenClaim := { program := "ytlogjmgghnifoaa", sum := "f46e127223f6ad286e0692c0c9fa7d8017e0c9f8acfef69db0221bbe84dd3b18", func := "loop.example/g00599/laws.FnUpgrades", spec := "fnUpgrades", recurses := true, apart := false, narrowed := true }
def FnUpgradesUptoSaid : Prop := fnUpgradesUptoRow.holds Try.pinned (OpenSpec.upto fnUpgradesSpec)

end Rows
end Go.Proofs.Ytlogjmgghnifoaa
