/- The law FnExactPacketPlaces, over the Go program's own text: for every input it answers true, and its arguments read as before. Conditions: none but the row's own. -/
import Derived.Test.YtlogjmgghnifoaaRows
import Derived.Test.YtlogjmgghnifoaaPFnExactPacketPlacesx14
import Derived.Test.YtlogjmgghnifoaaVFnExactPacketPlacesOpen
import Derived.Test.YtlogjmgghnifoaaPureFnExactPacketPlaces
import Derived.WalkKit
import Derived.ProofKit
import Derived.OpenShut
import Derived.ShutString
import Derived.ChangeOld
import Derived.Below
import Derived.SizedLaws
import Derived.Test.YtlogjmgghnifoaaLiftFnExactPacketPlaces
namespace Go.Proofs.Ytlogjmgghnifoaa.fnExactPacketPlaces
open Go.ChangeShapes Go.WideShapes Go.ChangeAt Go.RowKit
open Go.ChangeMaps (open_string shut_string)
open Go.Proofs.Ytlogjmgghnifoaa.PFnExactPacketPlaces Go.Proofs.YtlogjmgghnifoaaW.PrintWords Go.Proofs.YtlogjmgghnifoaaW.PrintLast Go.Proofs.Ytlogjmgghnifoaa.Reads Go.Proofs.Ytlogjmgghnifoaa.PureFnExactPacketPlaces
set_option linter.unusedVariables false
theorem ba_ {a b : Bool} (h : a = true) (h' : b = true) : (a && b) = true := by rw [h, h']; rfl
theorem jf0 : (Rows.fnExactPacketPlacesRow.wf (OpenSpec.ofChange Rows.fnExactPacketPlacesSpec)) = true := by kernel_rfl
theorem jf1 : (laidOutB Try.pinned.checked.prog) = true := by kernel_rfl
theorem jf2 : (mapsRowed Try.pinned.checked.prog) = true := by kernel_rfl
theorem jf3 : (Try.f5.params.all (Try.pinned.checked.prog.readableRec ·)) = true := by kernel_rfl
theorem jf4 : (namedTie Try.pinned.checked.prog Rows.fnExactPacketPlacesRow.named Rows.fnExactPacketPlacesSpec.vars) = true := by kernel_rfl
theorem jf5 : ((Rows.fnExactPacketPlacesRow.stops == [])) = true := by kernel_rfl
theorem jf6 : ((Try.pinned.checked.prog.stops == [])) = true := by kernel_rfl
theorem jf7 : ((Rows.fnExactPacketPlacesRow.knobs == [])) = true := by kernel_rfl
theorem jf8 : ((Try.pinned.checked.prog.stopKnobs == [])) = true := by kernel_rfl
theorem jf9 : ((Rows.fnExactPacketPlacesRow.inPlace == Try.pinned.checked.prog.inPlace 5)) = true := by kernel_rfl
theorem jf10 : ((Rows.fnExactPacketPlacesRow.unfollowed == Try.pinned.checked.prog.unfollowed 5)) = true := by kernel_rfl
theorem jf11 : ((Rows.fnExactPacketPlacesRow.recurses == Try.pinned.checked.prog.recurses 5)) = true := by kernel_rfl
theorem jf12 : ((Rows.fnExactPacketPlacesRow.named == Try.pinned.checked.prog.varsNamed 5)) = true := by kernel_rfl
theorem jf13 : ((Rows.fnExactPacketPlacesRow.maps == (Try.f5.params.toList ++ Rows.fnExactPacketPlacesSpec.plain.varTypes Try.pinned.checked.prog).any (Try.pinned.checked.prog.mapsRec ·))) = true := by kernel_rfl
theorem jf14 : ((Rows.fnExactPacketPlacesRow.ifaces == (Try.f5.params.toList ++ Rows.fnExactPacketPlacesSpec.plain.varTypes Try.pinned.checked.prog).any (Try.pinned.checked.prog.ifacesRec ·))) = true := by kernel_rfl
theorem jf15 : ((Rows.fnExactPacketPlacesRow.mapsOut == Try.pinned.checked.prog.mapsAmong Try.f5.resultTypes.toList)) = true := by kernel_rfl
theorem jf16 : ((Rows.fnExactPacketPlacesRow.loops == (Try.f5.params.toList ++ Rows.fnExactPacketPlacesSpec.plain.varTypes Try.pinned.checked.prog).any (Try.pinned.checked.prog.loopsFrom ·))) = true := by kernel_rfl
theorem jf17 : ((Rows.fnExactPacketPlacesRow.wideKeys == (Try.f5.params.toList ++ Rows.fnExactPacketPlacesSpec.plain.varTypes Try.pinned.checked.prog ++ Try.f5.resultTypes.toList).any (Try.pinned.checked.prog.wideKeysFrom ·))) = true := by kernel_rfl
theorem jf18 : (Rows.fnExactPacketPlacesSpec.vars.all (Try.pinned.checked.prog.varReadable ·)) = true := by kernel_rfl
theorem jf19 : (Try.f5.resultTypes.all (fun t => Try.pinned.checked.prog.readableRec t && decide (t < Try.pinned.checked.prog.types.size))) = true := by kernel_rfl
theorem jf20 : ((Rows.fnExactPacketPlacesRow.ifacesOut == Try.f5.resultTypes.toList.any (Try.pinned.checked.prog.ifacesRec ·))) = true := by kernel_rfl
theorem jf21 : ((Rows.fnExactPacketPlacesRow.loopsOut == Try.f5.resultTypes.toList.any (Try.pinned.checked.prog.loopsFrom ·))) = true := by kernel_rfl
theorem jf22 : ((Rows.fnExactPacketPlacesRow.plainKeys == Try.pinned.checked.prog.plainKeys)) = true := by kernel_rfl
theorem jf23 : (Rows.fnExactPacketPlacesRow.shortTexts.isNone) = true := by kernel_rfl
theorem jf24 : (Try.pinned.checked.prog.stopsHeard) = true := by kernel_rfl
theorem jf25 : (Try.pinned.checked.prog.mayEnter) = true := by kernel_rfl
theorem jf26 : ((Rows.fnExactPacketPlacesRow.lifted == Try.pinned.checked.prog.liftsFinal)) = true := by kernel_rfl
theorem jf27 : ((Try.pinned.checked.prog.make == some Rows.fnExactPacketPlacesRow.make)) = true := by kernel_rfl
theorem jf28 : ((Rows.fnExactPacketPlacesRow.kinds == (if Rows.fnExactPacketPlacesRow.domain.isEmpty then [] else Try.f5.params.toList.map fun t => match Try.pinned.checked.prog.underlying t with | some (.int k) => some k | _ => none))) = true := by kernel_rfl
theorem jf29 : ((Rows.fnExactPacketPlacesRow.pinned == Rows.fnExactPacketPlacesRow.pinnedBy)) = true := by kernel_rfl
theorem jf30 : ((Rows.fnExactPacketPlacesRow.veiled == (Try.f5.params.toList ++ Rows.fnExactPacketPlacesSpec.plain.varTypes Try.pinned.checked.prog ++ Try.f5.resultTypes.toList).any (Try.pinned.checked.prog.veiledRec ·))) = true := by kernel_rfl
theorem jf31 : (Rows.fnExactPacketPlacesRow.veiledFits Try.pinned.checked.prog Try.f5.params.toList (Try.f5.params.toList ++ Rows.fnExactPacketPlacesSpec.plain.varTypes Try.pinned.checked.prog ++ Try.f5.resultTypes.toList)) = true := by kernel_rfl
theorem closed_ : joinedFacts Try.pinned.checked.prog 5 Try.f5 Rows.fnExactPacketPlacesSpec Rows.fnExactPacketPlacesRow = true := by
  unfold joinedFacts
  refine (ba_ (ba_ (ba_ (ba_ (ba_ (ba_ (ba_ (ba_ (ba_ (ba_ (ba_ (ba_ (ba_ (ba_ (ba_ (ba_ (ba_ (ba_ (ba_ (ba_ (ba_ (ba_ (ba_ (ba_ (ba_ (ba_ (ba_ (ba_ (ba_ (ba_ (ba_ ?_ ?_) ?_) ?_) ?_) ?_) ?_) ?_) ?_) ?_) ?_) ?_) ?_) ?_) ?_) ?_) ?_) ?_) ?_) ?_) ?_) ?_) ?_) ?_) ?_) ?_) ?_) ?_) ?_) ?_) ?_) ?_)
  · first | with_reducible exact jf0 | kernel_rfl
  · first | with_reducible exact jf1 | kernel_rfl
  · first | with_reducible exact jf2 | kernel_rfl
  · first | with_reducible exact jf3 | kernel_rfl
  · first | with_reducible exact jf4 | kernel_rfl
  · first | with_reducible exact jf5 | kernel_rfl
  · first | with_reducible exact jf6 | kernel_rfl
  · first | with_reducible exact jf7 | kernel_rfl
  · first | with_reducible exact jf8 | kernel_rfl
  · first | with_reducible exact jf9 | kernel_rfl
  · first | with_reducible exact jf10 | kernel_rfl
  · first | with_reducible exact jf11 | kernel_rfl
  · first | with_reducible exact jf12 | kernel_rfl
  · first | with_reducible exact jf13 | kernel_rfl
  · first | with_reducible exact jf14 | kernel_rfl
  · first | with_reducible exact jf15 | kernel_rfl
  · first | with_reducible exact jf16 | kernel_rfl
  · first | with_reducible exact jf17 | kernel_rfl
  · first | with_reducible exact jf18 | kernel_rfl
  · first | with_reducible exact jf19 | kernel_rfl
  · first | with_reducible exact jf20 | kernel_rfl
  · first | with_reducible exact jf21 | kernel_rfl
  · first | with_reducible exact jf22 | kernel_rfl
  · first | with_reducible exact jf23 | kernel_rfl
  · first | with_reducible exact jf24 | kernel_rfl
  · first | with_reducible exact jf25 | kernel_rfl
  · first | with_reducible exact jf26 | kernel_rfl
  · first | with_reducible exact jf27 | kernel_rfl
  · first | with_reducible exact jf28 | kernel_rfl
  · first | with_reducible exact jf29 | kernel_rfl
  · first | with_reducible exact jf30 | kernel_rfl
  · first | with_reducible exact jf31 | kernel_rfl
theorem over : Rows.fnExactPacketPlacesRow.holds Try.pinned (OpenSpec.ofChange Rows.fnExactPacketPlacesSpec) :=
  OpenClaim.holds_of_wide 5 Try.f5 rfl rfl rfl rfl rfl rfl rfl ⟨rfl, rfl, rfl, rfl, rfl⟩ rfl rfl rfl rfl rfl (by kernel_rfl) Try.func5 closed_
    (of_decide_eq_true (by kernel_rfl)) (by unfold Func.isWrapper; first | (rw [if_pos (by decide +kernel)]; kernel_rfl) | (rw [if_neg (by decide +kernel)]; exact ⟨rfl, rfl⟩))
    (fun os started H enc _ => lifted os started H enc)
theorem proved : Rows.FnExactPacketPlacesSaid := over
end Go.Proofs.Ytlogjmgghnifoaa.fnExactPacketPlaces
namespace Go.Proofs.Ytlogjmgghnifoaa
/-- The row, under a short name, for the claim. -/
theorem fnExactPacketPlaces_holds : Rows.FnExactPacketPlacesSaid := fnExactPacketPlaces.proved
end Go.Proofs.Ytlogjmgghnifoaa
