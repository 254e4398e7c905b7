/- Closed facts of the row: part s. -/
import Derived.Test.YtmiohnbdeaendaaGreatDoorRows
namespace Go.Proofs.YtmiohnbdeaendaaGreatDoor
open Go
set_option maxRecDepth 100000
theorem jf0 : (Rows.definitionPathSymbolEqualsReferenceRow.wf (OpenSpec.ofChange Rows.definitionPathSymbolEqualsReferenceSpec)) = true := by kernel_rfl
theorem jf1 : (laidOutB Tryz.prog) = true := by kernel_rfl
theorem jf2 : (mapsRowed Tryz.prog) = true := by kernel_rfl
theorem jf3 : (Tryz.f6.params.all (Tryz.prog.readableRec ·)) = true := by kernel_rfl
theorem jf4 : (namedTie Tryz.prog Rows.definitionPathSymbolEqualsReferenceRow.named Rows.definitionPathSymbolEqualsReferenceSpec.vars) = true := by kernel_rfl
theorem jf5 : ((Rows.definitionPathSymbolEqualsReferenceRow.stops == [])) = true := by kernel_rfl
theorem jf7 : ((Rows.definitionPathSymbolEqualsReferenceRow.knobs == [])) = true := by kernel_rfl
theorem jf13 : ((Rows.definitionPathSymbolEqualsReferenceRow.maps == (Tryz.f6.params.toList ++ Rows.definitionPathSymbolEqualsReferenceSpec.plain.varTypes Tryz.prog).any (Tryz.prog.mapsRec ·))) = true := by kernel_rfl
theorem jf14 : ((Rows.definitionPathSymbolEqualsReferenceRow.ifaces == (Tryz.f6.params.toList ++ Rows.definitionPathSymbolEqualsReferenceSpec.plain.varTypes Tryz.prog).any (Tryz.prog.ifacesRec ·))) = true := by kernel_rfl
theorem jf15 : ((Rows.definitionPathSymbolEqualsReferenceRow.mapsOut == Tryz.prog.mapsAmong Tryz.f6.resultTypes.toList)) = true := by kernel_rfl
theorem jf16 : ((Rows.definitionPathSymbolEqualsReferenceRow.loops == (Tryz.f6.params.toList ++ Rows.definitionPathSymbolEqualsReferenceSpec.plain.varTypes Tryz.prog).any (Tryz.prog.loopsFrom ·))) = true := by kernel_rfl
theorem jf17 : ((Rows.definitionPathSymbolEqualsReferenceRow.wideKeys == (Tryz.f6.params.toList ++ Rows.definitionPathSymbolEqualsReferenceSpec.plain.varTypes Tryz.prog ++ Tryz.f6.resultTypes.toList).any (Tryz.prog.wideKeysFrom ·))) = true := by kernel_rfl
theorem jf18 : (Rows.definitionPathSymbolEqualsReferenceSpec.vars.all (Tryz.prog.varReadable ·)) = true := by kernel_rfl
theorem jf19 : (Tryz.f6.resultTypes.all (fun t => Tryz.prog.readableRec t && decide (t < Tryz.prog.types.size))) = true := by kernel_rfl
theorem jf20 : ((Rows.definitionPathSymbolEqualsReferenceRow.ifacesOut == Tryz.f6.resultTypes.toList.any (Tryz.prog.ifacesRec ·))) = true := by kernel_rfl
theorem jf21 : ((Rows.definitionPathSymbolEqualsReferenceRow.loopsOut == Tryz.f6.resultTypes.toList.any (Tryz.prog.loopsFrom ·))) = true := by kernel_rfl
theorem jf23 : (Rows.definitionPathSymbolEqualsReferenceRow.shortTexts.isNone) = true := by kernel_rfl
theorem jf27 : ((Tryz.prog.make == some Rows.definitionPathSymbolEqualsReferenceRow.make)) = true := by kernel_rfl
theorem jf28 : ((Rows.definitionPathSymbolEqualsReferenceRow.kinds == (if Rows.definitionPathSymbolEqualsReferenceRow.domain.isEmpty then [] else Tryz.f6.params.toList.map fun t => match Tryz.prog.underlying t with | some (.int k) => some k | _ => none))) = true := by kernel_rfl
theorem jf29 : ((Rows.definitionPathSymbolEqualsReferenceRow.pinned == Rows.definitionPathSymbolEqualsReferenceRow.pinnedBy)) = true := by kernel_rfl
theorem jf30 : ((Rows.definitionPathSymbolEqualsReferenceRow.veiled == (Tryz.f6.params.toList ++ Rows.definitionPathSymbolEqualsReferenceSpec.plain.varTypes Tryz.prog ++ Tryz.f6.resultTypes.toList).any (Tryz.prog.veiledRec ·))) = true := by kernel_rfl
theorem jf31 : (Rows.definitionPathSymbolEqualsReferenceRow.veiledFits Tryz.prog Tryz.f6.params.toList (Tryz.f6.params.toList ++ Rows.definitionPathSymbolEqualsReferenceSpec.plain.varTypes Tryz.prog ++ Tryz.f6.resultTypes.toList)) = true := by kernel_rfl
end Go.Proofs.YtmiohnbdeaendaaGreatDoor
