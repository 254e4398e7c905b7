/- The row of DefinitionPathSymbolEqualsReference holds. -/
import Derived.Test.YtmiohnbdeaendaaGreatDoorG7
import Derived.Test.YtmiohnbdeaendaaGreatDoorJz
namespace Go.Proofs.YtmiohnbdeaendaaGreatDoor
open Go
set_option maxRecDepth 100000

theorem named6 : Tryz.prog.funcNamed "glossator/glossatorlaw4.DefinitionPathSymbolEqualsReference" = some 6 := by kernel_rfl
theorem inst6 : Tryz.f6.isInstance Tryz.pinned.checked.prog Rows.definitionPathSymbolEqualsReferenceRow.origin Rows.definitionPathSymbolEqualsReferenceRow.targs := of_decide_eq_true (by kernel_rfl)
theorem wrap6 : Tryz.f6.isWrapper Tryz.pinned.checked.prog Rows.definitionPathSymbolEqualsReferenceRow.wrapper Rows.definitionPathSymbolEqualsReferenceRow.mainSum := by
  unfold Func.isWrapper; first | (rw [if_pos (by decide +kernel)]; kernel_rfl) | (rw [if_neg (by decide +kernel)]; exact ⟨rfl, rfl⟩)
theorem path_holds : Rows.DefinitionPathSymbolEqualsReferenceSaid :=
  OpenClaim.holds_of_wide 6 Tryz.f6 rfl rfl rfl rfl rfl rfl rfl ⟨rfl, rfl, rfl, rfl, rfl⟩ rfl rfl rfl rfl rfl named6 Tryz.func6 path_facts inst6 wrap6
    (fun os started H enc _ => lifted os started H enc)
end Go.Proofs.YtmiohnbdeaendaaGreatDoor
