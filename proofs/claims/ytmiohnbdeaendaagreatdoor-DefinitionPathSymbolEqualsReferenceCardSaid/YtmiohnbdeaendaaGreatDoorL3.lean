/- Closed facts of the card: part 3: no function of the program starts a goroutine. -/
import Derived.Test.YtmiohnbdeaendaaGreatDoorRows
import Derived.SevenTiedAt
namespace Go.Proofs.YtmiohnbdeaendaaGreatDoor
open Go
set_option maxRecDepth 100000
theorem l_none : (Tryz.prog.funcs.toList.all fun fn => !fn.goes) = true := by kernel_rfl
theorem l_named : Tryz.prog.funcNamed "glossator/glossatorlaw4.DefinitionPathSymbolEqualsReference" = some 6 := by kernel_rfl
theorem goes_none {P : Program} (h : (P.funcs.toList.all fun fn => !fn.goes) = true) (f : FuncId) : P.goes f = false := by
  have hall : ∀ fn ∈ P.funcs.toList, fn.goes = false := fun fn hm => by simpa using List.all_eq_true.1 h fn hm
  unfold Program.goes
  rw [Bool.or_eq_false_iff]
  constructor
  · rw [List.any_eq_false]
    intro g _
    cases hg : P.funcs[g]? with
    | none => simp
    | some fn => simp [hall fn (by rw [Array.mem_toList_iff]; exact Array.mem_of_getElem? hg)]
  · rw [Bool.and_eq_false_iff]
    right
    rw [Array.any_eq_false]
    intro i hi
    simp [hall P.funcs[i] (by simp)]
theorem goesBy_none {P : Program} {c : OpenClaim} {f : FuncId} (h : (P.funcs.toList.all fun fn => !fn.goes) = true) (hs : c.start = .entering) (hf : P.funcNamed c.func = some f) : false = c.goesBy P := by
  unfold OpenClaim.goesBy Program.goesAt Program.goesFrom
  rw [hf, hs]
  simp [goes_none h]
theorem l_goes : false = Rows.definitionPathSymbolEqualsReferenceRow.goesBy Tryz.pinned.checked.prog := goesBy_none (P := Tryz.prog) l_none rfl l_named
end Go.Proofs.YtmiohnbdeaendaaGreatDoor
