/- The types that PathSymbol works on. -/
import Derived.Test.YtmiohnbdeaendaaGreatDoorA4
import Derived.Test.YtmiohnbdeaendaaGreatDoorB0
namespace Go.Proofs.YtmiohnbdeaendaaGreatDoor
open Go Go.Proofs Go.Proofs.Ae
set_option linter.unusedSectionVars false
variable [Io]

noncomputable def tdOf (t : TypeId) : TD := match tt0 t with
  | some d => d
  | none => { desc := .bool, size := 0, bytes := 0, zero := [] }
noncomputable def d3 : TD := tdOf 3
noncomputable def d4 : TD := tdOf 4
noncomputable def d36 : TD := tdOf 36
noncomputable def d39 : TD := tdOf 39
noncomputable def d53 : TD := tdOf 53
noncomputable def d55 : TD := tdOf 55
noncomputable def d86 : TD := tdOf 86
theorem h3 : tt0 3 = some d3 := by kernel_rfl
theorem h4 : tt0 4 = some d4 := by kernel_rfl
theorem h36 : tt0 36 = some d36 := by kernel_rfl
theorem h39 : tt0 39 = some d39 := by kernel_rfl
theorem h53 : tt0 53 = some d53 := by kernel_rfl
theorem h55 : tt0 55 = some d55 := by kernel_rfl
theorem h86 : tt0 86 = some d86 := by kernel_rfl
theorem f55_0 : fieldOf tt0 d55 0 = some (0, d3) := by kernel_rfl
theorem f55_5 : fieldOf tt0 d55 5 = some (5, d3) := by kernel_rfl
theorem f55_6 : fieldOf tt0 d55 6 = some (6, d53) := by kernel_rfl
theorem f39_1 : fieldOf tt0 d39 1 = some (1, d36) := by kernel_rfl
theorem f86_0 : fieldOf tt0 d86 0 = some (0, d3) := by kernel_rfl
theorem f86_1 : fieldOf tt0 d86 1 = some (1, d3) := by kernel_rfl
theorem f86_2 : fieldOf tt0 d86 2 = some (2, d3) := by kernel_rfl
theorem a3 : isAggD d3.desc = false := by kernel_rfl
theorem a36 : isAggD d36.desc = false := by kernel_rfl
theorem a39 : isAggD d39.desc = true := by kernel_rfl
theorem a53 : isAggD d53.desc = false := by kernel_rfl
theorem a55 : isAggD d55.desc = true := by kernel_rfl
theorem a86 : isAggD d86.desc = true := by kernel_rfl
theorem s3 : d3.size = 1 := by kernel_rfl
theorem s39 : d39.size = 3 := by kernel_rfl
theorem s55 : d55.size = 7 := by kernel_rfl
theorem s86 : d86.size = 3 := by kernel_rfl
theorem e53 : d53.desc = .slice 55 := by kernel_rfl
theorem e36 : d36.desc = .slice 86 := by kernel_rfl
theorem z3 : svs d3.zero = [nn 0] := by kernel_rfl
theorem z55 : svs d55.zero = [nn 0, nn 0, st [], nn 0, nn 0, nn 0, .nils] := by kernel_rfl
theorem z86 : svs d86.zero = [nn 0, nn 0, nn 0] := by kernel_rfl
theorem b3 : d3.desc = .int .i64 := by kernel_rfl
end Go.Proofs.YtmiohnbdeaendaaGreatDoor
