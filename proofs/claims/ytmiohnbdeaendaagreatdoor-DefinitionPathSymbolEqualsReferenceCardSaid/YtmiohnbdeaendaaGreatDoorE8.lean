/- Calls of the example, worked out. -/
import Derived.Test.YtmiohnbdeaendaaGreatDoorE7
set_option maxRecDepth 100000
namespace Go.Proofs.YtmiohnbdeaendaaGreatDoor
open Go Go.Proofs Go.Proofs.Ae
set_option linter.unusedSectionVars false
variable [Io]

noncomputable def k15bk : List SV := [.d (.lst [[(.v (.string ⟨#[109]⟩)), (.v (.string ⟨#[115, 116, 114, 117, 99, 116, 32, 83, 32, 123, 32, 97, 58, 32, 105, 110, 116, 32, 125, 10, 116, 114, 97, 105, 116, 32, 84, 32, 123, 32, 102, 110, 32, 102, 40, 115, 101, 108, 102, 58, 32, 83, 101, 108, 102, 41, 59, 32, 125, 10, 105, 109, 112, 108, 32, 84, 32, 102, 111, 114, 32, 83, 32, 123, 32, 102, 110, 32, 102, 40, 115, 101, 108, 102, 58, 32, 83, 101, 108, 102, 41, 32, 123, 32, 125, 32, 125]⟩))]]), nn 1, nn 0]
noncomputable def k15bv : SV := .tup [.agg [nn 0, nn 0, nn 0, nn 0, st [], .d (.v (.bool false))], nn 1]
noncomputable def k15ba : List (Nat × Atom) := []
theorem k15b : Known Tryz.prog 15 k15bk k15bv k15ba 175489 := known_of (run0_ok q_k12_ok) (by kernel_rfl)
noncomputable def q_k15b : Caller := orLib (libMove 15 (fun l => beqL beqA l k15bk) k15bv k15ba 175489) q_k12
theorem q_k15b_ok : CallerOk Tryz.prog q_k15b := orLib_ok (k15b.move rfl) q_k12_ok

end Go.Proofs.YtmiohnbdeaendaaGreatDoor
