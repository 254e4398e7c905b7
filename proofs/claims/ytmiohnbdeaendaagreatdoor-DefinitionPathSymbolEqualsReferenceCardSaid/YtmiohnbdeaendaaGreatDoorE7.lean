/- Calls of the example, worked out. -/
import Derived.Test.YtmiohnbdeaendaaGreatDoorE6
set_option maxRecDepth 100000
namespace Go.Proofs.YtmiohnbdeaendaaGreatDoor
open Go Go.Proofs Go.Proofs.Ae
set_option linter.unusedSectionVars false
variable [Io]

noncomputable def k12k : List SV := [.d (.lst [[(.v (.string ⟨#[109]⟩)), (.v (.string ⟨#[115, 116, 114, 117, 99, 116, 32, 83, 32, 123, 32, 97, 58, 32, 105, 110, 116, 32, 125, 10, 116, 114, 97, 105, 116, 32, 84, 32, 123, 32, 102, 110, 32, 102, 40, 115, 101, 108, 102, 58, 32, 83, 101, 108, 102, 41, 59, 32, 125, 10, 105, 109, 112, 108, 32, 84, 32, 102, 111, 114, 32, 83, 32, 123, 32, 102, 110, 32, 102, 40, 115, 101, 108, 102, 58, 32, 83, 101, 108, 102, 41, 32, 123, 32, 125, 32, 125]⟩))]]), nn 0, nn 57]
noncomputable def k12v : SV := .tup [.vw 831412 1 0 1, nn 0]
noncomputable def k12a : List (Nat × Atom) := [(831412, .vec [[nn 10]] 1 3)]
theorem k12 : Known Tryz.prog 12 k12k k12v k12a 998917 := known_of (run0_ok q_k15_ok) (by kernel_rfl)
noncomputable def q_k12 : Caller := orLib (libMove 12 (fun l => beqL beqA l k12k) k12v k12a 998917) q_k15
theorem q_k12_ok : CallerOk Tryz.prog q_k12 := orLib_ok (k12.move rfl) q_k15_ok

end Go.Proofs.YtmiohnbdeaendaaGreatDoor
