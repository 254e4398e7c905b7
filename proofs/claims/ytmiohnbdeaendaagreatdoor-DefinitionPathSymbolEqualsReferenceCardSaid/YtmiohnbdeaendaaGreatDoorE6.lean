/- Calls of the example, worked out. -/
import Derived.Test.YtmiohnbdeaendaaGreatDoorE5
set_option maxRecDepth 100000
namespace Go.Proofs.YtmiohnbdeaendaaGreatDoor
open Go Go.Proofs Go.Proofs.Ae
set_option linter.unusedSectionVars false
variable [Io]

noncomputable def k20k : List SV := [.d (.lst [[(.v (.string ⟨#[109]⟩)), (.v (.string ⟨#[115, 116, 114, 117, 99, 116, 32, 83, 32, 123, 32, 97, 58, 32, 105, 110, 116, 32, 125, 10, 116, 114, 97, 105, 116, 32, 84, 32, 123, 32, 102, 110, 32, 102, 40, 115, 101, 108, 102, 58, 32, 83, 101, 108, 102, 41, 59, 32, 125, 10, 105, 109, 112, 108, 32, 84, 32, 102, 111, 114, 32, 83, 32, 123, 32, 102, 110, 32, 102, 40, 115, 101, 108, 102, 58, 32, 83, 101, 108, 102, 41, 32, 123, 32, 125, 32, 125]⟩))]])]
noncomputable def k20v : SV := .tup [.vw 165255 6 0 13, nn 0]
noncomputable def k20a : List (Nat × Atom) := [(165255, .vec [[nn 15, ng 0, ng 0, ng 0, st [105, 110, 116], .d (.v (.bool false))], [nn 15, ng 0, ng 0, ng 0, st [98, 111, 111, 108], .d (.v (.bool false))], [nn 15, ng 0, ng 0, ng 0, st [115, 116, 114, 105, 110, 103], .d (.v (.bool false))], [nn 15, ng 0, ng 0, ng 0, st [83, 101, 108, 102], .d (.v (.bool false))], [nn 1, nn 0, ng 0, ng 0, st [109], .d (.v (.bool true))], [nn 3, nn 0, nn 7, nn 4, st [83], .d (.v (.bool false))], [nn 11, nn 0, nn 11, nn 5, st [97], .d (.v (.bool false))], [nn 5, nn 0, nn 26, nn 4, st [84], .d (.v (.bool false))], [nn 2, nn 0, nn 33, nn 7, st [102], .d (.v (.bool false))], [nn 10, nn 0, nn 35, nn 8, st [115, 101, 108, 102], .d (.v (.bool false))], [nn 6, nn 0, nn 50, nn 4, st [], .d (.v (.bool false))], [nn 2, nn 0, nn 68, nn 10, st [102], .d (.v (.bool false))], [nn 10, nn 0, nn 70, nn 11, st [115, 101, 108, 102], .d (.v (.bool false))]] 6 32)]
theorem k20 : Known Tryz.prog 20 k20k k20v k20a 165671 := known_of (run0_ok q_k16_ok) (by kernel_rfl)
noncomputable def q_k20 : Caller := orLib (libMove 20 (fun l => beqL beqA l k20k) k20v k20a 165671) q_k16
theorem q_k20_ok : CallerOk Tryz.prog q_k20 := orLib_ok (k20.move rfl) q_k16_ok

noncomputable def k15k : List SV := [.d (.lst [[(.v (.string ⟨#[109]⟩)), (.v (.string ⟨#[115, 116, 114, 117, 99, 116, 32, 83, 32, 123, 32, 97, 58, 32, 105, 110, 116, 32, 125, 10, 116, 114, 97, 105, 116, 32, 84, 32, 123, 32, 102, 110, 32, 102, 40, 115, 101, 108, 102, 58, 32, 83, 101, 108, 102, 41, 59, 32, 125, 10, 105, 109, 112, 108, 32, 84, 32, 102, 111, 114, 32, 83, 32, 123, 32, 102, 110, 32, 102, 40, 115, 101, 108, 102, 58, 32, 83, 101, 108, 102, 41, 32, 123, 32, 125, 32, 125]⟩))]]), nn 0, nn 55]
noncomputable def k15v : SV := .tup [.agg [nn 5, nn 0, nn 26, nn 4, st [84], .d (.v (.bool false))], nn 0]
noncomputable def k15a : List (Nat × Atom) := []
theorem k15 : Known Tryz.prog 15 k15k k15v k15a 352789 := known_of (run0_ok q_k20_ok) (by kernel_rfl)
noncomputable def q_k15 : Caller := orLib (libMove 15 (fun l => beqL beqA l k15k) k15v k15a 352789) q_k20
theorem q_k15_ok : CallerOk Tryz.prog q_k15 := orLib_ok (k15.move rfl) q_k20_ok

end Go.Proofs.YtmiohnbdeaendaaGreatDoor
