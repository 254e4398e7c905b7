/- The law's examples answer true. -/
import Derived.Test.YtmiohnbdeaendaaGreatDoorE8
set_option maxRecDepth 100000
namespace Go.Proofs.YtmiohnbdeaendaaGreatDoor
open Go Go.Proofs Go.Proofs.Ae
set_option linter.unusedSectionVars false
variable [Io]

noncomputable def rows0 : List (List D) := [[(.v (.string ⟨#[109]⟩)), (.v (.string ⟨#[115, 116, 114, 117, 99, 116, 32, 83, 32, 123, 32, 97, 58, 32, 105, 110, 116, 32, 125, 10, 116, 114, 97, 105, 116, 32, 84, 32, 123, 32, 102, 110, 32, 102, 40, 115, 101, 108, 102, 58, 32, 83, 101, 108, 102, 41, 59, 32, 125, 10, 105, 109, 112, 108, 32, 84, 32, 102, 111, 114, 32, 83, 32, 123, 32, 102, 110, 32, 102, 40, 115, 101, 108, 102, 58, 32, 83, 101, 108, 102, 41, 32, 123, 32, 125, 32, 125]⟩))]]
theorem k15' : Known Tryz.prog 15 (.d (.lst rows0) :: [nn 0, nn 55]) k15v k15a 352789 := k15
theorem k12' : Known Tryz.prog 12 (.d (.lst rows0) :: [nn 0, nn 57]) k12v k12a 998917 := k12
theorem k15b' : Known Tryz.prog 15 (.d (.lst rows0) :: [nn 1, nn 0]) k15bv k15ba 175489 := k15b
noncomputable def lf1 : Caller := orLib (libFroz 15 (chkF 2 rows0 [nn 0, nn 55]) k15v k15a 352789) q0
theorem lf1_ok : CallerOk Tryz.prog lf1 := orLib_ok (k15'.froz 2 rfl rfl) q0_ok
noncomputable def lf2 : Caller := orLib (libFroz 12 (chkF 2 rows0 [nn 0, nn 57]) k12v k12a 998917) lf1
theorem lf2_ok : CallerOk Tryz.prog lf2 := orLib_ok (k12'.froz 2 rfl rfl) lf1_ok
noncomputable def lf3 : Caller := orLib (libFroz 15 (chkF 2 rows0 [nn 1, nn 0]) k15bv k15ba 175489) lf2
theorem lf3_ok : CallerOk Tryz.prog lf3 := orLib_ok (k15b'.froz 2 rfl rfl) lf2_ok
theorem k14 : Known Tryz.prog 14 [] (.d (.v (.bool true))) [] 1527248 := known_of (run0_ok lf3_ok) (by kernel_rfl)
theorem k11 : Known Tryz.prog 11 [] (.d (.v (.bool true))) [] 1527248 := known_of (run0_ok lf3_ok) (by kernel_rfl)
end Go.Proofs.YtmiohnbdeaendaaGreatDoor
