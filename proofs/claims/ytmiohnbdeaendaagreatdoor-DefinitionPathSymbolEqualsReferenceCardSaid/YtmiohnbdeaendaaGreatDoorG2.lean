/- A start that fits: the memory that the program's own initialisers leave. -/
import Derived.Test.YtmiohnbdeaendaaGreatDoorT4
import Derived.LaidMore
import Derived.ProofKit
import Derived.OpenShut
import Derived.Stop.Joined
namespace Go.Proofs.YtmiohnbdeaendaaGreatDoor
open Go Go.ChangeShapes Go.WideShapes Go.ChangeAt Go.RowKit
set_option maxRecDepth 100000

def args0 : Array Value := #[.agg #[.slice none 0 0, .slice none 0 0, .slice none 0 0], .int .i64 0, .agg #[.int .i64 0, .int .i64 0, .string ⟨#[]⟩, .int .i64 0, .int .i64 0, .int .i64 0, .slice none 0 0]]
noncomputable def start0 (os : Os) : World := (World.doorLaid Tryz.prog 400 os).forCall (fun _ _ => 0) ⟨#[], args0, []⟩

theorem own : ownKnob Tryz.prog.godebug = none := by kernel_rfl

theorem met_of_leaves {P : Program} {n fuel M : Nat} {laid : List (String × DataW Unit)} {os : Os} {tape : Tape}
    (d : doorLeaves P n fuel M laid os tape = some (laid.filter fun x => x.2.handleName?.isNone, (funcsListed laid).map (·.2.funcsOut))) : laidMetH P laid (varsWorld P n (varsId P) os tape).memory := by
  unfold doorLeaves at d
  unfold varsWorld
  split at d
  · rename_i v w hr
    simp only [Option.bind_eq_some_iff] at d
    obtain ⟨x, hx, d⟩ := d
    split at d
    · rename_i hb
      simp only [Bool.and_eq_true] at hb
      simp only [Option.map_eq_some_iff, Prod.mk.injEq] at d
      obtain ⟨y, hy, e1, e2⟩ := d
      rw [hr]
      exact laidMetH_of_parts3 (fuel := fuel) (laidMet_of_run (ps := x.2) fuel (by rw [hx, ← e1]) (decide_eq_true (nodupBits_sound hb.1.1).1) hb.1.2) hb.2 (by rw [hy, e2])
    · cases d
  · cases d

theorem met_at_door {P : Program} {n : Nat} {laid : List (String × DataW Unit)} {os : Os} (h : laidMetH P laid (varsWorld P n (varsId P) os (fun _ _ => 0)).memory) (args : Array Value) :
    laidMetH P laid ((World.doorLaid P n os).forCall (fun _ _ => 0) ⟨#[], args, []⟩).memory := h.of_heap rfl

theorem door_met (os : Os) (args : Array Value) : laidMetH Tryz.prog laidL ((World.doorLaid Tryz.prog 400 os).forCall (fun _ _ => 0) ⟨#[], args, []⟩).memory :=
  met_at_door (met_of_leaves (t_hrun os _)) args

theorem w_ok (os : Os) : Input.okWideB Tryz.checked.prog (start0 os) 6 ⟨#[], args0, []⟩ = true := by kernel_rfl
end Go.Proofs.YtmiohnbdeaendaaGreatDoor
