/- The program's tables for the interpreter, and that they are true of it. -/
import Derived.Test.YtmiohnbdeaendaaGreatDoorA4
import Derived.Test.YtmiohnbdeaendaaGreatDoorProg
import Derived.KernelRfl
namespace Go.Proofs.YtmiohnbdeaendaaGreatDoor
open Go Go.Proofs Go.Proofs.Ae
set_option linter.unusedSectionVars false
variable [Io]

noncomputable def tt0 : Tab := mkTd Tryz.prog
theorem tt0_ok : TabOk Tryz.prog tt0 := mkTd_ok _
noncomputable def ft0 : FTab := fun f => Tryz.prog.funcs[f]?
theorem ft0_names : (Tryz.prog.funcs.toList.all fun fn => !(fn.name == "runtime.NumGoroutine")) = true := by kernel_rfl
theorem ft0_ok : FTabOk Tryz.prog ft0 := by
  intro f fn h
  have h : Tryz.prog.funcs[f]? = some fn := h
  refine ⟨h, ?_⟩
  have hm : fn ∈ Tryz.prog.funcs.toList := by
    rw [Array.mem_toList_iff]; exact Array.mem_of_getElem? h
  have := List.all_eq_true.1 ft0_names fn hm
  simpa using this
theorem follows0 : Tryz.prog.follows .mixedOrders = true := by kernel_rfl

theorem idx0_ok : CallerOk Tryz.prog (libIdx 450) := by
  cases h : Tryz.prog.funcs[450]? with
  | none =>
    have : (Tryz.prog.funcs[450]?).isSome = true := by kernel_rfl
    rw [h] at this; cases this
  | some fn =>
    have h1 : (Tryz.prog.funcs[450]?).map (fun fn => (fn.name == "runtime.NumGoroutine", fn.body.isNone, (Extern.findNext fn).isNone)) = some (false, true, true) := by kernel_rfl
    have h2 : (Tryz.prog.funcs[450]?).bind (fun fn => Extern.find fn) = some Extern.BytealgIndexByte.indexByte := by kernel_rfl
    rw [h] at h1 h2
    simp only [Option.map_some, Option.some.injEq, Prod.mk.injEq] at h1
    obtain ⟨a, b, c⟩ := h1
    refine libIdx_ok h (by simpa using a) ?_ c h2
    cases hb : fn.body with
    | none => rfl
    | some _ => rw [hb] at b; cases b

noncomputable def run0 (lib : Caller) : Caller := callN lib ft0 tt0 1000 100
theorem run0_ok {lib : Caller} (h : CallerOk Tryz.prog lib) : CallerOk Tryz.prog (run0 lib) := callN_ok follows0 tt0_ok h ft0_ok _ _

def st (l : List UInt8) : SV := .d (.v (.string ⟨l.toArray⟩))
def nn (n : Nat) : SV := .d (.v (.int .i64 (Int.ofNat n)))
def ng (n : Nat) : SV := .d (.v (.int .i64 (Int.negSucc n)))
end Go.Proofs.YtmiohnbdeaendaaGreatDoor
