/-
  The code of each function does what its plain program says.
-/
import Derived.Test.YtpdimhpjehfjeaaL3W2
set_option linter.unusedVariables false
set_option linter.unusedSimpArgs false
set_option maxRecDepth 100000
namespace Go.Proofs.Ytpdimhpjehfjeaa
open Go Go.Pb Go.RowKit
def RF3 (res : Bool) (r : PV) : Prop := r = vb res
theorem f3_ok {x0 : List (List Int)} {v0 : PV} (r0 : (tSl (tSl tI)).R x0 v0) : FnR Try.prog 3 [v0] (vb (law06_DigraphChecks x0)) := by
  refine fnS (R := RF3) text3 (fun _ h => h) rfl fun res hres => ?_
  unfold law06_DigraphChecks at hres
  refine sR ?_
  refine mB rfl ?_
  refine nR ?_
  refine mV rfl ?_
  obtain ⟨a6, a4, hres⟩ := let_ex hres
  have a2 := f10_ok  r0 
  rw [a4] at a2
  refine cL a2 rfl rfl (clL_cons (TR.clo (tSl (tSl tI)) r0) clL_nil) ?_
  refine mV rfl ?_
  obtain ⟨a5, a3, hres⟩ := let_ex hres
  have a7 := f11_ok  r0 
  rw [a3] at a7
  refine cL a7 rfl rfl (clL_cons (TR.clo (tSl (tSl tI)) r0) clL_nil) ?_
  refine bN i_eql rfl rfl ?_
  refine mV rfl ?_
  refine rd_cutn 2 (d := 10) (v := vb ((decide (a6 = a5)) && (law06_works))) ?_ ?_
  · intro S Q r
    cases a1 : (decide (a6 = a5))
    · exact gN 1 rfl rfl rfl rfl rfl rfl
    · intro k
      have a0 := a1
      try simp only [qa, qaD] at a0
      have a8 := f12_ok   
      refine rd_ycall rfl rfl (cv_fn rfl rfl clL_nil a8) ?_
      exact gK rfl rfl rfl rfl rfl k
  refine mV rfl ?_
  refine nS ?_
  exact rR hres rfl rfl rfl

end Go.Proofs.Ytpdimhpjehfjeaa
