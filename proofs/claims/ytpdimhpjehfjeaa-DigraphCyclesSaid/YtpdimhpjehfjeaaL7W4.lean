/-
  The code of each function does what its plain program says.
-/
import Derived.Test.YtpdimhpjehfjeaaL7W3
set_option linter.unusedVariables false
set_option linter.unusedSimpArgs false
set_option maxRecDepth 100000
namespace Go.Proofs.Ytpdimhpjehfjeaa
open Go Go.Pb Go.RowKit
def RF7 (res : Bool) (r : PV) : Prop := r = vb res
theorem f7_ok {x0 : List (List Int)} {v0 : PV} (r0 : (tSl (tSl tI)).R x0 v0) : FnR Try.prog 7 [v0] (vb (law06_DigraphCycles x0)) := by
  refine fnS (R := RF7) text7 (fun _ h => h) rfl fun res hres => ?_
  unfold law06_DigraphCycles at hres
  refine sR ?_
  refine mB rfl ?_
  refine nS ?_
  refine rc_seq ?_
  refine sR ?_
  refine mV rfl ?_
  obtain ⟨c9, a2, hres⟩ := let_ex hres
  have b6 := f13_ok  r0 
  rw [a2] at b6
  have a0 := large_sm a2
  refine cL b6 rfl rfl (clL_cons (TR.clo (tSl (tSl tI)) r0) clL_nil) ?_
  refine nS ?_
  refine rc_br hres rfl ?_ ?_ <;> clear hres <;> intro c hres <;> try simp only [qa, qaD] at c
  · refine sR ?_
    obtain ⟨c6, a8, hres⟩ := let_ex hres
    have b3 := f12_ok   
    rw [a8] at b3
    refine cL b3 rfl rfl clL_nil ?_
    refine mV rfl ?_
    refine nS ?_
    exact rR hres rfl rfl rfl
  · refine rc_skip ?_
    refine pn_seq ?_
    refine sR ?_
    refine mV rfl ?_
    obtain ⟨c7, b4, hres⟩ := let_ex hres
    obtain ⟨c8, b8, a4⟩ := f26_ok  r0 (by first | omega | exact a0 (by assumption))
    rw [b4] at a4
    refine cL b8 rfl rfl (clL_cons (TR.clo (tSl (tSl tI)) r0) clL_nil) ?_
    refine mV rfl ?_
    obtain ⟨d3, a7, hres⟩ := let_ex hres
    obtain ⟨d2, c3, a3⟩ := f27_ok  r0 (by first | omega | exact a0 (by assumption))
    rw [a7] at a3
    refine cL c3 rfl rfl (clL_cons (TR.clo (tSl (tSl tI)) r0) clL_nil) ?_
    obtain ⟨a1, b5, hres⟩ := let_ex hres
    have b0 := f19_ok  a4 a3 
    rw [b5] at b0
    refine cL b0 rfl rfl (clL_cons (TR.clo (tSl tI) a4) (clL_cons (TR.clo (tSl tI) a3) clL_nil)) ?_
    refine mV rfl ?_
    refine rd_cutn 6 (d := 17) (v := vb (a1 && (ref06_EqualGraphs (digraph_Reverse x0) (ref06_Reverse x0)))) ?_ ?_
    · intro S Q r
      cases b2 : a1
      · exact gN 5 rfl rfl rfl rfl rfl rfl
      · intro k
        have a6 := b2
        try simp only [qa, qaD] at a6
        refine rd_yes rfl rfl (ov_move rfl) ?_
        obtain ⟨d1, c5, b1⟩ := f29_ok  r0 (by first | omega | exact a0 (by assumption))
        refine rd_ycall rfl rfl (cv_fn rfl rfl (clL_cons (TR.clo (tSl (tSl tI)) r0) clL_nil) c5) ?_
        refine rd_yes rfl rfl (ov_move rfl) ?_
        obtain ⟨d0, c2, b7⟩ := f30_ok  r0 (by first | omega | exact a0 (by assumption))
        refine rd_ycall rfl rfl (cv_fn rfl rfl (clL_cons (TR.clo (tSl (tSl tI)) r0) clL_nil) c2) ?_
        have b9 := f28_ok  b1 b7 
        refine rd_ycall rfl rfl (cv_fn rfl rfl (clL_cons (TR.clo (tSl (tSl tI)) b1) (clL_cons (TR.clo (tSl (tSl tI)) b7) clL_nil)) b9) ?_
        exact gK rfl rfl rfl rfl rfl k
    refine mV rfl ?_
    refine rd_cutn 2 (d := 20) (v := vb ((a1 && (ref06_EqualGraphs (digraph_Reverse x0) (ref06_Reverse x0))) && (law06_works))) ?_ ?_
    · intro S Q r
      cases a9 : (a1 && (ref06_EqualGraphs (digraph_Reverse x0) (ref06_Reverse x0)))
      · exact gN 1 rfl rfl rfl rfl rfl rfl
      · intro k
        have a5 := a9
        try simp only [qa, qaD] at a5
        have c4 := f12_ok   
        refine rd_ycall rfl rfl (cv_fn rfl rfl clL_nil c4) ?_
        exact gK rfl rfl rfl rfl rfl k
    refine mV rfl ?_
    refine nS ?_
    exact rR hres rfl rfl rfl

end Go.Proofs.Ytpdimhpjehfjeaa
