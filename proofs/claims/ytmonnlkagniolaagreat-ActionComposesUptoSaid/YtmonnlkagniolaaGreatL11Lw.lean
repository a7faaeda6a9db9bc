/-
  From a plain law to its function.
-/
import Derived.Test.YtmonnlkagniolaaGreatL11Rd
import Derived.Test.YtmonnlkagniolaaGreatL11W6
set_option linter.unusedVariables false
set_option linter.unusedSimpArgs false
set_option maxRecDepth 100000
namespace Go.Proofs.YtmonnlkagniolaaGreat
open Go Go.Pb Go.RowKit
theorem ActionComposes_row (H : ∀ (a0 : law16_Case) (a1 : Int) (hE : EB a0.E) (hR : RB a0.Regs), law16_ActionComposes a0 a1 = true) (css : List PV) (h : All2 (fun t c => IsArg Tryz.prog t c) [82, 3] css) (hw : wtL css ≤ 1048576) : FnR Tryz.prog 11 css (.sc (.bool true)) := by
  match css, h with
  | [c0, c1], ⟨h0, h1, _⟩ =>
  obtain ⟨a0, r0⟩ := arg82 h0
  obtain ⟨a1, r1⟩ := arg3 h1
  have r1 : c1 = vi a1 := r1; subst r1
  have f := f11_ok r0 (x1 := a1) (by (simp only [wtL] at hw; have hk := case_eb r0 (by omega); first | exact hk.1 | exact hk.2)) (by (simp only [wtL] at hw; have hk := case_eb r0 (by omega); first | exact hk.1 | exact hk.2))
  rw [H _ _ (by (simp only [wtL] at hw; have hk := case_eb r0 (by omega); first | exact hk.1 | exact hk.2)) (by (simp only [wtL] at hw; have hk := case_eb r0 (by omega); first | exact hk.1 | exact hk.2))] at f
  exact f

end Go.Proofs.YtmonnlkagniolaaGreat
