/-
  From a plain law to its function.
-/
import Derived.Test.YtmonnlkagniolaaGreatL7Rd
import Derived.Test.YtmonnlkagniolaaGreatL7W10
set_option linter.unusedVariables false
set_option linter.unusedSimpArgs false
set_option maxRecDepth 100000
namespace Go.Proofs.YtmonnlkagniolaaGreat
open Go Go.Pb Go.RowKit
theorem ActionExecutes_row (H : ∀ (a0 : dm) (hE : EB a0.E) (hR : RB a0.Regs), ku a0 = true) (css : List PV) (h : All2 (fun t c => IsArg Tryz.prog t c) [82] css) (hw : wtL css ≤ 1048576) : FnR Tryz.prog 7 css (.sc (.bool true)) := by
  match css, h with
  | [c0], ⟨h0, _⟩ =>
  obtain ⟨a0, r0⟩ := dy7 h0

  have f := ed5 r0 (by (simp only [wtL] at hw; have hk := ad8 r0 (by omega); first | exact hk.1 | exact hk.2)) (by (simp only [wtL] at hw; have hk := ad8 r0 (by omega); first | exact hk.1 | exact hk.2))
  rw [H _ (by (simp only [wtL] at hw; have hk := ad8 r0 (by omega); first | exact hk.1 | exact hk.2)) (by (simp only [wtL] at hw; have hk := ad8 r0 (by omega); first | exact hk.1 | exact hk.2))] at f
  exact f

end Go.Proofs.YtmonnlkagniolaaGreat
