/-
  From a plain law to its function.
-/
import Derived.Test.YtmonnlkagniolaaGreatL9Rd
import Derived.Test.YtmonnlkagniolaaGreatL9W8
set_option linter.unusedVariables false
set_option linter.unusedSimpArgs false
set_option maxRecDepth 100000
namespace Go.Proofs.YtmonnlkagniolaaGreat
open Go Go.Pb Go.RowKit
theorem ActionDepends_row (H : ∀ (a0 : az) (a1 : av) (a2 : List (List (BitVec 32))) (hE : EB a0.E) (hR : RB a0.Regs) (hE1 : EB a1) (hR1 : RB a2), ma a0 a1 a2 = true) (css : List PV) (h : All2 (fun t c => IsArg Tryz.prog t c) [82, 46, 42] css) (hw : wtL css ≤ 1048576) : FnR Tryz.prog 9 css (.sc (.bool true)) := by
  match css, h with
  | [c0, c1, c2], ⟨h0, h1, h2, _⟩ =>
  obtain ⟨a0, r0⟩ := dv7 h0
  obtain ⟨a1, r1⟩ := dt1 h1
  obtain ⟨a2, r2⟩ := dr1 h2

  have f := dl9 r0 r1 r2 (by (simp only [wtL] at hw; first | (have hk := rz r0 (by omega); first | exact hk.1 | exact hk.2) | exact uo r1 (by omega) | exact ac5 r2 (by omega))) (by (simp only [wtL] at hw; first | (have hk := rz r0 (by omega); first | exact hk.1 | exact hk.2) | exact uo r1 (by omega) | exact ac5 r2 (by omega))) (by (simp only [wtL] at hw; first | (have hk := rz r0 (by omega); first | exact hk.1 | exact hk.2) | exact uo r1 (by omega) | exact ac5 r2 (by omega))) (by (simp only [wtL] at hw; first | (have hk := rz r0 (by omega); first | exact hk.1 | exact hk.2) | exact uo r1 (by omega) | exact ac5 r2 (by omega)))
  rw [H _ _ _ (by (simp only [wtL] at hw; first | (have hk := rz r0 (by omega); first | exact hk.1 | exact hk.2) | exact uo r1 (by omega) | exact ac5 r2 (by omega))) (by (simp only [wtL] at hw; first | (have hk := rz r0 (by omega); first | exact hk.1 | exact hk.2) | exact uo r1 (by omega) | exact ac5 r2 (by omega))) (by (simp only [wtL] at hw; first | (have hk := rz r0 (by omega); first | exact hk.1 | exact hk.2) | exact uo r1 (by omega) | exact ac5 r2 (by omega))) (by (simp only [wtL] at hw; first | (have hk := rz r0 (by omega); first | exact hk.1 | exact hk.2) | exact uo r1 (by omega) | exact ac5 r2 (by omega)))] at f
  exact f

end Go.Proofs.YtmonnlkagniolaaGreat
