/-
  From a plain law to its function.
-/
import Derived.Test.YtmonnlkagniolaaGreatL3Rd
import Derived.Test.YtmonnlkagniolaaGreatL3W10
set_option linter.unusedVariables false
set_option linter.unusedSimpArgs false
set_option maxRecDepth 100000
namespace Go.Proofs.YtmonnlkagniolaaGreat
open Go Go.Pb Go.RowKit
theorem AccessUnits_row (H : ∀ (a0 : ab) (a1 : ct), mv a0 a1 = true) (css : List PV) (h : All2 (fun t c => IsArg Tryz.prog t c) [31, 35] css) : FnR Tryz.prog 3 css (.sc (.bool true)) := by
  match css, h with
  | [c0, c1], ⟨h0, h1, _⟩ =>
  obtain ⟨a0, r0⟩ := dg4 h0
  obtain ⟨a1, r1⟩ := di2 h1

  have f := dk3 r0 r1
  rw [H] at f
  exact f

end Go.Proofs.YtmonnlkagniolaaGreat
