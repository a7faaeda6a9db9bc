/-
  From a plain law to its function.
-/
import Derived.Test.YtfcgnnafaoanfaaKNRd
import Derived.Test.YtfcgnnafaoanfaaKNW0
set_option linter.unusedVariables false
set_option linter.unusedSimpArgs false
set_option maxRecDepth 100000
namespace Go.Proofs.Ytfcgnnafaoanfaa.N
open Go Go.Pb Go.RowKit
theorem DepsOptimal_row (H : ∀ (a0 : List (List Int)) (a1 : List Int), law33_DepsOptimal a0 a1 = true) (css : List PV) (h : All2 (fun t c => IsArg Try.prog t c) [22, 23] css) : FnR Try.prog 5 css (.sc (.bool true)) := by
  match css, h with
  | [c0, c1], ⟨h0, h1, _⟩ =>
  obtain ⟨a0, r0⟩ := arg22 h0
  obtain ⟨a1, r1⟩ := arg23 h1

  have f := f5_ok r0 r1
  rw [H] at f
  exact f

end Go.Proofs.Ytfcgnnafaoanfaa.N
