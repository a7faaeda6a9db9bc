/-
  From a plain law to its function.
-/
import Derived.Test.YtkgnjpoafilicaaL4Rd
import Derived.Test.YtkgnjpoafilicaaL4W1
set_option linter.unusedVariables false
set_option linter.unusedSimpArgs false
set_option maxRecDepth 100000
namespace Go.Proofs.Ytkgnjpoafilicaa
open Go Go.Pb Go.RowKit
theorem ControlQueries_row (H : ∀ (a0 : List api_ControlNode) (a1 : Int), law20_ControlQueries a0 a1 = true) (css : List PV) (h : All2 (fun t c => IsArg Try.prog t c) [28, 3] css) : FnR Try.prog 4 css (.sc (.bool true)) := by
  match css, h with
  | [c0, c1], ⟨h0, h1, _⟩ =>
  obtain ⟨a0, r0⟩ := arg28 h0
  obtain ⟨a1, r1⟩ := arg3 h1
  have r1 : c1 = vi a1 := r1; subst r1
  have f := f4_ok r0 (x1 := a1)
  rw [H] at f
  exact f

end Go.Proofs.Ytkgnjpoafilicaa
