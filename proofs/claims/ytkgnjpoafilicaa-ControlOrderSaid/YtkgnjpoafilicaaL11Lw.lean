/-
  From a plain law to its function.
-/
import Derived.Test.YtkgnjpoafilicaaL11Rd
import Derived.Test.YtkgnjpoafilicaaL11W0
set_option linter.unusedVariables false
set_option linter.unusedSimpArgs false
set_option maxRecDepth 100000
namespace Go.Proofs.Ytkgnjpoafilicaa
open Go Go.Pb Go.RowKit
theorem ControlOrder_row (H : ∀ (a0 : List api_ControlNode) (a1 : List Bool), law20_ControlOrder a0 a1 = true) (css : List PV) (h : All2 (fun t c => IsArg Try.prog t c) [28, 50] css) : FnR Try.prog 11 css (.sc (.bool true)) := by
  match css, h with
  | [c0, c1], ⟨h0, h1, _⟩ =>
  obtain ⟨a0, r0⟩ := arg28 h0
  obtain ⟨a1, r1⟩ := arg50 h1

  have f := f11_ok r0 r1
  rw [H] at f
  exact f

end Go.Proofs.Ytkgnjpoafilicaa
