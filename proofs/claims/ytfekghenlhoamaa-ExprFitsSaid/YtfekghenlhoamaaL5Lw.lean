/-
  From a plain law to its function.
-/
import Derived.Test.YtfekghenlhoamaaL5Rd
import Derived.Test.YtfekghenlhoamaaL5W2
set_option linter.unusedVariables false
set_option linter.unusedSimpArgs false
set_option maxRecDepth 100000
namespace Go.Proofs.Ytfekghenlhoamaa
open Go Go.Pb Go.RowKit
theorem ExprFits_row (H : ∀ (a0 : law13_Args), law13_ExprFits a0 = true) (css : List PV) (h : All2 (fun t c => IsArg Try.prog t c) [40] css) : FnR Try.prog 5 css (.sc (.bool true)) := by
  match css, h with
  | [c0], ⟨h0, _⟩ =>
  obtain ⟨a0, r0⟩ := arg40 h0

  have f := f5_ok r0
  rw [H] at f
  exact f

end Go.Proofs.Ytfekghenlhoamaa
