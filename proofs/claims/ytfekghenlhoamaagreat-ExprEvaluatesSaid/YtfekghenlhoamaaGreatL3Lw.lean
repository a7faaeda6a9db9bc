/-
  From a plain law to its function.
-/
import Derived.Test.YtfekghenlhoamaaGreatL3Rd
import Derived.Test.YtfekghenlhoamaaGreatL3W5
set_option linter.unusedVariables false
set_option linter.unusedSimpArgs false
set_option maxRecDepth 100000
namespace Go.Proofs.YtfekghenlhoamaaGreat
open Go Go.Pb Go.RowKit
theorem ExprEvaluates_row (H : ∀ (a0 : law13_Args), law13_ExprEvaluates a0 = true) (css : List PV) (h : All2 (fun t c => IsArg Tryz.prog t c) [40] css) : FnR Tryz.prog 3 css (.sc (.bool true)) := by
  match css, h with
  | [c0], ⟨h0, _⟩ =>
  obtain ⟨a0, r0⟩ := arg40 h0

  have f := f3_ok r0
  rw [H] at f
  exact f

end Go.Proofs.YtfekghenlhoamaaGreat
