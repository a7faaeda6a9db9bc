/-
  From a plain law to its function.
-/
import Derived.Test.YtnejfbehaembkaaL3Rd
import Derived.Test.YtnejfbehaembkaaL3W3
set_option linter.unusedVariables false
set_option linter.unusedSimpArgs false
set_option maxRecDepth 100000
namespace Go.Proofs.Ytnejfbehaembkaa
open Go Go.Pb Go.RowKit
theorem ExprChecks_row (H : ∀ (a0 : law13_Args) (a1 : Int), law13_ExprChecks a0 a1 = true) (css : List PV) (h : All2 (fun t c => IsArg Try.prog t c) [40, 3] css) : FnR Try.prog 3 css (.sc (.bool true)) := by
  match css, h with
  | [c0, c1], ⟨h0, h1, _⟩ =>
  obtain ⟨a0, r0⟩ := arg40 h0
  obtain ⟨a1, r1⟩ := arg3 h1
  have r1 : c1 = vi a1 := r1; subst r1
  have f := f3_ok r0 (x1 := a1)
  rw [H] at f
  exact f

end Go.Proofs.Ytnejfbehaembkaa
