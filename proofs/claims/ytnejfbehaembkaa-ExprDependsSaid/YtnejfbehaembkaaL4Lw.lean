/-
  From a plain law to its function.
-/
import Derived.Test.YtnejfbehaembkaaL4Rd
import Derived.Test.YtnejfbehaembkaaL4W3
set_option linter.unusedVariables false
set_option linter.unusedSimpArgs false
set_option maxRecDepth 100000
namespace Go.Proofs.Ytnejfbehaembkaa
open Go Go.Pb Go.RowKit
theorem ExprDepends_row (H : ∀ (a0 : law13_Args) (a1 : api_Env), law13_ExprDepends a0 a1 = true) (css : List PV) (h : All2 (fun t c => IsArg Try.prog t c) [40, 38] css) : FnR Try.prog 4 css (.sc (.bool true)) := by
  match css, h with
  | [c0, c1], ⟨h0, h1, _⟩ =>
  obtain ⟨a0, r0⟩ := arg40 h0
  obtain ⟨a1, r1⟩ := arg38 h1

  have f := f4_ok r0 r1
  rw [H] at f
  exact f

end Go.Proofs.Ytnejfbehaembkaa
