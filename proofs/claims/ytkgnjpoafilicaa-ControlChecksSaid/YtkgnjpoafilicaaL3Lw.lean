/-
  From a plain law to its function.
-/
import Derived.Test.YtkgnjpoafilicaaL3Rd
import Derived.Test.YtkgnjpoafilicaaL3W4
set_option linter.unusedVariables false
set_option linter.unusedSimpArgs false
set_option maxRecDepth 100000
namespace Go.Proofs.Ytkgnjpoafilicaa
open Go Go.Pb Go.RowKit
theorem ControlChecks_row (H : ∀ (a0 : api_Program), law20_ControlChecks a0 = true) (css : List PV) (h : All2 (fun t c => IsArg Try.prog t c) [31] css) : FnR Try.prog 3 css (.sc (.bool true)) := by
  match css, h with
  | [c0], ⟨h0, _⟩ =>
  obtain ⟨a0, r0⟩ := arg31 h0

  have f := f3_ok r0
  rw [H] at f
  exact f

end Go.Proofs.Ytkgnjpoafilicaa
