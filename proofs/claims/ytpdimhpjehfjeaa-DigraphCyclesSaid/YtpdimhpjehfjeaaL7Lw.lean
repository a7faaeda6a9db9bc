/-
  From a plain law to its function.
-/
import Derived.Test.YtpdimhpjehfjeaaL7Rd
import Derived.Test.YtpdimhpjehfjeaaL7W4
set_option linter.unusedVariables false
set_option linter.unusedSimpArgs false
set_option maxRecDepth 100000
namespace Go.Proofs.Ytpdimhpjehfjeaa
open Go Go.Pb Go.RowKit
theorem DigraphCycles_row (H : ∀ (a0 : List (List Int)), law06_DigraphCycles a0 = true) (css : List PV) (h : All2 (fun t c => IsArg Try.prog t c) [22] css) : FnR Try.prog 7 css (.sc (.bool true)) := by
  match css, h with
  | [c0], ⟨h0, _⟩ =>
  obtain ⟨a0, r0⟩ := arg22 h0

  have f := f7_ok r0
  rw [H] at f
  exact f

end Go.Proofs.Ytpdimhpjehfjeaa
