/-
  From a plain law to its function.
-/
import Derived.Test.YtpdimhpjehfjeaaL6Rd
import Derived.Test.YtpdimhpjehfjeaaL6W4
set_option linter.unusedVariables false
set_option linter.unusedSimpArgs false
set_option maxRecDepth 100000
namespace Go.Proofs.Ytpdimhpjehfjeaa
open Go Go.Pb Go.RowKit
theorem DigraphOrders_row (H : ∀ (a0 : List (List Int)), law06_DigraphOrders a0 = true) (css : List PV) (h : All2 (fun t c => IsArg Try.prog t c) [22] css) : FnR Try.prog 6 css (.sc (.bool true)) := by
  match css, h with
  | [c0], ⟨h0, _⟩ =>
  obtain ⟨a0, r0⟩ := arg22 h0

  have f := f6_ok r0
  rw [H] at f
  exact f

end Go.Proofs.Ytpdimhpjehfjeaa
