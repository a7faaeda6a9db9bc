/-
  From a plain law to its function.
-/
import Derived.Test.YtpdimhpjehfjeaaL8Rd
import Derived.Test.YtpdimhpjehfjeaaL8W3
set_option linter.unusedVariables false
set_option linter.unusedSimpArgs false
set_option maxRecDepth 100000
namespace Go.Proofs.Ytpdimhpjehfjeaa
open Go Go.Pb Go.RowKit
theorem DigraphAcyclic_row (H : ∀ (a0 : List (List Int)), law06_DigraphAcyclic a0 = true) (css : List PV) (h : All2 (fun t c => IsArg Try.prog t c) [22] css) : FnR Try.prog 8 css (.sc (.bool true)) := by
  match css, h with
  | [c0], ⟨h0, _⟩ =>
  obtain ⟨a0, r0⟩ := arg22 h0

  have f := f8_ok r0
  rw [H] at f
  exact f

end Go.Proofs.Ytpdimhpjehfjeaa
