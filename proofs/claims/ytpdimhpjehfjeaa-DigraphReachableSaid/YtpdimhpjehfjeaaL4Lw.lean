/-
  From a plain law to its function.
-/
import Derived.Test.YtpdimhpjehfjeaaL4Rd
import Derived.Test.YtpdimhpjehfjeaaL4W3
set_option linter.unusedVariables false
set_option linter.unusedSimpArgs false
set_option maxRecDepth 100000
namespace Go.Proofs.Ytpdimhpjehfjeaa
open Go Go.Pb Go.RowKit
theorem DigraphReachable_row (H : ∀ (a0 : List (List Int)) (a1 : Int), law06_DigraphReachable a0 a1 = true) (css : List PV) (h : All2 (fun t c => IsArg Try.prog t c) [22, 3] css) : FnR Try.prog 4 css (.sc (.bool true)) := by
  match css, h with
  | [c0, c1], ⟨h0, h1, _⟩ =>
  obtain ⟨a0, r0⟩ := arg22 h0
  obtain ⟨a1, r1⟩ := arg3 h1
  have r1 : c1 = vi a1 := r1; subst r1
  have f := f4_ok r0 (x1 := a1)
  rw [H] at f
  exact f

end Go.Proofs.Ytpdimhpjehfjeaa
