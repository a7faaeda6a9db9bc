/-
  From a plain law to its function.
-/
import Derived.Test.YtpdimhpjehfjeaaL9Rd
import Derived.Test.YtpdimhpjehfjeaaL9W3
set_option linter.unusedVariables false
set_option linter.unusedSimpArgs false
set_option maxRecDepth 100000
namespace Go.Proofs.Ytpdimhpjehfjeaa
open Go Go.Pb Go.RowKit
theorem DigraphReverses_row (H : ∀ (a0 : List (List Int)) (a1 : Int) (a2 : Int), law06_DigraphReverses a0 a1 a2 = true) (css : List PV) (h : All2 (fun t c => IsArg Try.prog t c) [22, 3, 3] css) : FnR Try.prog 9 css (.sc (.bool true)) := by
  match css, h with
  | [c0, c1, c2], ⟨h0, h1, h2, _⟩ =>
  obtain ⟨a0, r0⟩ := arg22 h0
  obtain ⟨a1, r1⟩ := arg3 h1
  obtain ⟨a2, r2⟩ := arg3 h2
  have r1 : c1 = vi a1 := r1; subst r1
  have r2 : c2 = vi a2 := r2; subst r2
  have f := f9_ok r0 (x1 := a1) (x2 := a2)
  rw [H] at f
  exact f

end Go.Proofs.Ytpdimhpjehfjeaa
