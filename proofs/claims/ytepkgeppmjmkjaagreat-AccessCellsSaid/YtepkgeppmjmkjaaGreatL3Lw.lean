/-
  From a plain law to its function.
-/
import Derived.Test.YtepkgeppmjmkjaaGreatL3Rd
import Derived.Test.YtepkgeppmjmkjaaGreatL3W3
set_option linter.unusedVariables false
set_option linter.unusedSimpArgs false
set_option maxRecDepth 100000
namespace Go.Proofs.YtepkgeppmjmkjaaGreat
open Go Go.Pb Go.RowKit
theorem AccessCells_row (H : ∀ (a0 : api_Program) (a1 : law31_Query), law31_AccessCells a0 a1 = true) (css : List PV) (h : All2 (fun t c => IsArg Tryz.prog t c) [31, 35] css) : FnR Tryz.prog 3 css (.sc (.bool true)) := by
  match css, h with
  | [c0, c1], ⟨h0, h1, _⟩ =>
  obtain ⟨a0, r0⟩ := arg31 h0
  obtain ⟨a1, r1⟩ := arg35 h1

  have f := f3_ok r0 r1
  rw [H] at f
  exact f

end Go.Proofs.YtepkgeppmjmkjaaGreat
