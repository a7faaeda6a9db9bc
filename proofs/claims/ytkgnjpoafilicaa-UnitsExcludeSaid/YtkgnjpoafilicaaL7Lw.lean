/-
  From a plain law to its function.
-/
import Derived.Test.YtkgnjpoafilicaaL7Rd
import Derived.Test.YtkgnjpoafilicaaL7W0
set_option linter.unusedVariables false
set_option linter.unusedSimpArgs false
set_option maxRecDepth 100000
namespace Go.Proofs.Ytkgnjpoafilicaa
open Go Go.Pb Go.RowKit
theorem UnitsExclude_row (H : ∀ (a0 : List api_Unit) (a1 : List Bool) (a2 : List Int), law32_UnitsExclude a0 a1 a2 = true) (css : List PV) (h : All2 (fun t c => IsArg Try.prog t c) [48, 50, 51] css) : FnR Try.prog 7 css (.sc (.bool true)) := by
  match css, h with
  | [c0, c1, c2], ⟨h0, h1, h2, _⟩ =>
  obtain ⟨a0, r0⟩ := arg48 h0
  obtain ⟨a1, r1⟩ := arg50 h1
  obtain ⟨a2, r2⟩ := arg51 h2

  have f := f7_ok r0 r1 r2
  rw [H] at f
  exact f

end Go.Proofs.Ytkgnjpoafilicaa
