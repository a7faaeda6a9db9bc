/-
  From a plain law to its function.
-/
import Derived.Test.YtklfdkbemkommaaL3Rd
import Derived.Test.YtklfdkbemkommaaL3W6
set_option linter.unusedVariables false
set_option linter.unusedSimpArgs false
set_option maxRecDepth 100000
namespace Go.Proofs.Ytklfdkbemkommaa
open Go Go.Pb Go.RowKit
theorem TableChecks_row (H : ∀ (a0 : api_Program) (a1 : Int), law17_TableChecks a0 a1 = true) (css : List PV) (h : All2 (fun t c => IsArg Try.prog t c) [31, 3] css) : FnR Try.prog 3 css (.sc (.bool true)) := by
  match css, h with
  | [c0, c1], ⟨h0, h1, _⟩ =>
  obtain ⟨a0, r0⟩ := arg31 h0
  obtain ⟨a1, r1⟩ := arg3 h1
  have r1 : c1 = vi a1 := r1; subst r1
  have f := f3_ok r0 (x1 := a1)
  rw [H] at f
  exact f

end Go.Proofs.Ytklfdkbemkommaa
