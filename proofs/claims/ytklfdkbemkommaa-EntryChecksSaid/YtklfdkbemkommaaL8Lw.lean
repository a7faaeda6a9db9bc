/-
  From a plain law to its function.
-/
import Derived.Test.YtklfdkbemkommaaL8Rd
import Derived.Test.YtklfdkbemkommaaL8W9
set_option linter.unusedVariables false
set_option linter.unusedSimpArgs false
set_option maxRecDepth 100000
namespace Go.Proofs.Ytklfdkbemkommaa
open Go Go.Pb Go.RowKit
theorem EntryChecks_row (H : ∀ (a0 : api_Program) (a1 : Int) (a2 : api_Entry), law23_EntryChecks a0 a1 a2 = true) (css : List PV) (h : All2 (fun t c => IsArg Try.prog t c) [31, 3, 69] css) : FnR Try.prog 8 css (.sc (.bool true)) := by
  match css, h with
  | [c0, c1, c2], ⟨h0, h1, h2, _⟩ =>
  obtain ⟨a0, r0⟩ := arg31 h0
  obtain ⟨a1, r1⟩ := arg3 h1
  obtain ⟨a2, r2⟩ := arg69 h2
  have r1 : c1 = vi a1 := r1; subst r1
  have f := f8_ok r0 (x1 := a1) r2
  rw [H] at f
  exact f

end Go.Proofs.Ytklfdkbemkommaa
