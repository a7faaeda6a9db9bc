/-
  From a plain law to its function.
-/
import Derived.Test.YtklfdkbemkommaaL11Rd
import Derived.Test.YtklfdkbemkommaaL11W5
set_option linter.unusedVariables false
set_option linter.unusedSimpArgs false
set_option maxRecDepth 100000
namespace Go.Proofs.Ytklfdkbemkommaa
open Go Go.Pb Go.RowKit
theorem EntryCompares_row (H : ∀ (a0 : api_Entry) (a1 : api_Entry), law23_EntryCompares a0 a1 = true) (css : List PV) (h : All2 (fun t c => IsArg Try.prog t c) [69, 69] css) : FnR Try.prog 11 css (.sc (.bool true)) := by
  match css, h with
  | [c0, c1], ⟨h0, h1, _⟩ =>
  obtain ⟨a0, r0⟩ := arg69 h0
  obtain ⟨a1, r1⟩ := arg69 h1

  have f := f11_ok r0 r1
  rw [H] at f
  exact f

end Go.Proofs.Ytklfdkbemkommaa
