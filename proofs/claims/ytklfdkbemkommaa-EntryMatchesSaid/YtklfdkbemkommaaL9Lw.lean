/-
  From a plain law to its function.
-/
import Derived.Test.YtklfdkbemkommaaL9Rd
import Derived.Test.YtklfdkbemkommaaL9W5
set_option linter.unusedVariables false
set_option linter.unusedSimpArgs false
set_option maxRecDepth 100000
namespace Go.Proofs.Ytklfdkbemkommaa
open Go Go.Pb Go.RowKit
theorem EntryMatches_row (H : ∀ (a0 : api_Entry) (a1 : List (BitVec 32)), law23_EntryMatches a0 a1 = true) (css : List PV) (h : All2 (fun t c => IsArg Try.prog t c) [69, 44] css) : FnR Try.prog 9 css (.sc (.bool true)) := by
  match css, h with
  | [c0, c1], ⟨h0, h1, _⟩ =>
  obtain ⟨a0, r0⟩ := arg69 h0
  obtain ⟨a1, r1⟩ := arg44 h1

  have f := f9_ok r0 r1
  rw [H] at f
  exact f

end Go.Proofs.Ytklfdkbemkommaa
