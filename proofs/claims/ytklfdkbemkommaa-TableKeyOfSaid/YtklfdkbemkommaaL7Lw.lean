/-
  From a plain law to its function.
-/
import Derived.Test.YtklfdkbemkommaaL7Rd
import Derived.Test.YtklfdkbemkommaaL7W3
set_option linter.unusedVariables false
set_option linter.unusedSimpArgs false
set_option maxRecDepth 100000
namespace Go.Proofs.Ytklfdkbemkommaa
open Go Go.Pb Go.RowKit
theorem TableKeyOf_row (H : ∀ (a0 : api_Program) (a1 : api_Env) (a2 : List (BitVec 32)), law17_TableKeyOf a0 a1 a2 = true) (css : List PV) (h : All2 (fun t c => IsArg Try.prog t c) [31, 47, 58] css) : FnR Try.prog 7 css (.sc (.bool true)) := by
  match css, h with
  | [c0, c1, c2], ⟨h0, h1, h2, _⟩ =>
  obtain ⟨a0, r0⟩ := arg31 h0
  obtain ⟨a1, r1⟩ := arg47 h1
  obtain ⟨a2, r2⟩ := arg58 h2

  have f := f7_ok r0 r1 r2
  rw [H] at f
  exact f

end Go.Proofs.Ytklfdkbemkommaa
