/-
  From a plain law to its function.
-/
import Derived.Test.YthdnpgpnodgicaaGreatL9Rd
import Derived.Test.YthdnpgpnodgicaaGreatL9W0
set_option linter.unusedVariables false
set_option linter.unusedSimpArgs false
set_option maxRecDepth 100000
namespace Go.Proofs.YthdnpgpnodgicaaGreat
open Go Go.Pb Go.RowKit
theorem LookupNil_row (H : ∀ (a0 : List (BitVec 32)), law24_LookupNil a0 = true) (css : List PV) (h : All2 (fun t c => IsArg Tryz.prog t c) [33] css) : FnR Tryz.prog 9 css (.sc (.bool true)) := by
  match css, h with
  | [c0], ⟨h0, _⟩ =>
  obtain ⟨a0, r0⟩ := arg33 h0

  have f := f9_ok r0
  rw [H] at f
  exact f

end Go.Proofs.YthdnpgpnodgicaaGreat
