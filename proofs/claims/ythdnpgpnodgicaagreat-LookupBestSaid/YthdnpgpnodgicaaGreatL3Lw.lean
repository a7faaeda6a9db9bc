/-
  From a plain law to its function.
-/
import Derived.Test.YthdnpgpnodgicaaGreatL3Rd
import Derived.Test.YthdnpgpnodgicaaGreatL3W2
set_option linter.unusedVariables false
set_option linter.unusedSimpArgs false
set_option maxRecDepth 100000
namespace Go.Proofs.YthdnpgpnodgicaaGreat
open Go Go.Pb Go.RowKit
theorem LookupBest_row (H : ∀ (a0 : law24_Case), law24_LookupBest a0 = true) (css : List PV) (h : All2 (fun t c => IsArg Tryz.prog t c) [35] css) : FnR Tryz.prog 3 css (.sc (.bool true)) := by
  match css, h with
  | [c0], ⟨h0, _⟩ =>
  obtain ⟨a0, r0⟩ := arg35 h0

  have f := f3_ok r0
  rw [H] at f
  exact f

end Go.Proofs.YthdnpgpnodgicaaGreat
