/-
  From a plain law to its function.
-/
import Derived.Test.YthdnpgpnodgicaaGreatL8Rd
import Derived.Test.YthdnpgpnodgicaaGreatL8W8
set_option linter.unusedVariables false
set_option linter.unusedSimpArgs false
set_option maxRecDepth 100000
namespace Go.Proofs.YthdnpgpnodgicaaGreat
open Go Go.Pb Go.RowKit
theorem LookupComplete_row (H : ∀ (a0 : bm), kw a0 = true) (css : List PV) (h : All2 (fun t c => IsArg Tryz.prog t c) [35] css) : FnR Tryz.prog 8 css (.sc (.bool true)) := by
  match css, h with
  | [c0], ⟨h0, _⟩ =>
  obtain ⟨a0, r0⟩ := ef2 h0

  have f := eh7 r0
  rw [H] at f
  exact f

end Go.Proofs.YthdnpgpnodgicaaGreat
