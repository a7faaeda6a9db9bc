/-
  From a plain law to its function.
-/
import Derived.Test.YthdnpgpnodgicaaGreatL4Rd
import Derived.Test.YthdnpgpnodgicaaGreatL4W6
set_option linter.unusedVariables false
set_option linter.unusedSimpArgs false
set_option maxRecDepth 100000
namespace Go.Proofs.YthdnpgpnodgicaaGreat
open Go Go.Pb Go.RowKit
theorem LookupFinds_row (H : ∀ (a0 : cb) (a1 : List (List (BitVec 32))), ov a0 a1 = true) (css : List PV) (h : All2 (fun t c => IsArg Tryz.prog t c) [35, 48] css) : FnR Tryz.prog 4 css (.sc (.bool true)) := by
  match css, h with
  | [c0, c1], ⟨h0, h1, _⟩ =>
  obtain ⟨a0, r0⟩ := dq7 h0
  obtain ⟨a1, r1⟩ := dn4 h1

  have f := do2 r0 r1
  rw [H] at f
  exact f

end Go.Proofs.YthdnpgpnodgicaaGreat
