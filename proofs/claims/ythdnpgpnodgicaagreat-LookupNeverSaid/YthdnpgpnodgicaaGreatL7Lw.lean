/-
  From a plain law to its function.
-/
import Derived.Test.YthdnpgpnodgicaaGreatL7Rd
import Derived.Test.YthdnpgpnodgicaaGreatL7W8
set_option linter.all false
set_option maxRecDepth 100000
namespace Go.Proofs.YthdnpgpnodgicaaGreat
open Go Go.Pb Go.RowKit
theorem LookupNever_row (H : ∀ (a0 : bm), ng a0 = true) (css : List PV) (h : All2 (fun t c => IsArg Tryz.prog t c) [35] css) : FnR Tryz.prog 7 css (.sc (.bool true)) := by
  match css, h with
  | [c0], ⟨h0, _⟩ =>
  obtain ⟨a0, r0⟩ := ed1 h0

  have f := ed8 r0
  rw [H] at f
  exact f

end Go.Proofs.YthdnpgpnodgicaaGreat
