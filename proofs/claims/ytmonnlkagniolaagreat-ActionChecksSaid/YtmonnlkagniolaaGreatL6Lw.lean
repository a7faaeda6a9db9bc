/-
  From a plain law to its function.
-/
import Derived.Test.YtmonnlkagniolaaGreatL6Rd
import Derived.Test.YtmonnlkagniolaaGreatL6W7
set_option linter.unusedVariables false
set_option linter.unusedSimpArgs false
set_option maxRecDepth 100000
namespace Go.Proofs.YtmonnlkagniolaaGreat
open Go Go.Pb Go.RowKit
theorem ActionChecks_row (H : ∀ (a0 : af) (a1 : Int) (a2 : bb), kv a0 a1 a2 = true) (css : List PV) (h : All2 (fun t c => IsArg Tryz.prog t c) [31, 3, 48] css) : FnR Tryz.prog 6 css (.sc (.bool true)) := by
  match css, h with
  | [c0, c1, c2], ⟨h0, h1, h2, _⟩ =>
  obtain ⟨a0, r0⟩ := db6 h0
  obtain ⟨a1, r1⟩ := dj1 h1
  obtain ⟨a2, r2⟩ := dh9 h2
  have r1 : c1 = vi a1 := r1; subst r1
  have f := dc5 r0 (x1 := a1) r2
  rw [H] at f
  exact f

end Go.Proofs.YtmonnlkagniolaaGreat
