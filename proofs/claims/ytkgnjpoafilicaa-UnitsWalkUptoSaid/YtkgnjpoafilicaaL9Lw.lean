/-
  From a plain law to its function.
-/
import Derived.Test.YtkgnjpoafilicaaL9Rd
import Derived.Test.YtkgnjpoafilicaaL9W5
set_option linter.unusedVariables false
set_option linter.unusedSimpArgs false
set_option maxRecDepth 100000
namespace Go.Proofs.Ytkgnjpoafilicaa
open Go Go.Pb Go.RowKit
theorem UnitsBuild_row (H : ∀ (a0 : api_Program) (hbu : btl a0.Control ≤ 1048576), law32_UnitsBuild a0 = true) (css : List PV) (h : All2 (fun t c => IsArg Try.prog t c) [31] css) (hw : wtL css ≤ 1048576) : FnR Try.prog 5 css (.sc (.bool true)) := by
  match css, h with
  | [c0], ⟨h0, _⟩ =>
  obtain ⟨a0, r0⟩ := arg31 h0

  have f := f5_ok r0 (by (have hk := bt_le r0; simp only [wtL] at hw; omega))
  rw [H _ (by (have hk := bt_le r0; simp only [wtL] at hw; omega))] at f
  exact f

theorem UnitsWalk_row (H : ∀ (a0 : api_Program) (a1 : List Bool) (hbu : btl a0.Control ≤ 1048576), law32_UnitsWalk a0 a1 = true) (css : List PV) (h : All2 (fun t c => IsArg Try.prog t c) [31, 50] css) (hw : wtL css ≤ 1048576) : FnR Try.prog 9 css (.sc (.bool true)) := by
  match css, h with
  | [c0, c1], ⟨h0, h1, _⟩ =>
  obtain ⟨a0, r0⟩ := arg31 h0
  obtain ⟨a1, r1⟩ := arg50 h1

  have f := f9_ok r0 r1 (by (have hk := bt_le r0; simp only [wtL] at hw; omega))
  rw [H _ _ (by (have hk := bt_le r0; simp only [wtL] at hw; omega))] at f
  exact f

end Go.Proofs.Ytkgnjpoafilicaa
