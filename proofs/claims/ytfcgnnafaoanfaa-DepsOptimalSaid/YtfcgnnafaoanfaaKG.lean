/-
  The laws on stages and on critical paths, for all that a claim reads.
-/
import Derived.Test.YtfcgnnafaoanfaaPbA
import Derived.Test.YtfcgnnafaoanfaaKF
set_option linter.unusedVariables false
set_option linter.unusedSimpArgs false
set_option maxRecDepth 100000
namespace Go.Proofs.Ytfcgnnafaoanfaa
open Go Go.Pb Go.RowKit
theorem slOf_weak {α : Type} {R S : α → PV → Prop} {l : List α} {v : PV} (h : SlOf R l v) (hm : ∀ a e, R a e → S a e) : SlOf S l v := by
  obtain ⟨es, h1, h2⟩ := h
  refine ⟨es, h1, ?_⟩
  clear h1
  induction l generalizing es with
  | nil => cases es with
    | nil => trivial
    | cons e es => exact h2
  | cons a l ih => cases es with
    | nil => exact h2
    | cons e es => exact ⟨hm _ _ h2.1, ih es h2.2⟩
theorem arg_L {c : PV} (h : IsArg Try.prog 23 c) : ∃ l, IsL l c := by
  obtain ⟨n, cs, h1, rfl⟩ := h
  cases n with
  | zero => exact h1.elim
  | succ n =>
    obtain ⟨a, h2⟩ := reads_slice Try.underlying23 (reads_int Try.underlying3 n) cs h1
    exact ⟨a, slOf_weak h2.1 fun _ _ h => h⟩
theorem arg_M {c : PV} (h : IsArg Try.prog 22 c) : ∃ d, IsM d c := by
  obtain ⟨n, cs, h1, rfl⟩ := h
  cases n with
  | zero => exact h1.elim
  | succ n => cases n with
    | zero =>
      simp only [HasC, Try.underlying22] at h1
      rcases h1 with ⟨ad, rfl⟩ | ⟨L, rfl, hl, h2⟩
      · rw [val_one Try.underlying22 rfl]; exact ⟨[], [], .inl ⟨ad, rfl, rfl⟩, trivial⟩
      · cases L with
        | nil => rw [val_one Try.underlying22 rfl]; exact ⟨[], [], .inr ⟨false, rfl⟩, trivial⟩
        | cons x L => exact (h2 x (by simp)).2.elim
    | succ n =>
      obtain ⟨a, h2⟩ := reads_slice Try.underlying22 (reads_slice Try.underlying23 (reads_int Try.underlying3 n)) cs h1
      exact ⟨a, slOf_weak h2.1 fun _ _ h => slOf_weak h.1 fun _ _ h => h⟩
theorem DepsStages_row (u : Unit) (css : List PV) (h : All2 (fun t c => IsArg Try.prog t c) [22, 23] css) : FnR Try.prog 3 css (.sc (.bool true)) := by
  match css, h with
  | [c0, c1], ⟨h0, h1, _⟩ =>
  obtain ⟨d, r0⟩ := arg_M h0
  obtain ⟨s, r1⟩ := arg_L h1
  exact DepsStages_fn r0 r1
theorem DepsCriticalPath_row (u : Unit) (css : List PV) (h : All2 (fun t c => IsArg Try.prog t c) [22] css) : FnR Try.prog 4 css (.sc (.bool true)) := by
  match css, h with
  | [c0], ⟨h0, _⟩ =>
  obtain ⟨d, r0⟩ := arg_M h0
  exact DepsCriticalPath_fn r0
end Go.Proofs.Ytfcgnnafaoanfaa
