/-
  What the claims read of their arguments.
-/
import Derived.Test.YtkgnjpoafilicaaPbA
import Derived.Test.YtkgnjpoafilicaaKTy
set_option linter.unusedVariables false
set_option linter.unusedSimpArgs false
set_option maxRecDepth 100000
namespace Go.Proofs.Ytkgnjpoafilicaa
open Go Go.Pb Go.RowKit
theorem cel3 : Try.prog.cellsOf 3 = 1 := by kernel_rfl
theorem cel28 : Try.prog.cellsOf 28 = 1 := by kernel_rfl
theorem cel38 : Try.prog.cellsOf 38 = 1 := by kernel_rfl
theorem cel40 : Try.prog.cellsOf 40 = 5 := by kernel_rfl
theorem cel106 : Try.prog.cellsOf 106 = 3 := by kernel_rfl
theorem api_ExprNode.reads106 : ∀ n, Reads Try.prog 106 api_ExprNode.t n
  | 0 => fun cs hc => hc.elim
  | n + 1 => fun cs hc => by
    obtain ⟨hl, hf⟩ := reads_struct Try.underlying106 hc
    rw [cel106] at hl
    match cs, hl with
    | [c0, c1, c2], _ =>
      have q0 : HasC Try.prog n 3 [c0] := by
        have q := hf _ (List.mem_of_getElem? (i := 0) rfl)
        simpa only [cel3, List.drop_succ_cons, List.drop_zero, List.take_succ_cons, List.take_zero] using q
      obtain ⟨a0, h0⟩ := (reads_int Try.underlying3) n _ q0
      rw [val_one Try.underlying3 rfl] at h0
      have h0 : c0 = vi a0 := h0; subst h0
      have q1 : HasC Try.prog n 3 [c1] := by
        have q := hf _ (List.mem_of_getElem? (i := 1) rfl)
        simpa only [cel3, List.drop_succ_cons, List.drop_zero, List.take_succ_cons, List.take_zero] using q
      obtain ⟨a1, h1⟩ := (reads_int Try.underlying3) n _ q1
      rw [val_one Try.underlying3 rfl] at h1
      have h1 : c1 = vi a1 := h1; subst h1
      have q2 : HasC Try.prog n 3 [c2] := by
        have q := hf _ (List.mem_of_getElem? (i := 2) rfl)
        simpa only [cel3, List.drop_succ_cons, List.drop_zero, List.take_succ_cons, List.take_zero] using q
      obtain ⟨a2, h2⟩ := (reads_int Try.underlying3) n _ q2
      rw [val_one Try.underlying3 rfl] at h2
      have h2 : c2 = vi a2 := h2; subst h2
      refine ⟨({ Op := a0, N := a1, W := a2 } : api_ExprNode), ?_⟩
      rw [val_agg Try.underlying106 rfl]
      rfl
theorem api_ControlNode.reads40 : ∀ n, Reads Try.prog 40 api_ControlNode.t n
  | 0 => fun cs hc => hc.elim
  | n + 1 => fun cs hc => by
    obtain ⟨hl, hf⟩ := reads_struct Try.underlying40 hc
    rw [cel40] at hl
    match cs, hl with
    | [c0, c1, c2, c3, c4], _ =>
      have q0 : HasC Try.prog n 3 [c0] := by
        have q := hf _ (List.mem_of_getElem? (i := 0) rfl)
        simpa only [cel3, List.drop_succ_cons, List.drop_zero, List.take_succ_cons, List.take_zero] using q
      obtain ⟨a0, h0⟩ := (reads_int Try.underlying3) n _ q0
      rw [val_one Try.underlying3 rfl] at h0
      have h0 : c0 = vi a0 := h0; subst h0
      have q1 : HasC Try.prog n 3 [c1] := by
        have q := hf _ (List.mem_of_getElem? (i := 1) rfl)
        simpa only [cel3, List.drop_succ_cons, List.drop_zero, List.take_succ_cons, List.take_zero] using q
      obtain ⟨a1, h1⟩ := (reads_int Try.underlying3) n _ q1
      rw [val_one Try.underlying3 rfl] at h1
      have h1 : c1 = vi a1 := h1; subst h1
      have q2 : HasC Try.prog n 38 [c2] := by
        have q := hf _ (List.mem_of_getElem? (i := 2) rfl)
        simpa only [cel38, List.drop_succ_cons, List.drop_zero, List.take_succ_cons, List.take_zero] using q
      obtain ⟨a2, h2⟩ := (reads_slices Try.underlying38 api_ExprNode.reads106) n _ q2
      rw [val_one Try.underlying38 rfl] at h2
      have q3 : HasC Try.prog n 28 [c3] := by
        have q := hf _ (List.mem_of_getElem? (i := 3) rfl)
        simpa only [cel28, List.drop_succ_cons, List.drop_zero, List.take_succ_cons, List.take_zero] using q
      obtain ⟨a3, h3⟩ : ∃ a, (tSl api_ControlNode.t).R a (valC Try.prog 28 [c3]) := by
        cases n with
        | zero => exact q3.elim
        | succ n => exact reads_slice Try.underlying28 (api_ControlNode.reads40 n) _ q3
      rw [val_one Try.underlying28 rfl] at h3
      have q4 : HasC Try.prog n 28 [c4] := by
        have q := hf _ (List.mem_of_getElem? (i := 4) rfl)
        simpa only [cel28, List.drop_succ_cons, List.drop_zero, List.take_succ_cons, List.take_zero] using q
      obtain ⟨a4, h4⟩ : ∃ a, (tSl api_ControlNode.t).R a (valC Try.prog 28 [c4]) := by
        cases n with
        | zero => exact q4.elim
        | succ n => exact reads_slice Try.underlying28 (api_ControlNode.reads40 n) _ q4
      rw [val_one Try.underlying28 rfl] at h4
      refine ⟨({ Kind := a0, Table := a1, Cond := a2, Then := a3, Else := a4 } : api_ControlNode), ?_⟩
      rw [val_agg Try.underlying40 rfl]
      show api_ControlNode.R _ _
      simp only [api_ControlNode.R]
      exact ⟨_, _, _, rfl, h2, ⟨⟨h3.1.choose, h3.1.choose_spec.1, by rw [api_ControlNode.Rl_eq]; exact h3.1.choose_spec.2⟩, h3.2⟩, ⟨⟨h4.1.choose, h4.1.choose_spec.1, by rw [api_ControlNode.Rl_eq]; exact h4.1.choose_spec.2⟩, h4.2⟩⟩
theorem arg28 {c : PV} (h : IsArg Try.prog 28 c) : ∃ a, (tSl api_ControlNode.t).R a c := isArg_reads (reads_slices Try.underlying28 api_ControlNode.reads40) h
theorem arg50 {c : PV} (h : IsArg Try.prog 50 c) : ∃ a, (tSl tB).R a c := isArg_reads (reads_slices Try.underlying50 (reads_bool Try.underlying4)) h
end Go.Proofs.Ytkgnjpoafilicaa
