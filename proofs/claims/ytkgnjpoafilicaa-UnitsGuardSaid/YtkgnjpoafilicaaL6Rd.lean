/-
  What the claims read of their arguments.
-/
import Derived.Test.YtkgnjpoafilicaaPbA
import Derived.Test.YtkgnjpoafilicaaKTy
set_option linter.unusedVariables false
set_option linter.unusedSimpArgs false
set_option maxRecDepth 100000
namespace Go.Proofs.Ytkgnjpoafilicaa
open Go Go.Pb Go.RowKit
theorem cel3 : Try.prog.cellsOf 3 = 1 := by kernel_rfl
theorem cel4 : Try.prog.cellsOf 4 = 1 := by kernel_rfl
theorem cel38 : Try.prog.cellsOf 38 = 1 := by kernel_rfl
theorem cel51 : Try.prog.cellsOf 51 = 2 := by kernel_rfl
theorem cel56 : Try.prog.cellsOf 56 = 1 := by kernel_rfl
theorem cel58 : Try.prog.cellsOf 58 = 3 := by kernel_rfl
theorem cel60 : Try.prog.cellsOf 60 = 2 := by kernel_rfl
theorem cel106 : Try.prog.cellsOf 106 = 3 := by kernel_rfl
theorem api_ExprNode.reads106 : ∀ n, Reads Try.prog 106 api_ExprNode.t n
  | 0 => fun cs hc => hc.elim
  | n + 1 => fun cs hc => by
    obtain ⟨hl, hf⟩ := reads_struct Try.underlying106 hc
    rw [cel106] at hl
    match cs, hl with
    | [c0, c1, c2], _ =>
      have q0 : HasC Try.prog n 3 [c0] := by
        have q := hf _ (List.mem_of_getElem? (i := 0) rfl)
        simpa only [cel3, List.drop_succ_cons, List.drop_zero, List.take_succ_cons, List.take_zero] using q
      obtain ⟨a0, h0⟩ := (reads_int Try.underlying3) n _ q0
      rw [val_one Try.underlying3 rfl] at h0
      have h0 : c0 = vi a0 := h0; subst h0
      have q1 : HasC Try.prog n 3 [c1] := by
        have q := hf _ (List.mem_of_getElem? (i := 1) rfl)
        simpa only [cel3, List.drop_succ_cons, List.drop_zero, List.take_succ_cons, List.take_zero] using q
      obtain ⟨a1, h1⟩ := (reads_int Try.underlying3) n _ q1
      rw [val_one Try.underlying3 rfl] at h1
      have h1 : c1 = vi a1 := h1; subst h1
      have q2 : HasC Try.prog n 3 [c2] := by
        have q := hf _ (List.mem_of_getElem? (i := 2) rfl)
        simpa only [cel3, List.drop_succ_cons, List.drop_zero, List.take_succ_cons, List.take_zero] using q
      obtain ⟨a2, h2⟩ := (reads_int Try.underlying3) n _ q2
      rw [val_one Try.underlying3 rfl] at h2
      have h2 : c2 = vi a2 := h2; subst h2
      refine ⟨({ Op := a0, N := a1, W := a2 } : api_ExprNode), ?_⟩
      rw [val_agg Try.underlying106 rfl]
      rfl
theorem api_Guard.reads60 : ∀ n, Reads Try.prog 60 api_Guard.t n
  | 0 => fun cs hc => hc.elim
  | n + 1 => fun cs hc => by
    obtain ⟨hl, hf⟩ := reads_struct Try.underlying60 hc
    rw [cel60] at hl
    match cs, hl with
    | [c0, c1], _ =>
      have q0 : HasC Try.prog n 3 [c0] := by
        have q := hf _ (List.mem_of_getElem? (i := 0) rfl)
        simpa only [cel3, List.drop_succ_cons, List.drop_zero, List.take_succ_cons, List.take_zero] using q
      obtain ⟨a0, h0⟩ := (reads_int Try.underlying3) n _ q0
      rw [val_one Try.underlying3 rfl] at h0
      have h0 : c0 = vi a0 := h0; subst h0
      have q1 : HasC Try.prog n 4 [c1] := by
        have q := hf _ (List.mem_of_getElem? (i := 1) rfl)
        simpa only [cel4, List.drop_succ_cons, List.drop_zero, List.take_succ_cons, List.take_zero] using q
      obtain ⟨a1, h1⟩ := (reads_bool Try.underlying4) n _ q1
      rw [val_one Try.underlying4 rfl] at h1
      have h1 : c1 = vb a1 := h1; subst h1
      refine ⟨({ Unit := a0, Want := a1 } : api_Guard), ?_⟩
      rw [val_agg Try.underlying60 rfl]
      rfl
theorem api_Unit.reads58 : ∀ n, Reads Try.prog 58 api_Unit.t n
  | 0 => fun cs hc => hc.elim
  | n + 1 => fun cs hc => by
    obtain ⟨hl, hf⟩ := reads_struct Try.underlying58 hc
    rw [cel58] at hl
    match cs, hl with
    | [c0, c1, c2], _ =>
      have q0 : HasC Try.prog n 3 [c0] := by
        have q := hf _ (List.mem_of_getElem? (i := 0) rfl)
        simpa only [cel3, List.drop_succ_cons, List.drop_zero, List.take_succ_cons, List.take_zero] using q
      obtain ⟨a0, h0⟩ := (reads_int Try.underlying3) n _ q0
      rw [val_one Try.underlying3 rfl] at h0
      have h0 : c0 = vi a0 := h0; subst h0
      have q1 : HasC Try.prog n 38 [c1] := by
        have q := hf _ (List.mem_of_getElem? (i := 1) rfl)
        simpa only [cel38, List.drop_succ_cons, List.drop_zero, List.take_succ_cons, List.take_zero] using q
      obtain ⟨a1, h1⟩ := (reads_slices Try.underlying38 api_ExprNode.reads106) n _ q1
      rw [val_one Try.underlying38 rfl] at h1
      have q2 : HasC Try.prog n 56 [c2] := by
        have q := hf _ (List.mem_of_getElem? (i := 2) rfl)
        simpa only [cel56, List.drop_succ_cons, List.drop_zero, List.take_succ_cons, List.take_zero] using q
      obtain ⟨a2, h2⟩ := (reads_slices Try.underlying56 api_Guard.reads60) n _ q2
      rw [val_one Try.underlying56 rfl] at h2
      refine ⟨({ Table := a0, Cond := a1, Guards := a2 } : api_Unit), ?_⟩
      rw [val_agg Try.underlying58 rfl]
      exact ⟨_, _, rfl, h1, h2⟩
theorem arg48 {c : PV} (h : IsArg Try.prog 48 c) : ∃ a, (tSl api_Unit.t).R a c := isArg_reads (reads_slices Try.underlying48 api_Unit.reads58) h
theorem arg50 {c : PV} (h : IsArg Try.prog 50 c) : ∃ a, (tSl tB).R a c := isArg_reads (reads_slices Try.underlying50 (reads_bool Try.underlying4)) h
theorem reads_arr51 : ∀ n, Reads Try.prog 51 (tAr 2 tI) n
  | 0 => fun cs hc => hc.elim
  | n + 1 => reads_array Try.underlying51 Try.underlying3 (cel3.trans rfl) (cel51.trans rfl) ((reads_int Try.underlying3) n)
theorem arg51 {c : PV} (h : IsArg Try.prog 51 c) : ∃ a, (tAr 2 tI).R a c := isArg_reads reads_arr51 h
end Go.Proofs.Ytkgnjpoafilicaa
