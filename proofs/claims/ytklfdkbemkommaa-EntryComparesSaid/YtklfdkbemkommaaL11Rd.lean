/-
  What the claims read of their arguments.
-/
import Derived.Test.YtklfdkbemkommaaPbA
import Derived.Test.YtklfdkbemkommaaKTy
set_option linter.unusedVariables false
set_option linter.unusedSimpArgs false
set_option maxRecDepth 100000
namespace Go.Proofs.Ytklfdkbemkommaa
open Go Go.Pb Go.RowKit
theorem cel3 : Try.prog.cellsOf 3 = 1 := by kernel_rfl
theorem cel44 : Try.prog.cellsOf 44 = 1 := by kernel_rfl
theorem cel54 : Try.prog.cellsOf 54 = 2 := by kernel_rfl
theorem cel57 : Try.prog.cellsOf 57 = 1 := by kernel_rfl
theorem cel67 : Try.prog.cellsOf 67 = 1 := by kernel_rfl
theorem cel69 : Try.prog.cellsOf 69 = 4 := by kernel_rfl
theorem cel85 : Try.prog.cellsOf 85 = 2 := by kernel_rfl
theorem api_KeyMatch.reads85 : ∀ n, Reads Try.prog 85 api_KeyMatch.t n
  | 0 => fun cs hc => hc.elim
  | n + 1 => fun cs hc => by
    obtain ⟨hl, hf⟩ := reads_struct Try.underlying85 hc
    rw [cel85] at hl
    match cs, hl with
    | [c0, c1], _ =>
      have q0 : HasC Try.prog n 57 [c0] := by
        have q := hf _ (List.mem_of_getElem? (i := 0) rfl)
        simpa only [cel57, List.drop_succ_cons, List.drop_zero, List.take_succ_cons, List.take_zero] using q
      obtain ⟨a0, h0⟩ := (reads_u32 Try.underlying57) n _ q0
      rw [val_one Try.underlying57 rfl] at h0
      have h0 : c0 = vu32 a0 := h0; subst h0
      have q1 : HasC Try.prog n 57 [c1] := by
        have q := hf _ (List.mem_of_getElem? (i := 1) rfl)
        simpa only [cel57, List.drop_succ_cons, List.drop_zero, List.take_succ_cons, List.take_zero] using q
      obtain ⟨a1, h1⟩ := (reads_u32 Try.underlying57) n _ q1
      rw [val_one Try.underlying57 rfl] at h1
      have h1 : c1 = vu32 a1 := h1; subst h1
      refine ⟨({ Value := a0, Mask := a1 } : api_KeyMatch), ?_⟩
      rw [val_agg Try.underlying85 rfl]
      rfl
theorem api_ActionCall.reads54 : ∀ n, Reads Try.prog 54 api_ActionCall.t n
  | 0 => fun cs hc => hc.elim
  | n + 1 => fun cs hc => by
    obtain ⟨hl, hf⟩ := reads_struct Try.underlying54 hc
    rw [cel54] at hl
    match cs, hl with
    | [c0, c1], _ =>
      have q0 : HasC Try.prog n 3 [c0] := by
        have q := hf _ (List.mem_of_getElem? (i := 0) rfl)
        simpa only [cel3, List.drop_succ_cons, List.drop_zero, List.take_succ_cons, List.take_zero] using q
      obtain ⟨a0, h0⟩ := (reads_int Try.underlying3) n _ q0
      rw [val_one Try.underlying3 rfl] at h0
      have h0 : c0 = vi a0 := h0; subst h0
      have q1 : HasC Try.prog n 44 [c1] := by
        have q := hf _ (List.mem_of_getElem? (i := 1) rfl)
        simpa only [cel44, List.drop_succ_cons, List.drop_zero, List.take_succ_cons, List.take_zero] using q
      obtain ⟨a1, h1⟩ := (reads_slices Try.underlying44 (reads_u32 Try.underlying57)) n _ q1
      rw [val_one Try.underlying44 rfl] at h1
      refine ⟨({ Action := a0, Args := a1 } : api_ActionCall), ?_⟩
      rw [val_agg Try.underlying54 rfl]
      exact ⟨_, rfl, h1⟩
theorem api_Entry.reads69 : ∀ n, Reads Try.prog 69 api_Entry.t n
  | 0 => fun cs hc => hc.elim
  | n + 1 => fun cs hc => by
    obtain ⟨hl, hf⟩ := reads_struct Try.underlying69 hc
    rw [cel69] at hl
    match cs, hl with
    | [c0, c1, c2, c3], _ =>
      have q0 : HasC Try.prog n 67 [c0] := by
        have q := hf _ (List.mem_of_getElem? (i := 0) rfl)
        simpa only [cel67, List.drop_succ_cons, List.drop_zero, List.take_succ_cons, List.take_zero] using q
      obtain ⟨a0, h0⟩ := (reads_slices Try.underlying67 api_KeyMatch.reads85) n _ q0
      rw [val_one Try.underlying67 rfl] at h0
      have q1 : HasC Try.prog n 3 [c1] := by
        have q := hf _ (List.mem_of_getElem? (i := 1) rfl)
        simpa only [cel3, List.drop_succ_cons, List.drop_zero, List.take_succ_cons, List.take_zero] using q
      obtain ⟨a1, h1⟩ := (reads_int Try.underlying3) n _ q1
      rw [val_one Try.underlying3 rfl] at h1
      have h1 : c1 = vi a1 := h1; subst h1
      have q2 : HasC Try.prog n 54 [c2, c3] := by
        have q := hf _ (List.mem_of_getElem? (i := 2) rfl)
        simpa only [cel54, List.drop_succ_cons, List.drop_zero, List.take_succ_cons, List.take_zero] using q
      obtain ⟨a2, h2⟩ := api_ActionCall.reads54 n _ q2
      rw [val_agg Try.underlying54 rfl] at h2
      obtain ⟨d1_2, e2, kd1_2⟩ := h2
      simp only [PV.agg.injEq, List.cons.injEq, and_true] at e2
      obtain ⟨rfl, rfl⟩ := e2
      refine ⟨({ Keys := a0, Priority := a1, Call := a2 } : api_Entry), ?_⟩
      rw [val_agg Try.underlying69 rfl]
      exact ⟨_, _, rfl, h0, kd1_2⟩
theorem arg69 {c : PV} (h : IsArg Try.prog 69 c) : ∃ a, api_Entry.t.R a c := isArg_reads api_Entry.reads69 h
end Go.Proofs.Ytklfdkbemkommaa
