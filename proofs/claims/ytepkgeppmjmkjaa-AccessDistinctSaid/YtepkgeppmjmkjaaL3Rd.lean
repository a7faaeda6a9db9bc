/-
  What the claims read of their arguments.
-/
import Derived.Test.YtepkgeppmjmkjaaPbA
import Derived.Test.YtepkgeppmjmkjaaKTy
set_option linter.unusedVariables false
set_option linter.unusedSimpArgs false
set_option maxRecDepth 100000
namespace Go.Proofs.Ytepkgeppmjmkjaa
open Go Go.Pb Go.RowKit
theorem cel3 : Try.prog.cellsOf 3 = 1 := by kernel_rfl
theorem cel4 : Try.prog.cellsOf 4 = 1 := by kernel_rfl
theorem cel9 : Try.prog.cellsOf 9 = 1 := by kernel_rfl
theorem cel22 : Try.prog.cellsOf 22 = 1 := by kernel_rfl
theorem cel23 : Try.prog.cellsOf 23 = 1 := by kernel_rfl
theorem cel24 : Try.prog.cellsOf 24 = 1 := by kernel_rfl
theorem cel25 : Try.prog.cellsOf 25 = 1 := by kernel_rfl
theorem cel26 : Try.prog.cellsOf 26 = 1 := by kernel_rfl
theorem cel27 : Try.prog.cellsOf 27 = 1 := by kernel_rfl
theorem cel28 : Try.prog.cellsOf 28 = 1 := by kernel_rfl
theorem cel29 : Try.prog.cellsOf 29 = 1 := by kernel_rfl
theorem cel31 : Try.prog.cellsOf 31 = 9 := by kernel_rfl
theorem cel36 : Try.prog.cellsOf 36 = 2 := by kernel_rfl
theorem cel39 : Try.prog.cellsOf 39 = 2 := by kernel_rfl
theorem cel45 : Try.prog.cellsOf 45 = 1 := by kernel_rfl
theorem cel47 : Try.prog.cellsOf 47 = 3 := by kernel_rfl
theorem cel48 : Try.prog.cellsOf 48 = 1 := by kernel_rfl
theorem cel49 : Try.prog.cellsOf 49 = 1 := by kernel_rfl
theorem cel51 : Try.prog.cellsOf 51 = 2 := by kernel_rfl
theorem cel53 : Try.prog.cellsOf 53 = 6 := by kernel_rfl
theorem cel55 : Try.prog.cellsOf 55 = 1 := by kernel_rfl
theorem cel57 : Try.prog.cellsOf 57 = 7 := by kernel_rfl
theorem cel60 : Try.prog.cellsOf 60 = 3 := by kernel_rfl
theorem cel61 : Try.prog.cellsOf 61 = 1 := by kernel_rfl
theorem cel69 : Try.prog.cellsOf 69 = 5 := by kernel_rfl
theorem cel71 : Try.prog.cellsOf 71 = 2 := by kernel_rfl
theorem cel73 : Try.prog.cellsOf 73 = 7 := by kernel_rfl
theorem cel75 : Try.prog.cellsOf 75 = 3 := by kernel_rfl
theorem cel77 : Try.prog.cellsOf 77 = 3 := by kernel_rfl
theorem cel94 : Try.prog.cellsOf 94 = 1 := by kernel_rfl
theorem cel189 : Try.prog.cellsOf 189 = 3 := by kernel_rfl
theorem api_Field.reads71 : ∀ n, Reads Try.prog 71 api_Field.t n
  | 0 => fun cs hc => hc.elim
  | n + 1 => fun cs hc => by
    obtain ⟨hl, hf⟩ := reads_struct Try.underlying71 hc
    rw [cel71] at hl
    match cs, hl with
    | [c0, c1], _ =>
      have q0 : HasC Try.prog n 9 [c0] := by
        have q := hf _ (List.mem_of_getElem? (i := 0) rfl)
        simpa only [cel9, List.drop_succ_cons, List.drop_zero, List.take_succ_cons, List.take_zero] using q
      obtain ⟨a0, h0⟩ := (reads_string Try.underlying9) n _ q0
      rw [val_one Try.underlying9 rfl] at h0
      have h0 : c0 = vs a0 := h0; subst h0
      have q1 : HasC Try.prog n 3 [c1] := by
        have q := hf _ (List.mem_of_getElem? (i := 1) rfl)
        simpa only [cel3, List.drop_succ_cons, List.drop_zero, List.take_succ_cons, List.take_zero] using q
      obtain ⟨a1, h1⟩ := (reads_int Try.underlying3) n _ q1
      rw [val_one Try.underlying3 rfl] at h1
      have h1 : c1 = vi a1 := h1; subst h1
      refine ⟨({ Name := a0, Width := a1 } : api_Field), ?_⟩
      rw [val_agg Try.underlying71 rfl]
      rfl
theorem api_Header.reads36 : ∀ n, Reads Try.prog 36 api_Header.t n
  | 0 => fun cs hc => hc.elim
  | n + 1 => fun cs hc => by
    obtain ⟨hl, hf⟩ := reads_struct Try.underlying36 hc
    rw [cel36] at hl
    match cs, hl with
    | [c0, c1], _ =>
      have q0 : HasC Try.prog n 9 [c0] := by
        have q := hf _ (List.mem_of_getElem? (i := 0) rfl)
        simpa only [cel9, List.drop_succ_cons, List.drop_zero, List.take_succ_cons, List.take_zero] using q
      obtain ⟨a0, h0⟩ := (reads_string Try.underlying9) n _ q0
      rw [val_one Try.underlying9 rfl] at h0
      have h0 : c0 = vs a0 := h0; subst h0
      have q1 : HasC Try.prog n 23 [c1] := by
        have q := hf _ (List.mem_of_getElem? (i := 1) rfl)
        simpa only [cel23, List.drop_succ_cons, List.drop_zero, List.take_succ_cons, List.take_zero] using q
      obtain ⟨a1, h1⟩ := (reads_slices Try.underlying23 api_Field.reads71) n _ q1
      rw [val_one Try.underlying23 rfl] at h1
      refine ⟨({ Name := a0, Fields := a1 } : api_Header), ?_⟩
      rw [val_agg Try.underlying36 rfl]
      exact ⟨_, rfl, h1⟩
theorem api_Register.reads75 : ∀ n, Reads Try.prog 75 api_Register.t n
  | 0 => fun cs hc => hc.elim
  | n + 1 => fun cs hc => by
    obtain ⟨hl, hf⟩ := reads_struct Try.underlying75 hc
    rw [cel75] at hl
    match cs, hl with
    | [c0, c1, c2], _ =>
      have q0 : HasC Try.prog n 9 [c0] := by
        have q := hf _ (List.mem_of_getElem? (i := 0) rfl)
        simpa only [cel9, List.drop_succ_cons, List.drop_zero, List.take_succ_cons, List.take_zero] using q
      obtain ⟨a0, h0⟩ := (reads_string Try.underlying9) n _ q0
      rw [val_one Try.underlying9 rfl] at h0
      have h0 : c0 = vs a0 := h0; subst h0
      have q1 : HasC Try.prog n 3 [c1] := by
        have q := hf _ (List.mem_of_getElem? (i := 1) rfl)
        simpa only [cel3, List.drop_succ_cons, List.drop_zero, List.take_succ_cons, List.take_zero] using q
      obtain ⟨a1, h1⟩ := (reads_int Try.underlying3) n _ q1
      rw [val_one Try.underlying3 rfl] at h1
      have h1 : c1 = vi a1 := h1; subst h1
      have q2 : HasC Try.prog n 3 [c2] := by
        have q := hf _ (List.mem_of_getElem? (i := 2) rfl)
        simpa only [cel3, List.drop_succ_cons, List.drop_zero, List.take_succ_cons, List.take_zero] using q
      obtain ⟨a2, h2⟩ := (reads_int Try.underlying3) n _ q2
      rw [val_one Try.underlying3 rfl] at h2
      have h2 : c2 = vi a2 := h2; subst h2
      refine ⟨({ Name := a0, Width := a1, Size := a2 } : api_Register), ?_⟩
      rw [val_agg Try.underlying75 rfl]
      rfl
theorem api_FieldRef.reads39 : ∀ n, Reads Try.prog 39 api_FieldRef.t n
  | 0 => fun cs hc => hc.elim
  | n + 1 => fun cs hc => by
    obtain ⟨hl, hf⟩ := reads_struct Try.underlying39 hc
    rw [cel39] at hl
    match cs, hl with
    | [c0, c1], _ =>
      have q0 : HasC Try.prog n 3 [c0] := by
        have q := hf _ (List.mem_of_getElem? (i := 0) rfl)
        simpa only [cel3, List.drop_succ_cons, List.drop_zero, List.take_succ_cons, List.take_zero] using q
      obtain ⟨a0, h0⟩ := (reads_int Try.underlying3) n _ q0
      rw [val_one Try.underlying3 rfl] at h0
      have h0 : c0 = vi a0 := h0; subst h0
      have q1 : HasC Try.prog n 3 [c1] := by
        have q := hf _ (List.mem_of_getElem? (i := 1) rfl)
        simpa only [cel3, List.drop_succ_cons, List.drop_zero, List.take_succ_cons, List.take_zero] using q
      obtain ⟨a1, h1⟩ := (reads_int Try.underlying3) n _ q1
      rw [val_one Try.underlying3 rfl] at h1
      have h1 : c1 = vi a1 := h1; subst h1
      refine ⟨({ Header := a0, Field := a1 } : api_FieldRef), ?_⟩
      rw [val_agg Try.underlying39 rfl]
      rfl
theorem api_ExprNode.reads60 : ∀ n, Reads Try.prog 60 api_ExprNode.t n
  | 0 => fun cs hc => hc.elim
  | n + 1 => fun cs hc => by
    obtain ⟨hl, hf⟩ := reads_struct Try.underlying60 hc
    rw [cel60] at hl
    match cs, hl with
    | [c0, c1, c2], _ =>
      have q0 : HasC Try.prog n 3 [c0] := by
        have q := hf _ (List.mem_of_getElem? (i := 0) rfl)
        simpa only [cel3, List.drop_succ_cons, List.drop_zero, List.take_succ_cons, List.take_zero] using q
      obtain ⟨a0, h0⟩ := (reads_int Try.underlying3) n _ q0
      rw [val_one Try.underlying3 rfl] at h0
      have h0 : c0 = vi a0 := h0; subst h0
      have q1 : HasC Try.prog n 3 [c1] := by
        have q := hf _ (List.mem_of_getElem? (i := 1) rfl)
        simpa only [cel3, List.drop_succ_cons, List.drop_zero, List.take_succ_cons, List.take_zero] using q
      obtain ⟨a1, h1⟩ := (reads_int Try.underlying3) n _ q1
      rw [val_one Try.underlying3 rfl] at h1
      have h1 : c1 = vi a1 := h1; subst h1
      have q2 : HasC Try.prog n 3 [c2] := by
        have q := hf _ (List.mem_of_getElem? (i := 2) rfl)
        simpa only [cel3, List.drop_succ_cons, List.drop_zero, List.take_succ_cons, List.take_zero] using q
      obtain ⟨a2, h2⟩ := (reads_int Try.underlying3) n _ q2
      rw [val_one Try.underlying3 rfl] at h2
      have h2 : c2 = vi a2 := h2; subst h2
      refine ⟨({ Op := a0, N := a1, W := a2 } : api_ExprNode), ?_⟩
      rw [val_agg Try.underlying60 rfl]
      rfl
theorem api_Statement.reads73 : ∀ n, Reads Try.prog 73 api_Statement.t n
  | 0 => fun cs hc => hc.elim
  | n + 1 => fun cs hc => by
    obtain ⟨hl, hf⟩ := reads_struct Try.underlying73 hc
    rw [cel73] at hl
    match cs, hl with
    | [c0, c1, c2, c3, c4, c5, c6], _ =>
      have q0 : HasC Try.prog n 3 [c0] := by
        have q := hf _ (List.mem_of_getElem? (i := 0) rfl)
        simpa only [cel3, List.drop_succ_cons, List.drop_zero, List.take_succ_cons, List.take_zero] using q
      obtain ⟨a0, h0⟩ := (reads_int Try.underlying3) n _ q0
      rw [val_one Try.underlying3 rfl] at h0
      have h0 : c0 = vi a0 := h0; subst h0
      have q1 : HasC Try.prog n 39 [c1, c2] := by
        have q := hf _ (List.mem_of_getElem? (i := 1) rfl)
        simpa only [cel39, List.drop_succ_cons, List.drop_zero, List.take_succ_cons, List.take_zero] using q
      obtain ⟨a1, h1⟩ := api_FieldRef.reads39 n _ q1
      rw [val_agg Try.underlying39 rfl] at h1
      have e1 : _ = _ := h1
      simp only [PV.agg.injEq, List.cons.injEq, and_true] at e1
      obtain ⟨rfl, rfl⟩ := e1
      have q2 : HasC Try.prog n 3 [c3] := by
        have q := hf _ (List.mem_of_getElem? (i := 2) rfl)
        simpa only [cel3, List.drop_succ_cons, List.drop_zero, List.take_succ_cons, List.take_zero] using q
      obtain ⟨a2, h2⟩ := (reads_int Try.underlying3) n _ q2
      rw [val_one Try.underlying3 rfl] at h2
      have h2 : c3 = vi a2 := h2; subst h2
      have q3 : HasC Try.prog n 3 [c4] := by
        have q := hf _ (List.mem_of_getElem? (i := 3) rfl)
        simpa only [cel3, List.drop_succ_cons, List.drop_zero, List.take_succ_cons, List.take_zero] using q
      obtain ⟨a3, h3⟩ := (reads_int Try.underlying3) n _ q3
      rw [val_one Try.underlying3 rfl] at h3
      have h3 : c4 = vi a3 := h3; subst h3
      have q4 : HasC Try.prog n 61 [c5] := by
        have q := hf _ (List.mem_of_getElem? (i := 4) rfl)
        simpa only [cel61, List.drop_succ_cons, List.drop_zero, List.take_succ_cons, List.take_zero] using q
      obtain ⟨a4, h4⟩ := (reads_slices Try.underlying61 api_ExprNode.reads60) n _ q4
      rw [val_one Try.underlying61 rfl] at h4
      have q5 : HasC Try.prog n 61 [c6] := by
        have q := hf _ (List.mem_of_getElem? (i := 5) rfl)
        simpa only [cel61, List.drop_succ_cons, List.drop_zero, List.take_succ_cons, List.take_zero] using q
      obtain ⟨a5, h5⟩ := (reads_slices Try.underlying61 api_ExprNode.reads60) n _ q5
      rw [val_one Try.underlying61 rfl] at h5
      refine ⟨({ Kind := a0, Dst := a1, Register := a2, Header := a3, Index := a4, Value := a5 } : api_Statement), ?_⟩
      rw [val_agg Try.underlying73 rfl]
      exact ⟨_, _, rfl, h4, h5⟩
theorem api_Action.reads47 : ∀ n, Reads Try.prog 47 api_Action.t n
  | 0 => fun cs hc => hc.elim
  | n + 1 => fun cs hc => by
    obtain ⟨hl, hf⟩ := reads_struct Try.underlying47 hc
    rw [cel47] at hl
    match cs, hl with
    | [c0, c1, c2], _ =>
      have q0 : HasC Try.prog n 9 [c0] := by
        have q := hf _ (List.mem_of_getElem? (i := 0) rfl)
        simpa only [cel9, List.drop_succ_cons, List.drop_zero, List.take_succ_cons, List.take_zero] using q
      obtain ⟨a0, h0⟩ := (reads_string Try.underlying9) n _ q0
      rw [val_one Try.underlying9 rfl] at h0
      have h0 : c0 = vs a0 := h0; subst h0
      have q1 : HasC Try.prog n 23 [c1] := by
        have q := hf _ (List.mem_of_getElem? (i := 1) rfl)
        simpa only [cel23, List.drop_succ_cons, List.drop_zero, List.take_succ_cons, List.take_zero] using q
      obtain ⟨a1, h1⟩ := (reads_slices Try.underlying23 api_Field.reads71) n _ q1
      rw [val_one Try.underlying23 rfl] at h1
      have q2 : HasC Try.prog n 45 [c2] := by
        have q := hf _ (List.mem_of_getElem? (i := 2) rfl)
        simpa only [cel45, List.drop_succ_cons, List.drop_zero, List.take_succ_cons, List.take_zero] using q
      obtain ⟨a2, h2⟩ := (reads_slices Try.underlying45 api_Statement.reads73) n _ q2
      rw [val_one Try.underlying45 rfl] at h2
      refine ⟨({ Name := a0, Params := a1, Body := a2 } : api_Action), ?_⟩
      rw [val_agg Try.underlying47 rfl]
      exact ⟨_, _, rfl, h1, h2⟩
theorem api_TableKey.reads77 : ∀ n, Reads Try.prog 77 api_TableKey.t n
  | 0 => fun cs hc => hc.elim
  | n + 1 => fun cs hc => by
    obtain ⟨hl, hf⟩ := reads_struct Try.underlying77 hc
    rw [cel77] at hl
    match cs, hl with
    | [c0, c1, c2], _ =>
      have q0 : HasC Try.prog n 39 [c0, c1] := by
        have q := hf _ (List.mem_of_getElem? (i := 0) rfl)
        simpa only [cel39, List.drop_succ_cons, List.drop_zero, List.take_succ_cons, List.take_zero] using q
      obtain ⟨a0, h0⟩ := api_FieldRef.reads39 n _ q0
      rw [val_agg Try.underlying39 rfl] at h0
      have e0 : _ = _ := h0
      simp only [PV.agg.injEq, List.cons.injEq, and_true] at e0
      obtain ⟨rfl, rfl⟩ := e0
      have q1 : HasC Try.prog n 3 [c2] := by
        have q := hf _ (List.mem_of_getElem? (i := 1) rfl)
        simpa only [cel3, List.drop_succ_cons, List.drop_zero, List.take_succ_cons, List.take_zero] using q
      obtain ⟨a1, h1⟩ := (reads_int Try.underlying3) n _ q1
      rw [val_one Try.underlying3 rfl] at h1
      have h1 : c2 = vi a1 := h1; subst h1
      refine ⟨({ Field := a0, Kind := a1 } : api_TableKey), ?_⟩
      rw [val_agg Try.underlying77 rfl]
      rfl
theorem api_ActionCall.reads51 : ∀ n, Reads Try.prog 51 api_ActionCall.t n
  | 0 => fun cs hc => hc.elim
  | n + 1 => fun cs hc => by
    obtain ⟨hl, hf⟩ := reads_struct Try.underlying51 hc
    rw [cel51] at hl
    match cs, hl with
    | [c0, c1], _ =>
      have q0 : HasC Try.prog n 3 [c0] := by
        have q := hf _ (List.mem_of_getElem? (i := 0) rfl)
        simpa only [cel3, List.drop_succ_cons, List.drop_zero, List.take_succ_cons, List.take_zero] using q
      obtain ⟨a0, h0⟩ := (reads_int Try.underlying3) n _ q0
      rw [val_one Try.underlying3 rfl] at h0
      have h0 : c0 = vi a0 := h0; subst h0
      have q1 : HasC Try.prog n 49 [c1] := by
        have q := hf _ (List.mem_of_getElem? (i := 1) rfl)
        simpa only [cel49, List.drop_succ_cons, List.drop_zero, List.take_succ_cons, List.take_zero] using q
      obtain ⟨a1, h1⟩ := (reads_slices Try.underlying49 (reads_u32 Try.underlying94)) n _ q1
      rw [val_one Try.underlying49 rfl] at h1
      refine ⟨({ Action := a0, Args := a1 } : api_ActionCall), ?_⟩
      rw [val_agg Try.underlying51 rfl]
      exact ⟨_, rfl, h1⟩
theorem api_Table.reads53 : ∀ n, Reads Try.prog 53 api_Table.t n
  | 0 => fun cs hc => hc.elim
  | n + 1 => fun cs hc => by
    obtain ⟨hl, hf⟩ := reads_struct Try.underlying53 hc
    rw [cel53] at hl
    match cs, hl with
    | [c0, c1, c2, c3, c4, c5], _ =>
      have q0 : HasC Try.prog n 9 [c0] := by
        have q := hf _ (List.mem_of_getElem? (i := 0) rfl)
        simpa only [cel9, List.drop_succ_cons, List.drop_zero, List.take_succ_cons, List.take_zero] using q
      obtain ⟨a0, h0⟩ := (reads_string Try.underlying9) n _ q0
      rw [val_one Try.underlying9 rfl] at h0
      have h0 : c0 = vs a0 := h0; subst h0
      have q1 : HasC Try.prog n 48 [c1] := by
        have q := hf _ (List.mem_of_getElem? (i := 1) rfl)
        simpa only [cel48, List.drop_succ_cons, List.drop_zero, List.take_succ_cons, List.take_zero] using q
      obtain ⟨a1, h1⟩ := (reads_slices Try.underlying48 api_TableKey.reads77) n _ q1
      rw [val_one Try.underlying48 rfl] at h1
      have q2 : HasC Try.prog n 29 [c2] := by
        have q := hf _ (List.mem_of_getElem? (i := 2) rfl)
        simpa only [cel29, List.drop_succ_cons, List.drop_zero, List.take_succ_cons, List.take_zero] using q
      obtain ⟨a2, h2⟩ := (reads_slices Try.underlying29 (reads_int Try.underlying3)) n _ q2
      rw [val_one Try.underlying29 rfl] at h2
      have q3 : HasC Try.prog n 51 [c3, c4] := by
        have q := hf _ (List.mem_of_getElem? (i := 3) rfl)
        simpa only [cel51, List.drop_succ_cons, List.drop_zero, List.take_succ_cons, List.take_zero] using q
      obtain ⟨a3, h3⟩ := api_ActionCall.reads51 n _ q3
      rw [val_agg Try.underlying51 rfl] at h3
      obtain ⟨d1_3, e3, kd1_3⟩ := h3
      simp only [PV.agg.injEq, List.cons.injEq, and_true] at e3
      obtain ⟨rfl, rfl⟩ := e3
      have q4 : HasC Try.prog n 3 [c5] := by
        have q := hf _ (List.mem_of_getElem? (i := 4) rfl)
        simpa only [cel3, List.drop_succ_cons, List.drop_zero, List.take_succ_cons, List.take_zero] using q
      obtain ⟨a4, h4⟩ := (reads_int Try.underlying3) n _ q4
      rw [val_one Try.underlying3 rfl] at h4
      have h4 : c5 = vi a4 := h4; subst h4
      refine ⟨({ Name := a0, Keys := a1, Actions := a2, Default := a3, Size := a4 } : api_Table), ?_⟩
      rw [val_agg Try.underlying53 rfl]
      exact ⟨_, _, _, rfl, h1, h2, kd1_3⟩
theorem api_SelectCase.reads189 : ∀ n, Reads Try.prog 189 api_SelectCase.t n
  | 0 => fun cs hc => hc.elim
  | n + 1 => fun cs hc => by
    obtain ⟨hl, hf⟩ := reads_struct Try.underlying189 hc
    rw [cel189] at hl
    match cs, hl with
    | [c0, c1, c2], _ =>
      have q0 : HasC Try.prog n 94 [c0] := by
        have q := hf _ (List.mem_of_getElem? (i := 0) rfl)
        simpa only [cel94, List.drop_succ_cons, List.drop_zero, List.take_succ_cons, List.take_zero] using q
      obtain ⟨a0, h0⟩ := (reads_u32 Try.underlying94) n _ q0
      rw [val_one Try.underlying94 rfl] at h0
      have h0 : c0 = vu32 a0 := h0; subst h0
      have q1 : HasC Try.prog n 94 [c1] := by
        have q := hf _ (List.mem_of_getElem? (i := 1) rfl)
        simpa only [cel94, List.drop_succ_cons, List.drop_zero, List.take_succ_cons, List.take_zero] using q
      obtain ⟨a1, h1⟩ := (reads_u32 Try.underlying94) n _ q1
      rw [val_one Try.underlying94 rfl] at h1
      have h1 : c1 = vu32 a1 := h1; subst h1
      have q2 : HasC Try.prog n 3 [c2] := by
        have q := hf _ (List.mem_of_getElem? (i := 2) rfl)
        simpa only [cel3, List.drop_succ_cons, List.drop_zero, List.take_succ_cons, List.take_zero] using q
      obtain ⟨a2, h2⟩ := (reads_int Try.underlying3) n _ q2
      rw [val_one Try.underlying3 rfl] at h2
      have h2 : c2 = vi a2 := h2; subst h2
      refine ⟨({ Value := a0, Mask := a1, Next := a2 } : api_SelectCase), ?_⟩
      rw [val_agg Try.underlying189 rfl]
      rfl
theorem api_ParserState.reads57 : ∀ n, Reads Try.prog 57 api_ParserState.t n
  | 0 => fun cs hc => hc.elim
  | n + 1 => fun cs hc => by
    obtain ⟨hl, hf⟩ := reads_struct Try.underlying57 hc
    rw [cel57] at hl
    match cs, hl with
    | [c0, c1, c2, c3, c4, c5, c6], _ =>
      have q0 : HasC Try.prog n 9 [c0] := by
        have q := hf _ (List.mem_of_getElem? (i := 0) rfl)
        simpa only [cel9, List.drop_succ_cons, List.drop_zero, List.take_succ_cons, List.take_zero] using q
      obtain ⟨a0, h0⟩ := (reads_string Try.underlying9) n _ q0
      rw [val_one Try.underlying9 rfl] at h0
      have h0 : c0 = vs a0 := h0; subst h0
      have q1 : HasC Try.prog n 29 [c1] := by
        have q := hf _ (List.mem_of_getElem? (i := 1) rfl)
        simpa only [cel29, List.drop_succ_cons, List.drop_zero, List.take_succ_cons, List.take_zero] using q
      obtain ⟨a1, h1⟩ := (reads_slices Try.underlying29 (reads_int Try.underlying3)) n _ q1
      rw [val_one Try.underlying29 rfl] at h1
      have q2 : HasC Try.prog n 4 [c2] := by
        have q := hf _ (List.mem_of_getElem? (i := 2) rfl)
        simpa only [cel4, List.drop_succ_cons, List.drop_zero, List.take_succ_cons, List.take_zero] using q
      obtain ⟨a2, h2⟩ := (reads_bool Try.underlying4) n _ q2
      rw [val_one Try.underlying4 rfl] at h2
      have h2 : c2 = vb a2 := h2; subst h2
      have q3 : HasC Try.prog n 39 [c3, c4] := by
        have q := hf _ (List.mem_of_getElem? (i := 3) rfl)
        simpa only [cel39, List.drop_succ_cons, List.drop_zero, List.take_succ_cons, List.take_zero] using q
      obtain ⟨a3, h3⟩ := api_FieldRef.reads39 n _ q3
      rw [val_agg Try.underlying39 rfl] at h3
      have e3 : _ = _ := h3
      simp only [PV.agg.injEq, List.cons.injEq, and_true] at e3
      obtain ⟨rfl, rfl⟩ := e3
      have q4 : HasC Try.prog n 55 [c5] := by
        have q := hf _ (List.mem_of_getElem? (i := 4) rfl)
        simpa only [cel55, List.drop_succ_cons, List.drop_zero, List.take_succ_cons, List.take_zero] using q
      obtain ⟨a4, h4⟩ := (reads_slices Try.underlying55 api_SelectCase.reads189) n _ q4
      rw [val_one Try.underlying55 rfl] at h4
      have q5 : HasC Try.prog n 3 [c6] := by
        have q := hf _ (List.mem_of_getElem? (i := 5) rfl)
        simpa only [cel3, List.drop_succ_cons, List.drop_zero, List.take_succ_cons, List.take_zero] using q
      obtain ⟨a5, h5⟩ := (reads_int Try.underlying3) n _ q5
      rw [val_one Try.underlying3 rfl] at h5
      have h5 : c6 = vi a5 := h5; subst h5
      refine ⟨({ Name := a0, Extract := a1, Select := a2, On := a3, Cases := a4, Default := a5 } : api_ParserState), ?_⟩
      rw [val_agg Try.underlying57 rfl]
      exact ⟨_, _, rfl, h1, h4⟩
theorem api_ControlNode.reads69 : ∀ n, Reads Try.prog 69 api_ControlNode.t n
  | 0 => fun cs hc => hc.elim
  | n + 1 => fun cs hc => by
    obtain ⟨hl, hf⟩ := reads_struct Try.underlying69 hc
    rw [cel69] at hl
    match cs, hl with
    | [c0, c1, c2, c3, c4], _ =>
      have q0 : HasC Try.prog n 3 [c0] := by
        have q := hf _ (List.mem_of_getElem? (i := 0) rfl)
        simpa only [cel3, List.drop_succ_cons, List.drop_zero, List.take_succ_cons, List.take_zero] using q
      obtain ⟨a0, h0⟩ := (reads_int Try.underlying3) n _ q0
      rw [val_one Try.underlying3 rfl] at h0
      have h0 : c0 = vi a0 := h0; subst h0
      have q1 : HasC Try.prog n 3 [c1] := by
        have q := hf _ (List.mem_of_getElem? (i := 1) rfl)
        simpa only [cel3, List.drop_succ_cons, List.drop_zero, List.take_succ_cons, List.take_zero] using q
      obtain ⟨a1, h1⟩ := (reads_int Try.underlying3) n _ q1
      rw [val_one Try.underlying3 rfl] at h1
      have h1 : c1 = vi a1 := h1; subst h1
      have q2 : HasC Try.prog n 61 [c2] := by
        have q := hf _ (List.mem_of_getElem? (i := 2) rfl)
        simpa only [cel61, List.drop_succ_cons, List.drop_zero, List.take_succ_cons, List.take_zero] using q
      obtain ⟨a2, h2⟩ := (reads_slices Try.underlying61 api_ExprNode.reads60) n _ q2
      rw [val_one Try.underlying61 rfl] at h2
      have q3 : HasC Try.prog n 28 [c3] := by
        have q := hf _ (List.mem_of_getElem? (i := 3) rfl)
        simpa only [cel28, List.drop_succ_cons, List.drop_zero, List.take_succ_cons, List.take_zero] using q
      obtain ⟨a3, h3⟩ : ∃ a, (tSl api_ControlNode.t).R a (valC Try.prog 28 [c3]) := by
        cases n with
        | zero => exact q3.elim
        | succ n => exact reads_slice Try.underlying28 (api_ControlNode.reads69 n) _ q3
      rw [val_one Try.underlying28 rfl] at h3
      have q4 : HasC Try.prog n 28 [c4] := by
        have q := hf _ (List.mem_of_getElem? (i := 4) rfl)
        simpa only [cel28, List.drop_succ_cons, List.drop_zero, List.take_succ_cons, List.take_zero] using q
      obtain ⟨a4, h4⟩ : ∃ a, (tSl api_ControlNode.t).R a (valC Try.prog 28 [c4]) := by
        cases n with
        | zero => exact q4.elim
        | succ n => exact reads_slice Try.underlying28 (api_ControlNode.reads69 n) _ q4
      rw [val_one Try.underlying28 rfl] at h4
      refine ⟨({ Kind := a0, Table := a1, Cond := a2, Then := a3, Else := a4 } : api_ControlNode), ?_⟩
      rw [val_agg Try.underlying69 rfl]
      show api_ControlNode.R _ _
      simp only [api_ControlNode.R]
      exact ⟨_, _, _, rfl, h2, ⟨⟨h3.1.choose, h3.1.choose_spec.1, by rw [api_ControlNode.Rl_eq]; exact h3.1.choose_spec.2⟩, h3.2⟩, ⟨⟨h4.1.choose, h4.1.choose_spec.1, by rw [api_ControlNode.Rl_eq]; exact h4.1.choose_spec.2⟩, h4.2⟩⟩
theorem api_Program.reads31 : ∀ n, Reads Try.prog 31 api_Program.t n
  | 0 => fun cs hc => hc.elim
  | n + 1 => fun cs hc => by
    obtain ⟨hl, hf⟩ := reads_struct Try.underlying31 hc
    rw [cel31] at hl
    match cs, hl with
    | [c0, c1, c2, c3, c4, c5, c6, c7, c8], _ =>
      have q0 : HasC Try.prog n 9 [c0] := by
        have q := hf _ (List.mem_of_getElem? (i := 0) rfl)
        simpa only [cel9, List.drop_succ_cons, List.drop_zero, List.take_succ_cons, List.take_zero] using q
      obtain ⟨a0, h0⟩ := (reads_string Try.underlying9) n _ q0
      rw [val_one Try.underlying9 rfl] at h0
      have h0 : c0 = vs a0 := h0; subst h0
      have q1 : HasC Try.prog n 22 [c1] := by
        have q := hf _ (List.mem_of_getElem? (i := 1) rfl)
        simpa only [cel22, List.drop_succ_cons, List.drop_zero, List.take_succ_cons, List.take_zero] using q
      obtain ⟨a1, h1⟩ := (reads_slices Try.underlying22 api_Header.reads36) n _ q1
      rw [val_one Try.underlying22 rfl] at h1
      have q2 : HasC Try.prog n 23 [c2] := by
        have q := hf _ (List.mem_of_getElem? (i := 2) rfl)
        simpa only [cel23, List.drop_succ_cons, List.drop_zero, List.take_succ_cons, List.take_zero] using q
      obtain ⟨a2, h2⟩ := (reads_slices Try.underlying23 api_Field.reads71) n _ q2
      rw [val_one Try.underlying23 rfl] at h2
      have q3 : HasC Try.prog n 24 [c3] := by
        have q := hf _ (List.mem_of_getElem? (i := 3) rfl)
        simpa only [cel24, List.drop_succ_cons, List.drop_zero, List.take_succ_cons, List.take_zero] using q
      obtain ⟨a3, h3⟩ := (reads_slices Try.underlying24 api_Register.reads75) n _ q3
      rw [val_one Try.underlying24 rfl] at h3
      have q4 : HasC Try.prog n 25 [c4] := by
        have q := hf _ (List.mem_of_getElem? (i := 4) rfl)
        simpa only [cel25, List.drop_succ_cons, List.drop_zero, List.take_succ_cons, List.take_zero] using q
      obtain ⟨a4, h4⟩ := (reads_slices Try.underlying25 api_Action.reads47) n _ q4
      rw [val_one Try.underlying25 rfl] at h4
      have q5 : HasC Try.prog n 26 [c5] := by
        have q := hf _ (List.mem_of_getElem? (i := 5) rfl)
        simpa only [cel26, List.drop_succ_cons, List.drop_zero, List.take_succ_cons, List.take_zero] using q
      obtain ⟨a5, h5⟩ := (reads_slices Try.underlying26 api_Table.reads53) n _ q5
      rw [val_one Try.underlying26 rfl] at h5
      have q6 : HasC Try.prog n 27 [c6] := by
        have q := hf _ (List.mem_of_getElem? (i := 6) rfl)
        simpa only [cel27, List.drop_succ_cons, List.drop_zero, List.take_succ_cons, List.take_zero] using q
      obtain ⟨a6, h6⟩ := (reads_slices Try.underlying27 api_ParserState.reads57) n _ q6
      rw [val_one Try.underlying27 rfl] at h6
      have q7 : HasC Try.prog n 28 [c7] := by
        have q := hf _ (List.mem_of_getElem? (i := 7) rfl)
        simpa only [cel28, List.drop_succ_cons, List.drop_zero, List.take_succ_cons, List.take_zero] using q
      obtain ⟨a7, h7⟩ := (reads_slices Try.underlying28 api_ControlNode.reads69) n _ q7
      rw [val_one Try.underlying28 rfl] at h7
      have q8 : HasC Try.prog n 29 [c8] := by
        have q := hf _ (List.mem_of_getElem? (i := 8) rfl)
        simpa only [cel29, List.drop_succ_cons, List.drop_zero, List.take_succ_cons, List.take_zero] using q
      obtain ⟨a8, h8⟩ := (reads_slices Try.underlying29 (reads_int Try.underlying3)) n _ q8
      rw [val_one Try.underlying29 rfl] at h8
      refine ⟨({ Name := a0, Headers := a1, Metadata := a2, Registers := a3, Actions := a4, Tables := a5, States := a6, Control := a7, Deparser := a8 } : api_Program), ?_⟩
      rw [val_agg Try.underlying31 rfl]
      exact ⟨_, _, _, _, _, _, _, _, rfl, h1, h2, h3, h4, h5, h6, h7, h8⟩
theorem arg31 {c : PV} (h : IsArg Try.prog 31 c) : ∃ a, api_Program.t.R a c := isArg_reads api_Program.reads31 h
end Go.Proofs.Ytepkgeppmjmkjaa
