/-
  What the claims read of their arguments.
-/
import Derived.Test.YtklfdkbemkommaaPbA
import Derived.Test.YtklfdkbemkommaaKTy
set_option linter.unusedVariables false
set_option linter.unusedSimpArgs false
set_option maxRecDepth 100000
namespace Go.Proofs.Ytklfdkbemkommaa
open Go Go.Pb Go.RowKit
theorem cel3 : Try.prog.cellsOf 3 = 1 := by kernel_rfl
theorem cel4 : Try.prog.cellsOf 4 = 1 := by kernel_rfl
theorem cel9 : Try.prog.cellsOf 9 = 1 := by kernel_rfl
theorem cel22 : Try.prog.cellsOf 22 = 1 := by kernel_rfl
theorem cel23 : Try.prog.cellsOf 23 = 1 := by kernel_rfl
theorem cel24 : Try.prog.cellsOf 24 = 1 := by kernel_rfl
theorem cel25 : Try.prog.cellsOf 25 = 1 := by kernel_rfl
theorem cel26 : Try.prog.cellsOf 26 = 1 := by kernel_rfl
theorem cel27 : Try.prog.cellsOf 27 = 1 := by kernel_rfl
theorem cel28 : Try.prog.cellsOf 28 = 1 := by kernel_rfl
theorem cel29 : Try.prog.cellsOf 29 = 1 := by kernel_rfl
theorem cel31 : Try.prog.cellsOf 31 = 9 := by kernel_rfl
theorem cel42 : Try.prog.cellsOf 42 = 1 := by kernel_rfl
theorem cel43 : Try.prog.cellsOf 43 = 1 := by kernel_rfl
theorem cel44 : Try.prog.cellsOf 44 = 1 := by kernel_rfl
theorem cel45 : Try.prog.cellsOf 45 = 1 := by kernel_rfl
theorem cel47 : Try.prog.cellsOf 47 = 4 := by kernel_rfl
theorem cel52 : Try.prog.cellsOf 52 = 1 := by kernel_rfl
theorem cel54 : Try.prog.cellsOf 54 = 2 := by kernel_rfl
theorem cel56 : Try.prog.cellsOf 56 = 6 := by kernel_rfl
theorem cel57 : Try.prog.cellsOf 57 = 1 := by kernel_rfl
theorem cel60 : Try.prog.cellsOf 60 = 2 := by kernel_rfl
theorem cel62 : Try.prog.cellsOf 62 = 3 := by kernel_rfl
theorem cel65 : Try.prog.cellsOf 65 = 2 := by kernel_rfl
theorem cel89 : Try.prog.cellsOf 89 = 2 := by kernel_rfl
theorem cel91 : Try.prog.cellsOf 91 = 3 := by kernel_rfl
theorem cel93 : Try.prog.cellsOf 93 = 1 := by kernel_rfl
theorem cel95 : Try.prog.cellsOf 95 = 3 := by kernel_rfl
theorem cel96 : Try.prog.cellsOf 96 = 1 := by kernel_rfl
theorem cel98 : Try.prog.cellsOf 98 = 7 := by kernel_rfl
theorem cel113 : Try.prog.cellsOf 113 = 1 := by kernel_rfl
theorem cel115 : Try.prog.cellsOf 115 = 7 := by kernel_rfl
theorem cel151 : Try.prog.cellsOf 151 = 5 := by kernel_rfl
theorem cel153 : Try.prog.cellsOf 153 = 3 := by kernel_rfl
theorem cel155 : Try.prog.cellsOf 155 = 3 := by kernel_rfl
theorem arg3 {c : PV} (h : IsArg Try.prog 3 c) : ∃ a, tI.R a c := isArg_reads (reads_int Try.underlying3) h
theorem api_Field.reads65 : ∀ n, Reads Try.prog 65 api_Field.t n
  | 0 => fun cs hc => hc.elim
  | n + 1 => fun cs hc => by
    obtain ⟨hl, hf⟩ := reads_struct Try.underlying65 hc
    rw [cel65] at hl
    match cs, hl with
    | [c0, c1], _ =>
      have q0 : HasC Try.prog n 9 [c0] := by
        have q := hf _ (List.mem_of_getElem? (i := 0) rfl)
        simpa only [cel9, List.drop_succ_cons, List.drop_zero, List.take_succ_cons, List.take_zero] using q
      obtain ⟨a0, h0⟩ := (reads_string Try.underlying9) n _ q0
      rw [val_one Try.underlying9 rfl] at h0
      have h0 : c0 = vs a0 := h0; subst h0
      have q1 : HasC Try.prog n 3 [c1] := by
        have q := hf _ (List.mem_of_getElem? (i := 1) rfl)
        simpa only [cel3, List.drop_succ_cons, List.drop_zero, List.take_succ_cons, List.take_zero] using q
      obtain ⟨a1, h1⟩ := (reads_int Try.underlying3) n _ q1
      rw [val_one Try.underlying3 rfl] at h1
      have h1 : c1 = vi a1 := h1; subst h1
      refine ⟨({ Name := a0, Width := a1 } : api_Field), ?_⟩
      rw [val_agg Try.underlying65 rfl]
      rfl
theorem api_Header.reads89 : ∀ n, Reads Try.prog 89 api_Header.t n
  | 0 => fun cs hc => hc.elim
  | n + 1 => fun cs hc => by
    obtain ⟨hl, hf⟩ := reads_struct Try.underlying89 hc
    rw [cel89] at hl
    match cs, hl with
    | [c0, c1], _ =>
      have q0 : HasC Try.prog n 9 [c0] := by
        have q := hf _ (List.mem_of_getElem? (i := 0) rfl)
        simpa only [cel9, List.drop_succ_cons, List.drop_zero, List.take_succ_cons, List.take_zero] using q
      obtain ⟨a0, h0⟩ := (reads_string Try.underlying9) n _ q0
      rw [val_one Try.underlying9 rfl] at h0
      have h0 : c0 = vs a0 := h0; subst h0
      have q1 : HasC Try.prog n 23 [c1] := by
        have q := hf _ (List.mem_of_getElem? (i := 1) rfl)
        simpa only [cel23, List.drop_succ_cons, List.drop_zero, List.take_succ_cons, List.take_zero] using q
      obtain ⟨a1, h1⟩ := (reads_slices Try.underlying23 api_Field.reads65) n _ q1
      rw [val_one Try.underlying23 rfl] at h1
      refine ⟨({ Name := a0, Fields := a1 } : api_Header), ?_⟩
      rw [val_agg Try.underlying89 rfl]
      exact ⟨_, rfl, h1⟩
theorem api_Register.reads91 : ∀ n, Reads Try.prog 91 api_Register.t n
  | 0 => fun cs hc => hc.elim
  | n + 1 => fun cs hc => by
    obtain ⟨hl, hf⟩ := reads_struct Try.underlying91 hc
    rw [cel91] at hl
    match cs, hl with
    | [c0, c1, c2], _ =>
      have q0 : HasC Try.prog n 9 [c0] := by
        have q := hf _ (List.mem_of_getElem? (i := 0) rfl)
        simpa only [cel9, List.drop_succ_cons, List.drop_zero, List.take_succ_cons, List.take_zero] using q
      obtain ⟨a0, h0⟩ := (reads_string Try.underlying9) n _ q0
      rw [val_one Try.underlying9 rfl] at h0
      have h0 : c0 = vs a0 := h0; subst h0
      have q1 : HasC Try.prog n 3 [c1] := by
        have q := hf _ (List.mem_of_getElem? (i := 1) rfl)
        simpa only [cel3, List.drop_succ_cons, List.drop_zero, List.take_succ_cons, List.take_zero] using q
      obtain ⟨a1, h1⟩ := (reads_int Try.underlying3) n _ q1
      rw [val_one Try.underlying3 rfl] at h1
      have h1 : c1 = vi a1 := h1; subst h1
      have q2 : HasC Try.prog n 3 [c2] := by
        have q := hf _ (List.mem_of_getElem? (i := 2) rfl)
        simpa only [cel3, List.drop_succ_cons, List.drop_zero, List.take_succ_cons, List.take_zero] using q
      obtain ⟨a2, h2⟩ := (reads_int Try.underlying3) n _ q2
      rw [val_one Try.underlying3 rfl] at h2
      have h2 : c2 = vi a2 := h2; subst h2
      refine ⟨({ Name := a0, Width := a1, Size := a2 } : api_Register), ?_⟩
      rw [val_agg Try.underlying91 rfl]
      rfl
theorem api_FieldRef.reads60 : ∀ n, Reads Try.prog 60 api_FieldRef.t n
  | 0 => fun cs hc => hc.elim
  | n + 1 => fun cs hc => by
    obtain ⟨hl, hf⟩ := reads_struct Try.underlying60 hc
    rw [cel60] at hl
    match cs, hl with
    | [c0, c1], _ =>
      have q0 : HasC Try.prog n 3 [c0] := by
        have q := hf _ (List.mem_of_getElem? (i := 0) rfl)
        simpa only [cel3, List.drop_succ_cons, List.drop_zero, List.take_succ_cons, List.take_zero] using q
      obtain ⟨a0, h0⟩ := (reads_int Try.underlying3) n _ q0
      rw [val_one Try.underlying3 rfl] at h0
      have h0 : c0 = vi a0 := h0; subst h0
      have q1 : HasC Try.prog n 3 [c1] := by
        have q := hf _ (List.mem_of_getElem? (i := 1) rfl)
        simpa only [cel3, List.drop_succ_cons, List.drop_zero, List.take_succ_cons, List.take_zero] using q
      obtain ⟨a1, h1⟩ := (reads_int Try.underlying3) n _ q1
      rw [val_one Try.underlying3 rfl] at h1
      have h1 : c1 = vi a1 := h1; subst h1
      refine ⟨({ Header := a0, Field := a1 } : api_FieldRef), ?_⟩
      rw [val_agg Try.underlying60 rfl]
      rfl
theorem api_ExprNode.reads155 : ∀ n, Reads Try.prog 155 api_ExprNode.t n
  | 0 => fun cs hc => hc.elim
  | n + 1 => fun cs hc => by
    obtain ⟨hl, hf⟩ := reads_struct Try.underlying155 hc
    rw [cel155] at hl
    match cs, hl with
    | [c0, c1, c2], _ =>
      have q0 : HasC Try.prog n 3 [c0] := by
        have q := hf _ (List.mem_of_getElem? (i := 0) rfl)
        simpa only [cel3, List.drop_succ_cons, List.drop_zero, List.take_succ_cons, List.take_zero] using q
      obtain ⟨a0, h0⟩ := (reads_int Try.underlying3) n _ q0
      rw [val_one Try.underlying3 rfl] at h0
      have h0 : c0 = vi a0 := h0; subst h0
      have q1 : HasC Try.prog n 3 [c1] := by
        have q := hf _ (List.mem_of_getElem? (i := 1) rfl)
        simpa only [cel3, List.drop_succ_cons, List.drop_zero, List.take_succ_cons, List.take_zero] using q
      obtain ⟨a1, h1⟩ := (reads_int Try.underlying3) n _ q1
      rw [val_one Try.underlying3 rfl] at h1
      have h1 : c1 = vi a1 := h1; subst h1
      have q2 : HasC Try.prog n 3 [c2] := by
        have q := hf _ (List.mem_of_getElem? (i := 2) rfl)
        simpa only [cel3, List.drop_succ_cons, List.drop_zero, List.take_succ_cons, List.take_zero] using q
      obtain ⟨a2, h2⟩ := (reads_int Try.underlying3) n _ q2
      rw [val_one Try.underlying3 rfl] at h2
      have h2 : c2 = vi a2 := h2; subst h2
      refine ⟨({ Op := a0, N := a1, W := a2 } : api_ExprNode), ?_⟩
      rw [val_agg Try.underlying155 rfl]
      rfl
theorem api_Statement.reads115 : ∀ n, Reads Try.prog 115 api_Statement.t n
  | 0 => fun cs hc => hc.elim
  | n + 1 => fun cs hc => by
    obtain ⟨hl, hf⟩ := reads_struct Try.underlying115 hc
    rw [cel115] at hl
    match cs, hl with
    | [c0, c1, c2, c3, c4, c5, c6], _ =>
      have q0 : HasC Try.prog n 3 [c0] := by
        have q := hf _ (List.mem_of_getElem? (i := 0) rfl)
        simpa only [cel3, List.drop_succ_cons, List.drop_zero, List.take_succ_cons, List.take_zero] using q
      obtain ⟨a0, h0⟩ := (reads_int Try.underlying3) n _ q0
      rw [val_one Try.underlying3 rfl] at h0
      have h0 : c0 = vi a0 := h0; subst h0
      have q1 : HasC Try.prog n 60 [c1, c2] := by
        have q := hf _ (List.mem_of_getElem? (i := 1) rfl)
        simpa only [cel60, List.drop_succ_cons, List.drop_zero, List.take_succ_cons, List.take_zero] using q
      obtain ⟨a1, h1⟩ := api_FieldRef.reads60 n _ q1
      rw [val_agg Try.underlying60 rfl] at h1
      have e1 : _ = _ := h1
      simp only [PV.agg.injEq, List.cons.injEq, and_true] at e1
      obtain ⟨rfl, rfl⟩ := e1
      have q2 : HasC Try.prog n 3 [c3] := by
        have q := hf _ (List.mem_of_getElem? (i := 2) rfl)
        simpa only [cel3, List.drop_succ_cons, List.drop_zero, List.take_succ_cons, List.take_zero] using q
      obtain ⟨a2, h2⟩ := (reads_int Try.underlying3) n _ q2
      rw [val_one Try.underlying3 rfl] at h2
      have h2 : c3 = vi a2 := h2; subst h2
      have q3 : HasC Try.prog n 3 [c4] := by
        have q := hf _ (List.mem_of_getElem? (i := 3) rfl)
        simpa only [cel3, List.drop_succ_cons, List.drop_zero, List.take_succ_cons, List.take_zero] using q
      obtain ⟨a3, h3⟩ := (reads_int Try.underlying3) n _ q3
      rw [val_one Try.underlying3 rfl] at h3
      have h3 : c4 = vi a3 := h3; subst h3
      have q4 : HasC Try.prog n 113 [c5] := by
        have q := hf _ (List.mem_of_getElem? (i := 4) rfl)
        simpa only [cel113, List.drop_succ_cons, List.drop_zero, List.take_succ_cons, List.take_zero] using q
      obtain ⟨a4, h4⟩ := (reads_slices Try.underlying113 api_ExprNode.reads155) n _ q4
      rw [val_one Try.underlying113 rfl] at h4
      have q5 : HasC Try.prog n 113 [c6] := by
        have q := hf _ (List.mem_of_getElem? (i := 5) rfl)
        simpa only [cel113, List.drop_succ_cons, List.drop_zero, List.take_succ_cons, List.take_zero] using q
      obtain ⟨a5, h5⟩ := (reads_slices Try.underlying113 api_ExprNode.reads155) n _ q5
      rw [val_one Try.underlying113 rfl] at h5
      refine ⟨({ Kind := a0, Dst := a1, Register := a2, Header := a3, Index := a4, Value := a5 } : api_Statement), ?_⟩
      rw [val_agg Try.underlying115 rfl]
      exact ⟨_, _, rfl, h4, h5⟩
theorem api_Action.reads95 : ∀ n, Reads Try.prog 95 api_Action.t n
  | 0 => fun cs hc => hc.elim
  | n + 1 => fun cs hc => by
    obtain ⟨hl, hf⟩ := reads_struct Try.underlying95 hc
    rw [cel95] at hl
    match cs, hl with
    | [c0, c1, c2], _ =>
      have q0 : HasC Try.prog n 9 [c0] := by
        have q := hf _ (List.mem_of_getElem? (i := 0) rfl)
        simpa only [cel9, List.drop_succ_cons, List.drop_zero, List.take_succ_cons, List.take_zero] using q
      obtain ⟨a0, h0⟩ := (reads_string Try.underlying9) n _ q0
      rw [val_one Try.underlying9 rfl] at h0
      have h0 : c0 = vs a0 := h0; subst h0
      have q1 : HasC Try.prog n 23 [c1] := by
        have q := hf _ (List.mem_of_getElem? (i := 1) rfl)
        simpa only [cel23, List.drop_succ_cons, List.drop_zero, List.take_succ_cons, List.take_zero] using q
      obtain ⟨a1, h1⟩ := (reads_slices Try.underlying23 api_Field.reads65) n _ q1
      rw [val_one Try.underlying23 rfl] at h1
      have q2 : HasC Try.prog n 93 [c2] := by
        have q := hf _ (List.mem_of_getElem? (i := 2) rfl)
        simpa only [cel93, List.drop_succ_cons, List.drop_zero, List.take_succ_cons, List.take_zero] using q
      obtain ⟨a2, h2⟩ := (reads_slices Try.underlying93 api_Statement.reads115) n _ q2
      rw [val_one Try.underlying93 rfl] at h2
      refine ⟨({ Name := a0, Params := a1, Body := a2 } : api_Action), ?_⟩
      rw [val_agg Try.underlying95 rfl]
      exact ⟨_, _, rfl, h1, h2⟩
theorem api_TableKey.reads62 : ∀ n, Reads Try.prog 62 api_TableKey.t n
  | 0 => fun cs hc => hc.elim
  | n + 1 => fun cs hc => by
    obtain ⟨hl, hf⟩ := reads_struct Try.underlying62 hc
    rw [cel62] at hl
    match cs, hl with
    | [c0, c1, c2], _ =>
      have q0 : HasC Try.prog n 60 [c0, c1] := by
        have q := hf _ (List.mem_of_getElem? (i := 0) rfl)
        simpa only [cel60, List.drop_succ_cons, List.drop_zero, List.take_succ_cons, List.take_zero] using q
      obtain ⟨a0, h0⟩ := api_FieldRef.reads60 n _ q0
      rw [val_agg Try.underlying60 rfl] at h0
      have e0 : _ = _ := h0
      simp only [PV.agg.injEq, List.cons.injEq, and_true] at e0
      obtain ⟨rfl, rfl⟩ := e0
      have q1 : HasC Try.prog n 3 [c2] := by
        have q := hf _ (List.mem_of_getElem? (i := 1) rfl)
        simpa only [cel3, List.drop_succ_cons, List.drop_zero, List.take_succ_cons, List.take_zero] using q
      obtain ⟨a1, h1⟩ := (reads_int Try.underlying3) n _ q1
      rw [val_one Try.underlying3 rfl] at h1
      have h1 : c2 = vi a1 := h1; subst h1
      refine ⟨({ Field := a0, Kind := a1 } : api_TableKey), ?_⟩
      rw [val_agg Try.underlying62 rfl]
      rfl
theorem api_ActionCall.reads54 : ∀ n, Reads Try.prog 54 api_ActionCall.t n
  | 0 => fun cs hc => hc.elim
  | n + 1 => fun cs hc => by
    obtain ⟨hl, hf⟩ := reads_struct Try.underlying54 hc
    rw [cel54] at hl
    match cs, hl with
    | [c0, c1], _ =>
      have q0 : HasC Try.prog n 3 [c0] := by
        have q := hf _ (List.mem_of_getElem? (i := 0) rfl)
        simpa only [cel3, List.drop_succ_cons, List.drop_zero, List.take_succ_cons, List.take_zero] using q
      obtain ⟨a0, h0⟩ := (reads_int Try.underlying3) n _ q0
      rw [val_one Try.underlying3 rfl] at h0
      have h0 : c0 = vi a0 := h0; subst h0
      have q1 : HasC Try.prog n 44 [c1] := by
        have q := hf _ (List.mem_of_getElem? (i := 1) rfl)
        simpa only [cel44, List.drop_succ_cons, List.drop_zero, List.take_succ_cons, List.take_zero] using q
      obtain ⟨a1, h1⟩ := (reads_slices Try.underlying44 (reads_u32 Try.underlying57)) n _ q1
      rw [val_one Try.underlying44 rfl] at h1
      refine ⟨({ Action := a0, Args := a1 } : api_ActionCall), ?_⟩
      rw [val_agg Try.underlying54 rfl]
      exact ⟨_, rfl, h1⟩
theorem api_Table.reads56 : ∀ n, Reads Try.prog 56 api_Table.t n
  | 0 => fun cs hc => hc.elim
  | n + 1 => fun cs hc => by
    obtain ⟨hl, hf⟩ := reads_struct Try.underlying56 hc
    rw [cel56] at hl
    match cs, hl with
    | [c0, c1, c2, c3, c4, c5], _ =>
      have q0 : HasC Try.prog n 9 [c0] := by
        have q := hf _ (List.mem_of_getElem? (i := 0) rfl)
        simpa only [cel9, List.drop_succ_cons, List.drop_zero, List.take_succ_cons, List.take_zero] using q
      obtain ⟨a0, h0⟩ := (reads_string Try.underlying9) n _ q0
      rw [val_one Try.underlying9 rfl] at h0
      have h0 : c0 = vs a0 := h0; subst h0
      have q1 : HasC Try.prog n 52 [c1] := by
        have q := hf _ (List.mem_of_getElem? (i := 1) rfl)
        simpa only [cel52, List.drop_succ_cons, List.drop_zero, List.take_succ_cons, List.take_zero] using q
      obtain ⟨a1, h1⟩ := (reads_slices Try.underlying52 api_TableKey.reads62) n _ q1
      rw [val_one Try.underlying52 rfl] at h1
      have q2 : HasC Try.prog n 29 [c2] := by
        have q := hf _ (List.mem_of_getElem? (i := 2) rfl)
        simpa only [cel29, List.drop_succ_cons, List.drop_zero, List.take_succ_cons, List.take_zero] using q
      obtain ⟨a2, h2⟩ := (reads_slices Try.underlying29 (reads_int Try.underlying3)) n _ q2
      rw [val_one Try.underlying29 rfl] at h2
      have q3 : HasC Try.prog n 54 [c3, c4] := by
        have q := hf _ (List.mem_of_getElem? (i := 3) rfl)
        simpa only [cel54, List.drop_succ_cons, List.drop_zero, List.take_succ_cons, List.take_zero] using q
      obtain ⟨a3, h3⟩ := api_ActionCall.reads54 n _ q3
      rw [val_agg Try.underlying54 rfl] at h3
      obtain ⟨d1_3, e3, kd1_3⟩ := h3
      simp only [PV.agg.injEq, List.cons.injEq, and_true] at e3
      obtain ⟨rfl, rfl⟩ := e3
      have q4 : HasC Try.prog n 3 [c5] := by
        have q := hf _ (List.mem_of_getElem? (i := 4) rfl)
        simpa only [cel3, List.drop_succ_cons, List.drop_zero, List.take_succ_cons, List.take_zero] using q
      obtain ⟨a4, h4⟩ := (reads_int Try.underlying3) n _ q4
      rw [val_one Try.underlying3 rfl] at h4
      have h4 : c5 = vi a4 := h4; subst h4
      refine ⟨({ Name := a0, Keys := a1, Actions := a2, Default := a3, Size := a4 } : api_Table), ?_⟩
      rw [val_agg Try.underlying56 rfl]
      exact ⟨_, _, _, rfl, h1, h2, kd1_3⟩
theorem api_SelectCase.reads153 : ∀ n, Reads Try.prog 153 api_SelectCase.t n
  | 0 => fun cs hc => hc.elim
  | n + 1 => fun cs hc => by
    obtain ⟨hl, hf⟩ := reads_struct Try.underlying153 hc
    rw [cel153] at hl
    match cs, hl with
    | [c0, c1, c2], _ =>
      have q0 : HasC Try.prog n 57 [c0] := by
        have q := hf _ (List.mem_of_getElem? (i := 0) rfl)
        simpa only [cel57, List.drop_succ_cons, List.drop_zero, List.take_succ_cons, List.take_zero] using q
      obtain ⟨a0, h0⟩ := (reads_u32 Try.underlying57) n _ q0
      rw [val_one Try.underlying57 rfl] at h0
      have h0 : c0 = vu32 a0 := h0; subst h0
      have q1 : HasC Try.prog n 57 [c1] := by
        have q := hf _ (List.mem_of_getElem? (i := 1) rfl)
        simpa only [cel57, List.drop_succ_cons, List.drop_zero, List.take_succ_cons, List.take_zero] using q
      obtain ⟨a1, h1⟩ := (reads_u32 Try.underlying57) n _ q1
      rw [val_one Try.underlying57 rfl] at h1
      have h1 : c1 = vu32 a1 := h1; subst h1
      have q2 : HasC Try.prog n 3 [c2] := by
        have q := hf _ (List.mem_of_getElem? (i := 2) rfl)
        simpa only [cel3, List.drop_succ_cons, List.drop_zero, List.take_succ_cons, List.take_zero] using q
      obtain ⟨a2, h2⟩ := (reads_int Try.underlying3) n _ q2
      rw [val_one Try.underlying3 rfl] at h2
      have h2 : c2 = vi a2 := h2; subst h2
      refine ⟨({ Value := a0, Mask := a1, Next := a2 } : api_SelectCase), ?_⟩
      rw [val_agg Try.underlying153 rfl]
      rfl
theorem api_ParserState.reads98 : ∀ n, Reads Try.prog 98 api_ParserState.t n
  | 0 => fun cs hc => hc.elim
  | n + 1 => fun cs hc => by
    obtain ⟨hl, hf⟩ := reads_struct Try.underlying98 hc
    rw [cel98] at hl
    match cs, hl with
    | [c0, c1, c2, c3, c4, c5, c6], _ =>
      have q0 : HasC Try.prog n 9 [c0] := by
        have q := hf _ (List.mem_of_getElem? (i := 0) rfl)
        simpa only [cel9, List.drop_succ_cons, List.drop_zero, List.take_succ_cons, List.take_zero] using q
      obtain ⟨a0, h0⟩ := (reads_string Try.underlying9) n _ q0
      rw [val_one Try.underlying9 rfl] at h0
      have h0 : c0 = vs a0 := h0; subst h0
      have q1 : HasC Try.prog n 29 [c1] := by
        have q := hf _ (List.mem_of_getElem? (i := 1) rfl)
        simpa only [cel29, List.drop_succ_cons, List.drop_zero, List.take_succ_cons, List.take_zero] using q
      obtain ⟨a1, h1⟩ := (reads_slices Try.underlying29 (reads_int Try.underlying3)) n _ q1
      rw [val_one Try.underlying29 rfl] at h1
      have q2 : HasC Try.prog n 4 [c2] := by
        have q := hf _ (List.mem_of_getElem? (i := 2) rfl)
        simpa only [cel4, List.drop_succ_cons, List.drop_zero, List.take_succ_cons, List.take_zero] using q
      obtain ⟨a2, h2⟩ := (reads_bool Try.underlying4) n _ q2
      rw [val_one Try.underlying4 rfl] at h2
      have h2 : c2 = vb a2 := h2; subst h2
      have q3 : HasC Try.prog n 60 [c3, c4] := by
        have q := hf _ (List.mem_of_getElem? (i := 3) rfl)
        simpa only [cel60, List.drop_succ_cons, List.drop_zero, List.take_succ_cons, List.take_zero] using q
      obtain ⟨a3, h3⟩ := api_FieldRef.reads60 n _ q3
      rw [val_agg Try.underlying60 rfl] at h3
      have e3 : _ = _ := h3
      simp only [PV.agg.injEq, List.cons.injEq, and_true] at e3
      obtain ⟨rfl, rfl⟩ := e3
      have q4 : HasC Try.prog n 96 [c5] := by
        have q := hf _ (List.mem_of_getElem? (i := 4) rfl)
        simpa only [cel96, List.drop_succ_cons, List.drop_zero, List.take_succ_cons, List.take_zero] using q
      obtain ⟨a4, h4⟩ := (reads_slices Try.underlying96 api_SelectCase.reads153) n _ q4
      rw [val_one Try.underlying96 rfl] at h4
      have q5 : HasC Try.prog n 3 [c6] := by
        have q := hf _ (List.mem_of_getElem? (i := 5) rfl)
        simpa only [cel3, List.drop_succ_cons, List.drop_zero, List.take_succ_cons, List.take_zero] using q
      obtain ⟨a5, h5⟩ := (reads_int Try.underlying3) n _ q5
      rw [val_one Try.underlying3 rfl] at h5
      have h5 : c6 = vi a5 := h5; subst h5
      refine ⟨({ Name := a0, Extract := a1, Select := a2, On := a3, Cases := a4, Default := a5 } : api_ParserState), ?_⟩
      rw [val_agg Try.underlying98 rfl]
      exact ⟨_, _, rfl, h1, h4⟩
theorem api_ControlNode.reads151 : ∀ n, Reads Try.prog 151 api_ControlNode.t n
  | 0 => fun cs hc => hc.elim
  | n + 1 => fun cs hc => by
    obtain ⟨hl, hf⟩ := reads_struct Try.underlying151 hc
    rw [cel151] at hl
    match cs, hl with
    | [c0, c1, c2, c3, c4], _ =>
      have q0 : HasC Try.prog n 3 [c0] := by
        have q := hf _ (List.mem_of_getElem? (i := 0) rfl)
        simpa only [cel3, List.drop_succ_cons, List.drop_zero, List.take_succ_cons, List.take_zero] using q
      obtain ⟨a0, h0⟩ := (reads_int Try.underlying3) n _ q0
      rw [val_one Try.underlying3 rfl] at h0
      have h0 : c0 = vi a0 := h0; subst h0
      have q1 : HasC Try.prog n 3 [c1] := by
        have q := hf _ (List.mem_of_getElem? (i := 1) rfl)
        simpa only [cel3, List.drop_succ_cons, List.drop_zero, List.take_succ_cons, List.take_zero] using q
      obtain ⟨a1, h1⟩ := (reads_int Try.underlying3) n _ q1
      rw [val_one Try.underlying3 rfl] at h1
      have h1 : c1 = vi a1 := h1; subst h1
      have q2 : HasC Try.prog n 113 [c2] := by
        have q := hf _ (List.mem_of_getElem? (i := 2) rfl)
        simpa only [cel113, List.drop_succ_cons, List.drop_zero, List.take_succ_cons, List.take_zero] using q
      obtain ⟨a2, h2⟩ := (reads_slices Try.underlying113 api_ExprNode.reads155) n _ q2
      rw [val_one Try.underlying113 rfl] at h2
      have q3 : HasC Try.prog n 28 [c3] := by
        have q := hf _ (List.mem_of_getElem? (i := 3) rfl)
        simpa only [cel28, List.drop_succ_cons, List.drop_zero, List.take_succ_cons, List.take_zero] using q
      obtain ⟨a3, h3⟩ : ∃ a, (tSl api_ControlNode.t).R a (valC Try.prog 28 [c3]) := by
        cases n with
        | zero => exact q3.elim
        | succ n => exact reads_slice Try.underlying28 (api_ControlNode.reads151 n) _ q3
      rw [val_one Try.underlying28 rfl] at h3
      have q4 : HasC Try.prog n 28 [c4] := by
        have q := hf _ (List.mem_of_getElem? (i := 4) rfl)
        simpa only [cel28, List.drop_succ_cons, List.drop_zero, List.take_succ_cons, List.take_zero] using q
      obtain ⟨a4, h4⟩ : ∃ a, (tSl api_ControlNode.t).R a (valC Try.prog 28 [c4]) := by
        cases n with
        | zero => exact q4.elim
        | succ n => exact reads_slice Try.underlying28 (api_ControlNode.reads151 n) _ q4
      rw [val_one Try.underlying28 rfl] at h4
      refine ⟨({ Kind := a0, Table := a1, Cond := a2, Then := a3, Else := a4 } : api_ControlNode), ?_⟩
      rw [val_agg Try.underlying151 rfl]
      show api_ControlNode.R _ _
      simp only [api_ControlNode.R]
      exact ⟨_, _, _, rfl, h2, ⟨⟨h3.1.choose, h3.1.choose_spec.1, by rw [api_ControlNode.Rl_eq]; exact h3.1.choose_spec.2⟩, h3.2⟩, ⟨⟨h4.1.choose, h4.1.choose_spec.1, by rw [api_ControlNode.Rl_eq]; exact h4.1.choose_spec.2⟩, h4.2⟩⟩
theorem api_Program.reads31 : ∀ n, Reads Try.prog 31 api_Program.t n
  | 0 => fun cs hc => hc.elim
  | n + 1 => fun cs hc => by
    obtain ⟨hl, hf⟩ := reads_struct Try.underlying31 hc
    rw [cel31] at hl
    match cs, hl with
    | [c0, c1, c2, c3, c4, c5, c6, c7, c8], _ =>
      have q0 : HasC Try.prog n 9 [c0] := by
        have q := hf _ (List.mem_of_getElem? (i := 0) rfl)
        simpa only [cel9, List.drop_succ_cons, List.drop_zero, List.take_succ_cons, List.take_zero] using q
      obtain ⟨a0, h0⟩ := (reads_string Try.underlying9) n _ q0
      rw [val_one Try.underlying9 rfl] at h0
      have h0 : c0 = vs a0 := h0; subst h0
      have q1 : HasC Try.prog n 22 [c1] := by
        have q := hf _ (List.mem_of_getElem? (i := 1) rfl)
        simpa only [cel22, List.drop_succ_cons, List.drop_zero, List.take_succ_cons, List.take_zero] using q
      obtain ⟨a1, h1⟩ := (reads_slices Try.underlying22 api_Header.reads89) n _ q1
      rw [val_one Try.underlying22 rfl] at h1
      have q2 : HasC Try.prog n 23 [c2] := by
        have q := hf _ (List.mem_of_getElem? (i := 2) rfl)
        simpa only [cel23, List.drop_succ_cons, List.drop_zero, List.take_succ_cons, List.take_zero] using q
      obtain ⟨a2, h2⟩ := (reads_slices Try.underlying23 api_Field.reads65) n _ q2
      rw [val_one Try.underlying23 rfl] at h2
      have q3 : HasC Try.prog n 24 [c3] := by
        have q := hf _ (List.mem_of_getElem? (i := 3) rfl)
        simpa only [cel24, List.drop_succ_cons, List.drop_zero, List.take_succ_cons, List.take_zero] using q
      obtain ⟨a3, h3⟩ := (reads_slices Try.underlying24 api_Register.reads91) n _ q3
      rw [val_one Try.underlying24 rfl] at h3
      have q4 : HasC Try.prog n 25 [c4] := by
        have q := hf _ (List.mem_of_getElem? (i := 4) rfl)
        simpa only [cel25, List.drop_succ_cons, List.drop_zero, List.take_succ_cons, List.take_zero] using q
      obtain ⟨a4, h4⟩ := (reads_slices Try.underlying25 api_Action.reads95) n _ q4
      rw [val_one Try.underlying25 rfl] at h4
      have q5 : HasC Try.prog n 26 [c5] := by
        have q := hf _ (List.mem_of_getElem? (i := 5) rfl)
        simpa only [cel26, List.drop_succ_cons, List.drop_zero, List.take_succ_cons, List.take_zero] using q
      obtain ⟨a5, h5⟩ := (reads_slices Try.underlying26 api_Table.reads56) n _ q5
      rw [val_one Try.underlying26 rfl] at h5
      have q6 : HasC Try.prog n 27 [c6] := by
        have q := hf _ (List.mem_of_getElem? (i := 6) rfl)
        simpa only [cel27, List.drop_succ_cons, List.drop_zero, List.take_succ_cons, List.take_zero] using q
      obtain ⟨a6, h6⟩ := (reads_slices Try.underlying27 api_ParserState.reads98) n _ q6
      rw [val_one Try.underlying27 rfl] at h6
      have q7 : HasC Try.prog n 28 [c7] := by
        have q := hf _ (List.mem_of_getElem? (i := 7) rfl)
        simpa only [cel28, List.drop_succ_cons, List.drop_zero, List.take_succ_cons, List.take_zero] using q
      obtain ⟨a7, h7⟩ := (reads_slices Try.underlying28 api_ControlNode.reads151) n _ q7
      rw [val_one Try.underlying28 rfl] at h7
      have q8 : HasC Try.prog n 29 [c8] := by
        have q := hf _ (List.mem_of_getElem? (i := 8) rfl)
        simpa only [cel29, List.drop_succ_cons, List.drop_zero, List.take_succ_cons, List.take_zero] using q
      obtain ⟨a8, h8⟩ := (reads_slices Try.underlying29 (reads_int Try.underlying3)) n _ q8
      rw [val_one Try.underlying29 rfl] at h8
      refine ⟨({ Name := a0, Headers := a1, Metadata := a2, Registers := a3, Actions := a4, Tables := a5, States := a6, Control := a7, Deparser := a8 } : api_Program), ?_⟩
      rw [val_agg Try.underlying31 rfl]
      exact ⟨_, _, _, _, _, _, _, _, rfl, h1, h2, h3, h4, h5, h6, h7, h8⟩
theorem arg31 {c : PV} (h : IsArg Try.prog 31 c) : ∃ a, api_Program.t.R a c := isArg_reads api_Program.reads31 h
theorem api_Env.reads47 : ∀ n, Reads Try.prog 47 api_Env.t n
  | 0 => fun cs hc => hc.elim
  | n + 1 => fun cs hc => by
    obtain ⟨hl, hf⟩ := reads_struct Try.underlying47 hc
    rw [cel47] at hl
    match cs, hl with
    | [c0, c1, c2, c3], _ =>
      have q0 : HasC Try.prog n 42 [c0] := by
        have q := hf _ (List.mem_of_getElem? (i := 0) rfl)
        simpa only [cel42, List.drop_succ_cons, List.drop_zero, List.take_succ_cons, List.take_zero] using q
      obtain ⟨a0, h0⟩ := (reads_slices Try.underlying42 (reads_bool Try.underlying4)) n _ q0
      rw [val_one Try.underlying42 rfl] at h0
      have q1 : HasC Try.prog n 43 [c1] := by
        have q := hf _ (List.mem_of_getElem? (i := 1) rfl)
        simpa only [cel43, List.drop_succ_cons, List.drop_zero, List.take_succ_cons, List.take_zero] using q
      obtain ⟨a1, h1⟩ := (reads_slices Try.underlying43 (reads_slices Try.underlying44 (reads_u32 Try.underlying57))) n _ q1
      rw [val_one Try.underlying43 rfl] at h1
      have q2 : HasC Try.prog n 44 [c2] := by
        have q := hf _ (List.mem_of_getElem? (i := 2) rfl)
        simpa only [cel44, List.drop_succ_cons, List.drop_zero, List.take_succ_cons, List.take_zero] using q
      obtain ⟨a2, h2⟩ := (reads_slices Try.underlying44 (reads_u32 Try.underlying57)) n _ q2
      rw [val_one Try.underlying44 rfl] at h2
      have q3 : HasC Try.prog n 45 [c3] := by
        have q := hf _ (List.mem_of_getElem? (i := 3) rfl)
        simpa only [cel45, List.drop_succ_cons, List.drop_zero, List.take_succ_cons, List.take_zero] using q
      obtain ⟨a3, h3⟩ := (reads_slices Try.underlying45 (reads_u8 Try.underlying5)) n _ q3
      rw [val_one Try.underlying45 rfl] at h3
      refine ⟨({ Valid := a0, Fields := a1, Metd := a2, Payload := a3 } : api_Env), ?_⟩
      rw [val_agg Try.underlying47 rfl]
      exact ⟨_, _, _, _, rfl, h0, h1, h2, h3⟩
theorem arg47 {c : PV} (h : IsArg Try.prog 47 c) : ∃ a, api_Env.t.R a c := isArg_reads api_Env.reads47 h
end Go.Proofs.Ytklfdkbemkommaa
