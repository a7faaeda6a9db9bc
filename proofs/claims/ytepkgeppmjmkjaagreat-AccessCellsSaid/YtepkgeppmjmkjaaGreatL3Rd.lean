/-
  What the claims read of their arguments.
-/
import Derived.Test.YtepkgeppmjmkjaaGreatPbA
import Derived.Test.YtepkgeppmjmkjaaGreatKTy
set_option linter.unusedVariables false
set_option linter.unusedSimpArgs false
set_option maxRecDepth 100000
namespace Go.Proofs.YtepkgeppmjmkjaaGreat
open Go Go.Pb Go.RowKit
theorem cel3 : Tryz.prog.cellsOf 3 = 1 := by kernel_rfl
theorem cel4 : Tryz.prog.cellsOf 4 = 1 := by kernel_rfl
theorem cel9 : Tryz.prog.cellsOf 9 = 1 := by kernel_rfl
theorem cel22 : Tryz.prog.cellsOf 22 = 1 := by kernel_rfl
theorem cel23 : Tryz.prog.cellsOf 23 = 1 := by kernel_rfl
theorem cel24 : Tryz.prog.cellsOf 24 = 1 := by kernel_rfl
theorem cel25 : Tryz.prog.cellsOf 25 = 1 := by kernel_rfl
theorem cel26 : Tryz.prog.cellsOf 26 = 1 := by kernel_rfl
theorem cel27 : Tryz.prog.cellsOf 27 = 1 := by kernel_rfl
theorem cel28 : Tryz.prog.cellsOf 28 = 1 := by kernel_rfl
theorem cel29 : Tryz.prog.cellsOf 29 = 1 := by kernel_rfl
theorem cel31 : Tryz.prog.cellsOf 31 = 9 := by kernel_rfl
theorem cel33 : Tryz.prog.cellsOf 33 = 2 := by kernel_rfl
theorem cel35 : Tryz.prog.cellsOf 35 = 3 := by kernel_rfl
theorem cel45 : Tryz.prog.cellsOf 45 = 2 := by kernel_rfl
theorem cel47 : Tryz.prog.cellsOf 47 = 1 := by kernel_rfl
theorem cel49 : Tryz.prog.cellsOf 49 = 3 := by kernel_rfl
theorem cel50 : Tryz.prog.cellsOf 50 = 1 := by kernel_rfl
theorem cel51 : Tryz.prog.cellsOf 51 = 1 := by kernel_rfl
theorem cel53 : Tryz.prog.cellsOf 53 = 2 := by kernel_rfl
theorem cel55 : Tryz.prog.cellsOf 55 = 6 := by kernel_rfl
theorem cel57 : Tryz.prog.cellsOf 57 = 1 := by kernel_rfl
theorem cel59 : Tryz.prog.cellsOf 59 = 7 := by kernel_rfl
theorem cel62 : Tryz.prog.cellsOf 62 = 3 := by kernel_rfl
theorem cel63 : Tryz.prog.cellsOf 63 = 1 := by kernel_rfl
theorem cel71 : Tryz.prog.cellsOf 71 = 5 := by kernel_rfl
theorem cel73 : Tryz.prog.cellsOf 73 = 2 := by kernel_rfl
theorem cel75 : Tryz.prog.cellsOf 75 = 7 := by kernel_rfl
theorem cel77 : Tryz.prog.cellsOf 77 = 3 := by kernel_rfl
theorem cel79 : Tryz.prog.cellsOf 79 = 3 := by kernel_rfl
theorem cel96 : Tryz.prog.cellsOf 96 = 1 := by kernel_rfl
theorem cel191 : Tryz.prog.cellsOf 191 = 3 := by kernel_rfl
theorem api_Field.reads73 : ∀ n, Reads Tryz.prog 73 api_Field.t n
  | 0 => fun cs hc => hc.elim
  | n + 1 => fun cs hc => by
    obtain ⟨hl, hf⟩ := reads_struct Tryz.underlying73 hc
    rw [cel73] at hl
    match cs, hl with
    | [c0, c1], _ =>
      have q0 : HasC Tryz.prog n 9 [c0] := by
        have q := hf _ (List.mem_of_getElem? (i := 0) rfl)
        simpa only [cel9, List.drop_succ_cons, List.drop_zero, List.take_succ_cons, List.take_zero] using q
      obtain ⟨a0, h0⟩ := (reads_string Tryz.underlying9) n _ q0
      rw [val_one Tryz.underlying9 rfl] at h0
      have h0 : c0 = vs a0 := h0; subst h0
      have q1 : HasC Tryz.prog n 3 [c1] := by
        have q := hf _ (List.mem_of_getElem? (i := 1) rfl)
        simpa only [cel3, List.drop_succ_cons, List.drop_zero, List.take_succ_cons, List.take_zero] using q
      obtain ⟨a1, h1⟩ := (reads_int Tryz.underlying3) n _ q1
      rw [val_one Tryz.underlying3 rfl] at h1
      have h1 : c1 = vi a1 := h1; subst h1
      refine ⟨({ Name := a0, Width := a1 } : api_Field), ?_⟩
      rw [val_agg Tryz.underlying73 rfl]
      rfl
theorem api_Header.reads45 : ∀ n, Reads Tryz.prog 45 api_Header.t n
  | 0 => fun cs hc => hc.elim
  | n + 1 => fun cs hc => by
    obtain ⟨hl, hf⟩ := reads_struct Tryz.underlying45 hc
    rw [cel45] at hl
    match cs, hl with
    | [c0, c1], _ =>
      have q0 : HasC Tryz.prog n 9 [c0] := by
        have q := hf _ (List.mem_of_getElem? (i := 0) rfl)
        simpa only [cel9, List.drop_succ_cons, List.drop_zero, List.take_succ_cons, List.take_zero] using q
      obtain ⟨a0, h0⟩ := (reads_string Tryz.underlying9) n _ q0
      rw [val_one Tryz.underlying9 rfl] at h0
      have h0 : c0 = vs a0 := h0; subst h0
      have q1 : HasC Tryz.prog n 23 [c1] := by
        have q := hf _ (List.mem_of_getElem? (i := 1) rfl)
        simpa only [cel23, List.drop_succ_cons, List.drop_zero, List.take_succ_cons, List.take_zero] using q
      obtain ⟨a1, h1⟩ := (reads_slices Tryz.underlying23 api_Field.reads73) n _ q1
      rw [val_one Tryz.underlying23 rfl] at h1
      refine ⟨({ Name := a0, Fields := a1 } : api_Header), ?_⟩
      rw [val_agg Tryz.underlying45 rfl]
      exact ⟨_, rfl, h1⟩
theorem api_Register.reads77 : ∀ n, Reads Tryz.prog 77 api_Register.t n
  | 0 => fun cs hc => hc.elim
  | n + 1 => fun cs hc => by
    obtain ⟨hl, hf⟩ := reads_struct Tryz.underlying77 hc
    rw [cel77] at hl
    match cs, hl with
    | [c0, c1, c2], _ =>
      have q0 : HasC Tryz.prog n 9 [c0] := by
        have q := hf _ (List.mem_of_getElem? (i := 0) rfl)
        simpa only [cel9, List.drop_succ_cons, List.drop_zero, List.take_succ_cons, List.take_zero] using q
      obtain ⟨a0, h0⟩ := (reads_string Tryz.underlying9) n _ q0
      rw [val_one Tryz.underlying9 rfl] at h0
      have h0 : c0 = vs a0 := h0; subst h0
      have q1 : HasC Tryz.prog n 3 [c1] := by
        have q := hf _ (List.mem_of_getElem? (i := 1) rfl)
        simpa only [cel3, List.drop_succ_cons, List.drop_zero, List.take_succ_cons, List.take_zero] using q
      obtain ⟨a1, h1⟩ := (reads_int Tryz.underlying3) n _ q1
      rw [val_one Tryz.underlying3 rfl] at h1
      have h1 : c1 = vi a1 := h1; subst h1
      have q2 : HasC Tryz.prog n 3 [c2] := by
        have q := hf _ (List.mem_of_getElem? (i := 2) rfl)
        simpa only [cel3, List.drop_succ_cons, List.drop_zero, List.take_succ_cons, List.take_zero] using q
      obtain ⟨a2, h2⟩ := (reads_int Tryz.underlying3) n _ q2
      rw [val_one Tryz.underlying3 rfl] at h2
      have h2 : c2 = vi a2 := h2; subst h2
      refine ⟨({ Name := a0, Width := a1, Size := a2 } : api_Register), ?_⟩
      rw [val_agg Tryz.underlying77 rfl]
      rfl
theorem api_FieldRef.reads33 : ∀ n, Reads Tryz.prog 33 api_FieldRef.t n
  | 0 => fun cs hc => hc.elim
  | n + 1 => fun cs hc => by
    obtain ⟨hl, hf⟩ := reads_struct Tryz.underlying33 hc
    rw [cel33] at hl
    match cs, hl with
    | [c0, c1], _ =>
      have q0 : HasC Tryz.prog n 3 [c0] := by
        have q := hf _ (List.mem_of_getElem? (i := 0) rfl)
        simpa only [cel3, List.drop_succ_cons, List.drop_zero, List.take_succ_cons, List.take_zero] using q
      obtain ⟨a0, h0⟩ := (reads_int Tryz.underlying3) n _ q0
      rw [val_one Tryz.underlying3 rfl] at h0
      have h0 : c0 = vi a0 := h0; subst h0
      have q1 : HasC Tryz.prog n 3 [c1] := by
        have q := hf _ (List.mem_of_getElem? (i := 1) rfl)
        simpa only [cel3, List.drop_succ_cons, List.drop_zero, List.take_succ_cons, List.take_zero] using q
      obtain ⟨a1, h1⟩ := (reads_int Tryz.underlying3) n _ q1
      rw [val_one Tryz.underlying3 rfl] at h1
      have h1 : c1 = vi a1 := h1; subst h1
      refine ⟨({ Header := a0, Field := a1 } : api_FieldRef), ?_⟩
      rw [val_agg Tryz.underlying33 rfl]
      rfl
theorem api_ExprNode.reads62 : ∀ n, Reads Tryz.prog 62 api_ExprNode.t n
  | 0 => fun cs hc => hc.elim
  | n + 1 => fun cs hc => by
    obtain ⟨hl, hf⟩ := reads_struct Tryz.underlying62 hc
    rw [cel62] at hl
    match cs, hl with
    | [c0, c1, c2], _ =>
      have q0 : HasC Tryz.prog n 3 [c0] := by
        have q := hf _ (List.mem_of_getElem? (i := 0) rfl)
        simpa only [cel3, List.drop_succ_cons, List.drop_zero, List.take_succ_cons, List.take_zero] using q
      obtain ⟨a0, h0⟩ := (reads_int Tryz.underlying3) n _ q0
      rw [val_one Tryz.underlying3 rfl] at h0
      have h0 : c0 = vi a0 := h0; subst h0
      have q1 : HasC Tryz.prog n 3 [c1] := by
        have q := hf _ (List.mem_of_getElem? (i := 1) rfl)
        simpa only [cel3, List.drop_succ_cons, List.drop_zero, List.take_succ_cons, List.take_zero] using q
      obtain ⟨a1, h1⟩ := (reads_int Tryz.underlying3) n _ q1
      rw [val_one Tryz.underlying3 rfl] at h1
      have h1 : c1 = vi a1 := h1; subst h1
      have q2 : HasC Tryz.prog n 3 [c2] := by
        have q := hf _ (List.mem_of_getElem? (i := 2) rfl)
        simpa only [cel3, List.drop_succ_cons, List.drop_zero, List.take_succ_cons, List.take_zero] using q
      obtain ⟨a2, h2⟩ := (reads_int Tryz.underlying3) n _ q2
      rw [val_one Tryz.underlying3 rfl] at h2
      have h2 : c2 = vi a2 := h2; subst h2
      refine ⟨({ Op := a0, N := a1, W := a2 } : api_ExprNode), ?_⟩
      rw [val_agg Tryz.underlying62 rfl]
      rfl
theorem api_Statement.reads75 : ∀ n, Reads Tryz.prog 75 api_Statement.t n
  | 0 => fun cs hc => hc.elim
  | n + 1 => fun cs hc => by
    obtain ⟨hl, hf⟩ := reads_struct Tryz.underlying75 hc
    rw [cel75] at hl
    match cs, hl with
    | [c0, c1, c2, c3, c4, c5, c6], _ =>
      have q0 : HasC Tryz.prog n 3 [c0] := by
        have q := hf _ (List.mem_of_getElem? (i := 0) rfl)
        simpa only [cel3, List.drop_succ_cons, List.drop_zero, List.take_succ_cons, List.take_zero] using q
      obtain ⟨a0, h0⟩ := (reads_int Tryz.underlying3) n _ q0
      rw [val_one Tryz.underlying3 rfl] at h0
      have h0 : c0 = vi a0 := h0; subst h0
      have q1 : HasC Tryz.prog n 33 [c1, c2] := by
        have q := hf _ (List.mem_of_getElem? (i := 1) rfl)
        simpa only [cel33, List.drop_succ_cons, List.drop_zero, List.take_succ_cons, List.take_zero] using q
      obtain ⟨a1, h1⟩ := api_FieldRef.reads33 n _ q1
      rw [val_agg Tryz.underlying33 rfl] at h1
      have e1 : _ = _ := h1
      simp only [PV.agg.injEq, List.cons.injEq, and_true] at e1
      obtain ⟨rfl, rfl⟩ := e1
      have q2 : HasC Tryz.prog n 3 [c3] := by
        have q := hf _ (List.mem_of_getElem? (i := 2) rfl)
        simpa only [cel3, List.drop_succ_cons, List.drop_zero, List.take_succ_cons, List.take_zero] using q
      obtain ⟨a2, h2⟩ := (reads_int Tryz.underlying3) n _ q2
      rw [val_one Tryz.underlying3 rfl] at h2
      have h2 : c3 = vi a2 := h2; subst h2
      have q3 : HasC Tryz.prog n 3 [c4] := by
        have q := hf _ (List.mem_of_getElem? (i := 3) rfl)
        simpa only [cel3, List.drop_succ_cons, List.drop_zero, List.take_succ_cons, List.take_zero] using q
      obtain ⟨a3, h3⟩ := (reads_int Tryz.underlying3) n _ q3
      rw [val_one Tryz.underlying3 rfl] at h3
      have h3 : c4 = vi a3 := h3; subst h3
      have q4 : HasC Tryz.prog n 63 [c5] := by
        have q := hf _ (List.mem_of_getElem? (i := 4) rfl)
        simpa only [cel63, List.drop_succ_cons, List.drop_zero, List.take_succ_cons, List.take_zero] using q
      obtain ⟨a4, h4⟩ := (reads_slices Tryz.underlying63 api_ExprNode.reads62) n _ q4
      rw [val_one Tryz.underlying63 rfl] at h4
      have q5 : HasC Tryz.prog n 63 [c6] := by
        have q := hf _ (List.mem_of_getElem? (i := 5) rfl)
        simpa only [cel63, List.drop_succ_cons, List.drop_zero, List.take_succ_cons, List.take_zero] using q
      obtain ⟨a5, h5⟩ := (reads_slices Tryz.underlying63 api_ExprNode.reads62) n _ q5
      rw [val_one Tryz.underlying63 rfl] at h5
      refine ⟨({ Kind := a0, Dst := a1, Register := a2, Header := a3, Index := a4, Value := a5 } : api_Statement), ?_⟩
      rw [val_agg Tryz.underlying75 rfl]
      exact ⟨_, _, rfl, h4, h5⟩
theorem api_Action.reads49 : ∀ n, Reads Tryz.prog 49 api_Action.t n
  | 0 => fun cs hc => hc.elim
  | n + 1 => fun cs hc => by
    obtain ⟨hl, hf⟩ := reads_struct Tryz.underlying49 hc
    rw [cel49] at hl
    match cs, hl with
    | [c0, c1, c2], _ =>
      have q0 : HasC Tryz.prog n 9 [c0] := by
        have q := hf _ (List.mem_of_getElem? (i := 0) rfl)
        simpa only [cel9, List.drop_succ_cons, List.drop_zero, List.take_succ_cons, List.take_zero] using q
      obtain ⟨a0, h0⟩ := (reads_string Tryz.underlying9) n _ q0
      rw [val_one Tryz.underlying9 rfl] at h0
      have h0 : c0 = vs a0 := h0; subst h0
      have q1 : HasC Tryz.prog n 23 [c1] := by
        have q := hf _ (List.mem_of_getElem? (i := 1) rfl)
        simpa only [cel23, List.drop_succ_cons, List.drop_zero, List.take_succ_cons, List.take_zero] using q
      obtain ⟨a1, h1⟩ := (reads_slices Tryz.underlying23 api_Field.reads73) n _ q1
      rw [val_one Tryz.underlying23 rfl] at h1
      have q2 : HasC Tryz.prog n 47 [c2] := by
        have q := hf _ (List.mem_of_getElem? (i := 2) rfl)
        simpa only [cel47, List.drop_succ_cons, List.drop_zero, List.take_succ_cons, List.take_zero] using q
      obtain ⟨a2, h2⟩ := (reads_slices Tryz.underlying47 api_Statement.reads75) n _ q2
      rw [val_one Tryz.underlying47 rfl] at h2
      refine ⟨({ Name := a0, Params := a1, Body := a2 } : api_Action), ?_⟩
      rw [val_agg Tryz.underlying49 rfl]
      exact ⟨_, _, rfl, h1, h2⟩
theorem api_TableKey.reads79 : ∀ n, Reads Tryz.prog 79 api_TableKey.t n
  | 0 => fun cs hc => hc.elim
  | n + 1 => fun cs hc => by
    obtain ⟨hl, hf⟩ := reads_struct Tryz.underlying79 hc
    rw [cel79] at hl
    match cs, hl with
    | [c0, c1, c2], _ =>
      have q0 : HasC Tryz.prog n 33 [c0, c1] := by
        have q := hf _ (List.mem_of_getElem? (i := 0) rfl)
        simpa only [cel33, List.drop_succ_cons, List.drop_zero, List.take_succ_cons, List.take_zero] using q
      obtain ⟨a0, h0⟩ := api_FieldRef.reads33 n _ q0
      rw [val_agg Tryz.underlying33 rfl] at h0
      have e0 : _ = _ := h0
      simp only [PV.agg.injEq, List.cons.injEq, and_true] at e0
      obtain ⟨rfl, rfl⟩ := e0
      have q1 : HasC Tryz.prog n 3 [c2] := by
        have q := hf _ (List.mem_of_getElem? (i := 1) rfl)
        simpa only [cel3, List.drop_succ_cons, List.drop_zero, List.take_succ_cons, List.take_zero] using q
      obtain ⟨a1, h1⟩ := (reads_int Tryz.underlying3) n _ q1
      rw [val_one Tryz.underlying3 rfl] at h1
      have h1 : c2 = vi a1 := h1; subst h1
      refine ⟨({ Field := a0, Kind := a1 } : api_TableKey), ?_⟩
      rw [val_agg Tryz.underlying79 rfl]
      rfl
theorem api_ActionCall.reads53 : ∀ n, Reads Tryz.prog 53 api_ActionCall.t n
  | 0 => fun cs hc => hc.elim
  | n + 1 => fun cs hc => by
    obtain ⟨hl, hf⟩ := reads_struct Tryz.underlying53 hc
    rw [cel53] at hl
    match cs, hl with
    | [c0, c1], _ =>
      have q0 : HasC Tryz.prog n 3 [c0] := by
        have q := hf _ (List.mem_of_getElem? (i := 0) rfl)
        simpa only [cel3, List.drop_succ_cons, List.drop_zero, List.take_succ_cons, List.take_zero] using q
      obtain ⟨a0, h0⟩ := (reads_int Tryz.underlying3) n _ q0
      rw [val_one Tryz.underlying3 rfl] at h0
      have h0 : c0 = vi a0 := h0; subst h0
      have q1 : HasC Tryz.prog n 51 [c1] := by
        have q := hf _ (List.mem_of_getElem? (i := 1) rfl)
        simpa only [cel51, List.drop_succ_cons, List.drop_zero, List.take_succ_cons, List.take_zero] using q
      obtain ⟨a1, h1⟩ := (reads_slices Tryz.underlying51 (reads_u32 Tryz.underlying96)) n _ q1
      rw [val_one Tryz.underlying51 rfl] at h1
      refine ⟨({ Action := a0, Args := a1 } : api_ActionCall), ?_⟩
      rw [val_agg Tryz.underlying53 rfl]
      exact ⟨_, rfl, h1⟩
theorem api_Table.reads55 : ∀ n, Reads Tryz.prog 55 api_Table.t n
  | 0 => fun cs hc => hc.elim
  | n + 1 => fun cs hc => by
    obtain ⟨hl, hf⟩ := reads_struct Tryz.underlying55 hc
    rw [cel55] at hl
    match cs, hl with
    | [c0, c1, c2, c3, c4, c5], _ =>
      have q0 : HasC Tryz.prog n 9 [c0] := by
        have q := hf _ (List.mem_of_getElem? (i := 0) rfl)
        simpa only [cel9, List.drop_succ_cons, List.drop_zero, List.take_succ_cons, List.take_zero] using q
      obtain ⟨a0, h0⟩ := (reads_string Tryz.underlying9) n _ q0
      rw [val_one Tryz.underlying9 rfl] at h0
      have h0 : c0 = vs a0 := h0; subst h0
      have q1 : HasC Tryz.prog n 50 [c1] := by
        have q := hf _ (List.mem_of_getElem? (i := 1) rfl)
        simpa only [cel50, List.drop_succ_cons, List.drop_zero, List.take_succ_cons, List.take_zero] using q
      obtain ⟨a1, h1⟩ := (reads_slices Tryz.underlying50 api_TableKey.reads79) n _ q1
      rw [val_one Tryz.underlying50 rfl] at h1
      have q2 : HasC Tryz.prog n 29 [c2] := by
        have q := hf _ (List.mem_of_getElem? (i := 2) rfl)
        simpa only [cel29, List.drop_succ_cons, List.drop_zero, List.take_succ_cons, List.take_zero] using q
      obtain ⟨a2, h2⟩ := (reads_slices Tryz.underlying29 (reads_int Tryz.underlying3)) n _ q2
      rw [val_one Tryz.underlying29 rfl] at h2
      have q3 : HasC Tryz.prog n 53 [c3, c4] := by
        have q := hf _ (List.mem_of_getElem? (i := 3) rfl)
        simpa only [cel53, List.drop_succ_cons, List.drop_zero, List.take_succ_cons, List.take_zero] using q
      obtain ⟨a3, h3⟩ := api_ActionCall.reads53 n _ q3
      rw [val_agg Tryz.underlying53 rfl] at h3
      obtain ⟨d1_3, e3, kd1_3⟩ := h3
      simp only [PV.agg.injEq, List.cons.injEq, and_true] at e3
      obtain ⟨rfl, rfl⟩ := e3
      have q4 : HasC Tryz.prog n 3 [c5] := by
        have q := hf _ (List.mem_of_getElem? (i := 4) rfl)
        simpa only [cel3, List.drop_succ_cons, List.drop_zero, List.take_succ_cons, List.take_zero] using q
      obtain ⟨a4, h4⟩ := (reads_int Tryz.underlying3) n _ q4
      rw [val_one Tryz.underlying3 rfl] at h4
      have h4 : c5 = vi a4 := h4; subst h4
      refine ⟨({ Name := a0, Keys := a1, Actions := a2, Default := a3, Size := a4 } : api_Table), ?_⟩
      rw [val_agg Tryz.underlying55 rfl]
      exact ⟨_, _, _, rfl, h1, h2, kd1_3⟩
theorem api_SelectCase.reads191 : ∀ n, Reads Tryz.prog 191 api_SelectCase.t n
  | 0 => fun cs hc => hc.elim
  | n + 1 => fun cs hc => by
    obtain ⟨hl, hf⟩ := reads_struct Tryz.underlying191 hc
    rw [cel191] at hl
    match cs, hl with
    | [c0, c1, c2], _ =>
      have q0 : HasC Tryz.prog n 96 [c0] := by
        have q := hf _ (List.mem_of_getElem? (i := 0) rfl)
        simpa only [cel96, List.drop_succ_cons, List.drop_zero, List.take_succ_cons, List.take_zero] using q
      obtain ⟨a0, h0⟩ := (reads_u32 Tryz.underlying96) n _ q0
      rw [val_one Tryz.underlying96 rfl] at h0
      have h0 : c0 = vu32 a0 := h0; subst h0
      have q1 : HasC Tryz.prog n 96 [c1] := by
        have q := hf _ (List.mem_of_getElem? (i := 1) rfl)
        simpa only [cel96, List.drop_succ_cons, List.drop_zero, List.take_succ_cons, List.take_zero] using q
      obtain ⟨a1, h1⟩ := (reads_u32 Tryz.underlying96) n _ q1
      rw [val_one Tryz.underlying96 rfl] at h1
      have h1 : c1 = vu32 a1 := h1; subst h1
      have q2 : HasC Tryz.prog n 3 [c2] := by
        have q := hf _ (List.mem_of_getElem? (i := 2) rfl)
        simpa only [cel3, List.drop_succ_cons, List.drop_zero, List.take_succ_cons, List.take_zero] using q
      obtain ⟨a2, h2⟩ := (reads_int Tryz.underlying3) n _ q2
      rw [val_one Tryz.underlying3 rfl] at h2
      have h2 : c2 = vi a2 := h2; subst h2
      refine ⟨({ Value := a0, Mask := a1, Next := a2 } : api_SelectCase), ?_⟩
      rw [val_agg Tryz.underlying191 rfl]
      rfl
theorem api_ParserState.reads59 : ∀ n, Reads Tryz.prog 59 api_ParserState.t n
  | 0 => fun cs hc => hc.elim
  | n + 1 => fun cs hc => by
    obtain ⟨hl, hf⟩ := reads_struct Tryz.underlying59 hc
    rw [cel59] at hl
    match cs, hl with
    | [c0, c1, c2, c3, c4, c5, c6], _ =>
      have q0 : HasC Tryz.prog n 9 [c0] := by
        have q := hf _ (List.mem_of_getElem? (i := 0) rfl)
        simpa only [cel9, List.drop_succ_cons, List.drop_zero, List.take_succ_cons, List.take_zero] using q
      obtain ⟨a0, h0⟩ := (reads_string Tryz.underlying9) n _ q0
      rw [val_one Tryz.underlying9 rfl] at h0
      have h0 : c0 = vs a0 := h0; subst h0
      have q1 : HasC Tryz.prog n 29 [c1] := by
        have q := hf _ (List.mem_of_getElem? (i := 1) rfl)
        simpa only [cel29, List.drop_succ_cons, List.drop_zero, List.take_succ_cons, List.take_zero] using q
      obtain ⟨a1, h1⟩ := (reads_slices Tryz.underlying29 (reads_int Tryz.underlying3)) n _ q1
      rw [val_one Tryz.underlying29 rfl] at h1
      have q2 : HasC Tryz.prog n 4 [c2] := by
        have q := hf _ (List.mem_of_getElem? (i := 2) rfl)
        simpa only [cel4, List.drop_succ_cons, List.drop_zero, List.take_succ_cons, List.take_zero] using q
      obtain ⟨a2, h2⟩ := (reads_bool Tryz.underlying4) n _ q2
      rw [val_one Tryz.underlying4 rfl] at h2
      have h2 : c2 = vb a2 := h2; subst h2
      have q3 : HasC Tryz.prog n 33 [c3, c4] := by
        have q := hf _ (List.mem_of_getElem? (i := 3) rfl)
        simpa only [cel33, List.drop_succ_cons, List.drop_zero, List.take_succ_cons, List.take_zero] using q
      obtain ⟨a3, h3⟩ := api_FieldRef.reads33 n _ q3
      rw [val_agg Tryz.underlying33 rfl] at h3
      have e3 : _ = _ := h3
      simp only [PV.agg.injEq, List.cons.injEq, and_true] at e3
      obtain ⟨rfl, rfl⟩ := e3
      have q4 : HasC Tryz.prog n 57 [c5] := by
        have q := hf _ (List.mem_of_getElem? (i := 4) rfl)
        simpa only [cel57, List.drop_succ_cons, List.drop_zero, List.take_succ_cons, List.take_zero] using q
      obtain ⟨a4, h4⟩ := (reads_slices Tryz.underlying57 api_SelectCase.reads191) n _ q4
      rw [val_one Tryz.underlying57 rfl] at h4
      have q5 : HasC Tryz.prog n 3 [c6] := by
        have q := hf _ (List.mem_of_getElem? (i := 5) rfl)
        simpa only [cel3, List.drop_succ_cons, List.drop_zero, List.take_succ_cons, List.take_zero] using q
      obtain ⟨a5, h5⟩ := (reads_int Tryz.underlying3) n _ q5
      rw [val_one Tryz.underlying3 rfl] at h5
      have h5 : c6 = vi a5 := h5; subst h5
      refine ⟨({ Name := a0, Extract := a1, Select := a2, On := a3, Cases := a4, Default := a5 } : api_ParserState), ?_⟩
      rw [val_agg Tryz.underlying59 rfl]
      exact ⟨_, _, rfl, h1, h4⟩
theorem api_ControlNode.reads71 : ∀ n, Reads Tryz.prog 71 api_ControlNode.t n
  | 0 => fun cs hc => hc.elim
  | n + 1 => fun cs hc => by
    obtain ⟨hl, hf⟩ := reads_struct Tryz.underlying71 hc
    rw [cel71] at hl
    match cs, hl with
    | [c0, c1, c2, c3, c4], _ =>
      have q0 : HasC Tryz.prog n 3 [c0] := by
        have q := hf _ (List.mem_of_getElem? (i := 0) rfl)
        simpa only [cel3, List.drop_succ_cons, List.drop_zero, List.take_succ_cons, List.take_zero] using q
      obtain ⟨a0, h0⟩ := (reads_int Tryz.underlying3) n _ q0
      rw [val_one Tryz.underlying3 rfl] at h0
      have h0 : c0 = vi a0 := h0; subst h0
      have q1 : HasC Tryz.prog n 3 [c1] := by
        have q := hf _ (List.mem_of_getElem? (i := 1) rfl)
        simpa only [cel3, List.drop_succ_cons, List.drop_zero, List.take_succ_cons, List.take_zero] using q
      obtain ⟨a1, h1⟩ := (reads_int Tryz.underlying3) n _ q1
      rw [val_one Tryz.underlying3 rfl] at h1
      have h1 : c1 = vi a1 := h1; subst h1
      have q2 : HasC Tryz.prog n 63 [c2] := by
        have q := hf _ (List.mem_of_getElem? (i := 2) rfl)
        simpa only [cel63, List.drop_succ_cons, List.drop_zero, List.take_succ_cons, List.take_zero] using q
      obtain ⟨a2, h2⟩ := (reads_slices Tryz.underlying63 api_ExprNode.reads62) n _ q2
      rw [val_one Tryz.underlying63 rfl] at h2
      have q3 : HasC Tryz.prog n 28 [c3] := by
        have q := hf _ (List.mem_of_getElem? (i := 3) rfl)
        simpa only [cel28, List.drop_succ_cons, List.drop_zero, List.take_succ_cons, List.take_zero] using q
      obtain ⟨a3, h3⟩ : ∃ a, (tSl api_ControlNode.t).R a (valC Tryz.prog 28 [c3]) := by
        cases n with
        | zero => exact q3.elim
        | succ n => exact reads_slice Tryz.underlying28 (api_ControlNode.reads71 n) _ q3
      rw [val_one Tryz.underlying28 rfl] at h3
      have q4 : HasC Tryz.prog n 28 [c4] := by
        have q := hf _ (List.mem_of_getElem? (i := 4) rfl)
        simpa only [cel28, List.drop_succ_cons, List.drop_zero, List.take_succ_cons, List.take_zero] using q
      obtain ⟨a4, h4⟩ : ∃ a, (tSl api_ControlNode.t).R a (valC Tryz.prog 28 [c4]) := by
        cases n with
        | zero => exact q4.elim
        | succ n => exact reads_slice Tryz.underlying28 (api_ControlNode.reads71 n) _ q4
      rw [val_one Tryz.underlying28 rfl] at h4
      refine ⟨({ Kind := a0, Table := a1, Cond := a2, Then := a3, Else := a4 } : api_ControlNode), ?_⟩
      rw [val_agg Tryz.underlying71 rfl]
      show api_ControlNode.R _ _
      simp only [api_ControlNode.R]
      exact ⟨_, _, _, rfl, h2, ⟨⟨h3.1.choose, h3.1.choose_spec.1, by rw [api_ControlNode.Rl_eq]; exact h3.1.choose_spec.2⟩, h3.2⟩, ⟨⟨h4.1.choose, h4.1.choose_spec.1, by rw [api_ControlNode.Rl_eq]; exact h4.1.choose_spec.2⟩, h4.2⟩⟩
theorem api_Program.reads31 : ∀ n, Reads Tryz.prog 31 api_Program.t n
  | 0 => fun cs hc => hc.elim
  | n + 1 => fun cs hc => by
    obtain ⟨hl, hf⟩ := reads_struct Tryz.underlying31 hc
    rw [cel31] at hl
    match cs, hl with
    | [c0, c1, c2, c3, c4, c5, c6, c7, c8], _ =>
      have q0 : HasC Tryz.prog n 9 [c0] := by
        have q := hf _ (List.mem_of_getElem? (i := 0) rfl)
        simpa only [cel9, List.drop_succ_cons, List.drop_zero, List.take_succ_cons, List.take_zero] using q
      obtain ⟨a0, h0⟩ := (reads_string Tryz.underlying9) n _ q0
      rw [val_one Tryz.underlying9 rfl] at h0
      have h0 : c0 = vs a0 := h0; subst h0
      have q1 : HasC Tryz.prog n 22 [c1] := by
        have q := hf _ (List.mem_of_getElem? (i := 1) rfl)
        simpa only [cel22, List.drop_succ_cons, List.drop_zero, List.take_succ_cons, List.take_zero] using q
      obtain ⟨a1, h1⟩ := (reads_slices Tryz.underlying22 api_Header.reads45) n _ q1
      rw [val_one Tryz.underlying22 rfl] at h1
      have q2 : HasC Tryz.prog n 23 [c2] := by
        have q := hf _ (List.mem_of_getElem? (i := 2) rfl)
        simpa only [cel23, List.drop_succ_cons, List.drop_zero, List.take_succ_cons, List.take_zero] using q
      obtain ⟨a2, h2⟩ := (reads_slices Tryz.underlying23 api_Field.reads73) n _ q2
      rw [val_one Tryz.underlying23 rfl] at h2
      have q3 : HasC Tryz.prog n 24 [c3] := by
        have q := hf _ (List.mem_of_getElem? (i := 3) rfl)
        simpa only [cel24, List.drop_succ_cons, List.drop_zero, List.take_succ_cons, List.take_zero] using q
      obtain ⟨a3, h3⟩ := (reads_slices Tryz.underlying24 api_Register.reads77) n _ q3
      rw [val_one Tryz.underlying24 rfl] at h3
      have q4 : HasC Tryz.prog n 25 [c4] := by
        have q := hf _ (List.mem_of_getElem? (i := 4) rfl)
        simpa only [cel25, List.drop_succ_cons, List.drop_zero, List.take_succ_cons, List.take_zero] using q
      obtain ⟨a4, h4⟩ := (reads_slices Tryz.underlying25 api_Action.reads49) n _ q4
      rw [val_one Tryz.underlying25 rfl] at h4
      have q5 : HasC Tryz.prog n 26 [c5] := by
        have q := hf _ (List.mem_of_getElem? (i := 5) rfl)
        simpa only [cel26, List.drop_succ_cons, List.drop_zero, List.take_succ_cons, List.take_zero] using q
      obtain ⟨a5, h5⟩ := (reads_slices Tryz.underlying26 api_Table.reads55) n _ q5
      rw [val_one Tryz.underlying26 rfl] at h5
      have q6 : HasC Tryz.prog n 27 [c6] := by
        have q := hf _ (List.mem_of_getElem? (i := 6) rfl)
        simpa only [cel27, List.drop_succ_cons, List.drop_zero, List.take_succ_cons, List.take_zero] using q
      obtain ⟨a6, h6⟩ := (reads_slices Tryz.underlying27 api_ParserState.reads59) n _ q6
      rw [val_one Tryz.underlying27 rfl] at h6
      have q7 : HasC Tryz.prog n 28 [c7] := by
        have q := hf _ (List.mem_of_getElem? (i := 7) rfl)
        simpa only [cel28, List.drop_succ_cons, List.drop_zero, List.take_succ_cons, List.take_zero] using q
      obtain ⟨a7, h7⟩ := (reads_slices Tryz.underlying28 api_ControlNode.reads71) n _ q7
      rw [val_one Tryz.underlying28 rfl] at h7
      have q8 : HasC Tryz.prog n 29 [c8] := by
        have q := hf _ (List.mem_of_getElem? (i := 8) rfl)
        simpa only [cel29, List.drop_succ_cons, List.drop_zero, List.take_succ_cons, List.take_zero] using q
      obtain ⟨a8, h8⟩ := (reads_slices Tryz.underlying29 (reads_int Tryz.underlying3)) n _ q8
      rw [val_one Tryz.underlying29 rfl] at h8
      refine ⟨({ Name := a0, Headers := a1, Metadata := a2, Registers := a3, Actions := a4, Tables := a5, States := a6, Control := a7, Deparser := a8 } : api_Program), ?_⟩
      rw [val_agg Tryz.underlying31 rfl]
      exact ⟨_, _, _, _, _, _, _, _, rfl, h1, h2, h3, h4, h5, h6, h7, h8⟩
theorem arg31 {c : PV} (h : IsArg Tryz.prog 31 c) : ∃ a, api_Program.t.R a c := isArg_reads api_Program.reads31 h
theorem law31_Query.reads35 : ∀ n, Reads Tryz.prog 35 law31_Query.t n
  | 0 => fun cs hc => hc.elim
  | n + 1 => fun cs hc => by
    obtain ⟨hl, hf⟩ := reads_struct Tryz.underlying35 hc
    rw [cel35] at hl
    match cs, hl with
    | [c0, c1, c2], _ =>
      have q0 : HasC Tryz.prog n 33 [c0, c1] := by
        have q := hf _ (List.mem_of_getElem? (i := 0) rfl)
        simpa only [cel33, List.drop_succ_cons, List.drop_zero, List.take_succ_cons, List.take_zero] using q
      obtain ⟨a0, h0⟩ := api_FieldRef.reads33 n _ q0
      rw [val_agg Tryz.underlying33 rfl] at h0
      have e0 : _ = _ := h0
      simp only [PV.agg.injEq, List.cons.injEq, and_true] at e0
      obtain ⟨rfl, rfl⟩ := e0
      have q1 : HasC Tryz.prog n 3 [c2] := by
        have q := hf _ (List.mem_of_getElem? (i := 1) rfl)
        simpa only [cel3, List.drop_succ_cons, List.drop_zero, List.take_succ_cons, List.take_zero] using q
      obtain ⟨a1, h1⟩ := (reads_int Tryz.underlying3) n _ q1
      rw [val_one Tryz.underlying3 rfl] at h1
      have h1 : c2 = vi a1 := h1; subst h1
      refine ⟨({ Ref := a0, N := a1 } : law31_Query), ?_⟩
      rw [val_agg Tryz.underlying35 rfl]
      rfl
theorem arg35 {c : PV} (h : IsArg Tryz.prog 35 c) : ∃ a, law31_Query.t.R a c := isArg_reads law31_Query.reads35 h
end Go.Proofs.YtepkgeppmjmkjaaGreat
