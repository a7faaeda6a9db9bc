/-
  What the claims read of their arguments.
-/
import Derived.Test.YtfekghenlhoamaaGreatPbA
import Derived.Test.YtfekghenlhoamaaGreatKTy
set_option linter.unusedVariables false
set_option linter.unusedSimpArgs false
set_option maxRecDepth 100000
namespace Go.Proofs.YtfekghenlhoamaaGreat
open Go Go.Pb Go.RowKit
theorem cel3 : Tryz.prog.cellsOf 3 = 1 := by kernel_rfl
theorem cel4 : Tryz.prog.cellsOf 4 = 1 := by kernel_rfl
theorem cel9 : Tryz.prog.cellsOf 9 = 1 := by kernel_rfl
theorem cel22 : Tryz.prog.cellsOf 22 = 1 := by kernel_rfl
theorem cel23 : Tryz.prog.cellsOf 23 = 1 := by kernel_rfl
theorem cel24 : Tryz.prog.cellsOf 24 = 1 := by kernel_rfl
theorem cel25 : Tryz.prog.cellsOf 25 = 1 := by kernel_rfl
theorem cel26 : Tryz.prog.cellsOf 26 = 1 := by kernel_rfl
theorem cel27 : Tryz.prog.cellsOf 27 = 1 := by kernel_rfl
theorem cel28 : Tryz.prog.cellsOf 28 = 1 := by kernel_rfl
theorem cel29 : Tryz.prog.cellsOf 29 = 1 := by kernel_rfl
theorem cel31 : Tryz.prog.cellsOf 31 = 9 := by kernel_rfl
theorem cel32 : Tryz.prog.cellsOf 32 = 1 := by kernel_rfl
theorem cel33 : Tryz.prog.cellsOf 33 = 1 := by kernel_rfl
theorem cel34 : Tryz.prog.cellsOf 34 = 1 := by kernel_rfl
theorem cel35 : Tryz.prog.cellsOf 35 = 1 := by kernel_rfl
theorem cel36 : Tryz.prog.cellsOf 36 = 1 := by kernel_rfl
theorem cel38 : Tryz.prog.cellsOf 38 = 4 := by kernel_rfl
theorem cel40 : Tryz.prog.cellsOf 40 = 16 := by kernel_rfl
theorem cel42 : Tryz.prog.cellsOf 42 = 1 := by kernel_rfl
theorem cel51 : Tryz.prog.cellsOf 51 = 2 := by kernel_rfl
theorem cel53 : Tryz.prog.cellsOf 53 = 2 := by kernel_rfl
theorem cel55 : Tryz.prog.cellsOf 55 = 3 := by kernel_rfl
theorem cel65 : Tryz.prog.cellsOf 65 = 2 := by kernel_rfl
theorem cel172 : Tryz.prog.cellsOf 172 = 3 := by kernel_rfl
theorem cel173 : Tryz.prog.cellsOf 173 = 1 := by kernel_rfl
theorem cel175 : Tryz.prog.cellsOf 175 = 3 := by kernel_rfl
theorem cel176 : Tryz.prog.cellsOf 176 = 1 := by kernel_rfl
theorem cel178 : Tryz.prog.cellsOf 178 = 2 := by kernel_rfl
theorem cel180 : Tryz.prog.cellsOf 180 = 6 := by kernel_rfl
theorem cel181 : Tryz.prog.cellsOf 181 = 1 := by kernel_rfl
theorem cel183 : Tryz.prog.cellsOf 183 = 7 := by kernel_rfl
theorem cel185 : Tryz.prog.cellsOf 185 = 5 := by kernel_rfl
theorem cel188 : Tryz.prog.cellsOf 188 = 7 := by kernel_rfl
theorem cel190 : Tryz.prog.cellsOf 190 = 3 := by kernel_rfl
theorem cel192 : Tryz.prog.cellsOf 192 = 3 := by kernel_rfl
theorem api_Field.reads51 : ∀ n, Reads Tryz.prog 51 api_Field.t n
  | 0 => fun cs hc => hc.elim
  | n + 1 => fun cs hc => by
    obtain ⟨hl, hf⟩ := reads_struct Tryz.underlying51 hc
    rw [cel51] at hl
    match cs, hl with
    | [c0, c1], _ =>
      have q0 : HasC Tryz.prog n 9 [c0] := by
        have q := hf _ (List.mem_of_getElem? (i := 0) rfl)
        simpa only [cel9, List.drop_succ_cons, List.drop_zero, List.take_succ_cons, List.take_zero] using q
      obtain ⟨a0, h0⟩ := (reads_string Tryz.underlying9) n _ q0
      rw [val_one Tryz.underlying9 rfl] at h0
      have h0 : c0 = vs a0 := h0; subst h0
      have q1 : HasC Tryz.prog n 3 [c1] := by
        have q := hf _ (List.mem_of_getElem? (i := 1) rfl)
        simpa only [cel3, List.drop_succ_cons, List.drop_zero, List.take_succ_cons, List.take_zero] using q
      obtain ⟨a1, h1⟩ := (reads_int Tryz.underlying3) n _ q1
      rw [val_one Tryz.underlying3 rfl] at h1
      have h1 : c1 = vi a1 := h1; subst h1
      refine ⟨({ Name := a0, Width := a1 } : api_Field), ?_⟩
      rw [val_agg Tryz.underlying51 rfl]
      rfl
theorem api_Header.reads53 : ∀ n, Reads Tryz.prog 53 api_Header.t n
  | 0 => fun cs hc => hc.elim
  | n + 1 => fun cs hc => by
    obtain ⟨hl, hf⟩ := reads_struct Tryz.underlying53 hc
    rw [cel53] at hl
    match cs, hl with
    | [c0, c1], _ =>
      have q0 : HasC Tryz.prog n 9 [c0] := by
        have q := hf _ (List.mem_of_getElem? (i := 0) rfl)
        simpa only [cel9, List.drop_succ_cons, List.drop_zero, List.take_succ_cons, List.take_zero] using q
      obtain ⟨a0, h0⟩ := (reads_string Tryz.underlying9) n _ q0
      rw [val_one Tryz.underlying9 rfl] at h0
      have h0 : c0 = vs a0 := h0; subst h0
      have q1 : HasC Tryz.prog n 23 [c1] := by
        have q := hf _ (List.mem_of_getElem? (i := 1) rfl)
        simpa only [cel23, List.drop_succ_cons, List.drop_zero, List.take_succ_cons, List.take_zero] using q
      obtain ⟨a1, h1⟩ := (reads_slices Tryz.underlying23 api_Field.reads51) n _ q1
      rw [val_one Tryz.underlying23 rfl] at h1
      refine ⟨({ Name := a0, Fields := a1 } : api_Header), ?_⟩
      rw [val_agg Tryz.underlying53 rfl]
      exact ⟨_, rfl, h1⟩
theorem api_Register.reads172 : ∀ n, Reads Tryz.prog 172 api_Register.t n
  | 0 => fun cs hc => hc.elim
  | n + 1 => fun cs hc => by
    obtain ⟨hl, hf⟩ := reads_struct Tryz.underlying172 hc
    rw [cel172] at hl
    match cs, hl with
    | [c0, c1, c2], _ =>
      have q0 : HasC Tryz.prog n 9 [c0] := by
        have q := hf _ (List.mem_of_getElem? (i := 0) rfl)
        simpa only [cel9, List.drop_succ_cons, List.drop_zero, List.take_succ_cons, List.take_zero] using q
      obtain ⟨a0, h0⟩ := (reads_string Tryz.underlying9) n _ q0
      rw [val_one Tryz.underlying9 rfl] at h0
      have h0 : c0 = vs a0 := h0; subst h0
      have q1 : HasC Tryz.prog n 3 [c1] := by
        have q := hf _ (List.mem_of_getElem? (i := 1) rfl)
        simpa only [cel3, List.drop_succ_cons, List.drop_zero, List.take_succ_cons, List.take_zero] using q
      obtain ⟨a1, h1⟩ := (reads_int Tryz.underlying3) n _ q1
      rw [val_one Tryz.underlying3 rfl] at h1
      have h1 : c1 = vi a1 := h1; subst h1
      have q2 : HasC Tryz.prog n 3 [c2] := by
        have q := hf _ (List.mem_of_getElem? (i := 2) rfl)
        simpa only [cel3, List.drop_succ_cons, List.drop_zero, List.take_succ_cons, List.take_zero] using q
      obtain ⟨a2, h2⟩ := (reads_int Tryz.underlying3) n _ q2
      rw [val_one Tryz.underlying3 rfl] at h2
      have h2 : c2 = vi a2 := h2; subst h2
      refine ⟨({ Name := a0, Width := a1, Size := a2 } : api_Register), ?_⟩
      rw [val_agg Tryz.underlying172 rfl]
      rfl
theorem api_FieldRef.reads65 : ∀ n, Reads Tryz.prog 65 api_FieldRef.t n
  | 0 => fun cs hc => hc.elim
  | n + 1 => fun cs hc => by
    obtain ⟨hl, hf⟩ := reads_struct Tryz.underlying65 hc
    rw [cel65] at hl
    match cs, hl with
    | [c0, c1], _ =>
      have q0 : HasC Tryz.prog n 3 [c0] := by
        have q := hf _ (List.mem_of_getElem? (i := 0) rfl)
        simpa only [cel3, List.drop_succ_cons, List.drop_zero, List.take_succ_cons, List.take_zero] using q
      obtain ⟨a0, h0⟩ := (reads_int Tryz.underlying3) n _ q0
      rw [val_one Tryz.underlying3 rfl] at h0
      have h0 : c0 = vi a0 := h0; subst h0
      have q1 : HasC Tryz.prog n 3 [c1] := by
        have q := hf _ (List.mem_of_getElem? (i := 1) rfl)
        simpa only [cel3, List.drop_succ_cons, List.drop_zero, List.take_succ_cons, List.take_zero] using q
      obtain ⟨a1, h1⟩ := (reads_int Tryz.underlying3) n _ q1
      rw [val_one Tryz.underlying3 rfl] at h1
      have h1 : c1 = vi a1 := h1; subst h1
      refine ⟨({ Header := a0, Field := a1 } : api_FieldRef), ?_⟩
      rw [val_agg Tryz.underlying65 rfl]
      rfl
theorem api_ExprNode.reads55 : ∀ n, Reads Tryz.prog 55 api_ExprNode.t n
  | 0 => fun cs hc => hc.elim
  | n + 1 => fun cs hc => by
    obtain ⟨hl, hf⟩ := reads_struct Tryz.underlying55 hc
    rw [cel55] at hl
    match cs, hl with
    | [c0, c1, c2], _ =>
      have q0 : HasC Tryz.prog n 3 [c0] := by
        have q := hf _ (List.mem_of_getElem? (i := 0) rfl)
        simpa only [cel3, List.drop_succ_cons, List.drop_zero, List.take_succ_cons, List.take_zero] using q
      obtain ⟨a0, h0⟩ := (reads_int Tryz.underlying3) n _ q0
      rw [val_one Tryz.underlying3 rfl] at h0
      have h0 : c0 = vi a0 := h0; subst h0
      have q1 : HasC Tryz.prog n 3 [c1] := by
        have q := hf _ (List.mem_of_getElem? (i := 1) rfl)
        simpa only [cel3, List.drop_succ_cons, List.drop_zero, List.take_succ_cons, List.take_zero] using q
      obtain ⟨a1, h1⟩ := (reads_int Tryz.underlying3) n _ q1
      rw [val_one Tryz.underlying3 rfl] at h1
      have h1 : c1 = vi a1 := h1; subst h1
      have q2 : HasC Tryz.prog n 3 [c2] := by
        have q := hf _ (List.mem_of_getElem? (i := 2) rfl)
        simpa only [cel3, List.drop_succ_cons, List.drop_zero, List.take_succ_cons, List.take_zero] using q
      obtain ⟨a2, h2⟩ := (reads_int Tryz.underlying3) n _ q2
      rw [val_one Tryz.underlying3 rfl] at h2
      have h2 : c2 = vi a2 := h2; subst h2
      refine ⟨({ Op := a0, N := a1, W := a2 } : api_ExprNode), ?_⟩
      rw [val_agg Tryz.underlying55 rfl]
      rfl
theorem api_Statement.reads188 : ∀ n, Reads Tryz.prog 188 api_Statement.t n
  | 0 => fun cs hc => hc.elim
  | n + 1 => fun cs hc => by
    obtain ⟨hl, hf⟩ := reads_struct Tryz.underlying188 hc
    rw [cel188] at hl
    match cs, hl with
    | [c0, c1, c2, c3, c4, c5, c6], _ =>
      have q0 : HasC Tryz.prog n 3 [c0] := by
        have q := hf _ (List.mem_of_getElem? (i := 0) rfl)
        simpa only [cel3, List.drop_succ_cons, List.drop_zero, List.take_succ_cons, List.take_zero] using q
      obtain ⟨a0, h0⟩ := (reads_int Tryz.underlying3) n _ q0
      rw [val_one Tryz.underlying3 rfl] at h0
      have h0 : c0 = vi a0 := h0; subst h0
      have q1 : HasC Tryz.prog n 65 [c1, c2] := by
        have q := hf _ (List.mem_of_getElem? (i := 1) rfl)
        simpa only [cel65, List.drop_succ_cons, List.drop_zero, List.take_succ_cons, List.take_zero] using q
      obtain ⟨a1, h1⟩ := api_FieldRef.reads65 n _ q1
      rw [val_agg Tryz.underlying65 rfl] at h1
      have e1 : _ = _ := h1
      simp only [PV.agg.injEq, List.cons.injEq, and_true] at e1
      obtain ⟨rfl, rfl⟩ := e1
      have q2 : HasC Tryz.prog n 3 [c3] := by
        have q := hf _ (List.mem_of_getElem? (i := 2) rfl)
        simpa only [cel3, List.drop_succ_cons, List.drop_zero, List.take_succ_cons, List.take_zero] using q
      obtain ⟨a2, h2⟩ := (reads_int Tryz.underlying3) n _ q2
      rw [val_one Tryz.underlying3 rfl] at h2
      have h2 : c3 = vi a2 := h2; subst h2
      have q3 : HasC Tryz.prog n 3 [c4] := by
        have q := hf _ (List.mem_of_getElem? (i := 3) rfl)
        simpa only [cel3, List.drop_succ_cons, List.drop_zero, List.take_succ_cons, List.take_zero] using q
      obtain ⟨a3, h3⟩ := (reads_int Tryz.underlying3) n _ q3
      rw [val_one Tryz.underlying3 rfl] at h3
      have h3 : c4 = vi a3 := h3; subst h3
      have q4 : HasC Tryz.prog n 32 [c5] := by
        have q := hf _ (List.mem_of_getElem? (i := 4) rfl)
        simpa only [cel32, List.drop_succ_cons, List.drop_zero, List.take_succ_cons, List.take_zero] using q
      obtain ⟨a4, h4⟩ := (reads_slices Tryz.underlying32 api_ExprNode.reads55) n _ q4
      rw [val_one Tryz.underlying32 rfl] at h4
      have q5 : HasC Tryz.prog n 32 [c6] := by
        have q := hf _ (List.mem_of_getElem? (i := 5) rfl)
        simpa only [cel32, List.drop_succ_cons, List.drop_zero, List.take_succ_cons, List.take_zero] using q
      obtain ⟨a5, h5⟩ := (reads_slices Tryz.underlying32 api_ExprNode.reads55) n _ q5
      rw [val_one Tryz.underlying32 rfl] at h5
      refine ⟨({ Kind := a0, Dst := a1, Register := a2, Header := a3, Index := a4, Value := a5 } : api_Statement), ?_⟩
      rw [val_agg Tryz.underlying188 rfl]
      exact ⟨_, _, rfl, h4, h5⟩
theorem api_Action.reads175 : ∀ n, Reads Tryz.prog 175 api_Action.t n
  | 0 => fun cs hc => hc.elim
  | n + 1 => fun cs hc => by
    obtain ⟨hl, hf⟩ := reads_struct Tryz.underlying175 hc
    rw [cel175] at hl
    match cs, hl with
    | [c0, c1, c2], _ =>
      have q0 : HasC Tryz.prog n 9 [c0] := by
        have q := hf _ (List.mem_of_getElem? (i := 0) rfl)
        simpa only [cel9, List.drop_succ_cons, List.drop_zero, List.take_succ_cons, List.take_zero] using q
      obtain ⟨a0, h0⟩ := (reads_string Tryz.underlying9) n _ q0
      rw [val_one Tryz.underlying9 rfl] at h0
      have h0 : c0 = vs a0 := h0; subst h0
      have q1 : HasC Tryz.prog n 23 [c1] := by
        have q := hf _ (List.mem_of_getElem? (i := 1) rfl)
        simpa only [cel23, List.drop_succ_cons, List.drop_zero, List.take_succ_cons, List.take_zero] using q
      obtain ⟨a1, h1⟩ := (reads_slices Tryz.underlying23 api_Field.reads51) n _ q1
      rw [val_one Tryz.underlying23 rfl] at h1
      have q2 : HasC Tryz.prog n 173 [c2] := by
        have q := hf _ (List.mem_of_getElem? (i := 2) rfl)
        simpa only [cel173, List.drop_succ_cons, List.drop_zero, List.take_succ_cons, List.take_zero] using q
      obtain ⟨a2, h2⟩ := (reads_slices Tryz.underlying173 api_Statement.reads188) n _ q2
      rw [val_one Tryz.underlying173 rfl] at h2
      refine ⟨({ Name := a0, Params := a1, Body := a2 } : api_Action), ?_⟩
      rw [val_agg Tryz.underlying175 rfl]
      exact ⟨_, _, rfl, h1, h2⟩
theorem api_TableKey.reads190 : ∀ n, Reads Tryz.prog 190 api_TableKey.t n
  | 0 => fun cs hc => hc.elim
  | n + 1 => fun cs hc => by
    obtain ⟨hl, hf⟩ := reads_struct Tryz.underlying190 hc
    rw [cel190] at hl
    match cs, hl with
    | [c0, c1, c2], _ =>
      have q0 : HasC Tryz.prog n 65 [c0, c1] := by
        have q := hf _ (List.mem_of_getElem? (i := 0) rfl)
        simpa only [cel65, List.drop_succ_cons, List.drop_zero, List.take_succ_cons, List.take_zero] using q
      obtain ⟨a0, h0⟩ := api_FieldRef.reads65 n _ q0
      rw [val_agg Tryz.underlying65 rfl] at h0
      have e0 : _ = _ := h0
      simp only [PV.agg.injEq, List.cons.injEq, and_true] at e0
      obtain ⟨rfl, rfl⟩ := e0
      have q1 : HasC Tryz.prog n 3 [c2] := by
        have q := hf _ (List.mem_of_getElem? (i := 1) rfl)
        simpa only [cel3, List.drop_succ_cons, List.drop_zero, List.take_succ_cons, List.take_zero] using q
      obtain ⟨a1, h1⟩ := (reads_int Tryz.underlying3) n _ q1
      rw [val_one Tryz.underlying3 rfl] at h1
      have h1 : c2 = vi a1 := h1; subst h1
      refine ⟨({ Field := a0, Kind := a1 } : api_TableKey), ?_⟩
      rw [val_agg Tryz.underlying190 rfl]
      rfl
theorem api_ActionCall.reads178 : ∀ n, Reads Tryz.prog 178 api_ActionCall.t n
  | 0 => fun cs hc => hc.elim
  | n + 1 => fun cs hc => by
    obtain ⟨hl, hf⟩ := reads_struct Tryz.underlying178 hc
    rw [cel178] at hl
    match cs, hl with
    | [c0, c1], _ =>
      have q0 : HasC Tryz.prog n 3 [c0] := by
        have q := hf _ (List.mem_of_getElem? (i := 0) rfl)
        simpa only [cel3, List.drop_succ_cons, List.drop_zero, List.take_succ_cons, List.take_zero] using q
      obtain ⟨a0, h0⟩ := (reads_int Tryz.underlying3) n _ q0
      rw [val_one Tryz.underlying3 rfl] at h0
      have h0 : c0 = vi a0 := h0; subst h0
      have q1 : HasC Tryz.prog n 35 [c1] := by
        have q := hf _ (List.mem_of_getElem? (i := 1) rfl)
        simpa only [cel35, List.drop_succ_cons, List.drop_zero, List.take_succ_cons, List.take_zero] using q
      obtain ⟨a1, h1⟩ := (reads_slices Tryz.underlying35 (reads_u32 Tryz.underlying42)) n _ q1
      rw [val_one Tryz.underlying35 rfl] at h1
      refine ⟨({ Action := a0, Args := a1 } : api_ActionCall), ?_⟩
      rw [val_agg Tryz.underlying178 rfl]
      exact ⟨_, rfl, h1⟩
theorem api_Table.reads180 : ∀ n, Reads Tryz.prog 180 api_Table.t n
  | 0 => fun cs hc => hc.elim
  | n + 1 => fun cs hc => by
    obtain ⟨hl, hf⟩ := reads_struct Tryz.underlying180 hc
    rw [cel180] at hl
    match cs, hl with
    | [c0, c1, c2, c3, c4, c5], _ =>
      have q0 : HasC Tryz.prog n 9 [c0] := by
        have q := hf _ (List.mem_of_getElem? (i := 0) rfl)
        simpa only [cel9, List.drop_succ_cons, List.drop_zero, List.take_succ_cons, List.take_zero] using q
      obtain ⟨a0, h0⟩ := (reads_string Tryz.underlying9) n _ q0
      rw [val_one Tryz.underlying9 rfl] at h0
      have h0 : c0 = vs a0 := h0; subst h0
      have q1 : HasC Tryz.prog n 176 [c1] := by
        have q := hf _ (List.mem_of_getElem? (i := 1) rfl)
        simpa only [cel176, List.drop_succ_cons, List.drop_zero, List.take_succ_cons, List.take_zero] using q
      obtain ⟨a1, h1⟩ := (reads_slices Tryz.underlying176 api_TableKey.reads190) n _ q1
      rw [val_one Tryz.underlying176 rfl] at h1
      have q2 : HasC Tryz.prog n 29 [c2] := by
        have q := hf _ (List.mem_of_getElem? (i := 2) rfl)
        simpa only [cel29, List.drop_succ_cons, List.drop_zero, List.take_succ_cons, List.take_zero] using q
      obtain ⟨a2, h2⟩ := (reads_slices Tryz.underlying29 (reads_int Tryz.underlying3)) n _ q2
      rw [val_one Tryz.underlying29 rfl] at h2
      have q3 : HasC Tryz.prog n 178 [c3, c4] := by
        have q := hf _ (List.mem_of_getElem? (i := 3) rfl)
        simpa only [cel178, List.drop_succ_cons, List.drop_zero, List.take_succ_cons, List.take_zero] using q
      obtain ⟨a3, h3⟩ := api_ActionCall.reads178 n _ q3
      rw [val_agg Tryz.underlying178 rfl] at h3
      obtain ⟨d1_3, e3, kd1_3⟩ := h3
      simp only [PV.agg.injEq, List.cons.injEq, and_true] at e3
      obtain ⟨rfl, rfl⟩ := e3
      have q4 : HasC Tryz.prog n 3 [c5] := by
        have q := hf _ (List.mem_of_getElem? (i := 4) rfl)
        simpa only [cel3, List.drop_succ_cons, List.drop_zero, List.take_succ_cons, List.take_zero] using q
      obtain ⟨a4, h4⟩ := (reads_int Tryz.underlying3) n _ q4
      rw [val_one Tryz.underlying3 rfl] at h4
      have h4 : c5 = vi a4 := h4; subst h4
      refine ⟨({ Name := a0, Keys := a1, Actions := a2, Default := a3, Size := a4 } : api_Table), ?_⟩
      rw [val_agg Tryz.underlying180 rfl]
      exact ⟨_, _, _, rfl, h1, h2, kd1_3⟩
theorem api_SelectCase.reads192 : ∀ n, Reads Tryz.prog 192 api_SelectCase.t n
  | 0 => fun cs hc => hc.elim
  | n + 1 => fun cs hc => by
    obtain ⟨hl, hf⟩ := reads_struct Tryz.underlying192 hc
    rw [cel192] at hl
    match cs, hl with
    | [c0, c1, c2], _ =>
      have q0 : HasC Tryz.prog n 42 [c0] := by
        have q := hf _ (List.mem_of_getElem? (i := 0) rfl)
        simpa only [cel42, List.drop_succ_cons, List.drop_zero, List.take_succ_cons, List.take_zero] using q
      obtain ⟨a0, h0⟩ := (reads_u32 Tryz.underlying42) n _ q0
      rw [val_one Tryz.underlying42 rfl] at h0
      have h0 : c0 = vu32 a0 := h0; subst h0
      have q1 : HasC Tryz.prog n 42 [c1] := by
        have q := hf _ (List.mem_of_getElem? (i := 1) rfl)
        simpa only [cel42, List.drop_succ_cons, List.drop_zero, List.take_succ_cons, List.take_zero] using q
      obtain ⟨a1, h1⟩ := (reads_u32 Tryz.underlying42) n _ q1
      rw [val_one Tryz.underlying42 rfl] at h1
      have h1 : c1 = vu32 a1 := h1; subst h1
      have q2 : HasC Tryz.prog n 3 [c2] := by
        have q := hf _ (List.mem_of_getElem? (i := 2) rfl)
        simpa only [cel3, List.drop_succ_cons, List.drop_zero, List.take_succ_cons, List.take_zero] using q
      obtain ⟨a2, h2⟩ := (reads_int Tryz.underlying3) n _ q2
      rw [val_one Tryz.underlying3 rfl] at h2
      have h2 : c2 = vi a2 := h2; subst h2
      refine ⟨({ Value := a0, Mask := a1, Next := a2 } : api_SelectCase), ?_⟩
      rw [val_agg Tryz.underlying192 rfl]
      rfl
theorem api_ParserState.reads183 : ∀ n, Reads Tryz.prog 183 api_ParserState.t n
  | 0 => fun cs hc => hc.elim
  | n + 1 => fun cs hc => by
    obtain ⟨hl, hf⟩ := reads_struct Tryz.underlying183 hc
    rw [cel183] at hl
    match cs, hl with
    | [c0, c1, c2, c3, c4, c5, c6], _ =>
      have q0 : HasC Tryz.prog n 9 [c0] := by
        have q := hf _ (List.mem_of_getElem? (i := 0) rfl)
        simpa only [cel9, List.drop_succ_cons, List.drop_zero, List.take_succ_cons, List.take_zero] using q
      obtain ⟨a0, h0⟩ := (reads_string Tryz.underlying9) n _ q0
      rw [val_one Tryz.underlying9 rfl] at h0
      have h0 : c0 = vs a0 := h0; subst h0
      have q1 : HasC Tryz.prog n 29 [c1] := by
        have q := hf _ (List.mem_of_getElem? (i := 1) rfl)
        simpa only [cel29, List.drop_succ_cons, List.drop_zero, List.take_succ_cons, List.take_zero] using q
      obtain ⟨a1, h1⟩ := (reads_slices Tryz.underlying29 (reads_int Tryz.underlying3)) n _ q1
      rw [val_one Tryz.underlying29 rfl] at h1
      have q2 : HasC Tryz.prog n 4 [c2] := by
        have q := hf _ (List.mem_of_getElem? (i := 2) rfl)
        simpa only [cel4, List.drop_succ_cons, List.drop_zero, List.take_succ_cons, List.take_zero] using q
      obtain ⟨a2, h2⟩ := (reads_bool Tryz.underlying4) n _ q2
      rw [val_one Tryz.underlying4 rfl] at h2
      have h2 : c2 = vb a2 := h2; subst h2
      have q3 : HasC Tryz.prog n 65 [c3, c4] := by
        have q := hf _ (List.mem_of_getElem? (i := 3) rfl)
        simpa only [cel65, List.drop_succ_cons, List.drop_zero, List.take_succ_cons, List.take_zero] using q
      obtain ⟨a3, h3⟩ := api_FieldRef.reads65 n _ q3
      rw [val_agg Tryz.underlying65 rfl] at h3
      have e3 : _ = _ := h3
      simp only [PV.agg.injEq, List.cons.injEq, and_true] at e3
      obtain ⟨rfl, rfl⟩ := e3
      have q4 : HasC Tryz.prog n 181 [c5] := by
        have q := hf _ (List.mem_of_getElem? (i := 4) rfl)
        simpa only [cel181, List.drop_succ_cons, List.drop_zero, List.take_succ_cons, List.take_zero] using q
      obtain ⟨a4, h4⟩ := (reads_slices Tryz.underlying181 api_SelectCase.reads192) n _ q4
      rw [val_one Tryz.underlying181 rfl] at h4
      have q5 : HasC Tryz.prog n 3 [c6] := by
        have q := hf _ (List.mem_of_getElem? (i := 5) rfl)
        simpa only [cel3, List.drop_succ_cons, List.drop_zero, List.take_succ_cons, List.take_zero] using q
      obtain ⟨a5, h5⟩ := (reads_int Tryz.underlying3) n _ q5
      rw [val_one Tryz.underlying3 rfl] at h5
      have h5 : c6 = vi a5 := h5; subst h5
      refine ⟨({ Name := a0, Extract := a1, Select := a2, On := a3, Cases := a4, Default := a5 } : api_ParserState), ?_⟩
      rw [val_agg Tryz.underlying183 rfl]
      exact ⟨_, _, rfl, h1, h4⟩
theorem api_ControlNode.reads185 : ∀ n, Reads Tryz.prog 185 api_ControlNode.t n
  | 0 => fun cs hc => hc.elim
  | n + 1 => fun cs hc => by
    obtain ⟨hl, hf⟩ := reads_struct Tryz.underlying185 hc
    rw [cel185] at hl
    match cs, hl with
    | [c0, c1, c2, c3, c4], _ =>
      have q0 : HasC Tryz.prog n 3 [c0] := by
        have q := hf _ (List.mem_of_getElem? (i := 0) rfl)
        simpa only [cel3, List.drop_succ_cons, List.drop_zero, List.take_succ_cons, List.take_zero] using q
      obtain ⟨a0, h0⟩ := (reads_int Tryz.underlying3) n _ q0
      rw [val_one Tryz.underlying3 rfl] at h0
      have h0 : c0 = vi a0 := h0; subst h0
      have q1 : HasC Tryz.prog n 3 [c1] := by
        have q := hf _ (List.mem_of_getElem? (i := 1) rfl)
        simpa only [cel3, List.drop_succ_cons, List.drop_zero, List.take_succ_cons, List.take_zero] using q
      obtain ⟨a1, h1⟩ := (reads_int Tryz.underlying3) n _ q1
      rw [val_one Tryz.underlying3 rfl] at h1
      have h1 : c1 = vi a1 := h1; subst h1
      have q2 : HasC Tryz.prog n 32 [c2] := by
        have q := hf _ (List.mem_of_getElem? (i := 2) rfl)
        simpa only [cel32, List.drop_succ_cons, List.drop_zero, List.take_succ_cons, List.take_zero] using q
      obtain ⟨a2, h2⟩ := (reads_slices Tryz.underlying32 api_ExprNode.reads55) n _ q2
      rw [val_one Tryz.underlying32 rfl] at h2
      have q3 : HasC Tryz.prog n 28 [c3] := by
        have q := hf _ (List.mem_of_getElem? (i := 3) rfl)
        simpa only [cel28, List.drop_succ_cons, List.drop_zero, List.take_succ_cons, List.take_zero] using q
      obtain ⟨a3, h3⟩ : ∃ a, (tSl api_ControlNode.t).R a (valC Tryz.prog 28 [c3]) := by
        cases n with
        | zero => exact q3.elim
        | succ n => exact reads_slice Tryz.underlying28 (api_ControlNode.reads185 n) _ q3
      rw [val_one Tryz.underlying28 rfl] at h3
      have q4 : HasC Tryz.prog n 28 [c4] := by
        have q := hf _ (List.mem_of_getElem? (i := 4) rfl)
        simpa only [cel28, List.drop_succ_cons, List.drop_zero, List.take_succ_cons, List.take_zero] using q
      obtain ⟨a4, h4⟩ : ∃ a, (tSl api_ControlNode.t).R a (valC Tryz.prog 28 [c4]) := by
        cases n with
        | zero => exact q4.elim
        | succ n => exact reads_slice Tryz.underlying28 (api_ControlNode.reads185 n) _ q4
      rw [val_one Tryz.underlying28 rfl] at h4
      refine ⟨({ Kind := a0, Table := a1, Cond := a2, Then := a3, Else := a4 } : api_ControlNode), ?_⟩
      rw [val_agg Tryz.underlying185 rfl]
      show api_ControlNode.R _ _
      simp only [api_ControlNode.R]
      exact ⟨_, _, _, rfl, h2, ⟨⟨h3.1.choose, h3.1.choose_spec.1, by rw [api_ControlNode.Rl_eq]; exact h3.1.choose_spec.2⟩, h3.2⟩, ⟨⟨h4.1.choose, h4.1.choose_spec.1, by rw [api_ControlNode.Rl_eq]; exact h4.1.choose_spec.2⟩, h4.2⟩⟩
theorem api_Program.reads31 : ∀ n, Reads Tryz.prog 31 api_Program.t n
  | 0 => fun cs hc => hc.elim
  | n + 1 => fun cs hc => by
    obtain ⟨hl, hf⟩ := reads_struct Tryz.underlying31 hc
    rw [cel31] at hl
    match cs, hl with
    | [c0, c1, c2, c3, c4, c5, c6, c7, c8], _ =>
      have q0 : HasC Tryz.prog n 9 [c0] := by
        have q := hf _ (List.mem_of_getElem? (i := 0) rfl)
        simpa only [cel9, List.drop_succ_cons, List.drop_zero, List.take_succ_cons, List.take_zero] using q
      obtain ⟨a0, h0⟩ := (reads_string Tryz.underlying9) n _ q0
      rw [val_one Tryz.underlying9 rfl] at h0
      have h0 : c0 = vs a0 := h0; subst h0
      have q1 : HasC Tryz.prog n 22 [c1] := by
        have q := hf _ (List.mem_of_getElem? (i := 1) rfl)
        simpa only [cel22, List.drop_succ_cons, List.drop_zero, List.take_succ_cons, List.take_zero] using q
      obtain ⟨a1, h1⟩ := (reads_slices Tryz.underlying22 api_Header.reads53) n _ q1
      rw [val_one Tryz.underlying22 rfl] at h1
      have q2 : HasC Tryz.prog n 23 [c2] := by
        have q := hf _ (List.mem_of_getElem? (i := 2) rfl)
        simpa only [cel23, List.drop_succ_cons, List.drop_zero, List.take_succ_cons, List.take_zero] using q
      obtain ⟨a2, h2⟩ := (reads_slices Tryz.underlying23 api_Field.reads51) n _ q2
      rw [val_one Tryz.underlying23 rfl] at h2
      have q3 : HasC Tryz.prog n 24 [c3] := by
        have q := hf _ (List.mem_of_getElem? (i := 3) rfl)
        simpa only [cel24, List.drop_succ_cons, List.drop_zero, List.take_succ_cons, List.take_zero] using q
      obtain ⟨a3, h3⟩ := (reads_slices Tryz.underlying24 api_Register.reads172) n _ q3
      rw [val_one Tryz.underlying24 rfl] at h3
      have q4 : HasC Tryz.prog n 25 [c4] := by
        have q := hf _ (List.mem_of_getElem? (i := 4) rfl)
        simpa only [cel25, List.drop_succ_cons, List.drop_zero, List.take_succ_cons, List.take_zero] using q
      obtain ⟨a4, h4⟩ := (reads_slices Tryz.underlying25 api_Action.reads175) n _ q4
      rw [val_one Tryz.underlying25 rfl] at h4
      have q5 : HasC Tryz.prog n 26 [c5] := by
        have q := hf _ (List.mem_of_getElem? (i := 5) rfl)
        simpa only [cel26, List.drop_succ_cons, List.drop_zero, List.take_succ_cons, List.take_zero] using q
      obtain ⟨a5, h5⟩ := (reads_slices Tryz.underlying26 api_Table.reads180) n _ q5
      rw [val_one Tryz.underlying26 rfl] at h5
      have q6 : HasC Tryz.prog n 27 [c6] := by
        have q := hf _ (List.mem_of_getElem? (i := 6) rfl)
        simpa only [cel27, List.drop_succ_cons, List.drop_zero, List.take_succ_cons, List.take_zero] using q
      obtain ⟨a6, h6⟩ := (reads_slices Tryz.underlying27 api_ParserState.reads183) n _ q6
      rw [val_one Tryz.underlying27 rfl] at h6
      have q7 : HasC Tryz.prog n 28 [c7] := by
        have q := hf _ (List.mem_of_getElem? (i := 7) rfl)
        simpa only [cel28, List.drop_succ_cons, List.drop_zero, List.take_succ_cons, List.take_zero] using q
      obtain ⟨a7, h7⟩ := (reads_slices Tryz.underlying28 api_ControlNode.reads185) n _ q7
      rw [val_one Tryz.underlying28 rfl] at h7
      have q8 : HasC Tryz.prog n 29 [c8] := by
        have q := hf _ (List.mem_of_getElem? (i := 8) rfl)
        simpa only [cel29, List.drop_succ_cons, List.drop_zero, List.take_succ_cons, List.take_zero] using q
      obtain ⟨a8, h8⟩ := (reads_slices Tryz.underlying29 (reads_int Tryz.underlying3)) n _ q8
      rw [val_one Tryz.underlying29 rfl] at h8
      refine ⟨({ Name := a0, Headers := a1, Metadata := a2, Registers := a3, Actions := a4, Tables := a5, States := a6, Control := a7, Deparser := a8 } : api_Program), ?_⟩
      rw [val_agg Tryz.underlying31 rfl]
      exact ⟨_, _, _, _, _, _, _, _, rfl, h1, h2, h3, h4, h5, h6, h7, h8⟩
theorem api_Env.reads38 : ∀ n, Reads Tryz.prog 38 api_Env.t n
  | 0 => fun cs hc => hc.elim
  | n + 1 => fun cs hc => by
    obtain ⟨hl, hf⟩ := reads_struct Tryz.underlying38 hc
    rw [cel38] at hl
    match cs, hl with
    | [c0, c1, c2, c3], _ =>
      have q0 : HasC Tryz.prog n 33 [c0] := by
        have q := hf _ (List.mem_of_getElem? (i := 0) rfl)
        simpa only [cel33, List.drop_succ_cons, List.drop_zero, List.take_succ_cons, List.take_zero] using q
      obtain ⟨a0, h0⟩ := (reads_slices Tryz.underlying33 (reads_bool Tryz.underlying4)) n _ q0
      rw [val_one Tryz.underlying33 rfl] at h0
      have q1 : HasC Tryz.prog n 34 [c1] := by
        have q := hf _ (List.mem_of_getElem? (i := 1) rfl)
        simpa only [cel34, List.drop_succ_cons, List.drop_zero, List.take_succ_cons, List.take_zero] using q
      obtain ⟨a1, h1⟩ := (reads_slices Tryz.underlying34 (reads_slices Tryz.underlying35 (reads_u32 Tryz.underlying42))) n _ q1
      rw [val_one Tryz.underlying34 rfl] at h1
      have q2 : HasC Tryz.prog n 35 [c2] := by
        have q := hf _ (List.mem_of_getElem? (i := 2) rfl)
        simpa only [cel35, List.drop_succ_cons, List.drop_zero, List.take_succ_cons, List.take_zero] using q
      obtain ⟨a2, h2⟩ := (reads_slices Tryz.underlying35 (reads_u32 Tryz.underlying42)) n _ q2
      rw [val_one Tryz.underlying35 rfl] at h2
      have q3 : HasC Tryz.prog n 36 [c3] := by
        have q := hf _ (List.mem_of_getElem? (i := 3) rfl)
        simpa only [cel36, List.drop_succ_cons, List.drop_zero, List.take_succ_cons, List.take_zero] using q
      obtain ⟨a3, h3⟩ := (reads_slices Tryz.underlying36 (reads_u8 Tryz.underlying5)) n _ q3
      rw [val_one Tryz.underlying36 rfl] at h3
      refine ⟨({ Valid := a0, Fields := a1, Metd := a2, Payload := a3 } : api_Env), ?_⟩
      rw [val_agg Tryz.underlying38 rfl]
      exact ⟨_, _, _, _, rfl, h0, h1, h2, h3⟩
theorem law13_Args.reads40 : ∀ n, Reads Tryz.prog 40 law13_Args.t n
  | 0 => fun cs hc => hc.elim
  | n + 1 => fun cs hc => by
    obtain ⟨hl, hf⟩ := reads_struct Tryz.underlying40 hc
    rw [cel40] at hl
    match cs, hl with
    | [c0, c1, c2, c3, c4, c5, c6, c7, c8, c9, c10, c11, c12, c13, c14, c15], _ =>
      have q0 : HasC Tryz.prog n 31 [c0, c1, c2, c3, c4, c5, c6, c7, c8] := by
        have q := hf _ (List.mem_of_getElem? (i := 0) rfl)
        simpa only [cel31, List.drop_succ_cons, List.drop_zero, List.take_succ_cons, List.take_zero] using q
      obtain ⟨a0, h0⟩ := api_Program.reads31 n _ q0
      rw [val_agg Tryz.underlying31 rfl] at h0
      obtain ⟨d1_0, d2_0, d3_0, d4_0, d5_0, d6_0, d7_0, d8_0, e0, kd1_0, kd2_0, kd3_0, kd4_0, kd5_0, kd6_0, kd7_0, kd8_0⟩ := h0
      simp only [PV.agg.injEq, List.cons.injEq, and_true] at e0
      obtain ⟨rfl, rfl, rfl, rfl, rfl, rfl, rfl, rfl, rfl⟩ := e0
      have q1 : HasC Tryz.prog n 23 [c9] := by
        have q := hf _ (List.mem_of_getElem? (i := 1) rfl)
        simpa only [cel23, List.drop_succ_cons, List.drop_zero, List.take_succ_cons, List.take_zero] using q
      obtain ⟨a1, h1⟩ := (reads_slices Tryz.underlying23 api_Field.reads51) n _ q1
      rw [val_one Tryz.underlying23 rfl] at h1
      have q2 : HasC Tryz.prog n 32 [c10] := by
        have q := hf _ (List.mem_of_getElem? (i := 2) rfl)
        simpa only [cel32, List.drop_succ_cons, List.drop_zero, List.take_succ_cons, List.take_zero] using q
      obtain ⟨a2, h2⟩ := (reads_slices Tryz.underlying32 api_ExprNode.reads55) n _ q2
      rw [val_one Tryz.underlying32 rfl] at h2
      have q3 : HasC Tryz.prog n 38 [c11, c12, c13, c14] := by
        have q := hf _ (List.mem_of_getElem? (i := 3) rfl)
        simpa only [cel38, List.drop_succ_cons, List.drop_zero, List.take_succ_cons, List.take_zero] using q
      obtain ⟨a3, h3⟩ := api_Env.reads38 n _ q3
      rw [val_agg Tryz.underlying38 rfl] at h3
      obtain ⟨d0_3, d1_3, d2_3, d3_3, e3, kd0_3, kd1_3, kd2_3, kd3_3⟩ := h3
      simp only [PV.agg.injEq, List.cons.injEq, and_true] at e3
      obtain ⟨rfl, rfl, rfl, rfl⟩ := e3
      have q4 : HasC Tryz.prog n 35 [c15] := by
        have q := hf _ (List.mem_of_getElem? (i := 4) rfl)
        simpa only [cel35, List.drop_succ_cons, List.drop_zero, List.take_succ_cons, List.take_zero] using q
      obtain ⟨a4, h4⟩ := (reads_slices Tryz.underlying35 (reads_u32 Tryz.underlying42)) n _ q4
      rw [val_one Tryz.underlying35 rfl] at h4
      refine ⟨({ P := a0, Params := a1, Nodes := a2, E := a3, Args := a4 } : law13_Args), ?_⟩
      rw [val_agg Tryz.underlying40 rfl]
      exact ⟨_, _, _, _, _, _, _, _, _, _, _, _, _, _, _, rfl, kd1_0, kd2_0, kd3_0, kd4_0, kd5_0, kd6_0, kd7_0, kd8_0, h1, h2, kd0_3, kd1_3, kd2_3, kd3_3, h4⟩
theorem arg40 {c : PV} (h : IsArg Tryz.prog 40 c) : ∃ a, law13_Args.t.R a c := isArg_reads law13_Args.reads40 h
end Go.Proofs.YtfekghenlhoamaaGreat
