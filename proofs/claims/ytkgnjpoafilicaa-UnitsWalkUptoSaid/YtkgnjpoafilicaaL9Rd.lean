/-
  What the claims read of their arguments.
-/
import Derived.Test.YtkgnjpoafilicaaPbA
import Derived.Test.YtkgnjpoafilicaaKTy
set_option linter.unusedVariables false
set_option linter.unusedSimpArgs false
set_option maxRecDepth 100000
namespace Go.Proofs.Ytkgnjpoafilicaa
open Go Go.Pb Go.RowKit
theorem cel3 : Try.prog.cellsOf 3 = 1 := by kernel_rfl
theorem cel4 : Try.prog.cellsOf 4 = 1 := by kernel_rfl
theorem cel9 : Try.prog.cellsOf 9 = 1 := by kernel_rfl
theorem cel22 : Try.prog.cellsOf 22 = 1 := by kernel_rfl
theorem cel23 : Try.prog.cellsOf 23 = 1 := by kernel_rfl
theorem cel24 : Try.prog.cellsOf 24 = 1 := by kernel_rfl
theorem cel25 : Try.prog.cellsOf 25 = 1 := by kernel_rfl
theorem cel26 : Try.prog.cellsOf 26 = 1 := by kernel_rfl
theorem cel27 : Try.prog.cellsOf 27 = 1 := by kernel_rfl
theorem cel28 : Try.prog.cellsOf 28 = 1 := by kernel_rfl
theorem cel29 : Try.prog.cellsOf 29 = 1 := by kernel_rfl
theorem cel31 : Try.prog.cellsOf 31 = 9 := by kernel_rfl
theorem cel38 : Try.prog.cellsOf 38 = 1 := by kernel_rfl
theorem cel40 : Try.prog.cellsOf 40 = 5 := by kernel_rfl
theorem cel75 : Try.prog.cellsOf 75 = 2 := by kernel_rfl
theorem cel77 : Try.prog.cellsOf 77 = 3 := by kernel_rfl
theorem cel79 : Try.prog.cellsOf 79 = 1 := by kernel_rfl
theorem cel81 : Try.prog.cellsOf 81 = 3 := by kernel_rfl
theorem cel82 : Try.prog.cellsOf 82 = 1 := by kernel_rfl
theorem cel83 : Try.prog.cellsOf 83 = 1 := by kernel_rfl
theorem cel85 : Try.prog.cellsOf 85 = 2 := by kernel_rfl
theorem cel87 : Try.prog.cellsOf 87 = 6 := by kernel_rfl
theorem cel89 : Try.prog.cellsOf 89 = 2 := by kernel_rfl
theorem cel90 : Try.prog.cellsOf 90 = 1 := by kernel_rfl
theorem cel92 : Try.prog.cellsOf 92 = 7 := by kernel_rfl
theorem cel106 : Try.prog.cellsOf 106 = 3 := by kernel_rfl
theorem cel115 : Try.prog.cellsOf 115 = 2 := by kernel_rfl
theorem cel117 : Try.prog.cellsOf 117 = 7 := by kernel_rfl
theorem cel147 : Try.prog.cellsOf 147 = 1 := by kernel_rfl
theorem cel172 : Try.prog.cellsOf 172 = 3 := by kernel_rfl
theorem cel174 : Try.prog.cellsOf 174 = 3 := by kernel_rfl
theorem api_Field.reads115 : ∀ n, Reads Try.prog 115 api_Field.t n
  | 0 => fun cs hc => hc.elim
  | n + 1 => fun cs hc => by
    obtain ⟨hl, hf⟩ := reads_struct Try.underlying115 hc
    rw [cel115] at hl
    match cs, hl with
    | [c0, c1], _ =>
      obtain ⟨a0, rfl⟩ := rF (reads_string Try.underlying9) hf 0 rfl rfl cel9 rfl Try.underlying9 rfl
      obtain ⟨a1, rfl⟩ := rF (reads_int Try.underlying3) hf 1 rfl rfl cel3 rfl Try.underlying3 rfl
      refine ⟨({ Name := a0, Width := a1 } : api_Field), ?_⟩
      rw [val_agg Try.underlying115 rfl]
      rfl
theorem api_Header.reads75 : ∀ n, Reads Try.prog 75 api_Header.t n
  | 0 => fun cs hc => hc.elim
  | n + 1 => fun cs hc => by
    obtain ⟨hl, hf⟩ := reads_struct Try.underlying75 hc
    rw [cel75] at hl
    match cs, hl with
    | [c0, c1], _ =>
      obtain ⟨a0, rfl⟩ := rF (reads_string Try.underlying9) hf 0 rfl rfl cel9 rfl Try.underlying9 rfl
      obtain ⟨a1, h1⟩ := rF (reads_slices Try.underlying23 api_Field.reads115) hf 1 rfl rfl cel23 rfl Try.underlying23 rfl
      refine ⟨({ Name := a0, Fields := a1 } : api_Header), ?_⟩
      rw [val_agg Try.underlying75 rfl]
      exact ⟨_, rfl, h1⟩
theorem api_Register.reads77 : ∀ n, Reads Try.prog 77 api_Register.t n
  | 0 => fun cs hc => hc.elim
  | n + 1 => fun cs hc => by
    obtain ⟨hl, hf⟩ := reads_struct Try.underlying77 hc
    rw [cel77] at hl
    match cs, hl with
    | [c0, c1, c2], _ =>
      obtain ⟨a0, rfl⟩ := rF (reads_string Try.underlying9) hf 0 rfl rfl cel9 rfl Try.underlying9 rfl
      obtain ⟨a1, rfl⟩ := rF (reads_int Try.underlying3) hf 1 rfl rfl cel3 rfl Try.underlying3 rfl
      obtain ⟨a2, rfl⟩ := rF (reads_int Try.underlying3) hf 2 rfl rfl cel3 rfl Try.underlying3 rfl
      refine ⟨({ Name := a0, Width := a1, Size := a2 } : api_Register), ?_⟩
      rw [val_agg Try.underlying77 rfl]
      rfl
theorem api_FieldRef.reads89 : ∀ n, Reads Try.prog 89 api_FieldRef.t n
  | 0 => fun cs hc => hc.elim
  | n + 1 => fun cs hc => by
    obtain ⟨hl, hf⟩ := reads_struct Try.underlying89 hc
    rw [cel89] at hl
    match cs, hl with
    | [c0, c1], _ =>
      obtain ⟨a0, rfl⟩ := rF (reads_int Try.underlying3) hf 0 rfl rfl cel3 rfl Try.underlying3 rfl
      obtain ⟨a1, rfl⟩ := rF (reads_int Try.underlying3) hf 1 rfl rfl cel3 rfl Try.underlying3 rfl
      refine ⟨({ Header := a0, Field := a1 } : api_FieldRef), ?_⟩
      rw [val_agg Try.underlying89 rfl]
      rfl
theorem api_ExprNode.reads106 : ∀ n, Reads Try.prog 106 api_ExprNode.t n
  | 0 => fun cs hc => hc.elim
  | n + 1 => fun cs hc => by
    obtain ⟨hl, hf⟩ := reads_struct Try.underlying106 hc
    rw [cel106] at hl
    match cs, hl with
    | [c0, c1, c2], _ =>
      obtain ⟨a0, rfl⟩ := rF (reads_int Try.underlying3) hf 0 rfl rfl cel3 rfl Try.underlying3 rfl
      obtain ⟨a1, rfl⟩ := rF (reads_int Try.underlying3) hf 1 rfl rfl cel3 rfl Try.underlying3 rfl
      obtain ⟨a2, rfl⟩ := rF (reads_int Try.underlying3) hf 2 rfl rfl cel3 rfl Try.underlying3 rfl
      refine ⟨({ Op := a0, N := a1, W := a2 } : api_ExprNode), ?_⟩
      rw [val_agg Try.underlying106 rfl]
      rfl
theorem api_Statement.reads117 : ∀ n, Reads Try.prog 117 api_Statement.t n
  | 0 => fun cs hc => hc.elim
  | n + 1 => fun cs hc => by
    obtain ⟨hl, hf⟩ := reads_struct Try.underlying117 hc
    rw [cel117] at hl
    match cs, hl with
    | [c0, c1, c2, c3, c4, c5, c6], _ =>
      obtain ⟨a0, rfl⟩ := rF (reads_int Try.underlying3) hf 0 rfl rfl cel3 rfl Try.underlying3 rfl
      have q1 : HasC Try.prog n 89 [c1, c2] := by
        have q := hf _ (List.mem_of_getElem? (i := 1) rfl)
        simpa only [cel89, List.drop_succ_cons, List.drop_zero, List.take_succ_cons, List.take_zero] using q
      obtain ⟨a1, h1⟩ := api_FieldRef.reads89 n _ q1
      rw [val_agg Try.underlying89 rfl] at h1
      have e1 : _ = _ := h1
      simp only [PV.agg.injEq, List.cons.injEq, and_true] at e1
      obtain ⟨rfl, rfl⟩ := e1
      obtain ⟨a2, rfl⟩ := rF (reads_int Try.underlying3) hf 2 rfl rfl cel3 rfl Try.underlying3 rfl
      obtain ⟨a3, rfl⟩ := rF (reads_int Try.underlying3) hf 3 rfl rfl cel3 rfl Try.underlying3 rfl
      obtain ⟨a4, h4⟩ := rF (reads_slices Try.underlying38 api_ExprNode.reads106) hf 4 rfl rfl cel38 rfl Try.underlying38 rfl
      obtain ⟨a5, h5⟩ := rF (reads_slices Try.underlying38 api_ExprNode.reads106) hf 5 rfl rfl cel38 rfl Try.underlying38 rfl
      refine ⟨({ Kind := a0, Dst := a1, Register := a2, Header := a3, Index := a4, Value := a5 } : api_Statement), ?_⟩
      rw [val_agg Try.underlying117 rfl]
      exact ⟨_, _, rfl, h4, h5⟩
theorem api_Action.reads81 : ∀ n, Reads Try.prog 81 api_Action.t n
  | 0 => fun cs hc => hc.elim
  | n + 1 => fun cs hc => by
    obtain ⟨hl, hf⟩ := reads_struct Try.underlying81 hc
    rw [cel81] at hl
    match cs, hl with
    | [c0, c1, c2], _ =>
      obtain ⟨a0, rfl⟩ := rF (reads_string Try.underlying9) hf 0 rfl rfl cel9 rfl Try.underlying9 rfl
      obtain ⟨a1, h1⟩ := rF (reads_slices Try.underlying23 api_Field.reads115) hf 1 rfl rfl cel23 rfl Try.underlying23 rfl
      obtain ⟨a2, h2⟩ := rF (reads_slices Try.underlying79 api_Statement.reads117) hf 2 rfl rfl cel79 rfl Try.underlying79 rfl
      refine ⟨({ Name := a0, Params := a1, Body := a2 } : api_Action), ?_⟩
      rw [val_agg Try.underlying81 rfl]
      exact ⟨_, _, rfl, h1, h2⟩
theorem api_TableKey.reads172 : ∀ n, Reads Try.prog 172 api_TableKey.t n
  | 0 => fun cs hc => hc.elim
  | n + 1 => fun cs hc => by
    obtain ⟨hl, hf⟩ := reads_struct Try.underlying172 hc
    rw [cel172] at hl
    match cs, hl with
    | [c0, c1, c2], _ =>
      have q0 : HasC Try.prog n 89 [c0, c1] := by
        have q := hf _ (List.mem_of_getElem? (i := 0) rfl)
        simpa only [cel89, List.drop_succ_cons, List.drop_zero, List.take_succ_cons, List.take_zero] using q
      obtain ⟨a0, h0⟩ := api_FieldRef.reads89 n _ q0
      rw [val_agg Try.underlying89 rfl] at h0
      have e0 : _ = _ := h0
      simp only [PV.agg.injEq, List.cons.injEq, and_true] at e0
      obtain ⟨rfl, rfl⟩ := e0
      obtain ⟨a1, rfl⟩ := rF (reads_int Try.underlying3) hf 1 rfl rfl cel3 rfl Try.underlying3 rfl
      refine ⟨({ Field := a0, Kind := a1 } : api_TableKey), ?_⟩
      rw [val_agg Try.underlying172 rfl]
      rfl
theorem api_ActionCall.reads85 : ∀ n, Reads Try.prog 85 api_ActionCall.t n
  | 0 => fun cs hc => hc.elim
  | n + 1 => fun cs hc => by
    obtain ⟨hl, hf⟩ := reads_struct Try.underlying85 hc
    rw [cel85] at hl
    match cs, hl with
    | [c0, c1], _ =>
      obtain ⟨a0, rfl⟩ := rF (reads_int Try.underlying3) hf 0 rfl rfl cel3 rfl Try.underlying3 rfl
      obtain ⟨a1, h1⟩ := rF (reads_slices Try.underlying83 (reads_u32 Try.underlying147)) hf 1 rfl rfl cel83 rfl Try.underlying83 rfl
      refine ⟨({ Action := a0, Args := a1 } : api_ActionCall), ?_⟩
      rw [val_agg Try.underlying85 rfl]
      exact ⟨_, rfl, h1⟩
theorem api_Table.reads87 : ∀ n, Reads Try.prog 87 api_Table.t n
  | 0 => fun cs hc => hc.elim
  | n + 1 => fun cs hc => by
    obtain ⟨hl, hf⟩ := reads_struct Try.underlying87 hc
    rw [cel87] at hl
    match cs, hl with
    | [c0, c1, c2, c3, c4, c5], _ =>
      obtain ⟨a0, rfl⟩ := rF (reads_string Try.underlying9) hf 0 rfl rfl cel9 rfl Try.underlying9 rfl
      obtain ⟨a1, h1⟩ := rF (reads_slices Try.underlying82 api_TableKey.reads172) hf 1 rfl rfl cel82 rfl Try.underlying82 rfl
      obtain ⟨a2, h2⟩ := rF (reads_slices Try.underlying29 (reads_int Try.underlying3)) hf 2 rfl rfl cel29 rfl Try.underlying29 rfl
      have q3 : HasC Try.prog n 85 [c3, c4] := by
        have q := hf _ (List.mem_of_getElem? (i := 3) rfl)
        simpa only [cel85, List.drop_succ_cons, List.drop_zero, List.take_succ_cons, List.take_zero] using q
      obtain ⟨a3, h3⟩ := api_ActionCall.reads85 n _ q3
      rw [val_agg Try.underlying85 rfl] at h3
      obtain ⟨d1_3, e3, kd1_3⟩ := h3
      simp only [PV.agg.injEq, List.cons.injEq, and_true] at e3
      obtain ⟨rfl, rfl⟩ := e3
      obtain ⟨a4, rfl⟩ := rF (reads_int Try.underlying3) hf 4 rfl rfl cel3 rfl Try.underlying3 rfl
      refine ⟨({ Name := a0, Keys := a1, Actions := a2, Default := a3, Size := a4 } : api_Table), ?_⟩
      rw [val_agg Try.underlying87 rfl]
      exact ⟨_, _, _, rfl, h1, h2, kd1_3⟩
theorem api_SelectCase.reads174 : ∀ n, Reads Try.prog 174 api_SelectCase.t n
  | 0 => fun cs hc => hc.elim
  | n + 1 => fun cs hc => by
    obtain ⟨hl, hf⟩ := reads_struct Try.underlying174 hc
    rw [cel174] at hl
    match cs, hl with
    | [c0, c1, c2], _ =>
      obtain ⟨a0, rfl⟩ := rF (reads_u32 Try.underlying147) hf 0 rfl rfl cel147 rfl Try.underlying147 rfl
      obtain ⟨a1, rfl⟩ := rF (reads_u32 Try.underlying147) hf 1 rfl rfl cel147 rfl Try.underlying147 rfl
      obtain ⟨a2, rfl⟩ := rF (reads_int Try.underlying3) hf 2 rfl rfl cel3 rfl Try.underlying3 rfl
      refine ⟨({ Value := a0, Mask := a1, Next := a2 } : api_SelectCase), ?_⟩
      rw [val_agg Try.underlying174 rfl]
      rfl
theorem api_ParserState.reads92 : ∀ n, Reads Try.prog 92 api_ParserState.t n
  | 0 => fun cs hc => hc.elim
  | n + 1 => fun cs hc => by
    obtain ⟨hl, hf⟩ := reads_struct Try.underlying92 hc
    rw [cel92] at hl
    match cs, hl with
    | [c0, c1, c2, c3, c4, c5, c6], _ =>
      obtain ⟨a0, rfl⟩ := rF (reads_string Try.underlying9) hf 0 rfl rfl cel9 rfl Try.underlying9 rfl
      obtain ⟨a1, h1⟩ := rF (reads_slices Try.underlying29 (reads_int Try.underlying3)) hf 1 rfl rfl cel29 rfl Try.underlying29 rfl
      obtain ⟨a2, rfl⟩ := rF (reads_bool Try.underlying4) hf 2 rfl rfl cel4 rfl Try.underlying4 rfl
      have q3 : HasC Try.prog n 89 [c3, c4] := by
        have q := hf _ (List.mem_of_getElem? (i := 3) rfl)
        simpa only [cel89, List.drop_succ_cons, List.drop_zero, List.take_succ_cons, List.take_zero] using q
      obtain ⟨a3, h3⟩ := api_FieldRef.reads89 n _ q3
      rw [val_agg Try.underlying89 rfl] at h3
      have e3 : _ = _ := h3
      simp only [PV.agg.injEq, List.cons.injEq, and_true] at e3
      obtain ⟨rfl, rfl⟩ := e3
      obtain ⟨a4, h4⟩ := rF (reads_slices Try.underlying90 api_SelectCase.reads174) hf 4 rfl rfl cel90 rfl Try.underlying90 rfl
      obtain ⟨a5, rfl⟩ := rF (reads_int Try.underlying3) hf 5 rfl rfl cel3 rfl Try.underlying3 rfl
      refine ⟨({ Name := a0, Extract := a1, Select := a2, On := a3, Cases := a4, Default := a5 } : api_ParserState), ?_⟩
      rw [val_agg Try.underlying92 rfl]
      exact ⟨_, _, rfl, h1, h4⟩
theorem api_ControlNode.reads40 : ∀ n, Reads Try.prog 40 api_ControlNode.t n
  | 0 => fun cs hc => hc.elim
  | n + 1 => fun cs hc => by
    obtain ⟨hl, hf⟩ := reads_struct Try.underlying40 hc
    rw [cel40] at hl
    match cs, hl with
    | [c0, c1, c2, c3, c4], _ =>
      obtain ⟨a0, rfl⟩ := rF (reads_int Try.underlying3) hf 0 rfl rfl cel3 rfl Try.underlying3 rfl
      obtain ⟨a1, rfl⟩ := rF (reads_int Try.underlying3) hf 1 rfl rfl cel3 rfl Try.underlying3 rfl
      obtain ⟨a2, h2⟩ := rF (reads_slices Try.underlying38 api_ExprNode.reads106) hf 2 rfl rfl cel38 rfl Try.underlying38 rfl
      have q3 : HasC Try.prog n 28 [c3] := by
        have q := hf _ (List.mem_of_getElem? (i := 3) rfl)
        simpa only [cel28, List.drop_succ_cons, List.drop_zero, List.take_succ_cons, List.take_zero] using q
      obtain ⟨a3, h3⟩ : ∃ a, (tSl api_ControlNode.t).R a (valC Try.prog 28 [c3]) := by
        cases n with
        | zero => exact q3.elim
        | succ n => exact reads_slice Try.underlying28 (api_ControlNode.reads40 n) _ q3
      rw [val_one Try.underlying28 rfl] at h3
      have q4 : HasC Try.prog n 28 [c4] := by
        have q := hf _ (List.mem_of_getElem? (i := 4) rfl)
        simpa only [cel28, List.drop_succ_cons, List.drop_zero, List.take_succ_cons, List.take_zero] using q
      obtain ⟨a4, h4⟩ : ∃ a, (tSl api_ControlNode.t).R a (valC Try.prog 28 [c4]) := by
        cases n with
        | zero => exact q4.elim
        | succ n => exact reads_slice Try.underlying28 (api_ControlNode.reads40 n) _ q4
      rw [val_one Try.underlying28 rfl] at h4
      refine ⟨({ Kind := a0, Table := a1, Cond := a2, Then := a3, Else := a4 } : api_ControlNode), ?_⟩
      rw [val_agg Try.underlying40 rfl]
      show api_ControlNode.R _ _
      simp only [api_ControlNode.R]
      exact ⟨_, _, _, rfl, h2, ⟨⟨h3.1.choose, h3.1.choose_spec.1, by rw [api_ControlNode.Rl_eq]; exact h3.1.choose_spec.2⟩, h3.2⟩, ⟨⟨h4.1.choose, h4.1.choose_spec.1, by rw [api_ControlNode.Rl_eq]; exact h4.1.choose_spec.2⟩, h4.2⟩⟩
theorem api_Program.reads31 : ∀ n, Reads Try.prog 31 api_Program.t n
  | 0 => fun cs hc => hc.elim
  | n + 1 => fun cs hc => by
    obtain ⟨hl, hf⟩ := reads_struct Try.underlying31 hc
    rw [cel31] at hl
    match cs, hl with
    | [c0, c1, c2, c3, c4, c5, c6, c7, c8], _ =>
      obtain ⟨a0, rfl⟩ := rF (reads_string Try.underlying9) hf 0 rfl rfl cel9 rfl Try.underlying9 rfl
      obtain ⟨a1, h1⟩ := rF (reads_slices Try.underlying22 api_Header.reads75) hf 1 rfl rfl cel22 rfl Try.underlying22 rfl
      obtain ⟨a2, h2⟩ := rF (reads_slices Try.underlying23 api_Field.reads115) hf 2 rfl rfl cel23 rfl Try.underlying23 rfl
      obtain ⟨a3, h3⟩ := rF (reads_slices Try.underlying24 api_Register.reads77) hf 3 rfl rfl cel24 rfl Try.underlying24 rfl
      obtain ⟨a4, h4⟩ := rF (reads_slices Try.underlying25 api_Action.reads81) hf 4 rfl rfl cel25 rfl Try.underlying25 rfl
      obtain ⟨a5, h5⟩ := rF (reads_slices Try.underlying26 api_Table.reads87) hf 5 rfl rfl cel26 rfl Try.underlying26 rfl
      obtain ⟨a6, h6⟩ := rF (reads_slices Try.underlying27 api_ParserState.reads92) hf 6 rfl rfl cel27 rfl Try.underlying27 rfl
      obtain ⟨a7, h7⟩ := rF (reads_slices Try.underlying28 api_ControlNode.reads40) hf 7 rfl rfl cel28 rfl Try.underlying28 rfl
      obtain ⟨a8, h8⟩ := rF (reads_slices Try.underlying29 (reads_int Try.underlying3)) hf 8 rfl rfl cel29 rfl Try.underlying29 rfl
      refine ⟨({ Name := a0, Headers := a1, Metadata := a2, Registers := a3, Actions := a4, Tables := a5, States := a6, Control := a7, Deparser := a8 } : api_Program), ?_⟩
      rw [val_agg Try.underlying31 rfl]
      exact ⟨_, _, _, _, _, _, _, _, rfl, h1, h2, h3, h4, h5, h6, h7, h8⟩
theorem arg31 {c : PV} (h : IsArg Try.prog 31 c) : ∃ a, api_Program.t.R a c := isArg_reads api_Program.reads31 h
theorem arg50 {c : PV} (h : IsArg Try.prog 50 c) : ∃ a, (tSl tB).R a c := isArg_reads (reads_slices Try.underlying50 (reads_bool Try.underlying4)) h
end Go.Proofs.Ytkgnjpoafilicaa
