/-
  What the claims read of their arguments.
-/
import Derived.Test.YtmonnlkagniolaaGreatPbA
import Derived.Test.YtmonnlkagniolaaGreatKTy
set_option linter.unusedVariables false
set_option linter.unusedSimpArgs false
set_option maxRecDepth 100000
namespace Go.Proofs.YtmonnlkagniolaaGreat
open Go Go.Pb Go.RowKit
theorem cel3 : Tryz.prog.cellsOf 3 = 1 := by kernel_rfl
theorem cel4 : Tryz.prog.cellsOf 4 = 1 := by kernel_rfl
theorem cel9 : Tryz.prog.cellsOf 9 = 1 := by kernel_rfl
theorem cel22 : Tryz.prog.cellsOf 22 = 1 := by kernel_rfl
theorem cel23 : Tryz.prog.cellsOf 23 = 1 := by kernel_rfl
theorem cel24 : Tryz.prog.cellsOf 24 = 1 := by kernel_rfl
theorem cel25 : Tryz.prog.cellsOf 25 = 1 := by kernel_rfl
theorem cel26 : Tryz.prog.cellsOf 26 = 1 := by kernel_rfl
theorem cel27 : Tryz.prog.cellsOf 27 = 1 := by kernel_rfl
theorem cel28 : Tryz.prog.cellsOf 28 = 1 := by kernel_rfl
theorem cel29 : Tryz.prog.cellsOf 29 = 1 := by kernel_rfl
theorem cel31 : Tryz.prog.cellsOf 31 = 9 := by kernel_rfl
theorem cel32 : Tryz.prog.cellsOf 32 = 1 := by kernel_rfl
theorem cel41 : Tryz.prog.cellsOf 41 = 1 := by kernel_rfl
theorem cel42 : Tryz.prog.cellsOf 42 = 1 := by kernel_rfl
theorem cel43 : Tryz.prog.cellsOf 43 = 1 := by kernel_rfl
theorem cel44 : Tryz.prog.cellsOf 44 = 1 := by kernel_rfl
theorem cel46 : Tryz.prog.cellsOf 46 = 4 := by kernel_rfl
theorem cel48 : Tryz.prog.cellsOf 48 = 2 := by kernel_rfl
theorem cel57 : Tryz.prog.cellsOf 57 = 1 := by kernel_rfl
theorem cel59 : Tryz.prog.cellsOf 59 = 6 := by kernel_rfl
theorem cel61 : Tryz.prog.cellsOf 61 = 3 := by kernel_rfl
theorem cel82 : Tryz.prog.cellsOf 82 = 16 := by kernel_rfl
theorem cel87 : Tryz.prog.cellsOf 87 = 2 := by kernel_rfl
theorem cel89 : Tryz.prog.cellsOf 89 = 1 := by kernel_rfl
theorem cel92 : Tryz.prog.cellsOf 92 = 2 := by kernel_rfl
theorem cel95 : Tryz.prog.cellsOf 95 = 1 := by kernel_rfl
theorem cel97 : Tryz.prog.cellsOf 97 = 3 := by kernel_rfl
theorem cel108 : Tryz.prog.cellsOf 108 = 1 := by kernel_rfl
theorem cel110 : Tryz.prog.cellsOf 110 = 7 := by kernel_rfl
theorem cel113 : Tryz.prog.cellsOf 113 = 3 := by kernel_rfl
theorem cel126 : Tryz.prog.cellsOf 126 = 3 := by kernel_rfl
theorem cel135 : Tryz.prog.cellsOf 135 = 7 := by kernel_rfl
theorem cel166 : Tryz.prog.cellsOf 166 = 2 := by kernel_rfl
theorem cel180 : Tryz.prog.cellsOf 180 = 5 := by kernel_rfl
theorem cel313 : Tryz.prog.cellsOf 313 = 3 := by kernel_rfl
theorem api_Field.reads166 : ∀ n, Reads Tryz.prog 166 api_Field.t n
  | 0 => fun cs hc => hc.elim
  | n + 1 => fun cs hc => by
    obtain ⟨hl, hf⟩ := reads_struct Tryz.underlying166 hc
    rw [cel166] at hl
    match cs, hl with
    | [c0, c1], _ =>
      obtain ⟨a0, rfl⟩ := rF (reads_string Tryz.underlying9) hf 0 rfl rfl cel9 rfl Tryz.underlying9 rfl
      obtain ⟨a1, rfl⟩ := rF (reads_int Tryz.underlying3) hf 1 rfl rfl cel3 rfl Tryz.underlying3 rfl
      refine ⟨({ Name := a0, Width := a1 } : api_Field), ?_⟩
      rw [val_agg Tryz.underlying166 rfl]
      rfl
theorem api_Header.reads92 : ∀ n, Reads Tryz.prog 92 api_Header.t n
  | 0 => fun cs hc => hc.elim
  | n + 1 => fun cs hc => by
    obtain ⟨hl, hf⟩ := reads_struct Tryz.underlying92 hc
    rw [cel92] at hl
    match cs, hl with
    | [c0, c1], _ =>
      obtain ⟨a0, rfl⟩ := rF (reads_string Tryz.underlying9) hf 0 rfl rfl cel9 rfl Tryz.underlying9 rfl
      obtain ⟨a1, h1⟩ := rF (reads_slices Tryz.underlying23 api_Field.reads166) hf 1 rfl rfl cel23 rfl Tryz.underlying23 rfl
      refine ⟨({ Name := a0, Fields := a1 } : api_Header), ?_⟩
      rw [val_agg Tryz.underlying92 rfl]
      exact ⟨_, rfl, h1⟩
theorem api_Register.reads61 : ∀ n, Reads Tryz.prog 61 api_Register.t n
  | 0 => fun cs hc => hc.elim
  | n + 1 => fun cs hc => by
    obtain ⟨hl, hf⟩ := reads_struct Tryz.underlying61 hc
    rw [cel61] at hl
    match cs, hl with
    | [c0, c1, c2], _ =>
      obtain ⟨a0, rfl⟩ := rF (reads_string Tryz.underlying9) hf 0 rfl rfl cel9 rfl Tryz.underlying9 rfl
      obtain ⟨a1, rfl⟩ := rF (reads_int Tryz.underlying3) hf 1 rfl rfl cel3 rfl Tryz.underlying3 rfl
      obtain ⟨a2, rfl⟩ := rF (reads_int Tryz.underlying3) hf 2 rfl rfl cel3 rfl Tryz.underlying3 rfl
      refine ⟨({ Name := a0, Width := a1, Size := a2 } : api_Register), ?_⟩
      rw [val_agg Tryz.underlying61 rfl]
      rfl
theorem api_FieldRef.reads87 : ∀ n, Reads Tryz.prog 87 api_FieldRef.t n
  | 0 => fun cs hc => hc.elim
  | n + 1 => fun cs hc => by
    obtain ⟨hl, hf⟩ := reads_struct Tryz.underlying87 hc
    rw [cel87] at hl
    match cs, hl with
    | [c0, c1], _ =>
      obtain ⟨a0, rfl⟩ := rF (reads_int Tryz.underlying3) hf 0 rfl rfl cel3 rfl Tryz.underlying3 rfl
      obtain ⟨a1, rfl⟩ := rF (reads_int Tryz.underlying3) hf 1 rfl rfl cel3 rfl Tryz.underlying3 rfl
      refine ⟨({ Header := a0, Field := a1 } : api_FieldRef), ?_⟩
      rw [val_agg Tryz.underlying87 rfl]
      rfl
theorem api_ExprNode.reads113 : ∀ n, Reads Tryz.prog 113 api_ExprNode.t n
  | 0 => fun cs hc => hc.elim
  | n + 1 => fun cs hc => by
    obtain ⟨hl, hf⟩ := reads_struct Tryz.underlying113 hc
    rw [cel113] at hl
    match cs, hl with
    | [c0, c1, c2], _ =>
      obtain ⟨a0, rfl⟩ := rF (reads_int Tryz.underlying3) hf 0 rfl rfl cel3 rfl Tryz.underlying3 rfl
      obtain ⟨a1, rfl⟩ := rF (reads_int Tryz.underlying3) hf 1 rfl rfl cel3 rfl Tryz.underlying3 rfl
      obtain ⟨a2, rfl⟩ := rF (reads_int Tryz.underlying3) hf 2 rfl rfl cel3 rfl Tryz.underlying3 rfl
      refine ⟨({ Op := a0, N := a1, W := a2 } : api_ExprNode), ?_⟩
      rw [val_agg Tryz.underlying113 rfl]
      rfl
theorem api_Statement.reads135 : ∀ n, Reads Tryz.prog 135 api_Statement.t n
  | 0 => fun cs hc => hc.elim
  | n + 1 => fun cs hc => by
    obtain ⟨hl, hf⟩ := reads_struct Tryz.underlying135 hc
    rw [cel135] at hl
    match cs, hl with
    | [c0, c1, c2, c3, c4, c5, c6], _ =>
      obtain ⟨a0, rfl⟩ := rF (reads_int Tryz.underlying3) hf 0 rfl rfl cel3 rfl Tryz.underlying3 rfl
      have q1 : HasC Tryz.prog n 87 [c1, c2] := by
        have q := hf _ (List.mem_of_getElem? (i := 1) rfl)
        simpa only [cel87, List.drop_succ_cons, List.drop_zero, List.take_succ_cons, List.take_zero] using q
      obtain ⟨a1, h1⟩ := api_FieldRef.reads87 n _ q1
      rw [val_agg Tryz.underlying87 rfl] at h1
      have e1 : _ = _ := h1
      simp only [PV.agg.injEq, List.cons.injEq, and_true] at e1
      obtain ⟨rfl, rfl⟩ := e1
      obtain ⟨a2, rfl⟩ := rF (reads_int Tryz.underlying3) hf 2 rfl rfl cel3 rfl Tryz.underlying3 rfl
      obtain ⟨a3, rfl⟩ := rF (reads_int Tryz.underlying3) hf 3 rfl rfl cel3 rfl Tryz.underlying3 rfl
      obtain ⟨a4, h4⟩ := rF (reads_slices Tryz.underlying32 api_ExprNode.reads113) hf 4 rfl rfl cel32 rfl Tryz.underlying32 rfl
      obtain ⟨a5, h5⟩ := rF (reads_slices Tryz.underlying32 api_ExprNode.reads113) hf 5 rfl rfl cel32 rfl Tryz.underlying32 rfl
      refine ⟨({ Kind := a0, Dst := a1, Register := a2, Header := a3, Index := a4, Value := a5 } : api_Statement), ?_⟩
      rw [val_agg Tryz.underlying135 rfl]
      exact ⟨_, _, rfl, h4, h5⟩
theorem api_Action.reads97 : ∀ n, Reads Tryz.prog 97 api_Action.t n
  | 0 => fun cs hc => hc.elim
  | n + 1 => fun cs hc => by
    obtain ⟨hl, hf⟩ := reads_struct Tryz.underlying97 hc
    rw [cel97] at hl
    match cs, hl with
    | [c0, c1, c2], _ =>
      obtain ⟨a0, rfl⟩ := rF (reads_string Tryz.underlying9) hf 0 rfl rfl cel9 rfl Tryz.underlying9 rfl
      obtain ⟨a1, h1⟩ := rF (reads_slices Tryz.underlying23 api_Field.reads166) hf 1 rfl rfl cel23 rfl Tryz.underlying23 rfl
      obtain ⟨a2, h2⟩ := rF (reads_slices Tryz.underlying95 api_Statement.reads135) hf 2 rfl rfl cel95 rfl Tryz.underlying95 rfl
      refine ⟨({ Name := a0, Params := a1, Body := a2 } : api_Action), ?_⟩
      rw [val_agg Tryz.underlying97 rfl]
      exact ⟨_, _, rfl, h1, h2⟩
theorem api_TableKey.reads126 : ∀ n, Reads Tryz.prog 126 api_TableKey.t n
  | 0 => fun cs hc => hc.elim
  | n + 1 => fun cs hc => by
    obtain ⟨hl, hf⟩ := reads_struct Tryz.underlying126 hc
    rw [cel126] at hl
    match cs, hl with
    | [c0, c1, c2], _ =>
      have q0 : HasC Tryz.prog n 87 [c0, c1] := by
        have q := hf _ (List.mem_of_getElem? (i := 0) rfl)
        simpa only [cel87, List.drop_succ_cons, List.drop_zero, List.take_succ_cons, List.take_zero] using q
      obtain ⟨a0, h0⟩ := api_FieldRef.reads87 n _ q0
      rw [val_agg Tryz.underlying87 rfl] at h0
      have e0 : _ = _ := h0
      simp only [PV.agg.injEq, List.cons.injEq, and_true] at e0
      obtain ⟨rfl, rfl⟩ := e0
      obtain ⟨a1, rfl⟩ := rF (reads_int Tryz.underlying3) hf 1 rfl rfl cel3 rfl Tryz.underlying3 rfl
      refine ⟨({ Field := a0, Kind := a1 } : api_TableKey), ?_⟩
      rw [val_agg Tryz.underlying126 rfl]
      rfl
theorem api_ActionCall.reads48 : ∀ n, Reads Tryz.prog 48 api_ActionCall.t n
  | 0 => fun cs hc => hc.elim
  | n + 1 => fun cs hc => by
    obtain ⟨hl, hf⟩ := reads_struct Tryz.underlying48 hc
    rw [cel48] at hl
    match cs, hl with
    | [c0, c1], _ =>
      obtain ⟨a0, rfl⟩ := rF (reads_int Tryz.underlying3) hf 0 rfl rfl cel3 rfl Tryz.underlying3 rfl
      obtain ⟨a1, h1⟩ := rF (reads_slices Tryz.underlying43 (reads_u32 Tryz.underlying89)) hf 1 rfl rfl cel43 rfl Tryz.underlying43 rfl
      refine ⟨({ Action := a0, Args := a1 } : api_ActionCall), ?_⟩
      rw [val_agg Tryz.underlying48 rfl]
      exact ⟨_, rfl, h1⟩
theorem api_Table.reads59 : ∀ n, Reads Tryz.prog 59 api_Table.t n
  | 0 => fun cs hc => hc.elim
  | n + 1 => fun cs hc => by
    obtain ⟨hl, hf⟩ := reads_struct Tryz.underlying59 hc
    rw [cel59] at hl
    match cs, hl with
    | [c0, c1, c2, c3, c4, c5], _ =>
      obtain ⟨a0, rfl⟩ := rF (reads_string Tryz.underlying9) hf 0 rfl rfl cel9 rfl Tryz.underlying9 rfl
      obtain ⟨a1, h1⟩ := rF (reads_slices Tryz.underlying57 api_TableKey.reads126) hf 1 rfl rfl cel57 rfl Tryz.underlying57 rfl
      obtain ⟨a2, h2⟩ := rF (reads_slices Tryz.underlying29 (reads_int Tryz.underlying3)) hf 2 rfl rfl cel29 rfl Tryz.underlying29 rfl
      have q3 : HasC Tryz.prog n 48 [c3, c4] := by
        have q := hf _ (List.mem_of_getElem? (i := 3) rfl)
        simpa only [cel48, List.drop_succ_cons, List.drop_zero, List.take_succ_cons, List.take_zero] using q
      obtain ⟨a3, h3⟩ := api_ActionCall.reads48 n _ q3
      rw [val_agg Tryz.underlying48 rfl] at h3
      obtain ⟨d1_3, e3, kd1_3⟩ := h3
      simp only [PV.agg.injEq, List.cons.injEq, and_true] at e3
      obtain ⟨rfl, rfl⟩ := e3
      obtain ⟨a4, rfl⟩ := rF (reads_int Tryz.underlying3) hf 4 rfl rfl cel3 rfl Tryz.underlying3 rfl
      refine ⟨({ Name := a0, Keys := a1, Actions := a2, Default := a3, Size := a4 } : api_Table), ?_⟩
      rw [val_agg Tryz.underlying59 rfl]
      exact ⟨_, _, _, rfl, h1, h2, kd1_3⟩
theorem api_SelectCase.reads313 : ∀ n, Reads Tryz.prog 313 api_SelectCase.t n
  | 0 => fun cs hc => hc.elim
  | n + 1 => fun cs hc => by
    obtain ⟨hl, hf⟩ := reads_struct Tryz.underlying313 hc
    rw [cel313] at hl
    match cs, hl with
    | [c0, c1, c2], _ =>
      obtain ⟨a0, rfl⟩ := rF (reads_u32 Tryz.underlying89) hf 0 rfl rfl cel89 rfl Tryz.underlying89 rfl
      obtain ⟨a1, rfl⟩ := rF (reads_u32 Tryz.underlying89) hf 1 rfl rfl cel89 rfl Tryz.underlying89 rfl
      obtain ⟨a2, rfl⟩ := rF (reads_int Tryz.underlying3) hf 2 rfl rfl cel3 rfl Tryz.underlying3 rfl
      refine ⟨({ Value := a0, Mask := a1, Next := a2 } : api_SelectCase), ?_⟩
      rw [val_agg Tryz.underlying313 rfl]
      rfl
theorem api_ParserState.reads110 : ∀ n, Reads Tryz.prog 110 api_ParserState.t n
  | 0 => fun cs hc => hc.elim
  | n + 1 => fun cs hc => by
    obtain ⟨hl, hf⟩ := reads_struct Tryz.underlying110 hc
    rw [cel110] at hl
    match cs, hl with
    | [c0, c1, c2, c3, c4, c5, c6], _ =>
      obtain ⟨a0, rfl⟩ := rF (reads_string Tryz.underlying9) hf 0 rfl rfl cel9 rfl Tryz.underlying9 rfl
      obtain ⟨a1, h1⟩ := rF (reads_slices Tryz.underlying29 (reads_int Tryz.underlying3)) hf 1 rfl rfl cel29 rfl Tryz.underlying29 rfl
      obtain ⟨a2, rfl⟩ := rF (reads_bool Tryz.underlying4) hf 2 rfl rfl cel4 rfl Tryz.underlying4 rfl
      have q3 : HasC Tryz.prog n 87 [c3, c4] := by
        have q := hf _ (List.mem_of_getElem? (i := 3) rfl)
        simpa only [cel87, List.drop_succ_cons, List.drop_zero, List.take_succ_cons, List.take_zero] using q
      obtain ⟨a3, h3⟩ := api_FieldRef.reads87 n _ q3
      rw [val_agg Tryz.underlying87 rfl] at h3
      have e3 : _ = _ := h3
      simp only [PV.agg.injEq, List.cons.injEq, and_true] at e3
      obtain ⟨rfl, rfl⟩ := e3
      obtain ⟨a4, h4⟩ := rF (reads_slices Tryz.underlying108 api_SelectCase.reads313) hf 4 rfl rfl cel108 rfl Tryz.underlying108 rfl
      obtain ⟨a5, rfl⟩ := rF (reads_int Tryz.underlying3) hf 5 rfl rfl cel3 rfl Tryz.underlying3 rfl
      refine ⟨({ Name := a0, Extract := a1, Select := a2, On := a3, Cases := a4, Default := a5 } : api_ParserState), ?_⟩
      rw [val_agg Tryz.underlying110 rfl]
      exact ⟨_, _, rfl, h1, h4⟩
theorem api_ControlNode.reads180 : ∀ n, Reads Tryz.prog 180 api_ControlNode.t n
  | 0 => fun cs hc => hc.elim
  | n + 1 => fun cs hc => by
    obtain ⟨hl, hf⟩ := reads_struct Tryz.underlying180 hc
    rw [cel180] at hl
    match cs, hl with
    | [c0, c1, c2, c3, c4], _ =>
      obtain ⟨a0, rfl⟩ := rF (reads_int Tryz.underlying3) hf 0 rfl rfl cel3 rfl Tryz.underlying3 rfl
      obtain ⟨a1, rfl⟩ := rF (reads_int Tryz.underlying3) hf 1 rfl rfl cel3 rfl Tryz.underlying3 rfl
      obtain ⟨a2, h2⟩ := rF (reads_slices Tryz.underlying32 api_ExprNode.reads113) hf 2 rfl rfl cel32 rfl Tryz.underlying32 rfl
      have q3 : HasC Tryz.prog n 28 [c3] := by
        have q := hf _ (List.mem_of_getElem? (i := 3) rfl)
        simpa only [cel28, List.drop_succ_cons, List.drop_zero, List.take_succ_cons, List.take_zero] using q
      obtain ⟨a3, h3⟩ : ∃ a, (tSl api_ControlNode.t).R a (valC Tryz.prog 28 [c3]) := by
        cases n with
        | zero => exact q3.elim
        | succ n => exact reads_slice Tryz.underlying28 (api_ControlNode.reads180 n) _ q3
      rw [val_one Tryz.underlying28 rfl] at h3
      have q4 : HasC Tryz.prog n 28 [c4] := by
        have q := hf _ (List.mem_of_getElem? (i := 4) rfl)
        simpa only [cel28, List.drop_succ_cons, List.drop_zero, List.take_succ_cons, List.take_zero] using q
      obtain ⟨a4, h4⟩ : ∃ a, (tSl api_ControlNode.t).R a (valC Tryz.prog 28 [c4]) := by
        cases n with
        | zero => exact q4.elim
        | succ n => exact reads_slice Tryz.underlying28 (api_ControlNode.reads180 n) _ q4
      rw [val_one Tryz.underlying28 rfl] at h4
      refine ⟨({ Kind := a0, Table := a1, Cond := a2, Then := a3, Else := a4 } : api_ControlNode), ?_⟩
      rw [val_agg Tryz.underlying180 rfl]
      show api_ControlNode.R _ _
      simp only [api_ControlNode.R]
      exact ⟨_, _, _, rfl, h2, ⟨⟨h3.1.choose, h3.1.choose_spec.1, by rw [api_ControlNode.Rl_eq]; exact h3.1.choose_spec.2⟩, h3.2⟩, ⟨⟨h4.1.choose, h4.1.choose_spec.1, by rw [api_ControlNode.Rl_eq]; exact h4.1.choose_spec.2⟩, h4.2⟩⟩
theorem api_Program.reads31 : ∀ n, Reads Tryz.prog 31 api_Program.t n
  | 0 => fun cs hc => hc.elim
  | n + 1 => fun cs hc => by
    obtain ⟨hl, hf⟩ := reads_struct Tryz.underlying31 hc
    rw [cel31] at hl
    match cs, hl with
    | [c0, c1, c2, c3, c4, c5, c6, c7, c8], _ =>
      obtain ⟨a0, rfl⟩ := rF (reads_string Tryz.underlying9) hf 0 rfl rfl cel9 rfl Tryz.underlying9 rfl
      obtain ⟨a1, h1⟩ := rF (reads_slices Tryz.underlying22 api_Header.reads92) hf 1 rfl rfl cel22 rfl Tryz.underlying22 rfl
      obtain ⟨a2, h2⟩ := rF (reads_slices Tryz.underlying23 api_Field.reads166) hf 2 rfl rfl cel23 rfl Tryz.underlying23 rfl
      obtain ⟨a3, h3⟩ := rF (reads_slices Tryz.underlying24 api_Register.reads61) hf 3 rfl rfl cel24 rfl Tryz.underlying24 rfl
      obtain ⟨a4, h4⟩ := rF (reads_slices Tryz.underlying25 api_Action.reads97) hf 4 rfl rfl cel25 rfl Tryz.underlying25 rfl
      obtain ⟨a5, h5⟩ := rF (reads_slices Tryz.underlying26 api_Table.reads59) hf 5 rfl rfl cel26 rfl Tryz.underlying26 rfl
      obtain ⟨a6, h6⟩ := rF (reads_slices Tryz.underlying27 api_ParserState.reads110) hf 6 rfl rfl cel27 rfl Tryz.underlying27 rfl
      obtain ⟨a7, h7⟩ := rF (reads_slices Tryz.underlying28 api_ControlNode.reads180) hf 7 rfl rfl cel28 rfl Tryz.underlying28 rfl
      obtain ⟨a8, h8⟩ := rF (reads_slices Tryz.underlying29 (reads_int Tryz.underlying3)) hf 8 rfl rfl cel29 rfl Tryz.underlying29 rfl
      refine ⟨({ Name := a0, Headers := a1, Metadata := a2, Registers := a3, Actions := a4, Tables := a5, States := a6, Control := a7, Deparser := a8 } : api_Program), ?_⟩
      rw [val_agg Tryz.underlying31 rfl]
      exact ⟨_, _, _, _, _, _, _, _, rfl, h1, h2, h3, h4, h5, h6, h7, h8⟩
theorem api_Env.reads46 : ∀ n, Reads Tryz.prog 46 api_Env.t n
  | 0 => fun cs hc => hc.elim
  | n + 1 => fun cs hc => by
    obtain ⟨hl, hf⟩ := reads_struct Tryz.underlying46 hc
    rw [cel46] at hl
    match cs, hl with
    | [c0, c1, c2, c3], _ =>
      obtain ⟨a0, h0⟩ := rF (reads_slices Tryz.underlying41 (reads_bool Tryz.underlying4)) hf 0 rfl rfl cel41 rfl Tryz.underlying41 rfl
      obtain ⟨a1, h1⟩ := rF (reads_slices Tryz.underlying42 (reads_slices Tryz.underlying43 (reads_u32 Tryz.underlying89))) hf 1 rfl rfl cel42 rfl Tryz.underlying42 rfl
      obtain ⟨a2, h2⟩ := rF (reads_slices Tryz.underlying43 (reads_u32 Tryz.underlying89)) hf 2 rfl rfl cel43 rfl Tryz.underlying43 rfl
      obtain ⟨a3, h3⟩ := rF (reads_slices Tryz.underlying44 (reads_u8 Tryz.underlying5)) hf 3 rfl rfl cel44 rfl Tryz.underlying44 rfl
      refine ⟨({ Valid := a0, Fields := a1, Metd := a2, Payload := a3 } : api_Env), ?_⟩
      rw [val_agg Tryz.underlying46 rfl]
      exact ⟨_, _, _, _, rfl, h0, h1, h2, h3⟩
theorem law16_Case.reads82 : ∀ n, Reads Tryz.prog 82 law16_Case.t n
  | 0 => fun cs hc => hc.elim
  | n + 1 => fun cs hc => by
    obtain ⟨hl, hf⟩ := reads_struct Tryz.underlying82 hc
    rw [cel82] at hl
    match cs, hl with
    | [c0, c1, c2, c3, c4, c5, c6, c7, c8, c9, c10, c11, c12, c13, c14, c15], _ =>
      have q0 : HasC Tryz.prog n 31 [c0, c1, c2, c3, c4, c5, c6, c7, c8] := by
        have q := hf _ (List.mem_of_getElem? (i := 0) rfl)
        simpa only [cel31, List.drop_succ_cons, List.drop_zero, List.take_succ_cons, List.take_zero] using q
      obtain ⟨a0, h0⟩ := api_Program.reads31 n _ q0
      rw [val_agg Tryz.underlying31 rfl] at h0
      obtain ⟨d1_0, d2_0, d3_0, d4_0, d5_0, d6_0, d7_0, d8_0, e0, kd1_0, kd2_0, kd3_0, kd4_0, kd5_0, kd6_0, kd7_0, kd8_0⟩ := h0
      simp only [PV.agg.injEq, List.cons.injEq, and_true] at e0
      obtain ⟨rfl, rfl, rfl, rfl, rfl, rfl, rfl, rfl, rfl⟩ := e0
      have q1 : HasC Tryz.prog n 48 [c9, c10] := by
        have q := hf _ (List.mem_of_getElem? (i := 1) rfl)
        simpa only [cel48, List.drop_succ_cons, List.drop_zero, List.take_succ_cons, List.take_zero] using q
      obtain ⟨a1, h1⟩ := api_ActionCall.reads48 n _ q1
      rw [val_agg Tryz.underlying48 rfl] at h1
      obtain ⟨d1_1, e1, kd1_1⟩ := h1
      simp only [PV.agg.injEq, List.cons.injEq, and_true] at e1
      obtain ⟨rfl, rfl⟩ := e1
      have q2 : HasC Tryz.prog n 46 [c11, c12, c13, c14] := by
        have q := hf _ (List.mem_of_getElem? (i := 2) rfl)
        simpa only [cel46, List.drop_succ_cons, List.drop_zero, List.take_succ_cons, List.take_zero] using q
      obtain ⟨a2, h2⟩ := api_Env.reads46 n _ q2
      rw [val_agg Tryz.underlying46 rfl] at h2
      obtain ⟨d0_2, d1_2, d2_2, d3_2, e2, kd0_2, kd1_2, kd2_2, kd3_2⟩ := h2
      simp only [PV.agg.injEq, List.cons.injEq, and_true] at e2
      obtain ⟨rfl, rfl, rfl, rfl⟩ := e2
      obtain ⟨a3, h3⟩ := rF (reads_slices Tryz.underlying42 (reads_slices Tryz.underlying43 (reads_u32 Tryz.underlying89))) hf 3 rfl rfl cel42 rfl Tryz.underlying42 rfl
      refine ⟨({ P := a0, Call := a1, E := a2, Regs := a3 } : law16_Case), ?_⟩
      rw [val_agg Tryz.underlying82 rfl]
      exact ⟨_, _, _, _, _, _, _, _, _, _, _, _, _, _, rfl, kd1_0, kd2_0, kd3_0, kd4_0, kd5_0, kd6_0, kd7_0, kd8_0, kd1_1, kd0_2, kd1_2, kd2_2, kd3_2, h3⟩
theorem arg82 {c : PV} (h : IsArg Tryz.prog 82 c) : ∃ a, law16_Case.t.R a c := isArg_reads law16_Case.reads82 h
end Go.Proofs.YtmonnlkagniolaaGreat
