/-
  What the claims read of their arguments.
-/
import Derived.Test.YthdnpgpnodgicaaGreatPbA
import Derived.Test.YthdnpgpnodgicaaGreatKTy
set_option linter.unusedVariables false
set_option linter.unusedSimpArgs false
set_option maxRecDepth 100000
namespace Go.Proofs.YthdnpgpnodgicaaGreat
open Go Go.Pb Go.RowKit
theorem cel3 : Tryz.prog.cellsOf 3 = 1 := by kernel_rfl
theorem cel4 : Tryz.prog.cellsOf 4 = 1 := by kernel_rfl
theorem cel9 : Tryz.prog.cellsOf 9 = 1 := by kernel_rfl
theorem cel22 : Tryz.prog.cellsOf 22 = 1 := by kernel_rfl
theorem cel23 : Tryz.prog.cellsOf 23 = 1 := by kernel_rfl
theorem cel24 : Tryz.prog.cellsOf 24 = 1 := by kernel_rfl
theorem cel25 : Tryz.prog.cellsOf 25 = 1 := by kernel_rfl
theorem cel26 : Tryz.prog.cellsOf 26 = 1 := by kernel_rfl
theorem cel27 : Tryz.prog.cellsOf 27 = 1 := by kernel_rfl
theorem cel28 : Tryz.prog.cellsOf 28 = 1 := by kernel_rfl
theorem cel29 : Tryz.prog.cellsOf 29 = 1 := by kernel_rfl
theorem cel31 : Tryz.prog.cellsOf 31 = 9 := by kernel_rfl
theorem cel32 : Tryz.prog.cellsOf 32 = 1 := by kernel_rfl
theorem cel33 : Tryz.prog.cellsOf 33 = 1 := by kernel_rfl
theorem cel35 : Tryz.prog.cellsOf 35 = 12 := by kernel_rfl
theorem cel38 : Tryz.prog.cellsOf 38 = 1 := by kernel_rfl
theorem cel40 : Tryz.prog.cellsOf 40 = 2 := by kernel_rfl
theorem cel42 : Tryz.prog.cellsOf 42 = 4 := by kernel_rfl
theorem cel44 : Tryz.prog.cellsOf 44 = 5 := by kernel_rfl
theorem cel64 : Tryz.prog.cellsOf 64 = 1 := by kernel_rfl
theorem cel85 : Tryz.prog.cellsOf 85 = 1 := by kernel_rfl
theorem cel87 : Tryz.prog.cellsOf 87 = 6 := by kernel_rfl
theorem cel110 : Tryz.prog.cellsOf 110 = 2 := by kernel_rfl
theorem cel112 : Tryz.prog.cellsOf 112 = 3 := by kernel_rfl
theorem cel116 : Tryz.prog.cellsOf 116 = 2 := by kernel_rfl
theorem cel118 : Tryz.prog.cellsOf 118 = 1 := by kernel_rfl
theorem cel120 : Tryz.prog.cellsOf 120 = 3 := by kernel_rfl
theorem cel122 : Tryz.prog.cellsOf 122 = 1 := by kernel_rfl
theorem cel124 : Tryz.prog.cellsOf 124 = 7 := by kernel_rfl
theorem cel127 : Tryz.prog.cellsOf 127 = 2 := by kernel_rfl
theorem cel162 : Tryz.prog.cellsOf 162 = 2 := by kernel_rfl
theorem cel163 : Tryz.prog.cellsOf 163 = 1 := by kernel_rfl
theorem cel165 : Tryz.prog.cellsOf 165 = 5 := by kernel_rfl
theorem cel167 : Tryz.prog.cellsOf 167 = 7 := by kernel_rfl
theorem cel219 : Tryz.prog.cellsOf 219 = 3 := by kernel_rfl
theorem cel221 : Tryz.prog.cellsOf 221 = 3 := by kernel_rfl
theorem cel223 : Tryz.prog.cellsOf 223 = 3 := by kernel_rfl
theorem api_Field.reads162 : ∀ n, Reads Tryz.prog 162 api_Field.t n
  | 0 => fun cs hc => hc.elim
  | n + 1 => fun cs hc => by
    obtain ⟨hl, hf⟩ := reads_struct Tryz.underlying162 hc
    rw [cel162] at hl
    match cs, hl with
    | [c0, c1], _ =>
      obtain ⟨a0, rfl⟩ := rF (reads_string Tryz.underlying9) hf 0 rfl rfl cel9 rfl Tryz.underlying9 rfl
      obtain ⟨a1, rfl⟩ := rF (reads_int Tryz.underlying3) hf 1 rfl rfl cel3 rfl Tryz.underlying3 rfl
      refine ⟨({ Name := a0, Width := a1 } : api_Field), ?_⟩
      rw [val_agg Tryz.underlying162 rfl]
      rfl
theorem api_Header.reads116 : ∀ n, Reads Tryz.prog 116 api_Header.t n
  | 0 => fun cs hc => hc.elim
  | n + 1 => fun cs hc => by
    obtain ⟨hl, hf⟩ := reads_struct Tryz.underlying116 hc
    rw [cel116] at hl
    match cs, hl with
    | [c0, c1], _ =>
      obtain ⟨a0, rfl⟩ := rF (reads_string Tryz.underlying9) hf 0 rfl rfl cel9 rfl Tryz.underlying9 rfl
      obtain ⟨a1, h1⟩ := rF (reads_slices Tryz.underlying23 api_Field.reads162) hf 1 rfl rfl cel23 rfl Tryz.underlying23 rfl
      refine ⟨({ Name := a0, Fields := a1 } : api_Header), ?_⟩
      rw [val_agg Tryz.underlying116 rfl]
      exact ⟨_, rfl, h1⟩
theorem api_Register.reads219 : ∀ n, Reads Tryz.prog 219 api_Register.t n
  | 0 => fun cs hc => hc.elim
  | n + 1 => fun cs hc => by
    obtain ⟨hl, hf⟩ := reads_struct Tryz.underlying219 hc
    rw [cel219] at hl
    match cs, hl with
    | [c0, c1, c2], _ =>
      obtain ⟨a0, rfl⟩ := rF (reads_string Tryz.underlying9) hf 0 rfl rfl cel9 rfl Tryz.underlying9 rfl
      obtain ⟨a1, rfl⟩ := rF (reads_int Tryz.underlying3) hf 1 rfl rfl cel3 rfl Tryz.underlying3 rfl
      obtain ⟨a2, rfl⟩ := rF (reads_int Tryz.underlying3) hf 2 rfl rfl cel3 rfl Tryz.underlying3 rfl
      refine ⟨({ Name := a0, Width := a1, Size := a2 } : api_Register), ?_⟩
      rw [val_agg Tryz.underlying219 rfl]
      rfl
theorem api_FieldRef.reads110 : ∀ n, Reads Tryz.prog 110 api_FieldRef.t n
  | 0 => fun cs hc => hc.elim
  | n + 1 => fun cs hc => by
    obtain ⟨hl, hf⟩ := reads_struct Tryz.underlying110 hc
    rw [cel110] at hl
    match cs, hl with
    | [c0, c1], _ =>
      obtain ⟨a0, rfl⟩ := rF (reads_int Tryz.underlying3) hf 0 rfl rfl cel3 rfl Tryz.underlying3 rfl
      obtain ⟨a1, rfl⟩ := rF (reads_int Tryz.underlying3) hf 1 rfl rfl cel3 rfl Tryz.underlying3 rfl
      refine ⟨({ Header := a0, Field := a1 } : api_FieldRef), ?_⟩
      rw [val_agg Tryz.underlying110 rfl]
      rfl
theorem api_ExprNode.reads223 : ∀ n, Reads Tryz.prog 223 api_ExprNode.t n
  | 0 => fun cs hc => hc.elim
  | n + 1 => fun cs hc => by
    obtain ⟨hl, hf⟩ := reads_struct Tryz.underlying223 hc
    rw [cel223] at hl
    match cs, hl with
    | [c0, c1, c2], _ =>
      obtain ⟨a0, rfl⟩ := rF (reads_int Tryz.underlying3) hf 0 rfl rfl cel3 rfl Tryz.underlying3 rfl
      obtain ⟨a1, rfl⟩ := rF (reads_int Tryz.underlying3) hf 1 rfl rfl cel3 rfl Tryz.underlying3 rfl
      obtain ⟨a2, rfl⟩ := rF (reads_int Tryz.underlying3) hf 2 rfl rfl cel3 rfl Tryz.underlying3 rfl
      refine ⟨({ Op := a0, N := a1, W := a2 } : api_ExprNode), ?_⟩
      rw [val_agg Tryz.underlying223 rfl]
      rfl
theorem api_Statement.reads167 : ∀ n, Reads Tryz.prog 167 api_Statement.t n
  | 0 => fun cs hc => hc.elim
  | n + 1 => fun cs hc => by
    obtain ⟨hl, hf⟩ := reads_struct Tryz.underlying167 hc
    rw [cel167] at hl
    match cs, hl with
    | [c0, c1, c2, c3, c4, c5, c6], _ =>
      obtain ⟨a0, rfl⟩ := rF (reads_int Tryz.underlying3) hf 0 rfl rfl cel3 rfl Tryz.underlying3 rfl
      have q1 : HasC Tryz.prog n 110 [c1, c2] := by
        have q := hf _ (List.mem_of_getElem? (i := 1) rfl)
        simpa only [cel110, List.drop_succ_cons, List.drop_zero, List.take_succ_cons, List.take_zero] using q
      obtain ⟨a1, h1⟩ := api_FieldRef.reads110 n _ q1
      rw [val_agg Tryz.underlying110 rfl] at h1
      have e1 : _ = _ := h1
      simp only [PV.agg.injEq, List.cons.injEq, and_true] at e1
      obtain ⟨rfl, rfl⟩ := e1
      obtain ⟨a2, rfl⟩ := rF (reads_int Tryz.underlying3) hf 2 rfl rfl cel3 rfl Tryz.underlying3 rfl
      obtain ⟨a3, rfl⟩ := rF (reads_int Tryz.underlying3) hf 3 rfl rfl cel3 rfl Tryz.underlying3 rfl
      obtain ⟨a4, h4⟩ := rF (reads_slices Tryz.underlying163 api_ExprNode.reads223) hf 4 rfl rfl cel163 rfl Tryz.underlying163 rfl
      obtain ⟨a5, h5⟩ := rF (reads_slices Tryz.underlying163 api_ExprNode.reads223) hf 5 rfl rfl cel163 rfl Tryz.underlying163 rfl
      refine ⟨({ Kind := a0, Dst := a1, Register := a2, Header := a3, Index := a4, Value := a5 } : api_Statement), ?_⟩
      rw [val_agg Tryz.underlying167 rfl]
      exact ⟨_, _, rfl, h4, h5⟩
theorem api_Action.reads120 : ∀ n, Reads Tryz.prog 120 api_Action.t n
  | 0 => fun cs hc => hc.elim
  | n + 1 => fun cs hc => by
    obtain ⟨hl, hf⟩ := reads_struct Tryz.underlying120 hc
    rw [cel120] at hl
    match cs, hl with
    | [c0, c1, c2], _ =>
      obtain ⟨a0, rfl⟩ := rF (reads_string Tryz.underlying9) hf 0 rfl rfl cel9 rfl Tryz.underlying9 rfl
      obtain ⟨a1, h1⟩ := rF (reads_slices Tryz.underlying23 api_Field.reads162) hf 1 rfl rfl cel23 rfl Tryz.underlying23 rfl
      obtain ⟨a2, h2⟩ := rF (reads_slices Tryz.underlying118 api_Statement.reads167) hf 2 rfl rfl cel118 rfl Tryz.underlying118 rfl
      refine ⟨({ Name := a0, Params := a1, Body := a2 } : api_Action), ?_⟩
      rw [val_agg Tryz.underlying120 rfl]
      exact ⟨_, _, rfl, h1, h2⟩
theorem api_TableKey.reads112 : ∀ n, Reads Tryz.prog 112 api_TableKey.t n
  | 0 => fun cs hc => hc.elim
  | n + 1 => fun cs hc => by
    obtain ⟨hl, hf⟩ := reads_struct Tryz.underlying112 hc
    rw [cel112] at hl
    match cs, hl with
    | [c0, c1, c2], _ =>
      have q0 : HasC Tryz.prog n 110 [c0, c1] := by
        have q := hf _ (List.mem_of_getElem? (i := 0) rfl)
        simpa only [cel110, List.drop_succ_cons, List.drop_zero, List.take_succ_cons, List.take_zero] using q
      obtain ⟨a0, h0⟩ := api_FieldRef.reads110 n _ q0
      rw [val_agg Tryz.underlying110 rfl] at h0
      have e0 : _ = _ := h0
      simp only [PV.agg.injEq, List.cons.injEq, and_true] at e0
      obtain ⟨rfl, rfl⟩ := e0
      obtain ⟨a1, rfl⟩ := rF (reads_int Tryz.underlying3) hf 1 rfl rfl cel3 rfl Tryz.underlying3 rfl
      refine ⟨({ Field := a0, Kind := a1 } : api_TableKey), ?_⟩
      rw [val_agg Tryz.underlying112 rfl]
      rfl
theorem api_ActionCall.reads40 : ∀ n, Reads Tryz.prog 40 api_ActionCall.t n
  | 0 => fun cs hc => hc.elim
  | n + 1 => fun cs hc => by
    obtain ⟨hl, hf⟩ := reads_struct Tryz.underlying40 hc
    rw [cel40] at hl
    match cs, hl with
    | [c0, c1], _ =>
      obtain ⟨a0, rfl⟩ := rF (reads_int Tryz.underlying3) hf 0 rfl rfl cel3 rfl Tryz.underlying3 rfl
      obtain ⟨a1, h1⟩ := rF (reads_slices Tryz.underlying33 (reads_u32 Tryz.underlying64)) hf 1 rfl rfl cel33 rfl Tryz.underlying33 rfl
      refine ⟨({ Action := a0, Args := a1 } : api_ActionCall), ?_⟩
      rw [val_agg Tryz.underlying40 rfl]
      exact ⟨_, rfl, h1⟩
theorem api_Table.reads87 : ∀ n, Reads Tryz.prog 87 api_Table.t n
  | 0 => fun cs hc => hc.elim
  | n + 1 => fun cs hc => by
    obtain ⟨hl, hf⟩ := reads_struct Tryz.underlying87 hc
    rw [cel87] at hl
    match cs, hl with
    | [c0, c1, c2, c3, c4, c5], _ =>
      obtain ⟨a0, rfl⟩ := rF (reads_string Tryz.underlying9) hf 0 rfl rfl cel9 rfl Tryz.underlying9 rfl
      obtain ⟨a1, h1⟩ := rF (reads_slices Tryz.underlying85 api_TableKey.reads112) hf 1 rfl rfl cel85 rfl Tryz.underlying85 rfl
      obtain ⟨a2, h2⟩ := rF (reads_slices Tryz.underlying29 (reads_int Tryz.underlying3)) hf 2 rfl rfl cel29 rfl Tryz.underlying29 rfl
      have q3 : HasC Tryz.prog n 40 [c3, c4] := by
        have q := hf _ (List.mem_of_getElem? (i := 3) rfl)
        simpa only [cel40, List.drop_succ_cons, List.drop_zero, List.take_succ_cons, List.take_zero] using q
      obtain ⟨a3, h3⟩ := api_ActionCall.reads40 n _ q3
      rw [val_agg Tryz.underlying40 rfl] at h3
      obtain ⟨d1_3, e3, kd1_3⟩ := h3
      simp only [PV.agg.injEq, List.cons.injEq, and_true] at e3
      obtain ⟨rfl, rfl⟩ := e3
      obtain ⟨a4, rfl⟩ := rF (reads_int Tryz.underlying3) hf 4 rfl rfl cel3 rfl Tryz.underlying3 rfl
      refine ⟨({ Name := a0, Keys := a1, Actions := a2, Default := a3, Size := a4 } : api_Table), ?_⟩
      rw [val_agg Tryz.underlying87 rfl]
      exact ⟨_, _, _, rfl, h1, h2, kd1_3⟩
theorem api_SelectCase.reads221 : ∀ n, Reads Tryz.prog 221 api_SelectCase.t n
  | 0 => fun cs hc => hc.elim
  | n + 1 => fun cs hc => by
    obtain ⟨hl, hf⟩ := reads_struct Tryz.underlying221 hc
    rw [cel221] at hl
    match cs, hl with
    | [c0, c1, c2], _ =>
      obtain ⟨a0, rfl⟩ := rF (reads_u32 Tryz.underlying64) hf 0 rfl rfl cel64 rfl Tryz.underlying64 rfl
      obtain ⟨a1, rfl⟩ := rF (reads_u32 Tryz.underlying64) hf 1 rfl rfl cel64 rfl Tryz.underlying64 rfl
      obtain ⟨a2, rfl⟩ := rF (reads_int Tryz.underlying3) hf 2 rfl rfl cel3 rfl Tryz.underlying3 rfl
      refine ⟨({ Value := a0, Mask := a1, Next := a2 } : api_SelectCase), ?_⟩
      rw [val_agg Tryz.underlying221 rfl]
      rfl
theorem api_ParserState.reads124 : ∀ n, Reads Tryz.prog 124 api_ParserState.t n
  | 0 => fun cs hc => hc.elim
  | n + 1 => fun cs hc => by
    obtain ⟨hl, hf⟩ := reads_struct Tryz.underlying124 hc
    rw [cel124] at hl
    match cs, hl with
    | [c0, c1, c2, c3, c4, c5, c6], _ =>
      obtain ⟨a0, rfl⟩ := rF (reads_string Tryz.underlying9) hf 0 rfl rfl cel9 rfl Tryz.underlying9 rfl
      obtain ⟨a1, h1⟩ := rF (reads_slices Tryz.underlying29 (reads_int Tryz.underlying3)) hf 1 rfl rfl cel29 rfl Tryz.underlying29 rfl
      obtain ⟨a2, rfl⟩ := rF (reads_bool Tryz.underlying4) hf 2 rfl rfl cel4 rfl Tryz.underlying4 rfl
      have q3 : HasC Tryz.prog n 110 [c3, c4] := by
        have q := hf _ (List.mem_of_getElem? (i := 3) rfl)
        simpa only [cel110, List.drop_succ_cons, List.drop_zero, List.take_succ_cons, List.take_zero] using q
      obtain ⟨a3, h3⟩ := api_FieldRef.reads110 n _ q3
      rw [val_agg Tryz.underlying110 rfl] at h3
      have e3 : _ = _ := h3
      simp only [PV.agg.injEq, List.cons.injEq, and_true] at e3
      obtain ⟨rfl, rfl⟩ := e3
      obtain ⟨a4, h4⟩ := rF (reads_slices Tryz.underlying122 api_SelectCase.reads221) hf 4 rfl rfl cel122 rfl Tryz.underlying122 rfl
      obtain ⟨a5, rfl⟩ := rF (reads_int Tryz.underlying3) hf 5 rfl rfl cel3 rfl Tryz.underlying3 rfl
      refine ⟨({ Name := a0, Extract := a1, Select := a2, On := a3, Cases := a4, Default := a5 } : api_ParserState), ?_⟩
      rw [val_agg Tryz.underlying124 rfl]
      exact ⟨_, _, rfl, h1, h4⟩
theorem api_ControlNode.reads165 : ∀ n, Reads Tryz.prog 165 api_ControlNode.t n
  | 0 => fun cs hc => hc.elim
  | n + 1 => fun cs hc => by
    obtain ⟨hl, hf⟩ := reads_struct Tryz.underlying165 hc
    rw [cel165] at hl
    match cs, hl with
    | [c0, c1, c2, c3, c4], _ =>
      obtain ⟨a0, rfl⟩ := rF (reads_int Tryz.underlying3) hf 0 rfl rfl cel3 rfl Tryz.underlying3 rfl
      obtain ⟨a1, rfl⟩ := rF (reads_int Tryz.underlying3) hf 1 rfl rfl cel3 rfl Tryz.underlying3 rfl
      obtain ⟨a2, h2⟩ := rF (reads_slices Tryz.underlying163 api_ExprNode.reads223) hf 2 rfl rfl cel163 rfl Tryz.underlying163 rfl
      have q3 : HasC Tryz.prog n 28 [c3] := by
        have q := hf _ (List.mem_of_getElem? (i := 3) rfl)
        simpa only [cel28, List.drop_succ_cons, List.drop_zero, List.take_succ_cons, List.take_zero] using q
      obtain ⟨a3, h3⟩ : ∃ a, (tSl api_ControlNode.t).R a (valC Tryz.prog 28 [c3]) := by
        cases n with
        | zero => exact q3.elim
        | succ n => exact reads_slice Tryz.underlying28 (api_ControlNode.reads165 n) _ q3
      rw [val_one Tryz.underlying28 rfl] at h3
      have q4 : HasC Tryz.prog n 28 [c4] := by
        have q := hf _ (List.mem_of_getElem? (i := 4) rfl)
        simpa only [cel28, List.drop_succ_cons, List.drop_zero, List.take_succ_cons, List.take_zero] using q
      obtain ⟨a4, h4⟩ : ∃ a, (tSl api_ControlNode.t).R a (valC Tryz.prog 28 [c4]) := by
        cases n with
        | zero => exact q4.elim
        | succ n => exact reads_slice Tryz.underlying28 (api_ControlNode.reads165 n) _ q4
      rw [val_one Tryz.underlying28 rfl] at h4
      refine ⟨({ Kind := a0, Table := a1, Cond := a2, Then := a3, Else := a4 } : api_ControlNode), ?_⟩
      rw [val_agg Tryz.underlying165 rfl]
      show api_ControlNode.R _ _
      simp only [api_ControlNode.R]
      exact ⟨_, _, _, rfl, h2, ⟨⟨h3.1.choose, h3.1.choose_spec.1, by rw [api_ControlNode.Rl_eq]; exact h3.1.choose_spec.2⟩, h3.2⟩, ⟨⟨h4.1.choose, h4.1.choose_spec.1, by rw [api_ControlNode.Rl_eq]; exact h4.1.choose_spec.2⟩, h4.2⟩⟩
theorem api_Program.reads31 : ∀ n, Reads Tryz.prog 31 api_Program.t n
  | 0 => fun cs hc => hc.elim
  | n + 1 => fun cs hc => by
    obtain ⟨hl, hf⟩ := reads_struct Tryz.underlying31 hc
    rw [cel31] at hl
    match cs, hl with
    | [c0, c1, c2, c3, c4, c5, c6, c7, c8], _ =>
      obtain ⟨a0, rfl⟩ := rF (reads_string Tryz.underlying9) hf 0 rfl rfl cel9 rfl Tryz.underlying9 rfl
      obtain ⟨a1, h1⟩ := rF (reads_slices Tryz.underlying22 api_Header.reads116) hf 1 rfl rfl cel22 rfl Tryz.underlying22 rfl
      obtain ⟨a2, h2⟩ := rF (reads_slices Tryz.underlying23 api_Field.reads162) hf 2 rfl rfl cel23 rfl Tryz.underlying23 rfl
      obtain ⟨a3, h3⟩ := rF (reads_slices Tryz.underlying24 api_Register.reads219) hf 3 rfl rfl cel24 rfl Tryz.underlying24 rfl
      obtain ⟨a4, h4⟩ := rF (reads_slices Tryz.underlying25 api_Action.reads120) hf 4 rfl rfl cel25 rfl Tryz.underlying25 rfl
      obtain ⟨a5, h5⟩ := rF (reads_slices Tryz.underlying26 api_Table.reads87) hf 5 rfl rfl cel26 rfl Tryz.underlying26 rfl
      obtain ⟨a6, h6⟩ := rF (reads_slices Tryz.underlying27 api_ParserState.reads124) hf 6 rfl rfl cel27 rfl Tryz.underlying27 rfl
      obtain ⟨a7, h7⟩ := rF (reads_slices Tryz.underlying28 api_ControlNode.reads165) hf 7 rfl rfl cel28 rfl Tryz.underlying28 rfl
      obtain ⟨a8, h8⟩ := rF (reads_slices Tryz.underlying29 (reads_int Tryz.underlying3)) hf 8 rfl rfl cel29 rfl Tryz.underlying29 rfl
      refine ⟨({ Name := a0, Headers := a1, Metadata := a2, Registers := a3, Actions := a4, Tables := a5, States := a6, Control := a7, Deparser := a8 } : api_Program), ?_⟩
      rw [val_agg Tryz.underlying31 rfl]
      exact ⟨_, _, _, _, _, _, _, _, rfl, h1, h2, h3, h4, h5, h6, h7, h8⟩
theorem api_KeyMatch.reads127 : ∀ n, Reads Tryz.prog 127 api_KeyMatch.t n
  | 0 => fun cs hc => hc.elim
  | n + 1 => fun cs hc => by
    obtain ⟨hl, hf⟩ := reads_struct Tryz.underlying127 hc
    rw [cel127] at hl
    match cs, hl with
    | [c0, c1], _ =>
      obtain ⟨a0, rfl⟩ := rF (reads_u32 Tryz.underlying64) hf 0 rfl rfl cel64 rfl Tryz.underlying64 rfl
      obtain ⟨a1, rfl⟩ := rF (reads_u32 Tryz.underlying64) hf 1 rfl rfl cel64 rfl Tryz.underlying64 rfl
      refine ⟨({ Value := a0, Mask := a1 } : api_KeyMatch), ?_⟩
      rw [val_agg Tryz.underlying127 rfl]
      rfl
theorem api_Entry.reads42 : ∀ n, Reads Tryz.prog 42 api_Entry.t n
  | 0 => fun cs hc => hc.elim
  | n + 1 => fun cs hc => by
    obtain ⟨hl, hf⟩ := reads_struct Tryz.underlying42 hc
    rw [cel42] at hl
    match cs, hl with
    | [c0, c1, c2, c3], _ =>
      obtain ⟨a0, h0⟩ := rF (reads_slices Tryz.underlying38 api_KeyMatch.reads127) hf 0 rfl rfl cel38 rfl Tryz.underlying38 rfl
      obtain ⟨a1, rfl⟩ := rF (reads_int Tryz.underlying3) hf 1 rfl rfl cel3 rfl Tryz.underlying3 rfl
      have q2 : HasC Tryz.prog n 40 [c2, c3] := by
        have q := hf _ (List.mem_of_getElem? (i := 2) rfl)
        simpa only [cel40, List.drop_succ_cons, List.drop_zero, List.take_succ_cons, List.take_zero] using q
      obtain ⟨a2, h2⟩ := api_ActionCall.reads40 n _ q2
      rw [val_agg Tryz.underlying40 rfl] at h2
      obtain ⟨d1_2, e2, kd1_2⟩ := h2
      simp only [PV.agg.injEq, List.cons.injEq, and_true] at e2
      obtain ⟨rfl, rfl⟩ := e2
      refine ⟨({ Keys := a0, Priority := a1, Call := a2 } : api_Entry), ?_⟩
      rw [val_agg Tryz.underlying42 rfl]
      exact ⟨_, _, rfl, h0, kd1_2⟩
theorem api_Row.reads44 : ∀ n, Reads Tryz.prog 44 api_Row.t n
  | 0 => fun cs hc => hc.elim
  | n + 1 => fun cs hc => by
    obtain ⟨hl, hf⟩ := reads_struct Tryz.underlying44 hc
    rw [cel44] at hl
    match cs, hl with
    | [c0, c1, c2, c3, c4], _ =>
      obtain ⟨a0, rfl⟩ := rF (reads_int Tryz.underlying3) hf 0 rfl rfl cel3 rfl Tryz.underlying3 rfl
      have q1 : HasC Tryz.prog n 42 [c1, c2, c3, c4] := by
        have q := hf _ (List.mem_of_getElem? (i := 1) rfl)
        simpa only [cel42, List.drop_succ_cons, List.drop_zero, List.take_succ_cons, List.take_zero] using q
      obtain ⟨a1, h1⟩ := api_Entry.reads42 n _ q1
      rw [val_agg Tryz.underlying42 rfl] at h1
      obtain ⟨d0_1, d3_1, e1, kd0_1, kd3_1⟩ := h1
      simp only [PV.agg.injEq, List.cons.injEq, and_true] at e1
      obtain ⟨rfl, rfl, rfl, rfl⟩ := e1
      refine ⟨({ ID := a0, Entry := a1 } : api_Row), ?_⟩
      rw [val_agg Tryz.underlying44 rfl]
      exact ⟨_, _, rfl, kd0_1, kd3_1⟩
theorem law24_Case.reads35 : ∀ n, Reads Tryz.prog 35 law24_Case.t n
  | 0 => fun cs hc => hc.elim
  | n + 1 => fun cs hc => by
    obtain ⟨hl, hf⟩ := reads_struct Tryz.underlying35 hc
    rw [cel35] at hl
    match cs, hl with
    | [c0, c1, c2, c3, c4, c5, c6, c7, c8, c9, c10, c11], _ =>
      have q0 : HasC Tryz.prog n 31 [c0, c1, c2, c3, c4, c5, c6, c7, c8] := by
        have q := hf _ (List.mem_of_getElem? (i := 0) rfl)
        simpa only [cel31, List.drop_succ_cons, List.drop_zero, List.take_succ_cons, List.take_zero] using q
      obtain ⟨a0, h0⟩ := api_Program.reads31 n _ q0
      rw [val_agg Tryz.underlying31 rfl] at h0
      obtain ⟨d1_0, d2_0, d3_0, d4_0, d5_0, d6_0, d7_0, d8_0, e0, kd1_0, kd2_0, kd3_0, kd4_0, kd5_0, kd6_0, kd7_0, kd8_0⟩ := h0
      simp only [PV.agg.injEq, List.cons.injEq, and_true] at e0
      obtain ⟨rfl, rfl, rfl, rfl, rfl, rfl, rfl, rfl, rfl⟩ := e0
      obtain ⟨a1, rfl⟩ := rF (reads_int Tryz.underlying3) hf 1 rfl rfl cel3 rfl Tryz.underlying3 rfl
      obtain ⟨a2, h2⟩ := rF (reads_slices Tryz.underlying32 api_Row.reads44) hf 2 rfl rfl cel32 rfl Tryz.underlying32 rfl
      obtain ⟨a3, h3⟩ := rF (reads_slices Tryz.underlying33 (reads_u32 Tryz.underlying64)) hf 3 rfl rfl cel33 rfl Tryz.underlying33 rfl
      refine ⟨({ Program := a0, Table := a1, Rows := a2, Key := a3 } : law24_Case), ?_⟩
      rw [val_agg Tryz.underlying35 rfl]
      exact ⟨_, _, _, _, _, _, _, _, _, _, rfl, kd1_0, kd2_0, kd3_0, kd4_0, kd5_0, kd6_0, kd7_0, kd8_0, h2, h3⟩
theorem arg35 {c : PV} (h : IsArg Tryz.prog 35 c) : ∃ a, law24_Case.t.R a c := isArg_reads law24_Case.reads35 h
end Go.Proofs.YthdnpgpnodgicaaGreat
