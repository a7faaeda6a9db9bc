/-
  The records of this seat, and what it means that memory holds one.
-/
import Derived.Test.YtfekghenlhoamaaGreatPbG
import Derived.Test.YtfekghenlhoamaaGreatRows
set_option linter.unusedVariables false
set_option linter.unusedSimpArgs false
set_option maxRecDepth 100000
namespace Go.Proofs.YtfekghenlhoamaaGreat
open Go Go.Pb Go.RowKit
structure api_Field where
  Name : List UInt8
  Width : Int
  deriving Inhabited, DecidableEq
def api_Field.R : api_Field → PV → Prop := fun s v => v = .agg [vs s.Name, vi s.Width]
def api_Field.t : TR api_Field := ⟨api_Field.R, 2, true, fun h => by have h0 : _ = _ := h; subst h0; rfl, fun h => by have h0 : _ = _ := h; subst h0; rfl, fun h => by have h0 : _ = _ := h; subst h0; simp [closed, closedL]⟩
theorem api_Field.g_Name {s : api_Field} {v : PV} (h : api_Field.t.R s v) : fieldR 0 1 false v = some (vs s.Name) := by have h0 : _ = _ := h; subst h0; rfl
theorem api_Field.g_Width {s : api_Field} {v : PV} (h : api_Field.t.R s v) : fieldR 1 1 false v = some (vi s.Width) := by have h0 : _ = _ := h; subst h0; rfl
structure api_Header where
  Name : List UInt8
  Fields : List api_Field
  deriving Inhabited, DecidableEq
def api_Header.R : api_Header → PV → Prop := fun s v => ∃ c1, v = .agg [vs s.Name, c1] ∧ (tSl api_Field.t).R s.Fields c1
def api_Header.t : TR api_Header := ⟨api_Header.R, 2, true, fun h => by obtain ⟨c1, h0, hc1⟩ := h; subst h0; rfl, fun h => by obtain ⟨c1, h0, hc1⟩ := h; subst h0; rfl, fun h => by obtain ⟨c1, h0, hc1⟩ := h; subst h0; simp [closed, closedL, TR.clo _ hc1]⟩
theorem api_Header.g_Name {s : api_Header} {v : PV} (h : api_Header.t.R s v) : fieldR 0 1 false v = some (vs s.Name) := by obtain ⟨c1, h0, hc1⟩ := h; subst h0; rfl
theorem api_Header.g_Fields {s : api_Header} {v : PV} (h : api_Header.t.R s v) : ∃ w, fieldR 1 1 false v = some w ∧ (tSl api_Field.t).R s.Fields w := by obtain ⟨c1, h0, hc1⟩ := h; subst h0; exact ⟨_, mk1 (TR.agg _ hc1), hc1⟩
structure api_Register where
  Name : List UInt8
  Width : Int
  Size : Int
  deriving Inhabited, DecidableEq
def api_Register.R : api_Register → PV → Prop := fun s v => v = .agg [vs s.Name, vi s.Width, vi s.Size]
def api_Register.t : TR api_Register := ⟨api_Register.R, 3, true, fun h => by have h0 : _ = _ := h; subst h0; rfl, fun h => by have h0 : _ = _ := h; subst h0; rfl, fun h => by have h0 : _ = _ := h; subst h0; simp [closed, closedL]⟩
theorem api_Register.g_Name {s : api_Register} {v : PV} (h : api_Register.t.R s v) : fieldR 0 1 false v = some (vs s.Name) := by have h0 : _ = _ := h; subst h0; rfl
theorem api_Register.g_Width {s : api_Register} {v : PV} (h : api_Register.t.R s v) : fieldR 1 1 false v = some (vi s.Width) := by have h0 : _ = _ := h; subst h0; rfl
theorem api_Register.g_Size {s : api_Register} {v : PV} (h : api_Register.t.R s v) : fieldR 2 1 false v = some (vi s.Size) := by have h0 : _ = _ := h; subst h0; rfl
structure api_FieldRef where
  Header : Int
  Field : Int
  deriving Inhabited, DecidableEq
def api_FieldRef.R : api_FieldRef → PV → Prop := fun s v => v = .agg [vi s.Header, vi s.Field]
def api_FieldRef.t : TR api_FieldRef := ⟨api_FieldRef.R, 2, true, fun h => by have h0 : _ = _ := h; subst h0; rfl, fun h => by have h0 : _ = _ := h; subst h0; rfl, fun h => by have h0 : _ = _ := h; subst h0; simp [closed, closedL]⟩
theorem api_FieldRef.g_Header {s : api_FieldRef} {v : PV} (h : api_FieldRef.t.R s v) : fieldR 0 1 false v = some (vi s.Header) := by have h0 : _ = _ := h; subst h0; rfl
theorem api_FieldRef.g_Field {s : api_FieldRef} {v : PV} (h : api_FieldRef.t.R s v) : fieldR 1 1 false v = some (vi s.Field) := by have h0 : _ = _ := h; subst h0; rfl
structure api_ExprNode where
  Op : Int
  N : Int
  W : Int
  deriving Inhabited, DecidableEq
def api_ExprNode.R : api_ExprNode → PV → Prop := fun s v => v = .agg [vi s.Op, vi s.N, vi s.W]
def api_ExprNode.t : TR api_ExprNode := ⟨api_ExprNode.R, 3, true, fun h => by have h0 : _ = _ := h; subst h0; rfl, fun h => by have h0 : _ = _ := h; subst h0; rfl, fun h => by have h0 : _ = _ := h; subst h0; simp [closed, closedL]⟩
theorem api_ExprNode.g_Op {s : api_ExprNode} {v : PV} (h : api_ExprNode.t.R s v) : fieldR 0 1 false v = some (vi s.Op) := by have h0 : _ = _ := h; subst h0; rfl
theorem api_ExprNode.g_N {s : api_ExprNode} {v : PV} (h : api_ExprNode.t.R s v) : fieldR 1 1 false v = some (vi s.N) := by have h0 : _ = _ := h; subst h0; rfl
theorem api_ExprNode.g_W {s : api_ExprNode} {v : PV} (h : api_ExprNode.t.R s v) : fieldR 2 1 false v = some (vi s.W) := by have h0 : _ = _ := h; subst h0; rfl
structure api_Statement where
  Kind : Int
  Dst : api_FieldRef
  Register : Int
  Header : Int
  Index : List api_ExprNode
  Value : List api_ExprNode
  deriving Inhabited, DecidableEq
def api_Statement.R : api_Statement → PV → Prop := fun s v => ∃ c5, ∃ c6, v = .agg [vi s.Kind, vi s.Dst.Header, vi s.Dst.Field, vi s.Register, vi s.Header, c5, c6] ∧ (tSl api_ExprNode.t).R s.Index c5 ∧ (tSl api_ExprNode.t).R s.Value c6
def api_Statement.t : TR api_Statement := ⟨api_Statement.R, 7, true, fun h => by obtain ⟨c5, c6, h0, hc5, hc6⟩ := h; subst h0; rfl, fun h => by obtain ⟨c5, c6, h0, hc5, hc6⟩ := h; subst h0; rfl, fun h => by obtain ⟨c5, c6, h0, hc5, hc6⟩ := h; subst h0; simp [closed, closedL, TR.clo _ hc5, TR.clo _ hc6]⟩
theorem api_Statement.g_Kind {s : api_Statement} {v : PV} (h : api_Statement.t.R s v) : fieldR 0 1 false v = some (vi s.Kind) := by obtain ⟨c5, c6, h0, hc5, hc6⟩ := h; subst h0; rfl
theorem api_Statement.g_Header {s : api_Statement} {v : PV} (h : api_Statement.t.R s v) : fieldR 4 1 false v = some (vi s.Header) := by obtain ⟨c5, c6, h0, hc5, hc6⟩ := h; subst h0; rfl
theorem api_Statement.g_Value {s : api_Statement} {v : PV} (h : api_Statement.t.R s v) : ∃ w, fieldR 6 1 false v = some w ∧ (tSl api_ExprNode.t).R s.Value w := by obtain ⟨c5, c6, h0, hc5, hc6⟩ := h; subst h0; exact ⟨_, mk1 (TR.agg _ hc6), hc6⟩
structure api_Action where
  Name : List UInt8
  Params : List api_Field
  Body : List api_Statement
  deriving Inhabited, DecidableEq
def api_Action.R : api_Action → PV → Prop := fun s v => ∃ c1, ∃ c2, v = .agg [vs s.Name, c1, c2] ∧ (tSl api_Field.t).R s.Params c1 ∧ (tSl api_Statement.t).R s.Body c2
def api_Action.t : TR api_Action := ⟨api_Action.R, 3, true, fun h => by obtain ⟨c1, c2, h0, hc1, hc2⟩ := h; subst h0; rfl, fun h => by obtain ⟨c1, c2, h0, hc1, hc2⟩ := h; subst h0; rfl, fun h => by obtain ⟨c1, c2, h0, hc1, hc2⟩ := h; subst h0; simp [closed, closedL, TR.clo _ hc1, TR.clo _ hc2]⟩
theorem api_Action.g_Name {s : api_Action} {v : PV} (h : api_Action.t.R s v) : fieldR 0 1 false v = some (vs s.Name) := by obtain ⟨c1, c2, h0, hc1, hc2⟩ := h; subst h0; rfl
theorem api_Action.g_Params {s : api_Action} {v : PV} (h : api_Action.t.R s v) : ∃ w, fieldR 1 1 false v = some w ∧ (tSl api_Field.t).R s.Params w := by obtain ⟨c1, c2, h0, hc1, hc2⟩ := h; subst h0; exact ⟨_, mk1 (TR.agg _ hc1), hc1⟩
structure api_TableKey where
  Field : api_FieldRef
  Kind : Int
  deriving Inhabited, DecidableEq
def api_TableKey.R : api_TableKey → PV → Prop := fun s v => v = .agg [vi s.Field.Header, vi s.Field.Field, vi s.Kind]
def api_TableKey.t : TR api_TableKey := ⟨api_TableKey.R, 3, true, fun h => by have h0 : _ = _ := h; subst h0; rfl, fun h => by have h0 : _ = _ := h; subst h0; rfl, fun h => by have h0 : _ = _ := h; subst h0; simp [closed, closedL]⟩
theorem api_TableKey.g_Field {s : api_TableKey} {v : PV} (h : api_TableKey.t.R s v) : ∃ w, fieldR 0 2 true v = some w ∧ api_FieldRef.t.R s.Field w := by have h0 : _ = _ := h; subst h0; exact ⟨_, rfl, rfl⟩
theorem api_TableKey.g_Kind {s : api_TableKey} {v : PV} (h : api_TableKey.t.R s v) : fieldR 2 1 false v = some (vi s.Kind) := by have h0 : _ = _ := h; subst h0; rfl
structure api_ActionCall where
  Action : Int
  Args : List (BitVec 32)
  deriving Inhabited, DecidableEq
def api_ActionCall.R : api_ActionCall → PV → Prop := fun s v => ∃ c1, v = .agg [vi s.Action, c1] ∧ (tSl tU32).R s.Args c1
def api_ActionCall.t : TR api_ActionCall := ⟨api_ActionCall.R, 2, true, fun h => by obtain ⟨c1, h0, hc1⟩ := h; subst h0; rfl, fun h => by obtain ⟨c1, h0, hc1⟩ := h; subst h0; rfl, fun h => by obtain ⟨c1, h0, hc1⟩ := h; subst h0; simp [closed, closedL, TR.clo _ hc1]⟩
theorem api_ActionCall.g_Args {s : api_ActionCall} {v : PV} (h : api_ActionCall.t.R s v) : ∃ w, fieldR 1 1 false v = some w ∧ (tSl tU32).R s.Args w := by obtain ⟨c1, h0, hc1⟩ := h; subst h0; exact ⟨_, mk1 (TR.agg _ hc1), hc1⟩
structure api_Table where
  Name : List UInt8
  Keys : List api_TableKey
  Actions : List Int
  Default : api_ActionCall
  Size : Int
  deriving Inhabited, DecidableEq
def api_Table.R : api_Table → PV → Prop := fun s v => ∃ c1, ∃ c2, ∃ c4, v = .agg [vs s.Name, c1, c2, vi s.Default.Action, c4, vi s.Size] ∧ (tSl api_TableKey.t).R s.Keys c1 ∧ (tSl tI).R s.Actions c2 ∧ (tSl tU32).R s.Default.Args c4
def api_Table.t : TR api_Table := ⟨api_Table.R, 6, true, fun h => by obtain ⟨c1, c2, c4, h0, hc1, hc2, hc4⟩ := h; subst h0; rfl, fun h => by obtain ⟨c1, c2, c4, h0, hc1, hc2, hc4⟩ := h; subst h0; rfl, fun h => by obtain ⟨c1, c2, c4, h0, hc1, hc2, hc4⟩ := h; subst h0; simp [closed, closedL, TR.clo _ hc1, TR.clo _ hc2, TR.clo _ hc4]⟩
theorem api_Table.g_Name {s : api_Table} {v : PV} (h : api_Table.t.R s v) : fieldR 0 1 false v = some (vs s.Name) := by obtain ⟨c1, c2, c4, h0, hc1, hc2, hc4⟩ := h; subst h0; rfl
theorem api_Table.g_Actions {s : api_Table} {v : PV} (h : api_Table.t.R s v) : ∃ w, fieldR 2 1 false v = some w ∧ (tSl tI).R s.Actions w := by obtain ⟨c1, c2, c4, h0, hc1, hc2, hc4⟩ := h; subst h0; exact ⟨_, mk1 (TR.agg _ hc2), hc2⟩
theorem api_Table.g_Default {s : api_Table} {v : PV} (h : api_Table.t.R s v) : ∃ w, fieldR 3 2 true v = some w ∧ api_ActionCall.t.R s.Default w := by obtain ⟨c1, c2, c4, h0, hc1, hc2, hc4⟩ := h; subst h0; exact ⟨_, rfl, ⟨c4, rfl, hc4⟩⟩
theorem api_Table.g_Size {s : api_Table} {v : PV} (h : api_Table.t.R s v) : fieldR 5 1 false v = some (vi s.Size) := by obtain ⟨c1, c2, c4, h0, hc1, hc2, hc4⟩ := h; subst h0; rfl
structure api_SelectCase where
  Value : BitVec 32
  Mask : BitVec 32
  Next : Int
  deriving Inhabited, DecidableEq
def api_SelectCase.R : api_SelectCase → PV → Prop := fun s v => v = .agg [vu32 s.Value, vu32 s.Mask, vi s.Next]
def api_SelectCase.t : TR api_SelectCase := ⟨api_SelectCase.R, 3, true, fun h => by have h0 : _ = _ := h; subst h0; rfl, fun h => by have h0 : _ = _ := h; subst h0; rfl, fun h => by have h0 : _ = _ := h; subst h0; simp [closed, closedL]⟩
theorem api_SelectCase.g_Value {s : api_SelectCase} {v : PV} (h : api_SelectCase.t.R s v) : fieldR 0 1 false v = some (vu32 s.Value) := by have h0 : _ = _ := h; subst h0; rfl
structure api_ParserState where
  Name : List UInt8
  Extract : List Int
  Select : Bool
  On : api_FieldRef
  Cases : List api_SelectCase
  Default : Int
  deriving Inhabited, DecidableEq
def api_ParserState.R : api_ParserState → PV → Prop := fun s v => ∃ c1, ∃ c5, v = .agg [vs s.Name, c1, vb s.Select, vi s.On.Header, vi s.On.Field, c5, vi s.Default] ∧ (tSl tI).R s.Extract c1 ∧ (tSl api_SelectCase.t).R s.Cases c5
def api_ParserState.t : TR api_ParserState := ⟨api_ParserState.R, 7, true, fun h => by obtain ⟨c1, c5, h0, hc1, hc5⟩ := h; subst h0; rfl, fun h => by obtain ⟨c1, c5, h0, hc1, hc5⟩ := h; subst h0; rfl, fun h => by obtain ⟨c1, c5, h0, hc1, hc5⟩ := h; subst h0; simp [closed, closedL, TR.clo _ hc1, TR.clo _ hc5]⟩
theorem api_ParserState.g_Name {s : api_ParserState} {v : PV} (h : api_ParserState.t.R s v) : fieldR 0 1 false v = some (vs s.Name) := by obtain ⟨c1, c5, h0, hc1, hc5⟩ := h; subst h0; rfl
theorem api_ParserState.g_Default {s : api_ParserState} {v : PV} (h : api_ParserState.t.R s v) : fieldR 6 1 false v = some (vi s.Default) := by obtain ⟨c1, c5, h0, hc1, hc5⟩ := h; subst h0; rfl
structure api_ControlNode where
  Kind : Int
  Table : Int
  Cond : List api_ExprNode
  Then : List api_ControlNode
  Else : List api_ControlNode
  deriving Inhabited
mutual
def api_ControlNode.R : api_ControlNode → PV → Prop
  | ⟨xKind, xTable, xCond, xThen, xElse⟩, v => ∃ c2, ∃ c3, ∃ c4, v = .agg [vi xKind, vi xTable, c2, c3, c4] ∧ (tSl api_ExprNode.t).R xCond c2 ∧ ((∃ es, IsSl c3 es ∧ api_ControlNode.Rl xThen es) ∧ xThen.length ≤ 9223372036854775807) ∧ ((∃ es, IsSl c4 es ∧ api_ControlNode.Rl xElse es) ∧ xElse.length ≤ 9223372036854775807)
def api_ControlNode.Rl : List api_ControlNode → List PV → Prop
  | [], [] => True
  | a :: l, e :: es => api_ControlNode.R a e ∧ api_ControlNode.Rl l es
  | _, _ => False
end
theorem api_ControlNode.Rl_eq : ∀ (l : List api_ControlNode) (es : List PV), api_ControlNode.Rl l es = All2 api_ControlNode.R l es
  | [], [] => by simp [api_ControlNode.Rl, All2]
  | a :: l, e :: es => by simp [api_ControlNode.Rl, All2, api_ControlNode.Rl_eq l es]
  | [], _ :: _ => by simp [api_ControlNode.Rl, All2]
  | _ :: _, [] => by simp [api_ControlNode.Rl, All2]
mutual
theorem api_ControlNode.R_clo : ∀ (s : api_ControlNode) (v : PV), api_ControlNode.R s v → closed v = true
  | ⟨xKind, xTable, xCond, xThen, xElse⟩, v, h => by
    simp only [api_ControlNode.R] at h
    obtain ⟨c2, c3, c4, h0, hc2, hc3, hc4⟩ := h
    subst h0
    have kc2 := TR.clo _ hc2
    obtain ⟨⟨esc3, hic3, hlc3⟩, _⟩ := hc3
    have kc3 := hic3.closed (api_ControlNode.Rl_clo _ _ hlc3)
    obtain ⟨⟨esc4, hic4, hlc4⟩, _⟩ := hc4
    have kc4 := hic4.closed (api_ControlNode.Rl_clo _ _ hlc4)
    simp [closed, closedL, kc2, kc3, kc4]
theorem api_ControlNode.Rl_clo : ∀ (l : List api_ControlNode) (es : List PV), api_ControlNode.Rl l es → closedL es = true
  | [], [], _ => rfl
  | a :: l, e :: es, h => by
    simp only [api_ControlNode.Rl] at h
    simp [closedL, api_ControlNode.R_clo a e h.1, api_ControlNode.Rl_clo l es h.2]
  | [], _ :: _, h => by simp [api_ControlNode.Rl] at h
  | _ :: _, [], h => by simp [api_ControlNode.Rl] at h
end
def api_ControlNode.t : TR api_ControlNode := ⟨api_ControlNode.R, 5, true, fun {a v} h => by cases a; simp only [api_ControlNode.R] at h; obtain ⟨c2, c3, c4, h0, hc2, hc3, hc4⟩ := h; subst h0; rfl, fun {a v} h => by cases a; simp only [api_ControlNode.R] at h; obtain ⟨c2, c3, c4, h0, hc2, hc3, hc4⟩ := h; subst h0; rfl, fun {a v} h => api_ControlNode.R_clo a v h⟩
theorem api_ControlNode.g_Kind {s : api_ControlNode} {v : PV} (h : api_ControlNode.t.R s v) : fieldR 0 1 false v = some (vi s.Kind) := by cases s; have h : api_ControlNode.R _ v := h; simp only [api_ControlNode.R] at h; obtain ⟨c2, c3, c4, h0, hc2, hc3, hc4⟩ := h; subst h0; rfl
structure api_Program where
  Name : List UInt8
  Headers : List api_Header
  Metadata : List api_Field
  Registers : List api_Register
  Actions : List api_Action
  Tables : List api_Table
  States : List api_ParserState
  Control : List api_ControlNode
  Deparser : List Int
  deriving Inhabited
def api_Program.R : api_Program → PV → Prop := fun s v => ∃ c1, ∃ c2, ∃ c3, ∃ c4, ∃ c5, ∃ c6, ∃ c7, ∃ c8, v = .agg [vs s.Name, c1, c2, c3, c4, c5, c6, c7, c8] ∧ (tSl api_Header.t).R s.Headers c1 ∧ (tSl api_Field.t).R s.Metadata c2 ∧ (tSl api_Register.t).R s.Registers c3 ∧ (tSl api_Action.t).R s.Actions c4 ∧ (tSl api_Table.t).R s.Tables c5 ∧ (tSl api_ParserState.t).R s.States c6 ∧ (tSl api_ControlNode.t).R s.Control c7 ∧ (tSl tI).R s.Deparser c8
def api_Program.t : TR api_Program := ⟨api_Program.R, 9, true, fun h => by obtain ⟨c1, c2, c3, c4, c5, c6, c7, c8, h0, hc1, hc2, hc3, hc4, hc5, hc6, hc7, hc8⟩ := h; subst h0; rfl, fun h => by obtain ⟨c1, c2, c3, c4, c5, c6, c7, c8, h0, hc1, hc2, hc3, hc4, hc5, hc6, hc7, hc8⟩ := h; subst h0; rfl, fun h => by obtain ⟨c1, c2, c3, c4, c5, c6, c7, c8, h0, hc1, hc2, hc3, hc4, hc5, hc6, hc7, hc8⟩ := h; subst h0; simp [closed, closedL, TR.clo _ hc1, TR.clo _ hc2, TR.clo _ hc3, TR.clo _ hc4, TR.clo _ hc5, TR.clo _ hc6, TR.clo _ hc7, TR.clo _ hc8]⟩
theorem api_Program.g_Name {s : api_Program} {v : PV} (h : api_Program.t.R s v) : fieldR 0 1 false v = some (vs s.Name) := by obtain ⟨c1, c2, c3, c4, c5, c6, c7, c8, h0, hc1, hc2, hc3, hc4, hc5, hc6, hc7, hc8⟩ := h; subst h0; rfl
theorem api_Program.g_Headers {s : api_Program} {v : PV} (h : api_Program.t.R s v) : ∃ w, fieldR 1 1 false v = some w ∧ (tSl api_Header.t).R s.Headers w := by obtain ⟨c1, c2, c3, c4, c5, c6, c7, c8, h0, hc1, hc2, hc3, hc4, hc5, hc6, hc7, hc8⟩ := h; subst h0; exact ⟨_, mk1 (TR.agg _ hc1), hc1⟩
theorem api_Program.g_Metadata {s : api_Program} {v : PV} (h : api_Program.t.R s v) : ∃ w, fieldR 2 1 false v = some w ∧ (tSl api_Field.t).R s.Metadata w := by obtain ⟨c1, c2, c3, c4, c5, c6, c7, c8, h0, hc1, hc2, hc3, hc4, hc5, hc6, hc7, hc8⟩ := h; subst h0; exact ⟨_, mk1 (TR.agg _ hc2), hc2⟩
theorem api_Program.g_Actions {s : api_Program} {v : PV} (h : api_Program.t.R s v) : ∃ w, fieldR 4 1 false v = some w ∧ (tSl api_Action.t).R s.Actions w := by obtain ⟨c1, c2, c3, c4, c5, c6, c7, c8, h0, hc1, hc2, hc3, hc4, hc5, hc6, hc7, hc8⟩ := h; subst h0; exact ⟨_, mk1 (TR.agg _ hc4), hc4⟩
structure api_Env where
  Valid : List Bool
  Fields : List (List (BitVec 32))
  Metd : List (BitVec 32)
  Payload : List UInt8
  deriving Inhabited, DecidableEq
def api_Env.R : api_Env → PV → Prop := fun s v => ∃ c0, ∃ c1, ∃ c2, ∃ c3, v = .agg [c0, c1, c2, c3] ∧ (tSl tB).R s.Valid c0 ∧ (tSl (tSl tU32)).R s.Fields c1 ∧ (tSl tU32).R s.Metd c2 ∧ (tSl tU8).R s.Payload c3
def api_Env.t : TR api_Env := ⟨api_Env.R, 4, true, fun h => by obtain ⟨c0, c1, c2, c3, h0, hc0, hc1, hc2, hc3⟩ := h; subst h0; rfl, fun h => by obtain ⟨c0, c1, c2, c3, h0, hc0, hc1, hc2, hc3⟩ := h; subst h0; rfl, fun h => by obtain ⟨c0, c1, c2, c3, h0, hc0, hc1, hc2, hc3⟩ := h; subst h0; simp [closed, closedL, TR.clo _ hc0, TR.clo _ hc1, TR.clo _ hc2, TR.clo _ hc3]⟩
theorem api_Env.g_Valid {s : api_Env} {v : PV} (h : api_Env.t.R s v) : ∃ w, fieldR 0 1 false v = some w ∧ (tSl tB).R s.Valid w := by obtain ⟨c0, c1, c2, c3, h0, hc0, hc1, hc2, hc3⟩ := h; subst h0; exact ⟨_, mk1 (TR.agg _ hc0), hc0⟩
theorem api_Env.g_Fields {s : api_Env} {v : PV} (h : api_Env.t.R s v) : ∃ w, fieldR 1 1 false v = some w ∧ (tSl (tSl tU32)).R s.Fields w := by obtain ⟨c0, c1, c2, c3, h0, hc0, hc1, hc2, hc3⟩ := h; subst h0; exact ⟨_, mk1 (TR.agg _ hc1), hc1⟩
theorem api_Env.g_Meta {s : api_Env} {v : PV} (h : api_Env.t.R s v) : ∃ w, fieldR 2 1 false v = some w ∧ (tSl tU32).R s.Metd w := by obtain ⟨c0, c1, c2, c3, h0, hc0, hc1, hc2, hc3⟩ := h; subst h0; exact ⟨_, mk1 (TR.agg _ hc2), hc2⟩
structure law13_Args where
  P : api_Program
  Params : List api_Field
  Nodes : List api_ExprNode
  E : api_Env
  Args : List (BitVec 32)
  deriving Inhabited
def law13_Args.R : law13_Args → PV → Prop := fun s v => ∃ c1, ∃ c2, ∃ c3, ∃ c4, ∃ c5, ∃ c6, ∃ c7, ∃ c8, ∃ c9, ∃ c10, ∃ c11, ∃ c12, ∃ c13, ∃ c14, ∃ c15, v = .agg [vs s.P.Name, c1, c2, c3, c4, c5, c6, c7, c8, c9, c10, c11, c12, c13, c14, c15] ∧ (tSl api_Header.t).R s.P.Headers c1 ∧ (tSl api_Field.t).R s.P.Metadata c2 ∧ (tSl api_Register.t).R s.P.Registers c3 ∧ (tSl api_Action.t).R s.P.Actions c4 ∧ (tSl api_Table.t).R s.P.Tables c5 ∧ (tSl api_ParserState.t).R s.P.States c6 ∧ (tSl api_ControlNode.t).R s.P.Control c7 ∧ (tSl tI).R s.P.Deparser c8 ∧ (tSl api_Field.t).R s.Params c9 ∧ (tSl api_ExprNode.t).R s.Nodes c10 ∧ (tSl tB).R s.E.Valid c11 ∧ (tSl (tSl tU32)).R s.E.Fields c12 ∧ (tSl tU32).R s.E.Metd c13 ∧ (tSl tU8).R s.E.Payload c14 ∧ (tSl tU32).R s.Args c15
def law13_Args.t : TR law13_Args := ⟨law13_Args.R, 16, true, fun h => by obtain ⟨c1, c2, c3, c4, c5, c6, c7, c8, c9, c10, c11, c12, c13, c14, c15, h0, hc1, hc2, hc3, hc4, hc5, hc6, hc7, hc8, hc9, hc10, hc11, hc12, hc13, hc14, hc15⟩ := h; subst h0; rfl, fun h => by obtain ⟨c1, c2, c3, c4, c5, c6, c7, c8, c9, c10, c11, c12, c13, c14, c15, h0, hc1, hc2, hc3, hc4, hc5, hc6, hc7, hc8, hc9, hc10, hc11, hc12, hc13, hc14, hc15⟩ := h; subst h0; rfl, fun h => by obtain ⟨c1, c2, c3, c4, c5, c6, c7, c8, c9, c10, c11, c12, c13, c14, c15, h0, hc1, hc2, hc3, hc4, hc5, hc6, hc7, hc8, hc9, hc10, hc11, hc12, hc13, hc14, hc15⟩ := h; subst h0; simp [closed, closedL, TR.clo _ hc1, TR.clo _ hc2, TR.clo _ hc3, TR.clo _ hc4, TR.clo _ hc5, TR.clo _ hc6, TR.clo _ hc7, TR.clo _ hc8, TR.clo _ hc9, TR.clo _ hc10, TR.clo _ hc11, TR.clo _ hc12, TR.clo _ hc13, TR.clo _ hc14, TR.clo _ hc15]⟩
theorem law13_Args.g_P {s : law13_Args} {v : PV} (h : law13_Args.t.R s v) : ∃ w, fieldR 0 9 true v = some w ∧ api_Program.t.R s.P w := by obtain ⟨c1, c2, c3, c4, c5, c6, c7, c8, c9, c10, c11, c12, c13, c14, c15, h0, hc1, hc2, hc3, hc4, hc5, hc6, hc7, hc8, hc9, hc10, hc11, hc12, hc13, hc14, hc15⟩ := h; subst h0; exact ⟨_, rfl, ⟨c1, c2, c3, c4, c5, c6, c7, c8, rfl, hc1, hc2, hc3, hc4, hc5, hc6, hc7, hc8⟩⟩
theorem law13_Args.g_Params {s : law13_Args} {v : PV} (h : law13_Args.t.R s v) : ∃ w, fieldR 9 1 false v = some w ∧ (tSl api_Field.t).R s.Params w := by obtain ⟨c1, c2, c3, c4, c5, c6, c7, c8, c9, c10, c11, c12, c13, c14, c15, h0, hc1, hc2, hc3, hc4, hc5, hc6, hc7, hc8, hc9, hc10, hc11, hc12, hc13, hc14, hc15⟩ := h; subst h0; exact ⟨_, mk1 (TR.agg _ hc9), hc9⟩
theorem law13_Args.g_Nodes {s : law13_Args} {v : PV} (h : law13_Args.t.R s v) : ∃ w, fieldR 10 1 false v = some w ∧ (tSl api_ExprNode.t).R s.Nodes w := by obtain ⟨c1, c2, c3, c4, c5, c6, c7, c8, c9, c10, c11, c12, c13, c14, c15, h0, hc1, hc2, hc3, hc4, hc5, hc6, hc7, hc8, hc9, hc10, hc11, hc12, hc13, hc14, hc15⟩ := h; subst h0; exact ⟨_, mk1 (TR.agg _ hc10), hc10⟩
theorem law13_Args.g_E {s : law13_Args} {v : PV} (h : law13_Args.t.R s v) : ∃ w, fieldR 11 4 true v = some w ∧ api_Env.t.R s.E w := by obtain ⟨c1, c2, c3, c4, c5, c6, c7, c8, c9, c10, c11, c12, c13, c14, c15, h0, hc1, hc2, hc3, hc4, hc5, hc6, hc7, hc8, hc9, hc10, hc11, hc12, hc13, hc14, hc15⟩ := h; subst h0; exact ⟨_, rfl, ⟨c11, c12, c13, c14, rfl, hc11, hc12, hc13, hc14⟩⟩
theorem law13_Args.g_Args {s : law13_Args} {v : PV} (h : law13_Args.t.R s v) : ∃ w, fieldR 15 1 false v = some w ∧ (tSl tU32).R s.Args w := by obtain ⟨c1, c2, c3, c4, c5, c6, c7, c8, c9, c10, c11, c12, c13, c14, c15, h0, hc1, hc2, hc3, hc4, hc5, hc6, hc7, hc8, hc9, hc10, hc11, hc12, hc13, hc14, hc15⟩ := h; subst h0; exact ⟨_, mk1 (TR.agg _ hc15), hc15⟩
structure expr_Scope where
  Program : api_Program
  Params : List api_Field
  deriving Inhabited
def expr_Scope.R : expr_Scope → PV → Prop := fun s v => ∃ c1, ∃ c2, ∃ c3, ∃ c4, ∃ c5, ∃ c6, ∃ c7, ∃ c8, ∃ c9, v = .agg [vs s.Program.Name, c1, c2, c3, c4, c5, c6, c7, c8, c9] ∧ (tSl api_Header.t).R s.Program.Headers c1 ∧ (tSl api_Field.t).R s.Program.Metadata c2 ∧ (tSl api_Register.t).R s.Program.Registers c3 ∧ (tSl api_Action.t).R s.Program.Actions c4 ∧ (tSl api_Table.t).R s.Program.Tables c5 ∧ (tSl api_ParserState.t).R s.Program.States c6 ∧ (tSl api_ControlNode.t).R s.Program.Control c7 ∧ (tSl tI).R s.Program.Deparser c8 ∧ (tSl api_Field.t).R s.Params c9
def expr_Scope.t : TR expr_Scope := ⟨expr_Scope.R, 10, true, fun h => by obtain ⟨c1, c2, c3, c4, c5, c6, c7, c8, c9, h0, hc1, hc2, hc3, hc4, hc5, hc6, hc7, hc8, hc9⟩ := h; subst h0; rfl, fun h => by obtain ⟨c1, c2, c3, c4, c5, c6, c7, c8, c9, h0, hc1, hc2, hc3, hc4, hc5, hc6, hc7, hc8, hc9⟩ := h; subst h0; rfl, fun h => by obtain ⟨c1, c2, c3, c4, c5, c6, c7, c8, c9, h0, hc1, hc2, hc3, hc4, hc5, hc6, hc7, hc8, hc9⟩ := h; subst h0; simp [closed, closedL, TR.clo _ hc1, TR.clo _ hc2, TR.clo _ hc3, TR.clo _ hc4, TR.clo _ hc5, TR.clo _ hc6, TR.clo _ hc7, TR.clo _ hc8, TR.clo _ hc9]⟩
theorem expr_Scope.g_Program {s : expr_Scope} {v : PV} (h : expr_Scope.t.R s v) : ∃ w, fieldR 0 9 true v = some w ∧ api_Program.t.R s.Program w := by obtain ⟨c1, c2, c3, c4, c5, c6, c7, c8, c9, h0, hc1, hc2, hc3, hc4, hc5, hc6, hc7, hc8, hc9⟩ := h; subst h0; exact ⟨_, rfl, ⟨c1, c2, c3, c4, c5, c6, c7, c8, rfl, hc1, hc2, hc3, hc4, hc5, hc6, hc7, hc8⟩⟩
theorem expr_Scope.g_Params {s : expr_Scope} {v : PV} (h : expr_Scope.t.R s v) : ∃ w, fieldR 9 1 false v = some w ∧ (tSl api_Field.t).R s.Params w := by obtain ⟨c1, c2, c3, c4, c5, c6, c7, c8, c9, h0, hc1, hc2, hc3, hc4, hc5, hc6, hc7, hc8, hc9⟩ := h; subst h0; exact ⟨_, mk1 (TR.agg _ hc9), hc9⟩
structure expr_machine where
  scope : expr_Scope
  env : api_Env
  args : List (BitVec 32)
  nodes : List api_ExprNode
  next : Int
  deriving Inhabited
def expr_machine.R : expr_machine → PV → Prop := fun s v => ∃ c1, ∃ c2, ∃ c3, ∃ c4, ∃ c5, ∃ c6, ∃ c7, ∃ c8, ∃ c9, ∃ c10, ∃ c11, ∃ c12, ∃ c13, ∃ c14, ∃ c15, v = .agg [vs s.scope.Program.Name, c1, c2, c3, c4, c5, c6, c7, c8, c9, c10, c11, c12, c13, c14, c15, vi s.next] ∧ (tSl api_Header.t).R s.scope.Program.Headers c1 ∧ (tSl api_Field.t).R s.scope.Program.Metadata c2 ∧ (tSl api_Register.t).R s.scope.Program.Registers c3 ∧ (tSl api_Action.t).R s.scope.Program.Actions c4 ∧ (tSl api_Table.t).R s.scope.Program.Tables c5 ∧ (tSl api_ParserState.t).R s.scope.Program.States c6 ∧ (tSl api_ControlNode.t).R s.scope.Program.Control c7 ∧ (tSl tI).R s.scope.Program.Deparser c8 ∧ (tSl api_Field.t).R s.scope.Params c9 ∧ (tSl tB).R s.env.Valid c10 ∧ (tSl (tSl tU32)).R s.env.Fields c11 ∧ (tSl tU32).R s.env.Metd c12 ∧ (tSl tU8).R s.env.Payload c13 ∧ (tSl tU32).R s.args c14 ∧ (tSl api_ExprNode.t).R s.nodes c15
def expr_machine.t : TR expr_machine := ⟨expr_machine.R, 17, true, fun h => by obtain ⟨c1, c2, c3, c4, c5, c6, c7, c8, c9, c10, c11, c12, c13, c14, c15, h0, hc1, hc2, hc3, hc4, hc5, hc6, hc7, hc8, hc9, hc10, hc11, hc12, hc13, hc14, hc15⟩ := h; subst h0; rfl, fun h => by obtain ⟨c1, c2, c3, c4, c5, c6, c7, c8, c9, c10, c11, c12, c13, c14, c15, h0, hc1, hc2, hc3, hc4, hc5, hc6, hc7, hc8, hc9, hc10, hc11, hc12, hc13, hc14, hc15⟩ := h; subst h0; rfl, fun h => by obtain ⟨c1, c2, c3, c4, c5, c6, c7, c8, c9, c10, c11, c12, c13, c14, c15, h0, hc1, hc2, hc3, hc4, hc5, hc6, hc7, hc8, hc9, hc10, hc11, hc12, hc13, hc14, hc15⟩ := h; subst h0; simp [closed, closedL, TR.clo _ hc1, TR.clo _ hc2, TR.clo _ hc3, TR.clo _ hc4, TR.clo _ hc5, TR.clo _ hc6, TR.clo _ hc7, TR.clo _ hc8, TR.clo _ hc9, TR.clo _ hc10, TR.clo _ hc11, TR.clo _ hc12, TR.clo _ hc13, TR.clo _ hc14, TR.clo _ hc15]⟩
theorem expr_machine.g_scope {s : expr_machine} {v : PV} (h : expr_machine.t.R s v) : ∃ w, fieldR 0 10 true v = some w ∧ expr_Scope.t.R s.scope w := by obtain ⟨c1, c2, c3, c4, c5, c6, c7, c8, c9, c10, c11, c12, c13, c14, c15, h0, hc1, hc2, hc3, hc4, hc5, hc6, hc7, hc8, hc9, hc10, hc11, hc12, hc13, hc14, hc15⟩ := h; subst h0; exact ⟨_, rfl, ⟨c1, c2, c3, c4, c5, c6, c7, c8, c9, rfl, hc1, hc2, hc3, hc4, hc5, hc6, hc7, hc8, hc9⟩⟩
theorem expr_machine.g_env {s : expr_machine} {v : PV} (h : expr_machine.t.R s v) : ∃ w, fieldR 10 4 true v = some w ∧ api_Env.t.R s.env w := by obtain ⟨c1, c2, c3, c4, c5, c6, c7, c8, c9, c10, c11, c12, c13, c14, c15, h0, hc1, hc2, hc3, hc4, hc5, hc6, hc7, hc8, hc9, hc10, hc11, hc12, hc13, hc14, hc15⟩ := h; subst h0; exact ⟨_, rfl, ⟨c10, c11, c12, c13, rfl, hc10, hc11, hc12, hc13⟩⟩
theorem expr_machine.g_args {s : expr_machine} {v : PV} (h : expr_machine.t.R s v) : ∃ w, fieldR 14 1 false v = some w ∧ (tSl tU32).R s.args w := by obtain ⟨c1, c2, c3, c4, c5, c6, c7, c8, c9, c10, c11, c12, c13, c14, c15, h0, hc1, hc2, hc3, hc4, hc5, hc6, hc7, hc8, hc9, hc10, hc11, hc12, hc13, hc14, hc15⟩ := h; subst h0; exact ⟨_, mk1 (TR.agg _ hc14), hc14⟩
theorem expr_machine.g_nodes {s : expr_machine} {v : PV} (h : expr_machine.t.R s v) : ∃ w, fieldR 15 1 false v = some w ∧ (tSl api_ExprNode.t).R s.nodes w := by obtain ⟨c1, c2, c3, c4, c5, c6, c7, c8, c9, c10, c11, c12, c13, c14, c15, h0, hc1, hc2, hc3, hc4, hc5, hc6, hc7, hc8, hc9, hc10, hc11, hc12, hc13, hc14, hc15⟩ := h; subst h0; exact ⟨_, mk1 (TR.agg _ hc15), hc15⟩
theorem expr_machine.g_next {s : expr_machine} {v : PV} (h : expr_machine.t.R s v) : fieldR 16 1 false v = some (vi s.next) := by obtain ⟨c1, c2, c3, c4, c5, c6, c7, c8, c9, c10, c11, c12, c13, c14, c15, h0, hc1, hc2, hc3, hc4, hc5, hc6, hc7, hc8, hc9, hc10, hc11, hc12, hc13, hc14, hc15⟩ := h; subst h0; rfl
structure expr_value where
  v : BitVec 32
  w : Int
  deriving Inhabited, DecidableEq
def expr_value.R : expr_value → PV → Prop := fun s v => v = .agg [vu32 s.v, vi s.w]
def expr_value.t : TR expr_value := ⟨expr_value.R, 2, true, fun h => by have h0 : _ = _ := h; subst h0; rfl, fun h => by have h0 : _ = _ := h; subst h0; rfl, fun h => by have h0 : _ = _ := h; subst h0; simp [closed, closedL]⟩
theorem expr_value.g_v {s : expr_value} {v : PV} (h : expr_value.t.R s v) : fieldR 0 1 false v = some (vu32 s.v) := by have h0 : _ = _ := h; subst h0; rfl
theorem expr_value.g_w {s : expr_value} {v : PV} (h : expr_value.t.R s v) : fieldR 1 1 false v = some (vi s.w) := by have h0 : _ = _ := h; subst h0; rfl
structure ref13_Value where
  V : BitVec 32
  W : Int
  To : Int
  deriving Inhabited, DecidableEq
def ref13_Value.R : ref13_Value → PV → Prop := fun s v => v = .agg [vu32 s.V, vi s.W, vi s.To]
def ref13_Value.t : TR ref13_Value := ⟨ref13_Value.R, 3, true, fun h => by have h0 : _ = _ := h; subst h0; rfl, fun h => by have h0 : _ = _ := h; subst h0; rfl, fun h => by have h0 : _ = _ := h; subst h0; simp [closed, closedL]⟩
theorem ref13_Value.g_V {s : ref13_Value} {v : PV} (h : ref13_Value.t.R s v) : fieldR 0 1 false v = some (vu32 s.V) := by have h0 : _ = _ := h; subst h0; rfl
theorem ref13_Value.g_W {s : ref13_Value} {v : PV} (h : ref13_Value.t.R s v) : fieldR 1 1 false v = some (vi s.W) := by have h0 : _ = _ := h; subst h0; rfl
theorem ref13_Value.g_To {s : ref13_Value} {v : PV} (h : ref13_Value.t.R s v) : fieldR 2 1 false v = some (vi s.To) := by have h0 : _ = _ := h; subst h0; rfl
theorem api_FieldRef.eql_65 {ox oy : Operand} {a b : api_FieldRef} {va vb' : PV} (ha : api_FieldRef.t.R a va) (hb : api_FieldRef.t.R b vb') : binF Tryz.prog .eql 65 ox oy va vb' = some (vb (decide (a = b))) := by
  have ha : va = _ := ha; have hb : vb' = _ := hb; subst ha; subst hb
  rw [rec2_eql Tryz.underlying65 (by kernel_rfl) (by kernel_rfl) Tryz.underlying3 Tryz.underlying3 rfl rfl (by decide) (by decide)]
  cases a; cases b; simp only [Option.some.injEq, PV.sc.injEq, Value.bool.injEq]; rw [Bool.eq_iff_iff]; simp [api_FieldRef.mk.injEq, nat_cast_beq, BitVec.toNat_inj]
end Go.Proofs.YtfekghenlhoamaaGreat
