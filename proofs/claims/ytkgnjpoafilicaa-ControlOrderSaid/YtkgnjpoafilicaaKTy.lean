/-
  The records of this seat, and what it means that memory holds one.
-/
import Derived.Test.YtkgnjpoafilicaaPbG
import Derived.Test.YtkgnjpoafilicaaRows
set_option linter.unusedVariables false
set_option linter.unusedSimpArgs false
set_option maxRecDepth 100000
namespace Go.Proofs.Ytkgnjpoafilicaa
open Go Go.Pb Go.RowKit
structure api_ExprNode where
  Op : Int
  N : Int
  W : Int
  deriving Inhabited, DecidableEq
def api_ExprNode.R : api_ExprNode → PV → Prop := fun s v => v = .agg [vi s.Op, vi s.N, vi s.W]
def api_ExprNode.t : TR api_ExprNode := ⟨api_ExprNode.R, 3, true, fun h => by have h0 : _ = _ := h; subst h0; rfl, fun h => by have h0 : _ = _ := h; subst h0; rfl, fun h => by have h0 : _ = _ := h; subst h0; simp [closed, closedL]⟩
theorem api_ExprNode.g_Op {s : api_ExprNode} {v : PV} (h : api_ExprNode.t.R s v) : fieldR 0 1 false v = some (vi s.Op) := by have h0 : _ = _ := h; subst h0; rfl
theorem api_ExprNode.g_N {s : api_ExprNode} {v : PV} (h : api_ExprNode.t.R s v) : fieldR 1 1 false v = some (vi s.N) := by have h0 : _ = _ := h; subst h0; rfl
theorem api_ExprNode.g_W {s : api_ExprNode} {v : PV} (h : api_ExprNode.t.R s v) : fieldR 2 1 false v = some (vi s.W) := by have h0 : _ = _ := h; subst h0; rfl
structure api_ControlNode where
  Kind : Int
  Table : Int
  Cond : List api_ExprNode
  Then : List api_ControlNode
  Else : List api_ControlNode
  deriving Inhabited
mutual
def api_ControlNode.R : api_ControlNode → PV → Prop
  | ⟨xKind, xTable, xCond, xThen, xElse⟩, v => ∃ c2, ∃ c3, ∃ c4, v = .agg [vi xKind, vi xTable, c2, c3, c4] ∧ (tSl api_ExprNode.t).R xCond c2 ∧ ((∃ es, IsSl c3 es ∧ api_ControlNode.Rl xThen es) ∧ xThen.length ≤ 9223372036854775807) ∧ ((∃ es, IsSl c4 es ∧ api_ControlNode.Rl xElse es) ∧ xElse.length ≤ 9223372036854775807)
def api_ControlNode.Rl : List api_ControlNode → List PV → Prop
  | [], [] => True
  | a :: l, e :: es => api_ControlNode.R a e ∧ api_ControlNode.Rl l es
  | _, _ => False
end
theorem api_ControlNode.Rl_eq : ∀ (l : List api_ControlNode) (es : List PV), api_ControlNode.Rl l es = All2 api_ControlNode.R l es
  | [], [] => by simp [api_ControlNode.Rl, All2]
  | a :: l, e :: es => by simp [api_ControlNode.Rl, All2, api_ControlNode.Rl_eq l es]
  | [], _ :: _ => by simp [api_ControlNode.Rl, All2]
  | _ :: _, [] => by simp [api_ControlNode.Rl, All2]
mutual
theorem api_ControlNode.R_clo : ∀ (s : api_ControlNode) (v : PV), api_ControlNode.R s v → closed v = true
  | ⟨xKind, xTable, xCond, xThen, xElse⟩, v, h => by
    simp only [api_ControlNode.R] at h
    obtain ⟨c2, c3, c4, h0, hc2, hc3, hc4⟩ := h
    subst h0
    have kc2 := TR.clo _ hc2
    obtain ⟨⟨esc3, hic3, hlc3⟩, _⟩ := hc3
    have kc3 := hic3.closed (api_ControlNode.Rl_clo _ _ hlc3)
    obtain ⟨⟨esc4, hic4, hlc4⟩, _⟩ := hc4
    have kc4 := hic4.closed (api_ControlNode.Rl_clo _ _ hlc4)
    simp [closed, closedL, kc2, kc3, kc4]
theorem api_ControlNode.Rl_clo : ∀ (l : List api_ControlNode) (es : List PV), api_ControlNode.Rl l es → closedL es = true
  | [], [], _ => rfl
  | a :: l, e :: es, h => by
    simp only [api_ControlNode.Rl] at h
    simp [closedL, api_ControlNode.R_clo a e h.1, api_ControlNode.Rl_clo l es h.2]
  | [], _ :: _, h => by simp [api_ControlNode.Rl] at h
  | _ :: _, [], h => by simp [api_ControlNode.Rl] at h
end
def api_ControlNode.t : TR api_ControlNode := ⟨api_ControlNode.R, 5, true, fun {a v} h => by cases a; simp only [api_ControlNode.R] at h; obtain ⟨c2, c3, c4, h0, hc2, hc3, hc4⟩ := h; subst h0; rfl, fun {a v} h => by cases a; simp only [api_ControlNode.R] at h; obtain ⟨c2, c3, c4, h0, hc2, hc3, hc4⟩ := h; subst h0; rfl, fun {a v} h => api_ControlNode.R_clo a v h⟩
theorem api_ControlNode.lR {l : List api_ControlNode} {v : PV} (h : (∃ es, IsSl v es ∧ api_ControlNode.Rl l es) ∧ l.length ≤ 9223372036854775807) : (tSl api_ControlNode.t).R l v := by obtain ⟨⟨es, hi, hl⟩, hb⟩ := h; rw [api_ControlNode.Rl_eq] at hl; exact ⟨⟨es, hi, hl⟩, hb⟩
theorem api_ControlNode.op_of {s : api_ControlNode} {v : PV} (h : api_ControlNode.t.R s v) : ∃ c2, ∃ c3, ∃ c4, v = .agg [vi s.Kind, vi s.Table, c2, c3, c4] ∧ (tSl api_ExprNode.t).R s.Cond c2 ∧ (tSl api_ControlNode.t).R s.Then c3 ∧ (tSl api_ControlNode.t).R s.Else c4 := by cases s; have h : api_ControlNode.R _ v := h; simp only [api_ControlNode.R] at h; obtain ⟨c2, c3, c4, h0, hc2, hc3, hc4⟩ := h; exact ⟨c2, c3, c4, h0, hc2, (api_ControlNode.lR hc3), (api_ControlNode.lR hc4)⟩
theorem api_ControlNode.g_Kind {s : api_ControlNode} {v : PV} (h : api_ControlNode.t.R s v) : fieldR 0 1 false v = some (vi s.Kind) := by cases s; have h : api_ControlNode.R _ v := h; simp only [api_ControlNode.R] at h; obtain ⟨c2, c3, c4, h0, hc2, hc3, hc4⟩ := h; subst h0; rfl
theorem api_ControlNode.g_Table {s : api_ControlNode} {v : PV} (h : api_ControlNode.t.R s v) : fieldR 1 1 false v = some (vi s.Table) := by cases s; have h : api_ControlNode.R _ v := h; simp only [api_ControlNode.R] at h; obtain ⟨c2, c3, c4, h0, hc2, hc3, hc4⟩ := h; subst h0; rfl
theorem api_ControlNode.g_Cond {s : api_ControlNode} {v : PV} (h : api_ControlNode.t.R s v) : ∃ w, fieldR 2 1 false v = some w ∧ (tSl api_ExprNode.t).R s.Cond w := by cases s; have h : api_ControlNode.R _ v := h; simp only [api_ControlNode.R] at h; obtain ⟨c2, c3, c4, h0, hc2, hc3, hc4⟩ := h; subst h0; exact ⟨_, mk1 (TR.agg _ hc2), hc2⟩
theorem api_ControlNode.sl_of {l : List api_ControlNode} {v : PV} (h : (tSl api_ControlNode.t).R l v) : (∃ es, IsSl v es ∧ api_ControlNode.Rl l es) ∧ l.length ≤ 9223372036854775807 := by obtain ⟨⟨es, hi, hl⟩, hb⟩ := h; exact ⟨⟨es, hi, by rw [api_ControlNode.Rl_eq]; exact hl⟩, hb⟩
theorem api_ControlNode.g_Then {s : api_ControlNode} {v : PV} (h : api_ControlNode.t.R s v) : ∃ w, fieldR 3 1 false v = some w ∧ (tSl api_ControlNode.t).R s.Then w := by cases s; have h : api_ControlNode.R _ v := h; simp only [api_ControlNode.R] at h; obtain ⟨c2, c3, c4, h0, hc2, hc3, hc4⟩ := h; subst h0; obtain ⟨⟨es, hi, hl⟩, hb⟩ := hc3; rw [api_ControlNode.Rl_eq] at hl; have hh : (tSl api_ControlNode.t).R _ _ := ⟨⟨es, hi, hl⟩, hb⟩; exact ⟨_, mk1 (TR.agg _ hh), hh⟩
theorem api_ControlNode.g_Else {s : api_ControlNode} {v : PV} (h : api_ControlNode.t.R s v) : ∃ w, fieldR 4 1 false v = some w ∧ (tSl api_ControlNode.t).R s.Else w := by cases s; have h : api_ControlNode.R _ v := h; simp only [api_ControlNode.R] at h; obtain ⟨c2, c3, c4, h0, hc2, hc3, hc4⟩ := h; subst h0; obtain ⟨⟨es, hi, hl⟩, hb⟩ := hc4; rw [api_ControlNode.Rl_eq] at hl; have hh : (tSl api_ControlNode.t).R _ _ := ⟨⟨es, hi, hl⟩, hb⟩; exact ⟨_, mk1 (TR.agg _ hh), hh⟩
structure law20_walk where
  answers : List Bool
  next : Int
  tables : List Int
  conds : List Int
  deriving Inhabited, DecidableEq
def law20_walk.R : law20_walk → PV → Prop := fun s v => ∃ c0, ∃ c2, ∃ c3, v = .agg [c0, vi s.next, c2, c3] ∧ (tSl tB).R s.answers c0 ∧ (tSl tI).R s.tables c2 ∧ (tSl tI).R s.conds c3
def law20_walk.t : TR law20_walk := ⟨law20_walk.R, 4, true, fun h => by obtain ⟨c0, c2, c3, h0, hc0, hc2, hc3⟩ := h; subst h0; rfl, fun h => by obtain ⟨c0, c2, c3, h0, hc0, hc2, hc3⟩ := h; subst h0; rfl, fun h => by obtain ⟨c0, c2, c3, h0, hc0, hc2, hc3⟩ := h; subst h0; simp [closed, closedL, TR.clo _ hc0, TR.clo _ hc2, TR.clo _ hc3]⟩
theorem law20_walk.g_answers {s : law20_walk} {v : PV} (h : law20_walk.t.R s v) : ∃ w, fieldR 0 1 false v = some w ∧ (tSl tB).R s.answers w := by obtain ⟨c0, c2, c3, h0, hc0, hc2, hc3⟩ := h; subst h0; exact ⟨_, mk1 (TR.agg _ hc0), hc0⟩
theorem law20_walk.g_next {s : law20_walk} {v : PV} (h : law20_walk.t.R s v) : fieldR 1 1 false v = some (vi s.next) := by obtain ⟨c0, c2, c3, h0, hc0, hc2, hc3⟩ := h; subst h0; rfl
theorem law20_walk.g_tables {s : law20_walk} {v : PV} (h : law20_walk.t.R s v) : ∃ w, fieldR 2 1 false v = some w ∧ (tSl tI).R s.tables w := by obtain ⟨c0, c2, c3, h0, hc0, hc2, hc3⟩ := h; subst h0; exact ⟨_, mk1 (TR.agg _ hc2), hc2⟩
theorem law20_walk.g_conds {s : law20_walk} {v : PV} (h : law20_walk.t.R s v) : ∃ w, fieldR 3 1 false v = some w ∧ (tSl tI).R s.conds w := by obtain ⟨c0, c2, c3, h0, hc0, hc2, hc3⟩ := h; subst h0; exact ⟨_, mk1 (TR.agg _ hc3), hc3⟩
end Go.Proofs.Ytkgnjpoafilicaa
