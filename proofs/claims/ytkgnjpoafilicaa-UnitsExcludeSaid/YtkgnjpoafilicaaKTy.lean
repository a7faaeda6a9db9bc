/-
  The records of this seat, and what it means that memory holds one.
-/
import Derived.Test.YtkgnjpoafilicaaPbG
import Derived.Test.YtkgnjpoafilicaaRows
set_option linter.unusedVariables false
set_option linter.unusedSimpArgs false
set_option maxRecDepth 100000
namespace Go.Proofs.Ytkgnjpoafilicaa
open Go Go.Pb Go.RowKit
structure api_ExprNode where
  Op : Int
  N : Int
  W : Int
  deriving Inhabited, DecidableEq
def api_ExprNode.R : api_ExprNode → PV → Prop := fun s v => v = .agg [vi s.Op, vi s.N, vi s.W]
def api_ExprNode.t : TR api_ExprNode := ⟨api_ExprNode.R, 3, true, fun h => by have h0 : _ = _ := h; subst h0; rfl, fun h => by have h0 : _ = _ := h; subst h0; rfl, fun h => by have h0 : _ = _ := h; subst h0; simp [closed, closedL]⟩
theorem api_ExprNode.g_Op {s : api_ExprNode} {v : PV} (h : api_ExprNode.t.R s v) : fieldR 0 1 false v = some (vi s.Op) := by have h0 : _ = _ := h; subst h0; rfl
theorem api_ExprNode.g_N {s : api_ExprNode} {v : PV} (h : api_ExprNode.t.R s v) : fieldR 1 1 false v = some (vi s.N) := by have h0 : _ = _ := h; subst h0; rfl
theorem api_ExprNode.g_W {s : api_ExprNode} {v : PV} (h : api_ExprNode.t.R s v) : fieldR 2 1 false v = some (vi s.W) := by have h0 : _ = _ := h; subst h0; rfl
structure api_Guard where
  Unit : Int
  Want : Bool
  deriving Inhabited, DecidableEq
def api_Guard.R : api_Guard → PV → Prop := fun s v => v = .agg [vi s.Unit, vb s.Want]
def api_Guard.t : TR api_Guard := ⟨api_Guard.R, 2, true, fun h => by have h0 : _ = _ := h; subst h0; rfl, fun h => by have h0 : _ = _ := h; subst h0; rfl, fun h => by have h0 : _ = _ := h; subst h0; simp [closed, closedL]⟩
theorem api_Guard.g_Unit {s : api_Guard} {v : PV} (h : api_Guard.t.R s v) : fieldR 0 1 false v = some (vi s.Unit) := by have h0 : _ = _ := h; subst h0; rfl
theorem api_Guard.g_Want {s : api_Guard} {v : PV} (h : api_Guard.t.R s v) : fieldR 1 1 false v = some (vb s.Want) := by have h0 : _ = _ := h; subst h0; rfl
structure api_Unit where
  Table : Int
  Cond : List api_ExprNode
  Guards : List api_Guard
  deriving Inhabited, DecidableEq
def api_Unit.R : api_Unit → PV → Prop := fun s v => ∃ c1, ∃ c2, v = .agg [vi s.Table, c1, c2] ∧ (tSl api_ExprNode.t).R s.Cond c1 ∧ (tSl api_Guard.t).R s.Guards c2
def api_Unit.t : TR api_Unit := ⟨api_Unit.R, 3, true, fun h => by obtain ⟨c1, c2, h0, hc1, hc2⟩ := h; subst h0; rfl, fun h => by obtain ⟨c1, c2, h0, hc1, hc2⟩ := h; subst h0; rfl, fun h => by obtain ⟨c1, c2, h0, hc1, hc2⟩ := h; subst h0; simp [closed, closedL, TR.clo _ hc1, TR.clo _ hc2]⟩
theorem api_Unit.g_Table {s : api_Unit} {v : PV} (h : api_Unit.t.R s v) : fieldR 0 1 false v = some (vi s.Table) := by obtain ⟨c1, c2, h0, hc1, hc2⟩ := h; subst h0; rfl
theorem api_Unit.g_Cond {s : api_Unit} {v : PV} (h : api_Unit.t.R s v) : ∃ w, fieldR 1 1 false v = some w ∧ (tSl api_ExprNode.t).R s.Cond w := by obtain ⟨c1, c2, h0, hc1, hc2⟩ := h; subst h0; exact ⟨_, mk1 (TR.agg _ hc1), hc1⟩
theorem api_Unit.g_Guards {s : api_Unit} {v : PV} (h : api_Unit.t.R s v) : ∃ w, fieldR 2 1 false v = some w ∧ (tSl api_Guard.t).R s.Guards w := by obtain ⟨c1, c2, h0, hc1, hc2⟩ := h; subst h0; exact ⟨_, mk1 (TR.agg _ hc2), hc2⟩
theorem api_Guard.eq_60 {ox oy : Operand} {a b : api_Guard} {va vb' : PV} (ha : api_Guard.t.R a va) (hb : api_Guard.t.R b vb') : binF Try.prog .eql 60 ox oy va vb' = some (vb (decide (a = b))) ∧ binF Try.prog .neq 60 ox oy va vb' = some (vb (!decide (a = b))) := by
  have ha : va = _ := ha; have hb : vb' = _ := hb; subst ha; subst hb
  have h := rec_of (ox := ox) (oy := oy) (P := Try.prog) (t := 60) (va := .agg [vi a.Unit, vb a.Want]) (vb' := .agg [vi b.Unit, vb b.Want]) rfl rfl (by kernel_rfl) (pr_eq2g (n := 9998) Try.underlying60 (by kernel_rfl) Try.underlying3 Try.underlying4 rfl rfl rfl rfl (by decide) (by decide) (pr_eqInt Try.underlying3) (pr_eqBool Try.underlying4))
  have e : decide (a = b) = ((a.Unit == b.Unit) && (a.Want == b.Want)) := by
    cases a; cases b; rw [Bool.eq_iff_iff]; simp [api_Guard.mk.injEq, nat_cast_beq, BitVec.toNat_inj, and_assoc]
  rw [e]
  exact h
theorem api_Guard.eql_60 {ox oy : Operand} {a b : api_Guard} {va vb' : PV} (ha : api_Guard.t.R a va) (hb : api_Guard.t.R b vb') : binF Try.prog .eql 60 ox oy va vb' = some (vb (decide (a = b))) := (api_Guard.eq_60 ha hb).1
theorem api_Guard.neq_60 {ox oy : Operand} {a b : api_Guard} {va vb' : PV} (ha : api_Guard.t.R a va) (hb : api_Guard.t.R b vb') : binF Try.prog .neq 60 ox oy va vb' = some (vb (!decide (a = b))) := (api_Guard.eq_60 ha hb).2
end Go.Proofs.Ytkgnjpoafilicaa
