/-
  slices.Insert of one element and slices.Delete at the front, at this program.
-/
import Derived.Test.YtpdimhpjehfjeaaKLy
import Derived.Test.YtpdimhpjehfjeaaPbI
set_option linter.unusedVariables false
namespace Go.Proofs.Ytpdimhpjehfjeaa
open Go Go.Pb Go.RowKit
theorem info3 : (Try.prog.info? 3).map (fun i => (i.zero, i.size, i.bytes)) = some (some (.int .i64 0), 1, 8) := by kernel_rfl
theorem cells3 : Try.prog.cellsOf 3 = 1 := by
  obtain ⟨i, hi, hz, hs, hb⟩ := info_parts info3
  simp [Program.cellsOf, hi, hs]
theorem ent48 : Enters Try.prog 48 := fun args w => by simp [callFunc, Try.func48, mark, Try.f48]
theorem ent49 : Enters Try.prog 49 := fun args w => by simp [callFunc, Try.func49, mark, Try.f49]
def insI (l : List Int) (i : Int) (v : List Int) : List Int := l.take i.toNat ++ v ++ l.drop i.toNat
def RFi (R_ : List Ent) (res : List Int) (r : PV) (h : Heap) : Prop := ∃ a : PV, ∃ es : List PV, Mem h (⟨a, 3, 1, es⟩ :: R_) ∧ All2 tI.R res es ∧ isL a = true ∧ res.length ≤ 4611686018427387904 ∧ Wri a es ∧ r = a
theorem f48_ins {x0 : List Int} {x1 : Int} {x2 : List Int} {a0 a2 : PV} {es0 es2 : List PV} {R_ : List Ent} {h_ : Heap} (q0 : All2 tI.R x0 es0) (ne0 : isL a0 = true) (hl0 : x0.length ≤ 4611686018427387904) (w0 : Wri a0 es0) (q2 : All2 tI.R x2 es2) (ne2 : isL a2 = true) (hl2 : x2.length ≤ 4611686018427387904) (w2 : Wri a2 es2)
    (M : Mem h_ (⟨a0, 3, 1, es0⟩ :: ⟨a2, 3, 1, es2⟩ :: R_)) (hp : x2.length = 1 ∧ 0 ≤ x1 ∧ x1 ≤ x0.length ∧ x0.length < 1000000) : ∃ r h2_, FnX Try.prog 48 [a0, vi x1, a2] h_ r h2_ ∧ RFi R_ (insI x0 x1 x2) r h2_ := by
  obtain ⟨y, rfl⟩ := List.length_eq_one_iff.1 hp.1
  obtain ⟨r, h2, X, es', M2, q, ne, wi⟩ := insert_X ent48 Try.insI_calls cells3 q0 ne0 w0 q2 w2 hp.2.1 hp.2.2.1 hp.2.2.2 M
  refine ⟨r, h2, X, r, es', M2.sub (.cons_cons _ (.cons _ (List.Sublist.refl _))), by rw [insI]; simpa using q, ne, ?_, wi, rfl⟩
  have := hp.2.2.2
  rw [insI]
  simp only [List.length_append, List.length_take, List.length_drop, List.length_singleton]
  omega
theorem f49_del {x0 : List Int} {a0 : PV} {es0 : List PV} {R_ : List Ent} {h_ : Heap} (q0 : All2 tI.R x0 es0) (ne0 : isL a0 = true) (hl0 : x0.length ≤ 4611686018427387904) (w0 : Wri a0 es0)
    (M : Mem h_ (⟨a0, 3, 1, es0⟩ :: R_)) (hp : 0 < x0.length) : ∃ r h2_, FnX Try.prog 49 [a0, vi 0, vi 1] h_ r h2_ ∧ RFi R_ (x0.drop 1) r h2_ := by
  obtain ⟨r, h2, X, es', M2, q, ne, wi⟩ := delete_X ent49 cells3 Try.delI_calls q0 ne0 w0 hp M
  exact ⟨r, h2, X, r, es', M2, q, ne, by simp; omega, wi, rfl⟩
end Go.Proofs.Ytpdimhpjehfjeaa
