import Derived.Test.YthdnpgpnodgicaaGreatPbV
import Derived.Test.YthdnpgpnodgicaaGreatKTy
import Derived.Test.YthdnpgpnodgicaaGreatKTkPu
set_option linter.all false
set_option maxRecDepth 100000
namespace Go.Proofs.YthdnpgpnodgicaaGreat
open Go Go.Pb Go.RowKit
theorem ag3 {P : Program} {E : TEnv} {h : Heap} {hf : Bool} {x i : Operand} {id ver off len sz : Nat} {agg : Bool} {k : Int} (ex : evE E x = some (.op id ver off)) (ei : evE E i = some (vi k)) (h0 : 0 ≤ k) (h1 : k < len) : OV P (.iaddrA len sz agg x i) hf E h (.op id ver (off + k.toNat * sz)) :=
 ⟨rfl, fun T hT => by
   simp only [opQ, dy hT ex, dy hT ei]
   rw [if_pos ⟨h0, h1⟩]⟩
theorem dr9 {P : Program} {n : Int} {t : TypeId} {ox oy : Operand} : binF P .neq t ox oy (vi n) (vi n) = some (vb false) := by
 have := ma (P := P) (t := t) (ox := ox) (oy := oy) (a := n) (b := n)
 rwa [decide_eq_true rfl] at this
theorem ce1 (p : aa) (r : cm) : 0 ≤ iq p r ∧ iq p r ≤ 32 := by
 have key : ∀ l : List cd, 0 ≤ (if (((((decide (r.Header < (-1))) || (decide (r.Field < 0))) || (decide ((l.length : Int) ≤ r.Field))) || (decide (((ix l r.Field).Width) < 1))) || (decide (32 < ((ix l r.Field).Width)))) = true then (0 : Int) else (ix l r.Field).Width) ∧ (if (((((decide (r.Header < (-1))) || (decide (r.Field < 0))) || (decide ((l.length : Int) ≤ r.Field))) || (decide (((ix l r.Field).Width) < 1))) || (decide (32 < ((ix l r.Field).Width)))) = true then (0 : Int) else (ix l r.Field).Width) ≤ 32 := by
  intro l
  split
  ·omega
  ·rename_i h
   simp only [Bool.or_eq_true, decide_eq_true_eq, not_or] at h
   omega
 unfold iq
 simp only [LET]
 split
 ·split
  ·omega
  ·exact key _
 ·exact key _
theorem rwp {p : aa} {t i : Int} {w : List Int} (h : bp p t = w) (h0 : 0 ≤ i) (h1 : i < w.length) : 0 ≤ ix w i ∧ ix w i ≤ 32 := by
 subst h
 rw [pf] at h1 ⊢
 split at h1
 ·rename_i h
  rw [if_pos h]
  rw [tf] at h1
  rw [am6 h0 h1]
  exact ce1 _ _
 ·simp at h1; omega
theorem dv6 {x : bm} (h : im x = false) : x.Program.Tables.length ≤ 16 ∧ x.Rows.length ≤ 30 ∧ x.Key.length ≤ 20 := by
 unfold im at h
 simp only [LET] at h
 split at h
 ·cases h
 ·rename_i hc
  simp only [Bool.or_eq_true, decide_eq_true_eq, not_or] at hc
  refine ⟨?_, by omega, by omega⟩
  have h2 : nz x.Program = false := by simpa using hc.1.1
  unfold nz at h2
  split at h2
  ·cases h2
  ·rename_i hd
   simp only [Bool.or_eq_true, decide_eq_true_eq, not_or] at hd
   omega
theorem tlb {x : bm} {y : Bool} (h : im x = y) (hy : y = false) : x.Program.Tables.length ≤ 16 ∧ x.Rows.length ≤ 30 ∧ x.Key.length ≤ 20 := dv6 (by rw [h, hy])
end Go.Proofs.YthdnpgpnodgicaaGreat
