/-
  Plain library, part 42: records of two or three numbers or truth values compared.
-/
import Derived.Test.YtkgnjpoafilicaaPbEq
set_option linter.unusedVariables false
set_option linter.unusedSimpArgs false
namespace Go.Pb
open Go Go.RowKit
section
variable {P : Program} {t : TypeId} {ox oy : Operand}
theorem pr_eqBool {a b : Bool} {n : Nat} (ht : P.underlying t = some .bool) : pureRun P (Op.equalIn (n + 1) t (.bool a) (.bool b)) = some (a == b) := by
  unfold Op.equalIn
  rw [pr_b (pr_und ht)]
  simp [pr_pure]
theorem pr_eq2g {f1 f2 : Field} {v1 v2 w1 w2 : Value} {r1 r2 : Bool} {d1 d2 : TypeDesc} {n : Nat} (ht : P.underlying t = some (.struct #[f1, f2])) (hs : P.stoodInHeld t = false) (h1 : P.underlying f1.type = some d1) (h2 : P.underlying f2.type = some d2) (g1 : aggD d1 = false) (g2 : aggD d2 = false)
    (o1 : f1.offset = 0) (o2 : f2.offset = 1) (n1 : (f1.name ≠ "_")) (n2 : f2.name ≠ "_") (q1 : pureRun P (Op.equalIn (n + 1) f1.type v1 w1) = some r1) (q2 : pureRun P (Op.equalIn (n + 1) f2.type v2 w2) = some r2) :
    pureRun P (Op.equalIn (n + 2) t (.agg #[v1, v2]) (.agg #[w1, w2])) = some (r1 && r2) := by
  unfold Op.equalIn
  rw [pr_b (pr_und ht)]
  have hp : pureRun P (program) = some P := rfl
  have e1 : ∀ x y : Value, pureRun P (part f1.type #[x, y] f1.offset) = some x := fun x y => pr_part h1 g1 (by rw [o1]; rfl)
  have e2 : ∀ x y : Value, pureRun P (part f2.type #[x, y] f2.offset) = some y := fun x y => pr_part h2 g2 (by rw [o2]; rfl)
  simp only []
  rw [pr_b hp]
  simp only [hs, Bool.false_eq_true, if_false]
  simp only [← Array.forIn_toList, List.forIn_cons, List.forIn_nil, n1, n2, ne_eq, not_false_eq_true, if_true, bind_assoc, pure_bind]
  rw [pr_b (e1 v1 v2), pr_b (e1 w1 w2), pr_b q1]
  cases r1 with
  | true =>
    simp only [Bool.not_true, Bool.false_eq_true, if_false, pure_bind, Bool.true_and, bind_assoc]
    rw [pr_b (e2 v1 v2), pr_b (e2 w1 w2), pr_b q2]
    cases r2 <;> simp [pr_pure]
  | false => simp [pr_pure]
theorem pr_eq3g {f1 f2 f3 : Field} {v1 v2 v3 w1 w2 w3 : Value} {r1 r2 r3 : Bool} {d1 d2 d3 : TypeDesc} {n : Nat} (ht : P.underlying t = some (.struct #[f1, f2, f3])) (hs : P.stoodInHeld t = false) (h1 : P.underlying f1.type = some d1) (h2 : P.underlying f2.type = some d2) (h3 : P.underlying f3.type = some d3) (g1 : aggD d1 = false) (g2 : aggD d2 = false) (g3 : aggD d3 = false)
    (o1 : f1.offset = 0) (o2 : f2.offset = 1) (o3 : f3.offset = 2) (n1 : (f1.name ≠ "_")) (n2 : f2.name ≠ "_") (n3 : f3.name ≠ "_") (q1 : pureRun P (Op.equalIn (n + 1) f1.type v1 w1) = some r1) (q2 : pureRun P (Op.equalIn (n + 1) f2.type v2 w2) = some r2) (q3 : pureRun P (Op.equalIn (n + 1) f3.type v3 w3) = some r3) :
    pureRun P (Op.equalIn (n + 2) t (.agg #[v1, v2, v3]) (.agg #[w1, w2, w3])) = some (r1 && (r2 && r3)) := by
  unfold Op.equalIn
  rw [pr_b (pr_und ht)]
  have hp : pureRun P (program) = some P := rfl
  have e1 : ∀ x y z : Value, pureRun P (part f1.type #[x, y, z] f1.offset) = some x := fun x y z => pr_part h1 g1 (by rw [o1]; rfl)
  have e2 : ∀ x y z : Value, pureRun P (part f2.type #[x, y, z] f2.offset) = some y := fun x y z => pr_part h2 g2 (by rw [o2]; rfl)
  have e3 : ∀ x y z : Value, pureRun P (part f3.type #[x, y, z] f3.offset) = some z := fun x y z => pr_part h3 g3 (by rw [o3]; rfl)
  simp only []
  rw [pr_b hp]
  simp only [hs, Bool.false_eq_true, if_false]
  simp only [← Array.forIn_toList, List.forIn_cons, List.forIn_nil, n1, n2, n3, ne_eq, not_false_eq_true, if_true, bind_assoc, pure_bind]
  rw [pr_b (e1 v1 v2 v3), pr_b (e1 w1 w2 w3), pr_b q1]
  cases r1 with
  | true =>
    simp only [Bool.not_true, Bool.false_eq_true, if_false, pure_bind, Bool.true_and, bind_assoc]
    rw [pr_b (e2 v1 v2 v3), pr_b (e2 w1 w2 w3), pr_b q2]
    cases r2 with
    | true =>
      simp only [Bool.not_true, Bool.false_eq_true, if_false, pure_bind, Bool.true_and, bind_assoc]
      rw [pr_b (e3 v1 v2 v3), pr_b (e3 w1 w2 w3), pr_b q3]
      cases r3 <;> simp [pr_pure]
    | false => simp [pr_pure]
  | false => simp [pr_pure]
theorem rec_of {va vb' : PV} {a b : Array Value} {r : Bool} (ha : toV va = some (.agg a)) (hb : toV vb' = some (.agg b)) (hg : P.eqGuardType P.depth t = false) (e : pureRun P (Op.equalIn 10000 t (.agg a) (.agg b)) = some r) :
    binF P .eql t ox oy va vb' = some (vb r) ∧ binF P .neq t ox oy va vb' = some (vb (!r)) := by
  have e' : pureRun P (binOp .eql t (.agg a) (.agg b)) = some (.bool r) := by
    show pureRun P (Op.equal t (.agg a) (.agg b) >>= fun q => pure (Value.bool q)) = _
    rw [pr_b (show pureRun P (Op.equal t (.agg a) (.agg b)) = _ from e)]
    rfl
  have e2 : pureRun P (binOp .neq t (.agg a) (.agg b)) = some (.bool (!r)) := by
    show pureRun P (Op.equal t (.agg a) (.agg b) >>= fun q => pure (Value.bool (!q))) = _
    rw [pr_b (show pureRun P (Op.equal t (.agg a) (.agg b)) = _ from e)]
    rfl
  simp only [binF, ha, hb]
  constructor
  · rw [pr_b (pr_eqGuard hg), e']
    rfl
  · rw [pr_b (pr_eqGuard hg), e2]
    rfl
end
end Go.Pb
