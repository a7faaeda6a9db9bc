/-
  Expressions: width, extent and value of a subexpression, part by part.
-/
import Derived.Test.YtfekghenlhoamaaKPure
set_option linter.unusedVariables false
set_option linter.unusedSimpArgs false
set_option maxRecDepth 100000
namespace Go.Proofs.Ytfekghenlhoamaa
open Go Go.Pb Go.RowKit
theorem arity_eq (op : Int) : expr_arity op = if 1 ≤ op ∧ op ≤ 4 then 0 else if 5 ≤ op ∧ op ≤ 8 then 1 else if 9 ≤ op ∧ op ≤ 16 then 2 else if op = 17 then 3 else -1 := by
  by_cases h : 1 ≤ op ∧ op ≤ 17
  · have : op = 1 ∨ op = 2 ∨ op = 3 ∨ op = 4 ∨ op = 5 ∨ op = 6 ∨ op = 7 ∨ op = 8 ∨ op = 9 ∨ op = 10 ∨ op = 11 ∨ op = 12 ∨ op = 13 ∨ op = 14 ∨ op = 15 ∨ op = 16 ∨ op = 17 := by omega
    rcases this with rfl | rfl | rfl | rfl | rfl | rfl | rfl | rfl | rfl | rfl | rfl | rfl | rfl | rfl | rfl | rfl | rfl <;> rfl
  · rw [if_neg (by omega), if_neg (by omega), if_neg (by omega), if_neg (by omega)]
    have e : ∀ k : Int, 1 ≤ k → k ≤ 17 → decide (op = k) = false := fun k h1 h2 => by simp; omega
    unfold expr_arity
    simp only [LET, e 1 (by omega) (by omega), e 2 (by omega) (by omega), e 3 (by omega) (by omega), e 4 (by omega) (by omega), e 5 (by omega) (by omega), e 6 (by omega) (by omega), e 7 (by omega) (by omega), e 8 (by omega) (by omega), e 9 (by omega) (by omega), e 10 (by omega) (by omega), e 11 (by omega) (by omega), e 12 (by omega) (by omega), e 13 (by omega) (by omega), e 14 (by omega) (by omega), e 15 (by omega) (by omega), e 16 (by omega) (by omega), e 17 (by omega) (by omega), Bool.false_eq_true, if_false]
section
variable {s : expr_Scope} {n : List api_ExprNode} {a : Int}
theorem ck (h0 : 0 ≤ a) (h1 : a < n.length) (hn : n.length ≤ 1000000) : m1_expr_Scope__check s n a = if expr_arity (ix n a).Op < 0 then (0, 0, 11) else if expr_arity (ix n a).Op = 0 then ((m1_expr_Scope__primary s (ix n a)).1, a + 1, (m1_expr_Scope__primary s (ix n a)).2) else m1_expr_Scope__check_L1 s n m1_expr_Scope__check (fun x z => ((expr_combine (ix n a) z).1, x, (expr_combine (ix n a) z).2)) (Int.toNat (expr_arity (ix n a).Op - 0)) (a + 1) 0 [0, 0, 0] := by
  rw [check_eq s n a h0 hn]
  unfold m1_expr_Scope__check_B
  simp only [LET, decide_eq_true_eq, show wr (a + 1) = a + 1 from wr_of (by omega) (by omega)]
  rw [if_neg (show ¬((n.length : Int) ≤ a) by omega)]
theorem check_0 (h0 : 0 ≤ a) (h1 : a < n.length) (hn : n.length ≤ 1000000) (ha : expr_arity (ix n a).Op = 0) : m1_expr_Scope__check s n a = ((m1_expr_Scope__primary s (ix n a)).1, a + 1, (m1_expr_Scope__primary s (ix n a)).2) := by
  rw [ck h0 h1 hn, if_neg (by omega), if_pos ha]
theorem L1_step (K : Int → List Int → Int × Int × Int) (m : Nat) (x i : Int) (z : List Int) (h : Ok s n x) : m1_expr_Scope__check_L1 s n m1_expr_Scope__check K (m + 1) x i z = m1_expr_Scope__check_L1 s n m1_expr_Scope__check K m (nx s n x) (i + 1) (z.set i.toNat (wd s n x)) := by
  rw [m1_expr_Scope__check_L1]
  simp only [LET]
  rw [if_neg (by simp [h.ok])]
  rfl
theorem check_1 (h0 : 0 ≤ a) (h1 : a < n.length) (hn : n.length ≤ 1000000) (ha : expr_arity (ix n a).Op = 1) (k1 : Ok s n (a + 1)) : m1_expr_Scope__check s n a = ((expr_combine (ix n a) [wd s n (a + 1), 0, 0]).1, nx s n (a + 1), (expr_combine (ix n a) [wd s n (a + 1), 0, 0]).2) := by
  rw [ck h0 h1 hn, if_neg (by omega), if_neg (by omega), ha, show Int.toNat (1 - 0) = 1 from rfl, L1_step _ _ _ _ _ k1, m1_expr_Scope__check_L1]
  rfl
theorem check_2 (h0 : 0 ≤ a) (h1 : a < n.length) (hn : n.length ≤ 1000000) (ha : expr_arity (ix n a).Op = 2) (k1 : Ok s n (a + 1)) (k2 : Ok s n (nx s n (a + 1))) : m1_expr_Scope__check s n a = ((expr_combine (ix n a) [wd s n (a + 1), wd s n (nx s n (a + 1)), 0]).1, nx s n (nx s n (a + 1)), (expr_combine (ix n a) [wd s n (a + 1), wd s n (nx s n (a + 1)), 0]).2) := by
  rw [ck h0 h1 hn, if_neg (by omega), if_neg (by omega), ha, show Int.toNat (2 - 0) = 2 from rfl, L1_step _ _ _ _ _ k1, L1_step _ _ _ _ _ k2, m1_expr_Scope__check_L1]
  rfl
theorem check_3 (h0 : 0 ≤ a) (h1 : a < n.length) (hn : n.length ≤ 1000000) (ha : expr_arity (ix n a).Op = 3) (k1 : Ok s n (a + 1)) (k2 : Ok s n (nx s n (a + 1))) (k3 : Ok s n (nx s n (nx s n (a + 1)))) : m1_expr_Scope__check s n a = ((expr_combine (ix n a) [wd s n (a + 1), wd s n (nx s n (a + 1)), wd s n (nx s n (nx s n (a + 1)))]).1, nx s n (nx s n (nx s n (a + 1))), (expr_combine (ix n a) [wd s n (a + 1), wd s n (nx s n (a + 1)), wd s n (nx s n (nx s n (a + 1)))]).2) := by
  rw [ck h0 h1 hn, if_neg (by omega), if_neg (by omega), ha, show Int.toNat (3 - 0) = 3 from rfl, L1_step _ _ _ _ _ k1, L1_step _ _ _ _ _ k2, L1_step _ _ _ _ _ k3, m1_expr_Scope__check_L1]
  rfl
end
/-! Values -/
def mch (s : expr_Scope) (e : api_Env) (g : List (BitVec 32)) (n : List api_ExprNode) (a : Int) : expr_machine := { scope := s, env := e, args := g, nodes := n, next := a }
def vl (s : expr_Scope) (e : api_Env) (g : List (BitVec 32)) (n : List api_ExprNode) (a : Int) : expr_value := (m2_expr_machine__eval (mch s e g n a)).1
theorem eval_fuel : ∀ (k k' : Nat) (m : expr_machine), VE m → m.nodes.length - m.next.toNat < k → m.nodes.length - m.next.toNat < k' → m2_expr_machine__eval_R k m = m2_expr_machine__eval_R k' m
  | 0, k', m, h, h1, h2 => by omega
  | k + 1, 0, m, h, h1, h2 => by omega
  | k + 1, k' + 1, m, h, h1, h2 => by
    rw [m2_expr_machine__eval_R, m2_expr_machine__eval_R]
    unfold m2_expr_machine__eval_B
    simp only [LET, decide_eq_true_eq]
    split
    · rfl
    · rename_i h3
      have e1 := ev1 h rfl h3
      have d1 := dv1 h rfl h3
      have q1 : m2_expr_machine__eval_R k (st1 m) = m2_expr_machine__eval_R k' (st1 m) := eval_fuel k k' _ e1 (by omega) (by omega)
      have ew : ({ scope := m.scope, env := m.env, args := m.args, nodes := m.nodes, next := wr (m.next + 1) } : expr_machine) = st1 m := rfl
      split
      · simp only [ew, q1]
      · rename_i h4
        have e2 := ev2 h rfl h3 h4 (eval_next k') rfl
        have d2 := dv2 h rfl h3 h4 (eval_next k') rfl
        have q2 := eval_fuel k k' _ e2 (by omega) (by omega)
        split
        · simp only [ew, q1, q2]
        · rename_i h5
          have e3 := ev3 h rfl h3 h4 h5 (eval_next k') rfl rfl
          have d3 := dv3 h rfl h3 h4 h5 (eval_next k') rfl rfl
          have q3 := eval_fuel k k' _ e3 (by omega) (by omega)
          simp only [ew, q1, q2, q3]
section
variable {s : expr_Scope} {n : List api_ExprNode} {a : Int} (e : api_Env) (g : List (BitVec 32))
theorem evalAt {k : Nat} (h : Ok s n a) (hk : n.length - a.toNat < k) : m2_expr_machine__eval_R k (mch s e g n a) = (vl s e g n a, mch s e g n (nx s n a)) := by
  have h1 : m2_expr_machine__eval_R k (mch s e g n a) = m2_expr_machine__eval (mch s e g n a) := eval_fuel k (n.length - a.toNat + 1) (mch s e g n a) h hk (by show n.length - a.toNat < _; omega)
  rw [h1]
  refine Prod.ext rfl ?_
  exact eval_next _ (mch s e g n a) h
theorem vl_eq (h : Ok s n a) : m2_expr_machine__eval (mch s e g n a) = m2_expr_machine__eval_B (m2_expr_machine__eval_R (n.length - a.toNat)) (mch s e g n a) := by
  unfold m2_expr_machine__eval
  rw [show (mch s e g n a).nodes.length - (mch s e g n a).next.toNat + 1 = (n.length - a.toNat) + 1 from rfl, m2_expr_machine__eval_R]
theorem evalB (rec_ : expr_machine → expr_value × expr_machine) (x0 : expr_machine) : m2_expr_machine__eval_B rec_ x0 =
    if expr_arity ((ix x0.nodes x0.next).Op) = 0 then ((m2_expr_machine__load (st1 x0) (ix x0.nodes x0.next)).1, (m2_expr_machine__load (st1 x0) (ix x0.nodes x0.next)).2)
    else if expr_arity ((ix x0.nodes x0.next).Op) = 1 then (expr_unary (ix x0.nodes x0.next) (rec_ (st1 x0)).1, (rec_ (st1 x0)).2)
    else if expr_arity ((ix x0.nodes x0.next).Op) = 2 then (expr_binary (ix x0.nodes x0.next).Op (rec_ (st1 x0)).1 (rec_ (rec_ (st1 x0)).2).1, (rec_ (rec_ (st1 x0)).2).2)
    else if (rec_ (st1 x0)).1.v = 1#32 then ((rec_ (rec_ (st1 x0)).2).1, (rec_ (rec_ (rec_ (st1 x0)).2).2).2) else ((rec_ (rec_ (rec_ (st1 x0)).2).2).1, (rec_ (rec_ (rec_ (st1 x0)).2).2).2) := by
  unfold m2_expr_machine__eval_B
  simp only [LET, decide_eq_true_eq]
theorem st1_mch (h : Ok s n a) : st1 (mch s e g n a) = mch s e g n (a + 1) := by
  show ({ scope := _, env := _, args := _, nodes := _, next := wr (a + 1) } : expr_machine) = _
  rw [h.wr1]
  rfl
theorem vl_0 (h : Ok s n a) (ha : expr_arity (ix n a).Op = 0) : vl s e g n a = (m2_expr_machine__load (mch s e g n (a + 1)) (ix n a)).1 := by
  show (m2_expr_machine__eval (mch s e g n a)).1 = _
  rw [vl_eq e g h, evalB, if_pos (show expr_arity (ix (mch s e g n a).nodes (mch s e g n a).next).Op = 0 from ha), st1_mch e g h]
  rfl
theorem vl_1 (h : Ok s n a) (ha : expr_arity (ix n a).Op = 1) (k1 : Ok s n (a + 1)) : vl s e g n a = expr_unary (ix n a) (vl s e g n (a + 1)) := by
  have hlt := h.lt
  have hlo := h.lo
  have q1 := evalAt e g (k := n.length - a.toNat) k1 (by omega)
  have hm : expr_arity (ix (mch s e g n a).nodes (mch s e g n a).next).Op = 1 := ha
  show (m2_expr_machine__eval (mch s e g n a)).1 = _
  rw [vl_eq e g h, evalB, if_neg (by rw [hm]; omega), if_pos hm, st1_mch e g h, q1]
  rfl
theorem vl_2 (h : Ok s n a) (ha : expr_arity (ix n a).Op = 2) (k1 : Ok s n (a + 1)) (k2 : Ok s n (nx s n (a + 1))) : vl s e g n a = expr_binary (ix n a).Op (vl s e g n (a + 1)) (vl s e g n (nx s n (a + 1))) := by
  have hlt := h.lt
  have hlo := h.lo
  have g1 := k1.gt
  have q1 := evalAt e g (k := n.length - a.toNat) k1 (by omega)
  have q2 := evalAt e g (k := n.length - a.toNat) k2 (by omega)
  have hm : expr_arity (ix (mch s e g n a).nodes (mch s e g n a).next).Op = 2 := ha
  show (m2_expr_machine__eval (mch s e g n a)).1 = _
  rw [vl_eq e g h, evalB, if_neg (by rw [hm]; omega), if_neg (by rw [hm]; omega), if_pos hm, st1_mch e g h, q1]
  show expr_binary _ _ (m2_expr_machine__eval_R _ (mch s e g n (nx s n (a + 1)))).1 = _
  rw [q2]
  rfl
theorem vl_3 (h : Ok s n a) (ha : expr_arity (ix n a).Op = 3) (k1 : Ok s n (a + 1)) (k2 : Ok s n (nx s n (a + 1))) (k3 : Ok s n (nx s n (nx s n (a + 1)))) : vl s e g n a = if (vl s e g n (a + 1)).v = 1#32 then vl s e g n (nx s n (a + 1)) else vl s e g n (nx s n (nx s n (a + 1))) := by
  have hlt := h.lt
  have hlo := h.lo
  have g1 := k1.gt
  have g2 := k2.gt
  have q1 := evalAt e g (k := n.length - a.toNat) k1 (by omega)
  have q2 := evalAt e g (k := n.length - a.toNat) k2 (by omega)
  have q3 := evalAt e g (k := n.length - a.toNat) k3 (by omega)
  have hm : expr_arity (ix (mch s e g n a).nodes (mch s e g n a).next).Op = 3 := ha
  show (m2_expr_machine__eval (mch s e g n a)).1 = _
  rw [vl_eq e g h, evalB, if_neg (by rw [hm]; omega), if_neg (by rw [hm]; omega), if_neg (by rw [hm]; omega), st1_mch e g h, q1]
  show (if (vl s e g n (a + 1)).v = 1#32 then ((m2_expr_machine__eval_R _ (mch s e g n (nx s n (a + 1)))).1, _) else ((m2_expr_machine__eval_R _ (m2_expr_machine__eval_R _ (mch s e g n (nx s n (a + 1)))).2).1, _)).1 = _
  rw [q2]
  show (if (vl s e g n (a + 1)).v = 1#32 then (vl s e g n (nx s n (a + 1)), (m2_expr_machine__eval_R _ (mch s e g n (nx s n (nx s n (a + 1))))).2) else ((m2_expr_machine__eval_R _ (mch s e g n (nx s n (nx s n (a + 1))))).1, (m2_expr_machine__eval_R _ (mch s e g n (nx s n (nx s n (a + 1))))).2)).1 = _
  rw [q3]
  split <;> rfl
end
theorem Eval_ok (n : List api_ExprNode) (s : expr_Scope) (e : api_Env) (g : List (BitVec 32)) (h : (expr_Check n s).2 = 0) : expr_Eval n s e g = (vl s e g n 0).v := by
  unfold expr_Eval
  simp only [LET]
  rw [if_neg (by simp [h])]
  rfl
theorem Eval_bad (n : List api_ExprNode) (s : expr_Scope) (e : api_Env) (g : List (BitVec 32)) (h : ¬(expr_Check n s).2 = 0) : expr_Eval n s e g = 0#32 := by
  unfold expr_Eval
  simp only [LET]
  rw [if_pos (by simp [h])]
/-! Widths -/
theorem wide_ok {w : Int} (h : (expr_wide w).2 = 0) : (expr_wide w).1 = w ∧ 1 ≤ w ∧ w ≤ 32 := by
  unfold expr_wide at h ⊢
  split at h
  · cases h
  · rename_i hc
    rw [if_neg hc]
    simp only [Bool.or_eq_true, decide_eq_true_eq, not_or] at hc
    exact ⟨rfl, by omega⟩
theorem primary_w {s : expr_Scope} {x : api_ExprNode} (h : (m1_expr_Scope__primary s x).2 = 0) : 1 ≤ (m1_expr_Scope__primary s x).1 ∧ (m1_expr_Scope__primary s x).1 ≤ 32 := by
  unfold m1_expr_Scope__primary at h ⊢
  simp only [LET] at h ⊢
  split at h
  · rename_i h1
    rw [if_pos h1]
    split at h
    · cases h
    · rename_i h2
      rw [if_neg h2]
      have := wide_ok h
      omega
  · rename_i h1
    rw [if_neg h1]
    split at h
    · rename_i h2
      rw [if_pos h2]
      split at h
      · cases h
      · rename_i h3
        rw [if_neg h3]
        have := wide_ok h
        omega
    · rename_i h2
      rw [if_neg h2]
      split at h
      · rename_i h3
        rw [if_pos h3]
        split at h
        · cases h
        · rename_i h4
          rw [if_neg h4]
          have := wide_ok h
          omega
      · rename_i h3
        rw [if_neg h3]
        split at h
        · cases h
        · rename_i h4
          rw [if_neg h4]
          omega
/-- What the operators ask of the widths of their operands, and the width they give. -/
theorem combine_eq (x : api_ExprNode) (u v w : Int) (ho : 5 ≤ x.Op ∧ x.Op ≤ 17) : expr_combine x [u, v, w] =
    if x.Op = 5 then (u, 0) else if x.Op = 6 ∨ x.Op = 7 then (if x.N < 0 ∨ 31 < x.N then (0, 9) else (u, 0)) else
    if x.Op = 8 then (if x.N < 0 then (0, 9) else if ¬(expr_wide x.W).2 = 0 ∨ wr (u - x.W) < x.N then (0, 10) else (x.W, 0)) else
    if x.Op = 14 then expr_wide (wr (u + v)) else if x.Op = 17 then (if ¬u = 1 ∨ ¬v = w then (0, 10) else (v, 0)) else
    if ¬u = v then (0, 10) else if x.Op = 15 ∨ x.Op = 16 then (1, 0) else (u, 0) := by
  have e0 : ix [u, v, w] 0 = u := rfl
  have e1 : ix [u, v, w] 1 = v := rfl
  have e2 : ix [u, v, w] 2 = w := rfl
  have : x.Op = 5 ∨ x.Op = 6 ∨ x.Op = 7 ∨ x.Op = 8 ∨ x.Op = 9 ∨ x.Op = 10 ∨ x.Op = 11 ∨ x.Op = 12 ∨ x.Op = 13 ∨ x.Op = 14 ∨ x.Op = 15 ∨ x.Op = 16 ∨ x.Op = 17 := by omega
  unfold expr_combine
  simp only [LET, e0, e1, e2]
  rcases this with h | h | h | h | h | h | h | h | h | h | h | h | h <;> simp [h, arity_eq]
end Go.Proofs.Ytfekghenlhoamaa
