/-
  Control flows az0 the list of their nodes in preorder; ControlQueries.
-/
import Derived.Test.YtkgnjpoafilicaaKPure
set_option linter.unusedVariables false
set_option linter.unusedSimpArgs false
set_option maxRecDepth 100000
namespace Go.Proofs.Ytkgnjpoafilicaa
open Go Go.Pb Go.RowKit
section
variable {σ : Type} (step : api_ControlNode → σ → Bool × σ)
def runS : List api_ControlNode → σ → Bool × σ
  | [], s => (true, s)
  | x :: l, s => if (step x s).1 = true then runS l (step x s).2 else (false, (step x s).2)
theorem runS_app : ∀ (a b : List api_ControlNode) (s : σ), runS step (a ++ b) s = if (runS step a s).1 = true then runS step b (runS step a s).2 else (false, (runS step a s).2)
  | [], b, s => by simp [runS]
  | x :: a, b, s => by
    rw [List.cons_append, runS, runS]
    split
    · exact runS_app a b _
    · simp
mutual
theorem preN_run : ∀ (x : api_ControlNode) (s : σ), preN step x s = runS step (poN x) s
  | ⟨a, b, c, t, e⟩, s => by
    rw [preN, poN, runS]
    split
    · rw [preL_run t, runS_app]
      split
      · exact preL_run e _
      · rfl
    · rfl
theorem preL_run : ∀ (l : List api_ControlNode) (s : σ), preL step l s = runS step (poL l) s
  | [], s => by rw [preL, poL, runS]
  | x :: l, s => by
    rw [preL, poL, runS_app, preN_run x]
    split
    · exact preL_run l _
    · rfl
end
theorem pre_run (l : List api_ControlNode) (s : σ) : control_preorder step l s = runS step (poL l) s := preL_run step l s
end
/-! The definition's preorder -/
theorem refpre_L1 (x0 : List api_ControlNode) (rec_ : List api_ControlNode → List api_ControlNode) (hr : ∀ z, csl z < csl x0 → rec_ z = poL z) : ∀ (m : Nat) (i : Int) (z : List api_ControlNode), m = Int.toNat ((x0.length : Int) - i) → 0 ≤ i → ref20_Preorder_L1 x0 rec_ (fun z => z) m i z = z ++ poL (x0.drop i.toNat)
  | 0, i, z, hm, h0 => by rw [ref20_Preorder_L1, drop_end (by omega), poL, List.append_nil]
  | m + 1, i, z, hm, h0 => by
    rw [ref20_Preorder_L1]
    simp only [LET]
    have hlt := csl_ix (l := x0) h0 (by omega)
    rw [refpre_L1 x0 rec_ hr m (i + 1) _ (by omega) (by omega), hr _ hlt.1, hr _ hlt.2, drop_ix (c := x0) (i := i) h0 (by omega), poL, poN_eq]
    simp
theorem refpre_R : ∀ (k : Nat) (l : List api_ControlNode), csl l < k → ref20_Preorder_R k l = poL l
  | 0, l, h => by omega
  | k + 1, l, h => by
    rw [ref20_Preorder_R]
    unfold ref20_Preorder_B
    rw [refpre_L1 l _ (fun z hz => refpre_R k z (by omega)) _ 0 [] rfl (by omega)]
    simp
theorem refpre_eq (l : List api_ControlNode) : ref20_Preorder l = poL l := refpre_R _ l (Nat.lt_succ_self _)
/-! Count -/
theorem count_run : ∀ (l : List api_ControlNode) (n : Int), 0 ≤ n → n + l.length ≤ 100000 → runS (fun a_ s_ => control_Count_1 a_ s_) l n = (true, n + l.length)
  | [], n, h0, h1 => by simp [runS]
  | x :: l, n, h0, h1 => by
    rw [List.length_cons] at h1
    rw [runS]
    show (if true = true then runS (fun a_ s_ => control_Count_1 a_ s_) l (wr (n + 1)) else _) = _
    rw [if_pos rfl, wr_of (by omega) (by omega), count_run l (n + 1) (by omega) (by omega), List.length_cons]
    congr 1
    omega
theorem count_eq {l : List api_ControlNode} (h : csl l ≤ 1000) : control_Count l = csl l := by
  unfold control_Count
  simp only [LET, pre_run]
  rw [count_run _ 0 (by omega) (by rw [poL_len]; omega), poL_len]
  show (0 : Int) + (csl l : Int) = csl l
  omega
theorem refcount_L1 (x0 : List api_ControlNode) (rec_ : List api_ControlNode → Int) (hs : csl x0 ≤ 1000) (hr : ∀ z, csl z < csl x0 → rec_ z = csl z) : ∀ (m : Nat) (n i : Int), m = Int.toNat ((x0.length : Int) - i) → 0 ≤ i → 0 ≤ n → n + csl (x0.drop i.toNat) ≤ 1000 → ref20_Count_L1 x0 rec_ (fun z => z) m n i = n + csl (x0.drop i.toNat)
  | 0, n, i, hm, h0, n0, n1 => by rw [ref20_Count_L1, drop_end (by omega), csl]; omega
  | m + 1, n, i, hm, h0, n0, n1 => by
    rw [ref20_Count_L1]
    simp only [LET]
    have hlt := csl_ix (l := x0) h0 (by omega)
    have hd := csl_drop (l := x0) (i := i) h0 (by omega)
    rw [hr _ hlt.1, hr _ hlt.2, wr_of (n := 1 + (csl (ix x0 i).Then : Int)) (by omega) (by omega), wr_of (n := 1 + (csl (ix x0 i).Then : Int) + (csl (ix x0 i).Else : Int)) (by omega) (by omega), wr_of (by omega) (by omega), refcount_L1 x0 rec_ hs hr m _ (i + 1) (by omega) (by omega) (by omega) (by omega)]
    omega
theorem refcount_R : ∀ (k : Nat) (l : List api_ControlNode), csl l < k → csl l ≤ 1000 → ref20_Count_R k l = csl l
  | 0, l, h, _ => by omega
  | k + 1, l, h, hs => by
    rw [ref20_Count_R]
    unfold ref20_Count_B
    rw [refcount_L1 l _ hs (fun z hz => refcount_R k z (by omega) (by omega)) _ 0 0 rfl (by omega) (by omega) (by simp; omega)]
    simp
theorem refcount_eq {l : List api_ControlNode} (h : csl l ≤ 1000) : ref20_Count l = csl l := refcount_R _ l (Nat.lt_succ_self _) h
/-! Nesting -/
theorem nest_L1 (x0 : List api_ControlNode) (r1 r2 : List api_ControlNode → Int) (hr : ∀ z, csl z < csl x0 → r1 z = r2 z ∧ 0 ≤ r1 z ∧ r1 z ≤ csl z) : ∀ (m : Nat) (n i : Int), m = Int.toNat ((x0.length : Int) - i) → 0 ≤ i → 0 ≤ n → n ≤ csl x0 → csl x0 ≤ 1000 →
      ref20_Nesting_L1 x0 r2 (fun z => z) m (n + 1) i = control_Nesting_L1 x0 r1 (fun z => wr (z + 1)) m n i ∧ 1 ≤ ref20_Nesting_L1 x0 r2 (fun z => z) m (n + 1) i ∧ ref20_Nesting_L1 x0 r2 (fun z => z) m (n + 1) i ≤ csl x0 + 1
  | 0, n, i, hm, h0, n0, n1, hs => by
    rw [ref20_Nesting_L1, control_Nesting_L1, wr_of (by omega) (by omega)]
    exact ⟨rfl, by omega, by omega⟩
  | m + 1, n, i, hm, h0, n0, n1, hs => by
    rw [ref20_Nesting_L1, control_Nesting_L1]
    simp only [LET]
    have hlt := csl_ix (l := x0) (i := i) h0 (by omega)
    obtain ⟨a1, a2, a3⟩ := hr _ hlt.1
    obtain ⟨b1, b2, b3⟩ := hr _ hlt.2
    rw [← a1, ← b1, wr_of (n := 1 + r1 (ix x0 i).Then) (by omega) (by omega), wr_of (n := 1 + r1 (ix x0 i).Else) (by omega) (by omega)]
    have e : max (max (n + 1) (1 + r1 (ix x0 i).Then)) (1 + r1 (ix x0 i).Else) = max (max n (r1 (ix x0 i).Then)) (r1 (ix x0 i).Else) + 1 := by omega
    rw [e]
    exact nest_L1 x0 r1 r2 hr m _ (i + 1) (by omega) (by omega) (by omega) (by omega) hs
theorem nest_bound (x0 : List api_ControlNode) (r2 : List api_ControlNode → Int) (hr : ∀ z, csl z < csl x0 → 0 ≤ r2 z ∧ r2 z ≤ csl z) : ∀ (m : Nat) (n i : Int), m = Int.toNat ((x0.length : Int) - i) → 0 ≤ i → n ≤ csl x0 → csl x0 ≤ 1000 → ref20_Nesting_L1 x0 r2 (fun z => z) m n i ≤ csl x0
  | 0, n, i, hm, h0, n1, hs => by rw [ref20_Nesting_L1]; exact n1
  | m + 1, n, i, hm, h0, n1, hs => by
    rw [ref20_Nesting_L1]
    simp only [LET]
    have hlt := csl_ix (l := x0) (i := i) h0 (by omega)
    obtain ⟨a2, a3⟩ := hr _ hlt.1
    obtain ⟨b2, b3⟩ := hr _ hlt.2
    rw [wr_of (n := 1 + r2 (ix x0 i).Then) (by omega) (by omega), wr_of (n := 1 + r2 (ix x0 i).Else) (by omega) (by omega)]
    exact nest_bound x0 r2 hr m _ (i + 1) (by omega) (by omega) (by omega) hs
theorem nest_R : ∀ (k : Nat) (l : List api_ControlNode), csl l < k → csl l ≤ 1000 → control_Nesting_R k l = ref20_Nesting_R k l ∧ 0 ≤ control_Nesting_R k l ∧ control_Nesting_R k l ≤ csl l
  | 0, l, h, _ => by omega
  | k + 1, l, h, hs => by
    rw [control_Nesting_R, ref20_Nesting_R]
    unfold control_Nesting_B ref20_Nesting_B
    have ih : ∀ z, csl z < csl l → control_Nesting_R k z = ref20_Nesting_R k z ∧ 0 ≤ control_Nesting_R k z ∧ control_Nesting_R k z ≤ csl z := fun z hz => nest_R k z (by omega) (by omega)
    by_cases hl : l.length = 0
    · rw [if_pos (by simp [hl]), hl]
      rw [show Int.toNat (((0 : Nat) : Int) - 0) = 0 from rfl, ref20_Nesting_L1]
      exact ⟨rfl, by omega, by omega⟩
    · rw [if_neg (by simpa using hl)]
      have hb := nest_bound l (ref20_Nesting_R k) (fun z hz => by rw [← (ih z hz).1]; exact (ih z hz).2) (Int.toNat ((l.length : Int) - 0)) 0 0 rfl (by omega) (by omega) hs
      obtain ⟨j, hj⟩ : ∃ j, Int.toNat ((l.length : Int) - 0) = j + 1 := ⟨l.length - 1, by omega⟩
      rw [hj] at hb ⊢
      have hlt := csl_ix (l := l) (i := 0) (by omega) (by omega)
      obtain ⟨a1, a2, a3⟩ := ih _ hlt.1
      obtain ⟨b1, b2, b3⟩ := ih _ hlt.2
      rw [ref20_Nesting_L1] at hb ⊢
      rw [control_Nesting_L1]
      simp only [LET] at hb ⊢
      rw [← a1, ← b1, wr_of (n := 1 + control_Nesting_R k (ix l 0).Then) (by omega) (by omega), wr_of (n := 1 + control_Nesting_R k (ix l 0).Else) (by omega) (by omega)] at hb ⊢
      have e : max (max 0 (1 + control_Nesting_R k (ix l 0).Then)) (1 + control_Nesting_R k (ix l 0).Else) = max (max 0 (control_Nesting_R k (ix l 0).Then)) (control_Nesting_R k (ix l 0).Else) + 1 := by omega
      rw [e] at hb ⊢
      obtain ⟨q1, q2, q3⟩ := nest_L1 l (control_Nesting_R k) (ref20_Nesting_R k) ih j (max (max 0 (control_Nesting_R k (ix l 0).Then)) (control_Nesting_R k (ix l 0).Else)) (0 + 1) (by omega) (by omega) (by omega) (by omega) hs
      exact ⟨q1.symm, by rw [← q1]; omega, by rw [← q1]; exact hb⟩
theorem nest_eq {l : List api_ControlNode} (h : csl l ≤ 1000) : control_Nesting l = ref20_Nesting l ∧ 0 ≤ control_Nesting l ∧ control_Nesting l ≤ csl l := nest_R _ l (Nat.lt_succ_self _) h
/-! Tables -/
theorem applies_eq (x : api_ControlNode) : ref20_applies x = control_applies x := rfl
theorem tables_run : ∀ (l : List api_ControlNode) (z : List Int), runS (fun a_ s_ => control_Tables_1 a_ s_) l z = (true, z ++ (l.filter control_applies).map (·.Table))
  | [], z => by simp [runS]
  | x :: l, z => by
    rw [runS]
    have e : control_Tables_1 x z = (true, if control_applies x = true then z ++ [x.Table] else z) := by
      unfold control_Tables_1
      simp only [LET]
      split <;> rfl
    rw [e]
    show (if true = true then runS _ l (if control_applies x = true then z ++ [x.Table] else z) else _) = _
    rw [if_pos rfl, tables_run l, List.filter_cons]
    split <;> simp
theorem reftables_L1 (l : List api_ControlNode) : ∀ (m : Nat) (i : Int) (z : List Int), m = Int.toNat ((l.length : Int) - i) → 0 ≤ i → ref20_Tables_L1 l (fun z => z) m i z = z ++ ((l.drop i.toNat).filter control_applies).map (·.Table)
  | 0, i, z, hm, h0 => by rw [ref20_Tables_L1, drop_end (by omega)]; simp
  | m + 1, i, z, hm, h0 => by
    rw [ref20_Tables_L1]
    simp only [LET, applies_eq]
    rw [drop_ix (c := l) (i := i) h0 (by omega), List.filter_cons, reftables_L1 l m (i + 1) _ (by omega) (by omega), reftables_L1 l m (i + 1) _ (by omega) (by omega)]
    split
    · rename_i h; simp [h]
    · rename_i h; simp [h]
theorem tables_eq (l : List api_ControlNode) : control_Tables l = ref20_Tables l := by
  unfold control_Tables ref20_Tables
  simp only [LET, pre_run, refpre_eq]
  rw [tables_run, reftables_L1 _ _ 0 [] rfl (by omega)]
  simp
theorem tables_po (l : List api_ControlNode) : control_Tables l = ((poL l).filter control_applies).map (·.Table) := by
  unfold control_Tables
  simp only [LET, pre_run]
  rw [tables_run]
  simp
theorem eqints_L1 (l : List Int) : ∀ (m : Nat) (i : Int), ref02_EqualInts_L1 l l (fun _ => true) m i = true
  | 0, i => by rw [ref02_EqualInts_L1]
  | m + 1, i => by
    rw [ref02_EqualInts_L1, if_neg (by simp)]
    exact eqints_L1 l m _
theorem eqints_refl (l : List Int) : ref02_EqualInts l l = true := by
  unfold ref02_EqualInts
  rw [if_neg (by simp)]
  exact eqints_L1 l _ _
/-! Node -/
theorem node_run (at_ : Int) : ∀ (l : List api_ControlNode) (n : Int) (z : api_ControlNode), 0 ≤ n → n + l.length ≤ 100000 → runS (fun a_ s_ => control_Node_1 a_ s_.1 at_ s_.2) l (n, z) = if n ≤ at_ ∧ at_ < n + l.length then (false, (at_, ix l (at_ - n))) else (true, (n + l.length, z))
  | [], n, z, h0, h1 => by
    rw [runS, if_neg (by simp)]
    simp
  | x :: l, n, z, h0, h1 => by
    rw [List.length_cons] at h1 ⊢
    rw [runS]
    unfold control_Node_1
    simp only [LET]
    by_cases hc : n = at_
    · subst hc
      rw [if_pos (show n ≤ n ∧ n < n + ((l.length + 1 : Nat) : Int) by omega)]
      simp [control_clone, ix]
    · simp only [decide_eq_false hc, Bool.false_eq_true, if_false, if_true]
      rw [wr_of (by omega) (by omega)]
      have ih := node_run at_ l (n + 1) z (by omega) (by omega)
      unfold control_Node_1 at ih
      simp only [LET] at ih
      rw [ih]
      by_cases h2 : n + 1 ≤ at_ ∧ at_ < n + 1 + l.length
      · rw [if_pos h2, if_pos (by omega)]
        congr 2
        unfold ix
        rw [show (at_ - n).toNat = (at_ - (n + 1)).toNat + 1 by omega]
        rfl
      · rw [if_neg h2, if_neg (by omega)]
        congr 2
        omega
def zeroN : api_ControlNode := { Kind := 0, Table := 0, Cond := [], Then := [], Else := [] }
theorem node_eq {l : List api_ControlNode} (h : csl l ≤ 1000) (at_ : Int) : control_Node l at_ = if 0 ≤ at_ ∧ at_ < csl l then (ix (poL l) at_, true) else (zeroN, false) := by
  unfold control_Node
  simp only [LET, pre_run]
  rw [node_run at_ _ 0 _ (by omega) (by rw [poL_len]; omega), poL_len]
  by_cases hc : 0 ≤ at_ ∧ at_ < csl l
  · rw [if_pos (by omega), if_pos hc]
    simp
  · rw [if_neg (by omega), if_neg hc]
    rfl
theorem refnode_eq (l : List api_ControlNode) (at_ : Int) : ref20_Node l at_ = if 0 ≤ at_ ∧ at_ < csl l then (ix (poL l) at_, true) else (zeroN, false) := by
  unfold ref20_Node
  simp only [LET, refpre_eq, poL_len]
  by_cases hc : 0 ≤ at_ ∧ at_ < csl l
  · rw [if_neg (by simp; omega), if_pos hc]
  · rw [if_pos (by simp; omega), if_neg hc]
    rfl
/-! Equal -/
theorem eqnodes_L1 (l : List api_ExprNode) : ∀ (m : Nat) (i : Int), ref13_EqualNodes_L1 l l (fun _ => true) m i = true
  | 0, i => by rw [ref13_EqualNodes_L1]
  | m + 1, i => by
    rw [ref13_EqualNodes_L1]
    simp only [LET]
    rw [if_neg (by simp)]
    exact eqnodes_L1 l m _
theorem eqnodes_refl (l : List api_ExprNode) : ref13_EqualNodes l l = true := by
  unfold ref13_EqualNodes
  rw [if_neg (by simp)]
  exact eqnodes_L1 l _ _
theorem equal_L1 (l : List api_ControlNode) (rec_ : List api_ControlNode → List api_ControlNode → Bool) (hr : ∀ z, csl z < csl l → rec_ z z = true) : ∀ (m : Nat) (i : Int), m = Int.toNat ((l.length : Int) - i) → 0 ≤ i → ref20_Equal_L1 l l rec_ (fun _ => true) m i = true
  | 0, i, _, _ => by rw [ref20_Equal_L1]
  | m + 1, i, hm, h0 => by
    have hlt := csl_ix (l := l) (i := i) h0 (by omega)
    rw [ref20_Equal_L1, if_neg (by simp [hr _ hlt.1, hr _ hlt.2]), if_neg (by simp [eqnodes_refl])]
    exact equal_L1 l rec_ hr m _ (by omega) (by omega)
theorem equal_R : ∀ (k : Nat) (l : List api_ControlNode), csl l < k → ref20_Equal_R k l l = true
  | 0, l, h => by omega
  | k + 1, l, h => by
    rw [ref20_Equal_R]
    unfold ref20_Equal_B
    rw [if_neg (by simp)]
    exact equal_L1 l _ (fun z hz => equal_R k z (by omega)) _ 0 rfl (by omega)
theorem equal_refl (l : List api_ControlNode) : ref20_Equal l l = true := equal_R _ l (Nat.lt_succ_self _)
theorem ControlQueries_law (x0 : List api_ControlNode) (x1 : Int) : law20_ControlQueries x0 x1 = true := by
  unfold law20_ControlQueries
  simp only [LET]
  split
  · rfl
  · rename_i h
    have hs : csl x0 ≤ 60 := by
      have := small_csl (c := x0) (n := 60) (y := true) (by simpa using h) rfl (by omega)
      omega
    rw [node_eq (by omega), refnode_eq, count_eq (by omega), refcount_eq (by omega), (nest_eq (by omega)).1, tables_eq, eqints_refl, equal_refl]
    simp
    rfl
end Go.Proofs.Ytkgnjpoafilicaa
