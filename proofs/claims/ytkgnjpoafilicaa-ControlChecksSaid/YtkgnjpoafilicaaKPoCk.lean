/-
  Hand-written texts in one.
-/
import Derived.Test.YtkgnjpoafilicaaKPureEx
import Derived.Test.YtkgnjpoafilicaaKPureEx
set_option linter.unusedVariables false
set_option linter.unusedSimpArgs false
set_option maxRecDepth 100000
namespace Go.Proofs.Ytkgnjpoafilicaa
open Go Go.Pb Go.RowKit
section
variable {σ : Type} (step : api_ControlNode → σ → Bool × σ)
def runS : List api_ControlNode → σ → Bool × σ
  | [], s => (true, s)
  | x :: l, s => if (step x s).1 = true then runS l (step x s).2 else (false, (step x s).2)
theorem runS_app : ∀ (a b : List api_ControlNode) (s : σ), runS step (a ++ b) s = if (runS step a s).1 = true then runS step b (runS step a s).2 else (false, (runS step a s).2)
  | [], b, s => by simp [runS]
  | x :: a, b, s => by
    rw [List.cons_append, runS, runS]
    split
    · exact runS_app a b _
    · simp
mutual
theorem preN_run : ∀ (x : api_ControlNode) (s : σ), preN step x s = runS step (poN x) s
  | ⟨a, b, c, t, e⟩, s => by
    rw [preN, poN, runS]
    split
    · rw [preL_run t, runS_app]
      split
      · exact preL_run e _
      · rfl
    · rfl
theorem preL_run : ∀ (l : List api_ControlNode) (s : σ), preL step l s = runS step (poL l) s
  | [], s => by rw [preL, poL, runS]
  | x :: l, s => by
    rw [preL, poL, runS_app, preN_run x]
    split
    · exact preL_run l _
    · rfl
end
theorem pre_run (l : List api_ControlNode) (s : σ) : control_preorder step l s = runS step (poL l) s := preL_run step l s
end
/-! The definition's preorder -/
theorem refpre_L1 (x0 : List api_ControlNode) (rec_ : List api_ControlNode → List api_ControlNode) (hr : ∀ z, csl z < csl x0 → rec_ z = poL z) : ∀ (m : Nat) (i : Int) (z : List api_ControlNode), m = Int.toNat ((x0.length : Int) - i) → 0 ≤ i → ref20_Preorder_L1 x0 rec_ (fun z => z) m i z = z ++ poL (x0.drop i.toNat)
  | 0, i, z, hm, h0 => by rw [ref20_Preorder_L1, drop_end (by omega), poL, List.append_nil]
  | m + 1, i, z, hm, h0 => by
    rw [ref20_Preorder_L1]
    simp only [LET]
    have hlt := csl_ix (l := x0) h0 (by omega)
    rw [refpre_L1 x0 rec_ hr m (i + 1) _ (by omega) (by omega), hr _ hlt.1, hr _ hlt.2, drop_ix (c := x0) (i := i) h0 (by omega), poL, poN_eq]
    simp
theorem refpre_R : ∀ (k : Nat) (l : List api_ControlNode), csl l < k → ref20_Preorder_R k l = poL l
  | 0, l, h => by omega
  | k + 1, l, h => by
    rw [ref20_Preorder_R]
    unfold ref20_Preorder_B
    rw [refpre_L1 l _ (fun z hz => refpre_R k z (by omega)) _ 0 [] rfl (by omega)]
    simp
theorem refpre_eq (l : List api_ControlNode) : ref20_Preorder l = poL l := refpre_R _ l (Nat.lt_succ_self _)
/-! Count -/
theorem count_run : ∀ (l : List api_ControlNode) (n : Int), 0 ≤ n → n + l.length ≤ 100000 → runS (fun a_ s_ => control_Count_1 a_ s_) l n = (true, n + l.length)
  | [], n, h0, h1 => by simp [runS]
  | x :: l, n, h0, h1 => by
    rw [List.length_cons] at h1
    rw [runS]
    show (if true = true then runS (fun a_ s_ => control_Count_1 a_ s_) l (wr (n + 1)) else _) = _
    rw [if_pos rfl, wr_of (by omega) (by omega), count_run l (n + 1) (by omega) (by omega), List.length_cons]
    congr 1
    omega
theorem count_eq {l : List api_ControlNode} (h : csl l ≤ 1000) : control_Count l = csl l := by
  unfold control_Count
  simp only [LET, pre_run]
  rw [count_run _ 0 (by omega) (by rw [poL_len]; omega), poL_len]
  show (0 : Int) + (csl l : Int) = csl l
  omega
theorem refcount_L1 (x0 : List api_ControlNode) (rec_ : List api_ControlNode → Int) (hs : csl x0 ≤ 1000) (hr : ∀ z, csl z < csl x0 → rec_ z = csl z) : ∀ (m : Nat) (n i : Int), m = Int.toNat ((x0.length : Int) - i) → 0 ≤ i → 0 ≤ n → n + csl (x0.drop i.toNat) ≤ 1000 → ref20_Count_L1 x0 rec_ (fun z => z) m n i = n + csl (x0.drop i.toNat)
  | 0, n, i, hm, h0, n0, n1 => by rw [ref20_Count_L1, drop_end (by omega), csl]; omega
  | m + 1, n, i, hm, h0, n0, n1 => by
    rw [ref20_Count_L1]
    simp only [LET]
    have hlt := csl_ix (l := x0) h0 (by omega)
    have hd := csl_drop (l := x0) (i := i) h0 (by omega)
    rw [hr _ hlt.1, hr _ hlt.2, wr_of (n := 1 + (csl (ix x0 i).Then : Int)) (by omega) (by omega), wr_of (n := 1 + (csl (ix x0 i).Then : Int) + (csl (ix x0 i).Else : Int)) (by omega) (by omega), wr_of (by omega) (by omega), refcount_L1 x0 rec_ hs hr m _ (i + 1) (by omega) (by omega) (by omega) (by omega)]
    omega
theorem refcount_R : ∀ (k : Nat) (l : List api_ControlNode), csl l < k → csl l ≤ 1000 → ref20_Count_R k l = csl l
  | 0, l, h, _ => by omega
  | k + 1, l, h, hs => by
    rw [ref20_Count_R]
    unfold ref20_Count_B
    rw [refcount_L1 l _ hs (fun z hz => refcount_R k z (by omega) (by omega)) _ 0 0 rfl (by omega) (by omega) (by simp; omega)]
    simp
theorem refcount_eq {l : List api_ControlNode} (h : csl l ≤ 1000) : ref20_Count l = csl l := refcount_R _ l (Nat.lt_succ_self _) h
/-! Nesting -/
theorem nest_L1 (x0 : List api_ControlNode) (r1 r2 : List api_ControlNode → Int) (hr : ∀ z, csl z < csl x0 → r1 z = r2 z ∧ 0 ≤ r1 z ∧ r1 z ≤ csl z) : ∀ (m : Nat) (n i : Int), m = Int.toNat ((x0.length : Int) - i) → 0 ≤ i → 0 ≤ n → n ≤ csl x0 → csl x0 ≤ 1000 →
      ref20_Nesting_L1 x0 r2 (fun z => z) m (n + 1) i = control_Nesting_L1 x0 r1 (fun z => wr (z + 1)) m n i ∧ 1 ≤ ref20_Nesting_L1 x0 r2 (fun z => z) m (n + 1) i ∧ ref20_Nesting_L1 x0 r2 (fun z => z) m (n + 1) i ≤ csl x0 + 1
  | 0, n, i, hm, h0, n0, n1, hs => by
    rw [ref20_Nesting_L1, control_Nesting_L1, wr_of (by omega) (by omega)]
    exact ⟨rfl, by omega, by omega⟩
  | m + 1, n, i, hm, h0, n0, n1, hs => by
    rw [ref20_Nesting_L1, control_Nesting_L1]
    simp only [LET]
    have hlt := csl_ix (l := x0) (i := i) h0 (by omega)
    obtain ⟨a1, a2, a3⟩ := hr _ hlt.1
    obtain ⟨b1, b2, b3⟩ := hr _ hlt.2
    rw [← a1, ← b1, wr_of (n := 1 + r1 (ix x0 i).Then) (by omega) (by omega), wr_of (n := 1 + r1 (ix x0 i).Else) (by omega) (by omega)]
    have e : max (max (n + 1) (1 + r1 (ix x0 i).Then)) (1 + r1 (ix x0 i).Else) = max (max n (r1 (ix x0 i).Then)) (r1 (ix x0 i).Else) + 1 := by omega
    rw [e]
    exact nest_L1 x0 r1 r2 hr m _ (i + 1) (by omega) (by omega) (by omega) (by omega) hs
theorem nest_bound (x0 : List api_ControlNode) (r2 : List api_ControlNode → Int) (hr : ∀ z, csl z < csl x0 → 0 ≤ r2 z ∧ r2 z ≤ csl z) : ∀ (m : Nat) (n i : Int), m = Int.toNat ((x0.length : Int) - i) → 0 ≤ i → n ≤ csl x0 → csl x0 ≤ 1000 → ref20_Nesting_L1 x0 r2 (fun z => z) m n i ≤ csl x0
  | 0, n, i, hm, h0, n1, hs => by rw [ref20_Nesting_L1]; exact n1
  | m + 1, n, i, hm, h0, n1, hs => by
    rw [ref20_Nesting_L1]
    simp only [LET]
    have hlt := csl_ix (l := x0) (i := i) h0 (by omega)
    obtain ⟨a2, a3⟩ := hr _ hlt.1
    obtain ⟨b2, b3⟩ := hr _ hlt.2
    rw [wr_of (n := 1 + r2 (ix x0 i).Then) (by omega) (by omega), wr_of (n := 1 + r2 (ix x0 i).Else) (by omega) (by omega)]
    exact nest_bound x0 r2 hr m _ (i + 1) (by omega) (by omega) (by omega) hs
theorem nest_R : ∀ (k : Nat) (l : List api_ControlNode), csl l < k → csl l ≤ 1000 → control_Nesting_R k l = ref20_Nesting_R k l ∧ 0 ≤ control_Nesting_R k l ∧ control_Nesting_R k l ≤ csl l
  | 0, l, h, _ => by omega
  | k + 1, l, h, hs => by
    rw [control_Nesting_R, ref20_Nesting_R]
    unfold control_Nesting_B ref20_Nesting_B
    have ih : ∀ z, csl z < csl l → control_Nesting_R k z = ref20_Nesting_R k z ∧ 0 ≤ control_Nesting_R k z ∧ control_Nesting_R k z ≤ csl z := fun z hz => nest_R k z (by omega) (by omega)
    by_cases hl : l.length = 0
    · rw [if_pos (by simp [hl]), hl]
      rw [show Int.toNat (((0 : Nat) : Int) - 0) = 0 from rfl, ref20_Nesting_L1]
      exact ⟨rfl, by omega, by omega⟩
    · rw [if_neg (by simpa using hl)]
      have hb := nest_bound l (ref20_Nesting_R k) (fun z hz => by rw [← (ih z hz).1]; exact (ih z hz).2) (Int.toNat ((l.length : Int) - 0)) 0 0 rfl (by omega) (by omega) hs
      obtain ⟨j, hj⟩ : ∃ j, Int.toNat ((l.length : Int) - 0) = j + 1 := ⟨l.length - 1, by omega⟩
      rw [hj] at hb ⊢
      have hlt := csl_ix (l := l) (i := 0) (by omega) (by omega)
      obtain ⟨a1, a2, a3⟩ := ih _ hlt.1
      obtain ⟨b1, b2, b3⟩ := ih _ hlt.2
      rw [ref20_Nesting_L1] at hb ⊢
      rw [control_Nesting_L1]
      simp only [LET] at hb ⊢
      rw [← a1, ← b1, wr_of (n := 1 + control_Nesting_R k (ix l 0).Then) (by omega) (by omega), wr_of (n := 1 + control_Nesting_R k (ix l 0).Else) (by omega) (by omega)] at hb ⊢
      have e : max (max 0 (1 + control_Nesting_R k (ix l 0).Then)) (1 + control_Nesting_R k (ix l 0).Else) = max (max 0 (control_Nesting_R k (ix l 0).Then)) (control_Nesting_R k (ix l 0).Else) + 1 := by omega
      rw [e] at hb ⊢
      obtain ⟨q1, q2, q3⟩ := nest_L1 l (control_Nesting_R k) (ref20_Nesting_R k) ih j (max (max 0 (control_Nesting_R k (ix l 0).Then)) (control_Nesting_R k (ix l 0).Else)) (0 + 1) (by omega) (by omega) (by omega) (by omega) hs
      exact ⟨q1.symm, by rw [← q1]; omega, by rw [← q1]; exact hb⟩
theorem nest_eq {l : List api_ControlNode} (h : csl l ≤ 1000) : control_Nesting l = ref20_Nesting l ∧ 0 ≤ control_Nesting l ∧ control_Nesting l ≤ csl l := nest_R _ l (Nat.lt_succ_self _) h
theorem applies_eq (x : api_ControlNode) : ref20_applies x = control_applies x := rfl
def tbs (l : List api_ControlNode) : List Int := (l.filter control_applies).map (·.Table)
theorem cn_L1 (x : api_ControlNode) (u : List Int) (K : Unit → Int) : ∀ (m : Nat) (i : Int), m = Int.toNat ((u.length : Int) - i) → 0 ≤ i → control_checkNode_L1 x u K m i = if x.Table ∈ u.drop i.toNat then 7 else K ()
  | 0, i, hm, h0 => by rw [control_checkNode_L1, drop_end (by omega), if_neg (by simp)]
  | m + 1, i, hm, h0 => by
    rw [control_checkNode_L1, drop_ix (c := u) (i := i) h0 (by omega)]
    by_cases hc : ix u i = x.Table
    · rw [if_pos (by simpa using hc), if_pos (by simp [hc])]
    · rw [if_neg (by simpa using hc), cn_L1 x u K m (i + 1) (by omega) (by omega)]
      have : x.Table ∈ ix u i :: u.drop (i + 1).toNat ↔ x.Table ∈ u.drop (i + 1).toNat := by
        rw [List.mem_cons]
        constructor
        · rintro (h | h)
          · exact absurd h.symm hc
          · exact h
        · exact .inr
      simp only [this]
theorem ab_L1 (L : List api_ControlNode) (n : Int) (hn : n ≤ L.length) : ∀ (m : Nat) (i : Int), m = Int.toNat (n - i) → 0 ≤ i → ref20_appliedBefore_L1 L n (fun _ => false) m i = decide ((ix L n).Table ∈ tbs ((L.take n.toNat).drop i.toNat))
  | 0, i, hm, h0 => by
    rw [ref20_appliedBefore_L1, List.drop_eq_nil_of_le (by rw [List.length_take]; omega)]
    simp [tbs]
  | m + 1, i, hm, h0 => by
    have h1 : i < n := by omega
    have hd : (L.take n.toNat).drop i.toNat = ix L i :: (L.take n.toNat).drop (i + 1).toNat := by
      have e := drop_ix (c := L.take n.toNat) (i := i) h0 (by rw [List.length_take]; omega)
      rw [e]
      congr 1
      unfold ix
      rw [List.getD_eq_getElem?_getD, List.getD_eq_getElem?_getD, List.getElem?_take, if_pos (by omega)]
    rw [ref20_appliedBefore_L1, hd]
    simp only [LET]
    rw [ab_L1 L n hn m (i + 1) (by omega) (by omega)]
    unfold tbs
    rw [List.filter_cons]
    by_cases ha : control_applies (ix L i) = true
    · rw [if_pos ha]
      by_cases hc : (ix L i).Table = (ix L n).Table
      · rw [if_pos (show (ref20_applies (ix L i) && decide ((ix L i).Table = (ix L n).Table)) = true by simp [applies_eq, ha, hc])]
        simp [hc]
      · rw [if_neg (show ¬(ref20_applies (ix L i) && decide ((ix L i).Table = (ix L n).Table)) = true by simp [hc])]
        simp only [List.map_cons, List.mem_cons]
        rw [decide_eq_decide]
        constructor
        · exact .inr
        · rintro (h | h)
          · exact absurd h.symm hc
          · exact h
    · rw [if_neg ha, if_neg (show ¬(ref20_applies (ix L i) && decide ((ix L i).Table = (ix L n).Table)) = true by simp [applies_eq, ha])]
theorem ab_eq (L : List api_ControlNode) {n : Int} (h0 : 0 ≤ n) (hn : n ≤ L.length) : ref20_appliedBefore L n = decide ((ix L n).Table ∈ tbs (L.take n.toNat)) := by
  unfold ref20_appliedBefore
  rw [ab_L1 L n hn _ 0 rfl (by omega)]
  simp
theorem cnode_eq (p : api_Program) (L : List api_ControlNode) {n : Int} (h0 : 0 ≤ n) (hn : n < L.length) : control_checkNode p (ix L n) (tbs (L.take n.toNat)) = ref20_checkNode p L n := by
  unfold control_checkNode ref20_checkNode
  simp only [LET, ab_eq L h0 (by omega), rCheck_eq]
  generalize ix L n = x
  generalize tbs (L.take n.toNat) = u
  have hL := cn_L1 x u (fun _ => if ((decide (x.Kind = 1)) && (decide (0 < (wr ((x.Then.length : Int) + (x.Else.length : Int)))))) = true then 5 else 0) (Int.toNat ((u.length : Int) - 0)) 0 rfl (by omega)
  rw [hL]
  have h1 : ∀ k : Int, k = 1 ∨ k = 2 ∨ k = 3 ∨ (k < 1 ∨ 3 < k) := fun k => by omega
  rcases h1 x.Kind with h | h | h | h
  · simp [h]
  · simp only [h]
    by_cases he : (expr_Check x.Cond { Program := p, Params := [] }).2 = 0
    · by_cases hw : (expr_Check x.Cond { Program := p, Params := [] }).1 = 1
      · simp [he, hw]
      · simp [he, hw]
    · simp [he]
  · simp [h]
  · have e1 : ¬x.Kind = 1 := by omega
    have e2 : ¬x.Kind = 2 := by omega
    have e3 : ¬x.Kind = 3 := by omega
    have e4 : (decide (x.Kind < 1) || decide (3 < x.Kind)) = true := by simpa using h
    simp [e1, e2, e3, e4]
theorem check_run (p : api_Program) (L : List api_ControlNode) (hs : L.length ≤ 1000) : ∀ (m : Nat) (n : Int), m = Int.toNat ((L.length : Int) - n) → 0 ≤ n → n ≤ L.length →
      (if (!decide ((runS (fun a_ s_ => control_Check_1 a_ p s_.1 s_.2.1 s_.2.2) (L.drop n.toNat) (tbs (L.take n.toNat), 0, n)).2.2.1 = 0)) = true then ((runS (fun a_ s_ => control_Check_1 a_ p s_.1 s_.2.1 s_.2.2) (L.drop n.toNat) (tbs (L.take n.toNat), 0, n)).2.2.2, (runS (fun a_ s_ => control_Check_1 a_ p s_.1 s_.2.1 s_.2.2) (L.drop n.toNat) (tbs (L.take n.toNat), 0, n)).2.2.1) else ((0 : Int), (0 : Int))) = ref20_Check_L1 p L (fun _ => (0, 0)) m n
  | 0, n, hm, h0, h1 => by
    rw [ref20_Check_L1, drop_end (by omega), runS, if_neg (by simp)]
  | m + 1, n, hm, h0, h1 => by
    have hlt : n < L.length := by omega
    have ih := check_run p L hs m (n + 1) (by omega) (by omega) (by omega)
    rw [ref20_Check_L1, drop_ix (c := L) (i := n) h0 hlt, runS]
    simp only [LET]
    have hc := cnode_eq p L h0 hlt
    have ht : tbs (L.take (n + 1).toNat) = if control_applies (ix L n) = true then tbs (L.take n.toNat) ++ [(ix L n).Table] else tbs (L.take n.toNat) := by
      rw [show (n + 1).toNat = n.toNat + 1 by omega, List.take_succ_eq_append_getElem (by omega)]
      have e : L[n.toNat]'(by omega) = ix L n := (ix_lt h0 hlt).symm
      rw [e]
      unfold tbs
      rw [List.filter_append, List.map_append, List.filter_cons]
      split <;> simp
    have hst : control_Check_1 (ix L n) p (tbs (L.take n.toNat)) 0 n = if ref20_checkNode p L n = 0 then (true, tbs (L.take (n + 1).toNat), 0, n + 1) else (false, tbs (L.take n.toNat), ref20_checkNode p L n, n) := by
      unfold control_Check_1
      simp only [LET, hc, ht]
      rw [wr_of (by omega) (by omega)]
      by_cases hz : ref20_checkNode p L n = 0
      · rw [if_neg (by simp [hz]), if_pos hz, hz]
        split <;> rfl
      · rw [if_pos (by simp [hz]), if_neg hz]
    simp only [hst]
    by_cases hz : ref20_checkNode p L n = 0
    · simp only [hz, if_true, decide_true, Bool.not_true, Bool.false_eq_true, if_false]
      exact ih
    · simp only [hz, if_false, Bool.false_eq_true]
      rfl
theorem Check_eq {p : api_Program} (hs : csl p.Control ≤ 1000) : control_Check p = ref20_Check p := by
  unfold control_Check ref20_Check
  simp only [LET, count_eq hs, refcount_eq hs, (nest_eq hs).1, pre_run, refpre_eq]
  split
  · rfl
  split
  · rfl
  have := check_run p (poL p.Control) (by rw [poL_len]; exact hs) (Int.toNat (((poL p.Control).length : Int) - 0)) 0 rfl (by omega) (by omega)
  simpa [tbs] using this
theorem ControlChecks_law (x0 : api_Program) : law20_ControlChecks x0 = true := by
  unfold law20_ControlChecks
  simp only [LET]
  split
  · rfl
  · rename_i h
    simp only [Bool.or_eq_true, Bool.not_eq_true', not_or, Bool.not_eq_false] at h
    have hs := small_csl (c := x0.Control) rfl h.2 (by omega)
    rw [Check_eq (by omega)]
    simp
    rfl
end Go.Proofs.Ytkgnjpoafilicaa
