/-
  Hand-written texts in one.
-/
import Derived.Test.YtkgnjpoafilicaaKDef
import Derived.Test.YtkgnjpoafilicaaPbP
import Derived.Test.YtkgnjpoafilicaaPbN
set_option linter.unusedVariables false
set_option linter.unusedSimpArgs false
set_option maxRecDepth 100000
namespace Go.Proofs.Ytkgnjpoafilicaa
open Go Go.Pb Go.RowKit
def SZ (r limit : Int) (z : List api_ControlNode) : Prop := 0 ≤ r ∧ r ≤ limit + 1 ∧ (r ≤ limit → r = csl z ∧ CB z)
theorem size_L1 (x0 : List api_ControlNode) (limit d : Int) (rec_ : List api_ControlNode → Int → Int → Int) (hl : -1 ≤ limit ∧ limit ≤ 1000) (hd : 0 ≤ d ∧ d ≤ 1000)
    (hr : ∀ z l e, csl z < csl x0 → -1 ≤ l ∧ l ≤ 1000 → 0 ≤ e ∧ e ≤ 1000 → SZ (rec_ z l e) l z) : ∀ (m : Nat) (n i : Int), m = Int.toNat ((x0.length : Int) - i) → 0 ≤ i → 0 ≤ n → n ≤ limit + 1 →
      0 ≤ law20_size_L1 x0 limit d rec_ (fun z => z) m n i ∧ law20_size_L1 x0 limit d rec_ (fun z => z) m n i ≤ limit + 1 ∧ (law20_size_L1 x0 limit d rec_ (fun z => z) m n i ≤ limit → law20_size_L1 x0 limit d rec_ (fun z => z) m n i = n + csl (x0.drop i.toNat) ∧ CB (x0.drop i.toNat))
  | 0, n, i, hm, h0, n0, n1 => by
    rw [law20_size_L1, drop_end (by omega), csl]
    refine ⟨by omega, by omega, fun _ => ⟨by omega, fun y hy => by rw [poL] at hy; cases hy⟩⟩
  | m + 1, n, i, hm, h0, n0, n1 => by
    rw [law20_size_L1]
    simp only [LET]
    split
    · rename_i hc
      simp only [Bool.and_eq_true, decide_eq_true_eq] at hc
      have e0 : wr (limit + 1) = limit + 1 := wr_of (by omega) (by omega)
      have e1 : wr (n + 1) = n + 1 := wr_of (by omega) (by omega)
      split
      · rw [e0]; exact ⟨by omega, by omega, fun h => absurd h (by omega)⟩
      · rename_i hq
        simp only [Bool.or_eq_true, decide_eq_true_eq, not_or] at hq
        have hlt := csl_ix (l := x0) h0 hc.1
        have e2 : wr (limit - (n + 1)) = limit - (n + 1) := wr_of (by omega) (by omega)
        have e3 : wr (d - 1) = d - 1 := wr_of (by omega) (by omega)
        rw [e1, e2, e3]
        obtain ⟨a1, a2, a3⟩ := hr (ix x0 i).Then (limit - (n + 1)) (d - 1) hlt.1 (by omega) (by omega)
        generalize rec_ (ix x0 i).Then (limit - (n + 1)) (d - 1) = r1 at *
        have e4 : wr (n + 1 + r1) = n + 1 + r1 := wr_of (by omega) (by omega)
        have hcd := csl_drop (l := x0) (i := i) h0 hc.1
        rw [e4]
        split
        · rename_i hs
          simp only [decide_eq_true_eq] at hs
          have e5 : wr (limit - (n + 1 + r1)) = limit - (n + 1 + r1) := wr_of (by omega) (by omega)
          rw [e5]
          obtain ⟨b1, b2, b3⟩ := hr (ix x0 i).Else (limit - (n + 1 + r1)) (d - 1) hlt.2 (by omega) (by omega)
          generalize rec_ (ix x0 i).Else (limit - (n + 1 + r1)) (d - 1) = r2 at *
          have e6 : wr (n + 1 + r1 + r2) = n + 1 + r1 + r2 := wr_of (by omega) (by omega)
          rw [e6]
          obtain ⟨q1, q2, q3⟩ := size_L1 x0 limit d rec_ hl hd hr m (n + 1 + r1 + r2) (i + 1) (by omega) (by omega) (by omega) (by omega)
          refine ⟨q1, q2, fun hle => ?_⟩
          obtain ⟨q4, q5⟩ := q3 hle
          have hcs : 0 ≤ (csl (x0.drop (i + 1).toNat) : Int) := Int.natCast_nonneg _
          obtain ⟨a4, a5⟩ := a3 (by omega)
          obtain ⟨b4, b5⟩ := b3 (by omega)
          refine ⟨by omega, fun y hy => ?_⟩
          rw [drop_ix h0 hc.1, poL, poN_eq] at hy
          rcases List.mem_append.1 hy with hy | hy
          · rcases List.mem_cons.1 hy with rfl | hy
            · omega
            · rcases List.mem_append.1 hy with hy | hy
              · exact a5 y hy
              · exact b5 y hy
          · exact q5 y hy
        · rename_i hs
          simp only [decide_eq_true_eq] at hs
          obtain ⟨q1, q2, q3⟩ := size_L1 x0 limit d rec_ hl hd hr m (n + 1 + r1) (i + 1) (by omega) (by omega) (by omega) (by omega)
          refine ⟨q1, q2, fun hle => ?_⟩
          obtain ⟨q4, q5⟩ := q3 hle
          have hcs : 0 ≤ (csl (x0.drop (i + 1).toNat) : Int) := Int.natCast_nonneg _
          omega
    · rename_i hc
      simp only [Bool.and_eq_true, decide_eq_true_eq, not_and] at hc
      have := hc (by omega)
      exact ⟨by omega, by omega, fun h => absurd h (by omega)⟩
theorem size_R : ∀ (k : Nat) (z : List api_ControlNode) (l e : Int), csl z < k → -1 ≤ l ∧ l ≤ 1000 → 0 ≤ e ∧ e ≤ 1000 → SZ (law20_size_R k z l e) l z
  | 0, z, l, e, h, _, _ => by omega
  | k + 1, z, l, e, h, hl, he => by
    rw [law20_size_R]
    unfold law20_size_B
    obtain ⟨q1, q2, q3⟩ := size_L1 z l e (law20_size_R k) hl he (fun z' l' e' h' hl' he' => size_R k z' l' e' (by omega) hl' he') (Int.toNat ((z.length : Int) - 0)) 0 0 rfl (by omega) (by omega) (by omega)
    refine ⟨q1, q2, fun hle => ?_⟩
    obtain ⟨q4, q5⟩ := q3 hle
    rw [show Int.toNat 0 = 0 from rfl, List.drop_zero] at q4 q5
    exact ⟨by omega, q5⟩
theorem small_both {c : List api_ControlNode} {n : Int} {y : Bool} (h : law20_Small c n = y) (hy : y = true) (hn : 0 ≤ n ∧ n ≤ 1000) : csl c ≤ n ∧ CB c := by
  subst h
  unfold law20_Small law20_size at hy
  simp only [LET, decide_eq_true_eq] at hy
  obtain ⟨q1, q2, q3⟩ := size_R (csl c + 1) c n 12 (by omega) (by omega) (by omega)
  obtain ⟨q4, q5⟩ := q3 hy
  exact ⟨by omega, q5⟩
theorem small_csl {c : List api_ControlNode} {n : Int} {y : Bool} (h : law20_Small c n = y) (hy : y = true) (hn : 0 ≤ n ∧ n ≤ 1000) : csl c ≤ n := (small_both h hy hn).1
theorem small_gl {c : List api_ControlNode} {n : Int} {y : Bool} (h : law20_Small c n = y) (hy : y = true) (hn : 0 ≤ n ∧ n ≤ 1000) : GL c := ⟨by have := small_csl h hy hn; omega, (small_both h hy hn).2⟩
theorem tables_step (a : api_ControlNode) (s : List Int) : (control_Tables_1 a s).2.length ≤ s.length + 1 := by
  unfold control_Tables_1
  simp only [LET]
  split <;> simp
theorem cloneAll_L1 (x0 : List api_ControlNode) (K : List api_ControlNode → List api_ControlNode) : ∀ (m : Nat) (i : Int) (z : List api_ControlNode), m = Int.toNat ((x0.length : Int) - i) → 0 ≤ i → control_cloneAll_H_L1 x0 control_clone K m i z = K (z ++ x0.drop i.toNat)
  | 0, i, z, hm, h0 => by rw [control_cloneAll_H_L1, drop_end (by omega), List.append_nil]
  | m + 1, i, z, hm, h0 => by
    rw [control_cloneAll_H_L1]
    simp only [LET]
    rw [cloneAll_L1 x0 K m (i + 1) _ (by omega) (by omega), drop_ix (c := x0) h0 (by omega)]
    simp [control_clone]
theorem cloneAll_id (x : List api_ControlNode) : control_cloneAll_H control_clone x = control_cloneAll x := by
  unfold control_cloneAll_H
  rw [cloneAll_L1 x _ _ 0 [] rfl (by omega)]
  simp [control_cloneAll]
theorem clone_id (x : api_ControlNode) : control_clone_H control_cloneAll x = control_clone x := by
  cases x
  rfl
section
variable {σ : Type} (step : api_ControlNode → σ → Bool × σ)
def runS : List api_ControlNode → σ → Bool × σ
  | [], s => (true, s)
  | x :: l, s => if (step x s).1 = true then runS l (step x s).2 else (false, (step x s).2)
theorem runS_app : ∀ (a b : List api_ControlNode) (s : σ), runS step (a ++ b) s = if (runS step a s).1 = true then runS step b (runS step a s).2 else (false, (runS step a s).2)
  | [], b, s => by simp [runS]
  | x :: a, b, s => by
    rw [List.cons_append, runS, runS]
    split
    · exact runS_app a b _
    · simp
mutual
theorem preN_run : ∀ (x : api_ControlNode) (s : σ), preN step x s = runS step (poN x) s
  | ⟨a, b, c, t, e⟩, s => by
    rw [preN, poN, runS]
    split
    · rw [preL_run t, runS_app]
      split
      · exact preL_run e _
      · rfl
    · rfl
theorem preL_run : ∀ (l : List api_ControlNode) (s : σ), preL step l s = runS step (poL l) s
  | [], s => by rw [preL, poL, runS]
  | x :: l, s => by
    rw [preL, poL, runS_app, preN_run x]
    split
    · exact preL_run l _
    · rfl
end
theorem pre_run (l : List api_ControlNode) (s : σ) : control_preorder step l s = runS step (poL l) s := preL_run step l s
end
theorem runS_inv {σ : Type} {step : api_ControlNode → σ → Bool × σ} {P : σ → Prop} (h : ∀ a s, P s → P (step a s).2) : ∀ (l : List api_ControlNode) (s : σ), P s → P (runS step l s).2
  | [], s, hs => hs
  | x :: l, s, hs => by
    rw [runS]
    split
    · exact runS_inv h l _ (h x s hs)
    · exact h x s hs
/-! Count -/
theorem count_run : ∀ (l : List api_ControlNode) (n : Int), 0 ≤ n → n + l.length ≤ 100000 → runS (fun a_ s_ => control_Count_1 a_ s_) l n = (true, n + l.length)
  | [], n, h0, h1 => by simp [runS]
  | x :: l, n, h0, h1 => by
    rw [List.length_cons] at h1
    rw [runS]
    show (if true = true then runS (fun a_ s_ => control_Count_1 a_ s_) l (wr (n + 1)) else _) = _
    rw [if_pos rfl, wr_of (by omega) (by omega), count_run l (n + 1) (by omega) (by omega), List.length_cons]
    congr 1
    omega
theorem count_eq {l : List api_ControlNode} (h : csl l ≤ 1000) : control_Count l = csl l := by
  unfold control_Count
  simp only [LET, pre_run]
  rw [count_run _ 0 (by omega) (by rw [poL_len]; omega), poL_len]
  show (0 : Int) + (csl l : Int) = csl l
  omega
theorem cnt_le {c : List api_ControlNode} {w : Int} (h : control_Count c = w) : w ≤ 9223372036854775807 := by
  subst h
  unfold control_Count
  simp only [LET, pre_run]
  refine runS_inv (P := fun n => n ≤ 9223372036854775807) (fun a s hs => ?_) _ _ (by omega)
  show wr (s + 1) ≤ 9223372036854775807
  have := (wr_range (s + 1)).2
  omega
theorem tm_bd {a : Int} (h0 : 0 ≤ a) {n : Nat} (hn : 0 < n) : 0 ≤ Int.tmod a (n : Int) ∧ Int.tmod a (n : Int) < n := ⟨Int.tmod_nonneg _ h0, Int.tmod_lt_of_pos _ (by omega)⟩
/-- Room for k more answers. -/
structure WB (k : Nat) (x : law20_walk) : Prop where
  n0 : 0 ≤ x.next
  n1 : x.next + k ≤ 100001
  t1 : x.tables.length + k ≤ 100001
  c1 : x.conds.length + k ≤ 100001
theorem WB.mono {k : Nat} {x : law20_walk} (h : WB (k + 1) x) : WB k x := ⟨h.n0, by have := h.n1; omega, by have := h.t1; omega, by have := h.c1; omega⟩
theorem WB.now {k : Nat} {x : law20_walk} (h : WB (k + 1) x) : 0 ≤ x.next ∧ x.next ≤ 100000 ∧ x.tables.length ≤ 100000 ∧ x.conds.length ≤ 100000 := ⟨h.n0, by have := h.n1; omega, by have := h.t1; omega, by have := h.c1; omega⟩
theorem wb_apply {k : Nat} {x : law20_walk} (h : WB (k + 1) x) (t : Int) : WB k (m2_law20_walk__apply x t).2 := by
  have h0 := h.n0
  have h1 := h.n1
  have h2 := h.t1
  have h3 := h.c1
  have e : wr (x.next + 1) = x.next + 1 := wr_of (by omega) (by omega)
  simp only [m2_law20_walk__apply, m2_law20_walk__answer, LET, e]
  exact ⟨by show 0 ≤ x.next + 1; omega, by show x.next + 1 + k ≤ 100001; omega, by simp only [List.length_append, List.length_cons, List.length_nil]; omega, by simp only [List.length_append, List.length_cons, List.length_nil]; omega⟩
theorem wb_test {k : Nat} {x : law20_walk} (h : WB (k + 1) x) (l : List api_ExprNode) : WB k (m2_law20_walk__test x l).2 := by
  have h0 := h.n0
  have h1 := h.n1
  have h2 := h.t1
  have h3 := h.c1
  have e : wr (x.next + 1) = x.next + 1 := wr_of (by omega) (by omega)
  simp only [m2_law20_walk__test, m2_law20_walk__answer, LET, e]
  exact ⟨by show 0 ≤ x.next + 1; omega, by show x.next + 1 + k ≤ 100001; omega, by show x.tables.length + k ≤ 100001; omega, by simp only [List.length_append, List.length_cons, List.length_nil]; omega⟩
theorem wb0 {c : List api_ControlNode} {n : Int} {y : Bool} {a : List Bool} (h : law20_Small c n = y) (hy : y = true) (hn : 0 ≤ n ∧ n ≤ 1000) : WB (csl c) { answers := a, next := 0, tables := [], conds := [] } := by
  have := small_csl h hy hn
  exact ⟨by show (0 : Int) ≤ 0; omega, by show (0 : Int) + csl c ≤ 100001; omega, by show 0 + csl c ≤ 100001; omega, by show 0 + csl c ≤ 100001; omega⟩
/-- The memory of a record of an execution. -/
def WME (i w : Nat) (k : Nat) (x : law20_walk) (L : List Ent) : Prop := WB k x ∧ ∃ u at_ est ac esc, L = [⟨.op i w 0, 66, 4, [.agg [u, vi x.next, at_, ac]]⟩, ⟨at_, 3, 1, est⟩, ⟨ac, 3, 1, esc⟩] ∧ (tSl tB).R x.answers u ∧ All2 tI.R x.tables est ∧ isL at_ = true ∧ x.tables.length ≤ 4611686018427387904 ∧ Wri at_ est ∧ All2 tI.R x.conds esc ∧ isL ac = true ∧ x.conds.length ≤ 4611686018427387904 ∧ Wri ac esc
theorem csl_nil : csl [] = 0 := by rw [csl]
theorem csl_at {l : List api_ControlNode} {i : Int} (h0 : 0 ≤ i) (h1 : i < l.length) : 1 + csl (ix l i).Then + csl (ix l i).Else ≤ csl l := by
  have := csl_mem (ix_mem h0 h1)
  rwa [csn_eq] at this
def HO (f : List api_ControlNode → List Bool → Int → Int) : Prop := ∀ (z : List api_ControlNode) (l : List Bool) (e : Int), 0 ≤ e → e + csl z ≤ 100000 → 0 ≤ f z l e ∧ f z l e ≤ e + csl z
theorem ho_use {f : List api_ControlNode → List Bool → Int → Int} (h : HO f) {z : List api_ControlNode} {l : List Bool} {e y : Int} (hy : f z l e = y) (h0 : 0 ≤ e) (h1 : e + csl z ≤ 100000) : 0 ≤ y ∧ y ≤ e + csl z := hy ▸ h z l e h0 h1
theorem onlyApply_L1 (x0 : List api_ControlNode) (x1 : List Bool) (rec_ : List api_ControlNode → List Bool → Int → Int) (hr : HO rec_) : ∀ (m : Nat) (x2 i : Int), m = Int.toNat ((x0.length : Int) - i) → 0 ≤ i → 0 ≤ x2 → x2 + csl (x0.drop i.toNat) ≤ 100000 →
    0 ≤ law20_onlyApply_L1 x0 x1 rec_ (fun z => z) m x2 i ∧ law20_onlyApply_L1 x0 x1 rec_ (fun z => z) m x2 i ≤ x2 + csl (x0.drop i.toNat)
  | 0, x2, i, hm, h0, h1, h2 => by
    rw [law20_onlyApply_L1]
    omega
  | m + 1, x2, i, hm, h0, h1, h2 => by
    have hd := csl_drop (l := x0) (i := i) h0 (by omega)
    have e0 := csl_nil
    have e1 : wr (x2 + 1) = x2 + 1 := wr_of (by omega) (by omega)
    rw [law20_onlyApply_L1]
    simp only [LET, e1]
    have step : ∀ (z : List api_ControlNode) (e : Int), 0 ≤ e → e ≤ x2 + 1 → csl z ≤ csl (ix x0 i).Then + csl (ix x0 i).Else → 0 ≤ law20_onlyApply_L1 x0 x1 rec_ (fun z => z) m (rec_ z x1 e) (i + 1) ∧ law20_onlyApply_L1 x0 x1 rec_ (fun z => z) m (rec_ z x1 e) (i + 1) ≤ x2 + csl (x0.drop i.toNat) := fun z e he he1 hz => by
      have h3 := hr z x1 e he (by omega)
      have h4 := onlyApply_L1 x0 x1 rec_ hr m (rec_ z x1 e) (i + 1) (by omega) (by omega) h3.1 (by omega)
      omega
    split
    · exact step _ _ (by omega) (by omega) (by omega)
    · split
      · first
          | exact step _ _ (by omega) (by omega) (by omega)
          | (split <;> exact step _ _ (by omega) (by omega) (by omega))
      · first
          | exact step _ _ (by omega) (by omega) (by omega)
          | (split <;> exact step _ _ (by omega) (by omega) (by omega))
theorem onlyApply_len : ∀ (k : Nat), HO (law20_onlyApply_R k)
  | 0, z, l, e, h0, h1 => by rw [law20_onlyApply_R]; omega
  | k + 1, z, l, e, h0, h1 => by
    rw [law20_onlyApply_R]
    unfold law20_onlyApply_B
    have := onlyApply_L1 z l _ (onlyApply_len k) (Int.toNat ((z.length : Int) - 0)) e 0 rfl (by omega) h0 (by simpa using h1)
    simpa using this
theorem onlyTest_L1 (x0 : List api_ControlNode) (x1 : List Bool) (rec_ : List api_ControlNode → List Bool → Int → Int) (hr : HO rec_) : ∀ (m : Nat) (x2 i : Int), m = Int.toNat ((x0.length : Int) - i) → 0 ≤ i → 0 ≤ x2 → x2 + csl (x0.drop i.toNat) ≤ 100000 →
    0 ≤ law20_onlyTest_L1 x0 x1 rec_ (fun z => z) m x2 i ∧ law20_onlyTest_L1 x0 x1 rec_ (fun z => z) m x2 i ≤ x2 + csl (x0.drop i.toNat)
  | 0, x2, i, hm, h0, h1, h2 => by
    rw [law20_onlyTest_L1]
    omega
  | m + 1, x2, i, hm, h0, h1, h2 => by
    have hd := csl_drop (l := x0) (i := i) h0 (by omega)
    have e0 := csl_nil
    have e1 : wr (x2 + 1) = x2 + 1 := wr_of (by omega) (by omega)
    rw [law20_onlyTest_L1]
    simp only [LET, e1]
    have step : ∀ (z : List api_ControlNode) (e : Int), 0 ≤ e → e ≤ x2 + 1 → csl z ≤ csl (ix x0 i).Then + csl (ix x0 i).Else → 0 ≤ law20_onlyTest_L1 x0 x1 rec_ (fun z => z) m (rec_ z x1 e) (i + 1) ∧ law20_onlyTest_L1 x0 x1 rec_ (fun z => z) m (rec_ z x1 e) (i + 1) ≤ x2 + csl (x0.drop i.toNat) := fun z e he he1 hz => by
      have h3 := hr z x1 e he (by omega)
      have h4 := onlyTest_L1 x0 x1 rec_ hr m (rec_ z x1 e) (i + 1) (by omega) (by omega) h3.1 (by omega)
      omega
    split
    · split <;> exact step _ _ (by omega) (by omega) (by omega)
    · split
      · first
          | exact step _ _ (by omega) (by omega) (by omega)
          | (split <;> exact step _ _ (by omega) (by omega) (by omega))
      · first
          | exact step _ _ (by omega) (by omega) (by omega)
          | (split <;> exact step _ _ (by omega) (by omega) (by omega))
theorem onlyTest_len : ∀ (k : Nat), HO (law20_onlyTest_R k)
  | 0, z, l, e, h0, h1 => by rw [law20_onlyTest_R]; omega
  | k + 1, z, l, e, h0, h1 => by
    rw [law20_onlyTest_R]
    unfold law20_onlyTest_B
    have := onlyTest_L1 z l _ (onlyTest_len k) (Int.toNat ((z.length : Int) - 0)) e 0 rfl (by omega) h0 (by simpa using h1)
    simpa using this
end Go.Proofs.Ytkgnjpoafilicaa
