/-
  Facts of the plain programs that the walks need.
-/
import Derived.Test.YtkgnjpoafilicaaKDef
import Derived.Test.YtkgnjpoafilicaaPbP
set_option linter.unusedVariables false
set_option linter.unusedSimpArgs false
set_option maxRecDepth 100000
namespace Go.Proofs.Ytkgnjpoafilicaa
open Go Go.Pb Go.RowKit
theorem tables_step (a : api_ControlNode) (s : List Int) : (control_Tables_1 a s).2.length ≤ s.length + 1 := by
  unfold control_Tables_1
  simp only [LET]
  split <;> simp
theorem cloneAll_L1 (x0 : List api_ControlNode) (K : List api_ControlNode → List api_ControlNode) : ∀ (m : Nat) (i : Int) (z : List api_ControlNode), m = Int.toNat ((x0.length : Int) - i) → 0 ≤ i → control_cloneAll_H_L1 x0 control_clone K m i z = K (z ++ x0.drop i.toNat)
  | 0, i, z, hm, h0 => by rw [control_cloneAll_H_L1, drop_end (by omega), List.append_nil]
  | m + 1, i, z, hm, h0 => by
    rw [control_cloneAll_H_L1]
    simp only [LET]
    rw [cloneAll_L1 x0 K m (i + 1) _ (by omega) (by omega), drop_ix (c := x0) h0 (by omega)]
    simp [control_clone]
theorem cloneAll_id (x : List api_ControlNode) : control_cloneAll_H control_clone x = control_cloneAll x := by
  unfold control_cloneAll_H
  rw [cloneAll_L1 x _ _ 0 [] rfl (by omega)]
  simp [control_cloneAll]
theorem clone_id (x : api_ControlNode) : control_clone_H control_cloneAll x = control_clone x := by
  cases x
  rfl
theorem preorder_L1 (x0 : List api_ControlNode) (rec_ : List api_ControlNode → List api_ControlNode) (hr : ∀ z, (rec_ z).length ≤ csl z) : ∀ (m : Nat) (i : Int) (z : List api_ControlNode), m = Int.toNat ((x0.length : Int) - i) → 0 ≤ i → (ref20_Preorder_L1 x0 rec_ (fun z => z) m i z).length ≤ z.length + csl (x0.drop i.toNat)
  | 0, i, z, hm, h0 => by rw [ref20_Preorder_L1]; omega
  | m + 1, i, z, hm, h0 => by
    rw [ref20_Preorder_L1]
    simp only [LET]
    have := preorder_L1 x0 rec_ hr m (i + 1) (((z ++ ([ix x0 i] : List api_ControlNode)) ++ rec_ (ix x0 i).Then) ++ rec_ (ix x0 i).Else) (by omega) (by omega)
    have h1 := hr (ix x0 i).Then
    have h2 := hr (ix x0 i).Else
    rw [csl_drop (l := x0) (i := i) h0 (by omega)]
    simp only [List.length_append, List.length_cons, List.length_nil] at this
    omega
theorem preorder_len : ∀ (k : Nat) (z : List api_ControlNode), (ref20_Preorder_R k z).length ≤ csl z
  | 0, z => by rw [ref20_Preorder_R]; simp
  | k + 1, z => by
    rw [ref20_Preorder_R]
    unfold ref20_Preorder_B
    have := preorder_L1 z _ (preorder_len k) (Int.toNat ((z.length : Int) - 0)) 0 [] rfl (by omega)
    simpa using this
theorem lenle {f : List api_ControlNode → List api_ControlNode} (h : ∀ z, (f z).length ≤ csl z) {z y : List api_ControlNode} (e : f z = y) : y.length ≤ csl z := e ▸ h z
def SZ (r limit : Int) (z : List api_ControlNode) : Prop := 0 ≤ r ∧ r ≤ limit + 1 ∧ (r ≤ limit → r = csl z ∧ CB z)
theorem size_L1 (x0 : List api_ControlNode) (limit d : Int) (rec_ : List api_ControlNode → Int → Int → Int) (hl : -1 ≤ limit ∧ limit ≤ 1000) (hd : 0 ≤ d ∧ d ≤ 1000)
    (hr : ∀ z l e, csl z < csl x0 → -1 ≤ l ∧ l ≤ 1000 → 0 ≤ e ∧ e ≤ 1000 → SZ (rec_ z l e) l z) : ∀ (m : Nat) (n i : Int), m = Int.toNat ((x0.length : Int) - i) → 0 ≤ i → 0 ≤ n → n ≤ limit + 1 →
      0 ≤ law20_size_L1 x0 limit d rec_ (fun z => z) m n i ∧ law20_size_L1 x0 limit d rec_ (fun z => z) m n i ≤ limit + 1 ∧ (law20_size_L1 x0 limit d rec_ (fun z => z) m n i ≤ limit → law20_size_L1 x0 limit d rec_ (fun z => z) m n i = n + csl (x0.drop i.toNat) ∧ CB (x0.drop i.toNat))
  | 0, n, i, hm, h0, n0, n1 => by
    rw [law20_size_L1, drop_end (by omega), csl]
    refine ⟨by omega, by omega, fun _ => ⟨by omega, fun y hy => by rw [poL] at hy; cases hy⟩⟩
  | m + 1, n, i, hm, h0, n0, n1 => by
    rw [law20_size_L1]
    simp only [LET]
    split
    · rename_i hc
      simp only [Bool.and_eq_true, decide_eq_true_eq] at hc
      have e0 : wr (limit + 1) = limit + 1 := wr_of (by omega) (by omega)
      have e1 : wr (n + 1) = n + 1 := wr_of (by omega) (by omega)
      split
      · rw [e0]; exact ⟨by omega, by omega, fun h => absurd h (by omega)⟩
      · rename_i hq
        simp only [Bool.or_eq_true, decide_eq_true_eq, not_or] at hq
        have hlt := csl_ix (l := x0) h0 hc.1
        have e2 : wr (limit - (n + 1)) = limit - (n + 1) := wr_of (by omega) (by omega)
        have e3 : wr (d - 1) = d - 1 := wr_of (by omega) (by omega)
        rw [e1, e2, e3]
        obtain ⟨a1, a2, a3⟩ := hr (ix x0 i).Then (limit - (n + 1)) (d - 1) hlt.1 (by omega) (by omega)
        generalize rec_ (ix x0 i).Then (limit - (n + 1)) (d - 1) = r1 at *
        have e4 : wr (n + 1 + r1) = n + 1 + r1 := wr_of (by omega) (by omega)
        have hcd := csl_drop (l := x0) (i := i) h0 hc.1
        rw [e4]
        split
        · rename_i hs
          simp only [decide_eq_true_eq] at hs
          have e5 : wr (limit - (n + 1 + r1)) = limit - (n + 1 + r1) := wr_of (by omega) (by omega)
          rw [e5]
          obtain ⟨b1, b2, b3⟩ := hr (ix x0 i).Else (limit - (n + 1 + r1)) (d - 1) hlt.2 (by omega) (by omega)
          generalize rec_ (ix x0 i).Else (limit - (n + 1 + r1)) (d - 1) = r2 at *
          have e6 : wr (n + 1 + r1 + r2) = n + 1 + r1 + r2 := wr_of (by omega) (by omega)
          rw [e6]
          obtain ⟨q1, q2, q3⟩ := size_L1 x0 limit d rec_ hl hd hr m (n + 1 + r1 + r2) (i + 1) (by omega) (by omega) (by omega) (by omega)
          refine ⟨q1, q2, fun hle => ?_⟩
          obtain ⟨q4, q5⟩ := q3 hle
          have hcs : 0 ≤ (csl (x0.drop (i + 1).toNat) : Int) := Int.natCast_nonneg _
          obtain ⟨a4, a5⟩ := a3 (by omega)
          obtain ⟨b4, b5⟩ := b3 (by omega)
          refine ⟨by omega, fun y hy => ?_⟩
          rw [drop_ix h0 hc.1, poL, poN_eq] at hy
          rcases List.mem_append.1 hy with hy | hy
          · rcases List.mem_cons.1 hy with rfl | hy
            · omega
            · rcases List.mem_append.1 hy with hy | hy
              · exact a5 y hy
              · exact b5 y hy
          · exact q5 y hy
        · rename_i hs
          simp only [decide_eq_true_eq] at hs
          obtain ⟨q1, q2, q3⟩ := size_L1 x0 limit d rec_ hl hd hr m (n + 1 + r1) (i + 1) (by omega) (by omega) (by omega) (by omega)
          refine ⟨q1, q2, fun hle => ?_⟩
          obtain ⟨q4, q5⟩ := q3 hle
          have hcs : 0 ≤ (csl (x0.drop (i + 1).toNat) : Int) := Int.natCast_nonneg _
          omega
    · rename_i hc
      simp only [Bool.and_eq_true, decide_eq_true_eq, not_and] at hc
      have := hc (by omega)
      exact ⟨by omega, by omega, fun h => absurd h (by omega)⟩
theorem size_R : ∀ (k : Nat) (z : List api_ControlNode) (l e : Int), csl z < k → -1 ≤ l ∧ l ≤ 1000 → 0 ≤ e ∧ e ≤ 1000 → SZ (law20_size_R k z l e) l z
  | 0, z, l, e, h, _, _ => by omega
  | k + 1, z, l, e, h, hl, he => by
    rw [law20_size_R]
    unfold law20_size_B
    obtain ⟨q1, q2, q3⟩ := size_L1 z l e (law20_size_R k) hl he (fun z' l' e' h' hl' he' => size_R k z' l' e' (by omega) hl' he') (Int.toNat ((z.length : Int) - 0)) 0 0 rfl (by omega) (by omega) (by omega)
    refine ⟨q1, q2, fun hle => ?_⟩
    obtain ⟨q4, q5⟩ := q3 hle
    rw [show Int.toNat 0 = 0 from rfl, List.drop_zero] at q4 q5
    exact ⟨by omega, q5⟩
theorem small_both {c : List api_ControlNode} {n : Int} {y : Bool} (h : law20_Small c n = y) (hy : y = true) (hn : 0 ≤ n ∧ n ≤ 1000) : csl c ≤ n ∧ CB c := by
  subst h
  unfold law20_Small law20_size at hy
  simp only [LET, decide_eq_true_eq] at hy
  obtain ⟨q1, q2, q3⟩ := size_R (csl c + 1) c n 12 (by omega) (by omega) (by omega)
  obtain ⟨q4, q5⟩ := q3 hy
  exact ⟨by omega, q5⟩
theorem small_csl {c : List api_ControlNode} {n : Int} {y : Bool} (h : law20_Small c n = y) (hy : y = true) (hn : 0 ≤ n ∧ n ≤ 1000) : csl c ≤ n := (small_both h hy hn).1
theorem small_gl {c : List api_ControlNode} {n : Int} {y : Bool} (h : law20_Small c n = y) (hy : y = true) (hn : 0 ≤ n ∧ n ≤ 1000) : GL c := ⟨by have := small_csl h hy hn; omega, (small_both h hy hn).2⟩
end Go.Proofs.Ytkgnjpoafilicaa
