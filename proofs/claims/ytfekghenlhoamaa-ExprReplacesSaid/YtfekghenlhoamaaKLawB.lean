/-
  ExprAlgebra and ExprReplaces: the plain laws.
-/
import Derived.Test.YtfekghenlhoamaaKAlg
set_option linter.unusedVariables false
set_option linter.unusedSimpArgs false
set_option maxRecDepth 100000
namespace Go.Proofs.Ytfekghenlhoamaa
open Go Go.Pb Go.RowKit
theorem ExprAlgebra_law (x0 : law13_Args) (x1 : List api_ExprNode) : law13_ExprAlgebra x0 x1 = true := ExprAlgebra_pure
theorem const_mk {s : expr_Scope} (e : api_Env) (g : List (BitVec 32)) {n : List api_ExprNode} {a w : Int} {v : BitVec 32} (h0 : 0 ≤ a) (h1 : a < n.length) (hl : n.length ≤ 1000000) (hx : ix n a = { Op := 1, N := (v.toNat : Int), W := w }) (hw : 1 ≤ w ∧ w ≤ 32) (hv : FV v w) : Ok s n a ∧ wd s n a = w ∧ nx s n a = a + 1 ∧ vl s e g n a = { v := v, w := w } := by
  have ha : expr_arity (ix n a).Op = 0 := by rw [hx]; rfl
  have hp : m1_expr_Scope__primary s (ix n a) = (w, 0) := by
    rw [hx]
    unfold m1_expr_Scope__primary
    simp only [LET]
    have hwd : expr_wide w = (w, 0) := by rw [wide_eq, if_neg (by omega)]
    rw [if_pos (by simp), hwd, if_neg]
    have := mask_nat hw
    unfold FV at hv
    simp
    omega
  have c := check_0 (s := s) h0 h1 hl ha
  rw [hp] at c
  have k : Ok s n a := ⟨h0, hl, by rw [c]⟩
  refine ⟨k, by rw [wd, c], by rw [nx, c], ?_⟩
  rw [vl_0 e g k ha]
  unfold m2_expr_machine__load
  simp only [LET]
  show (if decide ((ix n a).Op = 1) = true then (({ v := BitVec.ofInt 32 (ix n a).N &&& bitvec_Mask (m1_expr_Scope__primary s (ix n a)).1, w := (m1_expr_Scope__primary s (ix n a)).1 } : expr_value), mch s e g n (a + 1)) else _).1 = _
  rw [hp, hx, if_pos (by simp)]
  have : BitVec.ofInt 32 (v.toNat : Int) = v := by
    apply BitVec.eq_of_toNat_eq
    rw [BitVec.toNat_ofInt]
    have := v.isLt
    omega
  show ({ v := BitVec.ofInt 32 (v.toNat : Int) &&& bitvec_Mask w, w := w } : expr_value) = _
  rw [this, and_mask hw v hv]
theorem ExprReplaces_law (x0 : law13_Args) (x1 : Int) : law13_ExprReplaces x0 x1 = true := by
  unfold law13_ExprReplaces
  simp only [LET]
  split
  · rfl
  split
  · rfl
  rename_i h100 h1
  simp only [Bool.or_eq_true, Bool.not_eq_true', decide_eq_false_iff_not, decide_eq_true_eq, not_or, Decidable.not_not, Int.not_lt, Int.not_le] at h1
  obtain ⟨⟨hn, h0⟩, hlt⟩ := h1
  generalize hs : m1_law13_Args__scope x0 = s at *
  generalize hN : x0.Nodes = n at *
  generalize hE : x0.E = e at *
  generalize hG : x0.Args = g at *
  obtain ⟨k1, k2, k3, k4⟩ := chk_ok rfl hn
  have hle := nx_le k2
  have hnx : nx s n 0 = n.length := by omega
  obtain ⟨ki, kle⟩ := sub_ok k2 x1 h0 (by omega)
  have hg := ki.gt
  have hwi := wd_ok ki
  obtain ⟨f1, f2⟩ := vl_ok e g ki
  rw [End_eq ki]
  generalize hz : nx s n x1 = z at *
  rw [if_neg (by simp; omega)]
  have hS : law13_join (sub n x1 z) ([] : List api_ExprNode) ([] : List api_ExprNode) = sub n x1 z := by unfold law13_join; simp
  rw [hS]
  have sl := sub_len (l := n) (a := x1) (b := z) h0 (by omega) (by omega)
  have m := mv_shift (e := e) (g := g) (n' := sub n x1 z) (-x1) (by omega) ki (by omega) (by omega) (fun i i0 i1 => by
    rw [ix_sub h0 (by omega) (by omega), show i + -x1 + x1 = i by omega])
  rw [show x1 + -x1 = 0 by omega] at m
  have cs := chk_mk (s := s) (n := sub n x1 z) (by omega) m.ok (by rw [m.x]; omega)
  rw [cs, if_neg (by simp), Eval_ok _ _ _ _ (by rw [cs]), m.w, m.v]
  generalize hR : law13_join (sub n 0 x1) ([({ Op := 1, N := ((vl s e g n x1).v.toNat : Int), W := wd s n x1 } : api_ExprNode)] : List api_ExprNode) (sub n z (n.length : Int)) = R
  have s1 := sub_len (l := n) (a := 0) (b := x1) (by omega) h0 (by omega)
  have s2 := sub_len (l := n) (a := z) (b := n.length) (by omega) (by omega) (by omega)
  have hR' : R = sub n 0 x1 ++ (({ Op := 1, N := ((vl s e g n x1).v.toNat : Int), W := wd s n x1 } : api_ExprNode) :: sub n z (n.length : Int)) := by rw [← hR]; unfold law13_join; simp
  have hlen : (R.length : Int) = x1 + 1 + (n.length - z) := by rw [hR', List.length_append, List.length_cons]; omega
  have r1 : ∀ b, 0 ≤ b → b < x1 → ix R b = ix n b := fun b b0 b1 => by
    rw [hR', ix_l b0 (by omega), ix_sub (by omega) b0 (by omega)]; congr 1; omega
  have r2 : ix R x1 = { Op := 1, N := ((vl s e g n x1).v.toNat : Int), W := wd s n x1 } := by
    rw [hR', ix_r (by omega), s1]
    rw [show x1 - (x1 - 0) = 0 by omega]
    rfl
  have r3 : ∀ b, z ≤ b → b < n.length → ix R (b - (z - x1 - 1)) = ix n b := fun b b0 b1 => by
    rw [hR', ix_r (by omega), s1]
    have : ∀ (x : api_ExprNode) (l : List api_ExprNode) (i : Int), 1 ≤ i → ix (x :: l) i = ix l (i - 1) := fun x l i hi => by
      unfold ix
      rw [show i.toNat = (i - 1).toNat + 1 by omega]
      rfl
    rw [this _ _ _ (by omega), ix_sub (by omega) (by omega) (by omega)]
    congr 1
    omega
  obtain ⟨c1, c2, c3, c4⟩ := const_mk (s := s) e g h0 (by omega) (by omega) r2 hwi (by rw [f2] at f1; exact f1)
  have M := mv_of (e := e) (g := g) (n' := R) (fun b => if b ≤ x1 then b else b - (z - x1 - 1)) (fun b => 0 ≤ b ∧ (b ≤ x1 ∨ z ≤ b)) n.length (by omega) ?_ ?_ k2 ⟨by omega, by omega⟩ (by omega)
  · simp only [if_pos h0, hnx, if_neg (show ¬(n.length : Int) ≤ x1 by omega)] at M
    have cr := chk_mk (s := s) (n := R) (by omega) M.ok (by rw [M.x]; omega)
    rw [cr, M.w, k3, Eval_ok _ _ _ _ (by rw [cr]), Eval_ok _ _ _ _ hn, M.v]
    simp
    rfl
  · rintro b ⟨hb0, hb⟩ hk hE'
    have hgt := hk.gt
    by_cases he : b = x1
    · subst he
      left
      simp only [if_pos (Int.le_refl b), hz, if_neg (show ¬z ≤ b by omega)]
      refine ⟨c1, c2, ?_, by rw [c3]; omega⟩
      rw [c4]
      show _ = vl s e g n b
      rw [← f2]
    · right
      by_cases hl : b < x1
      · simp only [if_pos (show b ≤ x1 by omega), if_pos (show b + 1 ≤ x1 by omega)]
        exact ⟨r1 b hb0 hl, trivial, ⟨by omega, by omega⟩, hb0, by omega⟩
      · simp only [if_neg (show ¬b ≤ x1 by omega), if_neg (show ¬b + 1 ≤ x1 by omega)]
        exact ⟨r3 b (by omega) (by omega), by omega, ⟨by omega, by omega⟩, by omega, by omega⟩
  · rintro b ⟨hb0, hb⟩ hk hE'
    have hgt := hk.gt
    refine ⟨by omega, ?_⟩
    by_cases hc : nx s n b ≤ x1
    · exact .inl hc
    · right
      by_cases hl : b ≤ x1
      · have := (sub_ok hk x1 hl (by omega)).2
        omega
      · omega
end Go.Proofs.Ytfekghenlhoamaa
