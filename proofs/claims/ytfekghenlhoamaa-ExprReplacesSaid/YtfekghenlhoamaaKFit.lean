/-
  Widths and values of valid subexpressions: the value fits the width.
-/
import Derived.Test.YtfekghenlhoamaaKSem
set_option linter.unusedVariables false
set_option linter.unusedSimpArgs false
set_option maxRecDepth 100000
namespace Go.Proofs.Ytfekghenlhoamaa
open Go Go.Pb Go.RowKit
theorem Ok.ind {s : expr_Scope} {n : List api_ExprNode} {P : Int → Prop} (st : ∀ a, Ok s n a → (∀ b, a < b → Ok s n b → P b) → P a) : ∀ a, Ok s n a → P a := by
  have : ∀ (m : Nat) (a : Int), n.length - a.toNat ≤ m → Ok s n a → P a := by
    intro m
    induction m with
    | zero => intro a hm h; have := h.lt; have := h.lo; omega
    | succ m ih =>
      intro a hm h
      refine st a h fun b hb hk => ih b ?_ hk
      have := h.lt; have := h.lo; omega
  exact fun a h => this _ a (Nat.le_refl _) h
theorem op_of {op k : Int} (h : expr_arity op = k) (hk : 0 ≤ k) : (k = 0 → 1 ≤ op ∧ op ≤ 4) ∧ (k = 1 → 5 ≤ op ∧ op ≤ 8) ∧ (k = 2 → 9 ≤ op ∧ op ≤ 16) ∧ (k = 3 → op = 17) := by
  rw [arity_eq] at h
  split at h
  · omega
  · split at h
    · omega
    · split at h
      · omega
      · split at h <;> omega
theorem wide_eq (w : Int) : expr_wide w = if w < 1 ∨ 32 < w then (0, 10) else (w, 0) := by
  unfold expr_wide
  simp only [Bool.or_eq_true, decide_eq_true_eq]
theorem combine_w {x : api_ExprNode} {u v w : Int} (ho : 5 ≤ x.Op ∧ x.Op ≤ 17) (hu : 1 ≤ u ∧ u ≤ 32) (hv : x.Op = 17 → 1 ≤ v ∧ v ≤ 32) (h : (expr_combine x [u, v, w]).2 = 0) : 1 ≤ (expr_combine x [u, v, w]).1 ∧ (expr_combine x [u, v, w]).1 ≤ 32 := by
  rw [combine_eq x u v w ho] at h ⊢
  by_cases h5 : x.Op = 5
  · rw [if_pos h5]; exact hu
  rw [if_neg h5] at h ⊢
  by_cases h6 : x.Op = 6 ∨ x.Op = 7
  · rw [if_pos h6] at h ⊢
    split at h
    · cases h
    · rename_i hc; rw [if_neg hc]; exact hu
  rw [if_neg h6] at h ⊢
  by_cases h8 : x.Op = 8
  · rw [if_pos h8] at h ⊢
    split at h
    · cases h
    · rename_i hc
      rw [if_neg hc]
      split at h
      · cases h
      · rename_i hd
        rw [if_neg hd]
        have hz : (expr_wide x.W).2 = 0 := by omega
        have := wide_ok hz
        exact this.2
  rw [if_neg h8] at h ⊢
  by_cases h14 : x.Op = 14
  · rw [if_pos h14] at h ⊢
    have := wide_ok h
    omega
  rw [if_neg h14] at h ⊢
  by_cases h17 : x.Op = 17
  · rw [if_pos h17] at h ⊢
    split at h
    · cases h
    · rename_i hc; rw [if_neg hc]; exact hv h17
  rw [if_neg h17] at h ⊢
  split at h
  · cases h
  · rename_i hc
    rw [if_neg hc]
    split
    · exact ⟨by decide, by decide⟩
    · exact hu
section
variable {s : expr_Scope} {n : List api_ExprNode}
theorem wd_ok : ∀ {a : Int}, Ok s n a → 1 ≤ wd s n a ∧ wd s n a ≤ 32 := by
  intro a
  refine (Ok.ind (P := fun a => 1 ≤ wd s n a ∧ wd s n a ≤ 32) ?_) a
  intro a h ih
  have hlt := h.lt
  rcases h.step with t | t | t | t
  · rw [t.2.2.1]; exact primary_w t.2.1
  · have o := (op_of t.1 (by omega)).2.1 rfl
    rw [t.2.2.2.1]
    exact combine_w (by omega) (ih _ (by omega) t.2.1) (by omega) t.2.2.1
  · have o := (op_of t.1 (by omega)).2.2.1 rfl
    rw [t.2.2.2.2.1]
    exact combine_w (by omega) (ih _ (by omega) t.2.1) (by omega) t.2.2.2.1
  · have o := (op_of t.1 (by omega)).2.2.2 rfl
    rw [t.2.2.2.2.2.1]
    have := t.2.1.gt
    exact combine_w (by omega) (ih _ (by omega) t.2.1) (fun _ => ih _ (by omega) t.2.2.1) t.2.2.2.2.1
theorem mask_nat {w : Int} (h : 1 ≤ w ∧ w ≤ 32) : (bitvec_Mask w).toNat = 2 ^ w.toNat - 1 := by
  unfold bitvec_Mask
  simp only [LET, bitvec_valid_one]
  rw [if_neg (by simp; omega), wr_of (by omega) (by omega)]
  have : ∃ k : Fin 33, w = (k.val : Int) := ⟨⟨w.toNat, by omega⟩, by simp; omega⟩
  obtain ⟨k, rfl⟩ := this
  revert h
  revert k
  decide +kernel
def FV (x : BitVec 32) (w : Int) : Prop := x.toNat < 2 ^ w.toNat
theorem fv_mask {w : Int} (h : 1 ≤ w ∧ w ≤ 32) (x : BitVec 32) : FV (x &&& bitvec_Mask w) w := by
  unfold FV
  rw [BitVec.toNat_and, mask_nat h, Nat.and_two_pow_sub_one_eq_mod]
  exact Nat.mod_lt _ (Nat.two_pow_pos _)
theorem and_mask {w : Int} (h : 1 ≤ w ∧ w ≤ 32) (x : BitVec 32) (hx : FV x w) : x &&& bitvec_Mask w = x := by
  apply BitVec.eq_of_toNat_eq
  rw [BitVec.toNat_and, mask_nat h, Nat.and_two_pow_sub_one_eq_mod]
  exact Nat.mod_eq_of_lt hx
theorem fv_zero (w : Int) : FV 0#32 w := Nat.two_pow_pos _
theorem fv_one {w : Int} (h : 1 ≤ w) : FV 1#32 w := by
  unfold FV
  have : 2 ^ 1 ≤ 2 ^ w.toNat := Nat.pow_le_pow_right (by omega) (by omega)
  show 1 < _
  omega
theorem fv_unary {x : api_ExprNode} {y : expr_value} (hy : FV y.v y.w) (hw : 1 ≤ y.w ∧ y.w ≤ 32) (h8 : x.Op = 8 → 1 ≤ x.W ∧ x.W ≤ 32) (ho : 5 ≤ x.Op ∧ x.Op ≤ 8) : FV (expr_unary x y).v (expr_unary x y).w ∧ (expr_unary x y).w = if x.Op = 8 then x.W else y.w := by
  unfold expr_unary bitvec_Not bitvec_Shl bitvec_Shr bitvec_Slice
  simp only [LET, decide_eq_true_eq]
  by_cases h5 : x.Op = 5
  · rw [if_pos h5, if_neg (by omega)]; exact ⟨fv_mask hw _, rfl⟩
  rw [if_neg h5]
  by_cases h6 : x.Op = 6
  · rw [if_pos h6, if_neg (by omega)]; exact ⟨fv_mask hw _, rfl⟩
  rw [if_neg h6]
  by_cases h7 : x.Op = 7
  · rw [if_pos h7, if_neg (by omega)]
    refine ⟨?_, rfl⟩
    have := fv_mask hw y.v
    unfold FV at this ⊢
    refine Nat.lt_of_le_of_lt ?_ this
    rw [BitVec.toNat_ushiftRight, Nat.shiftRight_eq_div_pow]
    exact Nat.div_le_self _ _
  rw [if_neg h7, if_pos (show x.Op = 8 by omega)]
  refine ⟨?_, rfl⟩
  split
  · exact fv_zero _
  · exact fv_mask (h8 (by omega)) _
theorem fv_binary {op : Int} {y z : expr_value} (hy : FV y.v y.w) (hz : FV z.v z.w) (hw : 1 ≤ y.w ∧ y.w ≤ 32) (hv : 1 ≤ z.w ∧ z.w ≤ 32) (he : ¬op = 14 → y.w = z.w) (h14 : op = 14 → y.w + z.w ≤ 32) (ho : 9 ≤ op ∧ op ≤ 16) : FV (expr_binary op y z).v (expr_binary op y z).w ∧ (expr_binary op y z).w = if op = 14 then y.w + z.w else if op = 15 ∨ op = 16 then 1 else y.w := by
  unfold expr_binary bitvec_Add bitvec_Sub bitvec_Concat expr_truth
  simp only [LET, decide_eq_true_eq]
  by_cases h9 : op = 9
  · rw [if_pos h9, if_neg (by omega), if_neg (by omega)]; exact ⟨fv_mask hw _, rfl⟩
  rw [if_neg h9]
  by_cases h10 : op = 10
  · rw [if_pos h10, if_neg (by omega), if_neg (by omega)]; exact ⟨fv_mask hw _, rfl⟩
  rw [if_neg h10]
  by_cases h11 : op = 11
  · rw [if_pos h11, if_neg (by omega), if_neg (by omega)]
    refine ⟨?_, rfl⟩
    unfold FV at *
    rw [BitVec.toNat_and]
    exact Nat.lt_of_le_of_lt Nat.and_le_left hy
  rw [if_neg h11]
  by_cases h12 : op = 12
  · rw [if_pos h12, if_neg (by omega), if_neg (by omega)]
    refine ⟨?_, rfl⟩
    unfold FV at *
    rw [← he (by omega)] at hz
    rw [BitVec.toNat_or]
    exact Nat.or_lt_two_pow hy hz
  rw [if_neg h12]
  by_cases h13 : op = 13
  · rw [if_pos h13, if_neg (by omega), if_neg (by omega)]
    refine ⟨?_, rfl⟩
    unfold FV at *
    rw [← he (by omega)] at hz
    rw [BitVec.toNat_xor]
    exact Nat.xor_lt_two_pow hy hz
  rw [if_neg h13]
  by_cases hc : op = 14
  · rw [if_pos hc, if_pos hc]
    have h32 := h14 hc
    rw [bitvec_valid_two, wr_of (n := y.w + z.w) (by omega) (by omega), if_neg (by simp; omega)]
    refine ⟨?_, rfl⟩
    show FV ((y.v &&& bitvec_Mask y.w) <<< z.w.toNat ||| z.v &&& bitvec_Mask z.w) (y.w + z.w)
    rw [and_mask hw _ hy, and_mask hv _ hz]
    unfold FV at *
    rw [BitVec.toNat_or, BitVec.toNat_shiftLeft]
    have e : (y.w + z.w).toNat = y.w.toNat + z.w.toNat := by omega
    rw [e]
    refine Nat.or_lt_two_pow ?_ ?_
    · refine Nat.lt_of_le_of_lt (Nat.mod_le _ _) ?_
      rw [Nat.shiftLeft_eq, Nat.pow_add]
      exact Nat.mul_lt_mul_of_pos_right hy (Nat.two_pow_pos _)
    · refine Nat.lt_of_lt_of_le hz ?_
      exact Nat.pow_le_pow_right (by omega) (by omega)
  rw [if_neg hc, if_neg hc, if_pos (show op = 15 ∨ op = 16 by omega)]
  split
  · split
    · exact ⟨fv_one (by decide), rfl⟩
    · exact ⟨fv_zero _, rfl⟩
  · split
    · exact ⟨fv_one (by decide), rfl⟩
    · exact ⟨fv_zero _, rfl⟩
theorem load_w (m : expr_machine) (x : api_ExprNode) (h : (m1_expr_Scope__primary m.scope x).2 = 0) : FV (m2_expr_machine__load m x).1.v (m2_expr_machine__load m x).1.w ∧ (m2_expr_machine__load m x).1.w = (m1_expr_Scope__primary m.scope x).1 := by
  have hw := primary_w h
  unfold m2_expr_machine__load
  simp only [LET]
  have fm := fun x => fv_mask hw x
  split
  · exact ⟨fm _, rfl⟩
  · split
    · exact ⟨fm _, rfl⟩
    · split
      · split
        · exact ⟨fm _, rfl⟩
        · exact ⟨fm _, rfl⟩
      · split
        · split
          · exact ⟨fm _, rfl⟩
          · exact ⟨fm _, rfl⟩
        · exact ⟨fm _, rfl⟩
theorem vl_ok (e : api_Env) (g : List (BitVec 32)) : ∀ {a : Int}, Ok s n a → FV (vl s e g n a).v (vl s e g n a).w ∧ (vl s e g n a).w = wd s n a := by
  intro a
  refine (Ok.ind (P := fun a => FV (vl s e g n a).v (vl s e g n a).w ∧ (vl s e g n a).w = wd s n a) ?_) a
  intro a h ih
  have hlt := h.lt
  rcases h.step with t | t | t | t
  · rw [vl_0 e g h t.1, t.2.2.1]
    exact load_w (mch s e g n (a + 1)) _ t.2.1
  · have o := (op_of t.1 (by omega)).2.1 rfl
    obtain ⟨f1, w1⟩ := ih _ (by omega) t.2.1
    have k1 := wd_ok t.2.1
    have hc := t.2.2.1
    rw [vl_1 e g h t.1 t.2.1, t.2.2.2.1]
    rw [combine_eq _ _ _ _ (by omega)] at hc ⊢
    have h8 : (ix n a).Op = 8 → 1 ≤ (ix n a).W ∧ (ix n a).W ≤ 32 := by
      intro h8
      rw [if_neg (by omega), if_neg (by omega), if_pos h8] at hc
      split at hc
      · cases hc
      · split at hc
        · cases hc
        · rename_i hd
          have hz : (expr_wide (ix n a).W).2 = 0 := by omega
          exact (wide_ok hz).2
    have := fv_unary (x := ix n a) f1 (by rw [w1]; exact k1) h8 o
    refine ⟨this.1, ?_⟩
    rw [this.2]
    by_cases h5 : (ix n a).Op = 5
    · rw [if_neg (by omega), if_pos h5]; exact w1
    rw [if_neg h5] at hc ⊢
    by_cases h6 : (ix n a).Op = 6 ∨ (ix n a).Op = 7
    · rw [if_pos h6] at hc ⊢
      rw [if_neg (by omega)]
      split at hc
      · cases hc
      · rename_i hd; rw [if_neg hd]; exact w1
    rw [if_neg h6] at hc ⊢
    rw [if_pos (show (ix n a).Op = 8 by omega)] at hc ⊢
    rw [if_pos (show (ix n a).Op = 8 by omega)]
    split at hc
    · cases hc
    · rename_i hd
      rw [if_neg hd]
      split at hc
      · cases hc
      · rename_i hd; rw [if_neg hd]
  · have o := (op_of t.1 (by omega)).2.2.1 rfl
    obtain ⟨f1, w1⟩ := ih _ (by omega) t.2.1
    have g1 := t.2.1.gt
    obtain ⟨f2, w2⟩ := ih _ (by omega) t.2.2.1
    have k1 := wd_ok t.2.1
    have k2 := wd_ok t.2.2.1
    have hc := t.2.2.2.1
    rw [vl_2 e g h t.1 t.2.1 t.2.2.1, t.2.2.2.2.1]
    rw [combine_eq _ _ _ _ (by omega), if_neg (by omega), if_neg (by omega), if_neg (by omega)] at hc ⊢
    by_cases h14 : (ix n a).Op = 14
    · rw [if_pos h14] at hc ⊢
      have wo := wide_ok hc
      rw [wr_of (by omega) (by omega)] at wo
      have := fv_binary (op := (ix n a).Op) f1 f2 (by rw [w1]; exact k1) (by rw [w2]; exact k2) (by omega) (by omega) o
      refine ⟨this.1, ?_⟩
      rw [this.2, if_pos h14, w1, w2, wr_of (by omega) (by omega)]
      exact wo.1.symm
    rw [if_neg h14, if_neg (by omega)] at hc ⊢
    split at hc
    · cases hc
    · rename_i hd
      rw [if_neg hd]
      have := fv_binary (op := (ix n a).Op) f1 f2 (by rw [w1]; exact k1) (by rw [w2]; exact k2) (by omega) (by omega) o
      refine ⟨this.1, ?_⟩
      rw [this.2, if_neg h14]
      split
      · rfl
      · exact w1
  · have o := (op_of t.1 (by omega)).2.2.2 rfl
    have g1 := t.2.1.gt
    have g2 := t.2.2.1.gt
    obtain ⟨f2, w2⟩ := ih _ (by omega) t.2.2.1
    obtain ⟨f3, w3⟩ := ih _ (by omega) t.2.2.2.1
    have hc := t.2.2.2.2.1
    rw [t.2.2.2.2.2.1]
    rw [combine_eq _ _ _ _ (by omega), if_neg (by omega), if_neg (by omega), if_neg (by omega), if_neg (by omega), if_pos o] at hc ⊢
    split at hc
    · cases hc
    · rename_i hd
      rw [if_neg hd, vl_3 e g h t.1 t.2.1 t.2.2.1 t.2.2.2.1]
      split
      · exact ⟨f2, w2⟩
      · exact ⟨f3, by rw [w3]; omega⟩
end
end Go.Proofs.Ytfekghenlhoamaa
