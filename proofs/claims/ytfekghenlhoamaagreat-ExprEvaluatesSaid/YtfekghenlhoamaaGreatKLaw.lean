/-
  ExprEvaluates: the plain law.
-/
import Derived.Test.YtfekghenlhoamaaGreatKPureR
set_option linter.unusedVariables false
set_option linter.unusedSimpArgs false
set_option maxRecDepth 100000
namespace Go.Proofs.YtfekghenlhoamaaGreat
open Go Go.Pb Go.RowKit
theorem Ok.ind {s : expr_Scope} {n : List api_ExprNode} {P : Int → Prop} (st : ∀ a, Ok s n a → (∀ b, a < b → Ok s n b → P b) → P a) : ∀ a, Ok s n a → P a := by
  have : ∀ (m : Nat) (a : Int), n.length - a.toNat ≤ m → Ok s n a → P a := by
    intro m
    induction m with
    | zero => intro a hm h; have := h.lt; have := h.lo; omega
    | succ m ih =>
      intro a hm h
      refine st a h fun b hb hk => ih b ?_ hk
      have := h.lt; have := h.lo; omega
  exact fun a h => this _ a (Nat.le_refl _) h
theorem op_of {op k : Int} (h : expr_arity op = k) (hk : 0 ≤ k) : (k = 0 → 1 ≤ op ∧ op ≤ 4) ∧ (k = 1 → 5 ≤ op ∧ op ≤ 8) ∧ (k = 2 → 9 ≤ op ∧ op ≤ 16) ∧ (k = 3 → op = 17) := by
  rw [arity_eq] at h
  split at h
  · omega
  · split at h
    · omega
    · split at h
      · omega
      · split at h <;> omega
theorem combine_w {x : api_ExprNode} {u v w : Int} (ho : 5 ≤ x.Op ∧ x.Op ≤ 17) (hu : 1 ≤ u ∧ u ≤ 32) (hv : x.Op = 17 → 1 ≤ v ∧ v ≤ 32) (h : (expr_combine x [u, v, w]).2 = 0) : 1 ≤ (expr_combine x [u, v, w]).1 ∧ (expr_combine x [u, v, w]).1 ≤ 32 := by
  rw [combine_eq x u v w ho] at h ⊢
  by_cases h5 : x.Op = 5
  · rw [if_pos h5]; exact hu
  rw [if_neg h5] at h ⊢
  by_cases h6 : x.Op = 6 ∨ x.Op = 7
  · rw [if_pos h6] at h ⊢
    split at h
    · cases h
    · rename_i hc; rw [if_neg hc]; exact hu
  rw [if_neg h6] at h ⊢
  by_cases h8 : x.Op = 8
  · rw [if_pos h8] at h ⊢
    split at h
    · cases h
    · rename_i hc
      rw [if_neg hc]
      split at h
      · cases h
      · rename_i hd
        rw [if_neg hd]
        have hz : (expr_wide x.W).2 = 0 := by omega
        have := wide_ok hz
        exact this.2
  rw [if_neg h8] at h ⊢
  by_cases h14 : x.Op = 14
  · rw [if_pos h14] at h ⊢
    have := wide_ok h
    omega
  rw [if_neg h14] at h ⊢
  by_cases h17 : x.Op = 17
  · rw [if_pos h17] at h ⊢
    split at h
    · cases h
    · rename_i hc; rw [if_neg hc]; exact hv h17
  rw [if_neg h17] at h ⊢
  split at h
  · cases h
  · rename_i hc
    rw [if_neg hc]
    split
    · exact ⟨by decide, by decide⟩
    · exact hu
section
variable {s : expr_Scope} {n : List api_ExprNode}
theorem wd_ok : ∀ {a : Int}, Ok s n a → 1 ≤ wd s n a ∧ wd s n a ≤ 32 := by
  intro a
  refine (Ok.ind (P := fun a => 1 ≤ wd s n a ∧ wd s n a ≤ 32) ?_) a
  intro a h ih
  have hlt := h.lt
  rcases h.step with t | t | t | t
  · rw [t.2.2.1]; exact primary_w t.2.1
  · have o := (op_of t.1 (by omega)).2.1 rfl
    rw [t.2.2.2.1]
    exact combine_w (by omega) (ih _ (by omega) t.2.1) (by omega) t.2.2.1
  · have o := (op_of t.1 (by omega)).2.2.1 rfl
    rw [t.2.2.2.2.1]
    exact combine_w (by omega) (ih _ (by omega) t.2.1) (by omega) t.2.2.2.1
  · have o := (op_of t.1 (by omega)).2.2.2 rfl
    rw [t.2.2.2.2.2.1]
    have := t.2.1.gt
    exact combine_w (by omega) (ih _ (by omega) t.2.1) (fun _ => ih _ (by omega) t.2.2.1) t.2.2.2.2.1
theorem mask_nat {w : Int} (h : 1 ≤ w ∧ w ≤ 32) : (bitvec_Mask w).toNat = 2 ^ w.toNat - 1 := by
  unfold bitvec_Mask
  simp only [LET, bitvec_valid_one]
  rw [if_neg (by simp; omega), wr_of (by omega) (by omega)]
  have : ∃ k : Fin 33, w = (k.val : Int) := ⟨⟨w.toNat, by omega⟩, by simp; omega⟩
  obtain ⟨k, rfl⟩ := this
  revert h
  revert k
  decide +kernel
def FV (x : BitVec 32) (w : Int) : Prop := x.toNat < 2 ^ w.toNat
theorem fv_mask {w : Int} (h : 1 ≤ w ∧ w ≤ 32) (x : BitVec 32) : FV (x &&& bitvec_Mask w) w := by
  unfold FV
  rw [BitVec.toNat_and, mask_nat h, Nat.and_two_pow_sub_one_eq_mod]
  exact Nat.mod_lt _ (Nat.two_pow_pos _)
theorem and_mask {w : Int} (h : 1 ≤ w ∧ w ≤ 32) (x : BitVec 32) (hx : FV x w) : x &&& bitvec_Mask w = x := by
  apply BitVec.eq_of_toNat_eq
  rw [BitVec.toNat_and, mask_nat h, Nat.and_two_pow_sub_one_eq_mod]
  exact Nat.mod_eq_of_lt hx
theorem fv_zero (w : Int) : FV 0#32 w := Nat.two_pow_pos _
theorem fv_one {w : Int} (h : 1 ≤ w) : FV 1#32 w := by
  unfold FV
  have : 2 ^ 1 ≤ 2 ^ w.toNat := Nat.pow_le_pow_right (by omega) (by omega)
  show 1 < _
  omega
theorem fv_unary {x : api_ExprNode} {y : expr_value} (hy : FV y.v y.w) (hw : 1 ≤ y.w ∧ y.w ≤ 32) (h8 : x.Op = 8 → 1 ≤ x.W ∧ x.W ≤ 32) (ho : 5 ≤ x.Op ∧ x.Op ≤ 8) : FV (expr_unary x y).v (expr_unary x y).w ∧ (expr_unary x y).w = if x.Op = 8 then x.W else y.w := by
  unfold expr_unary bitvec_Not bitvec_Shl bitvec_Shr bitvec_Slice
  simp only [LET, decide_eq_true_eq]
  by_cases h5 : x.Op = 5
  · rw [if_pos h5, if_neg (by omega)]; exact ⟨fv_mask hw _, rfl⟩
  rw [if_neg h5]
  by_cases h6 : x.Op = 6
  · rw [if_pos h6, if_neg (by omega)]; exact ⟨fv_mask hw _, rfl⟩
  rw [if_neg h6]
  by_cases h7 : x.Op = 7
  · rw [if_pos h7, if_neg (by omega)]
    refine ⟨?_, rfl⟩
    have := fv_mask hw y.v
    unfold FV at this ⊢
    refine Nat.lt_of_le_of_lt ?_ this
    rw [BitVec.toNat_ushiftRight, Nat.shiftRight_eq_div_pow]
    exact Nat.div_le_self _ _
  rw [if_neg h7, if_pos (show x.Op = 8 by omega)]
  refine ⟨?_, rfl⟩
  split
  · exact fv_zero _
  · exact fv_mask (h8 (by omega)) _
theorem fv_binary {op : Int} {y z : expr_value} (hy : FV y.v y.w) (hz : FV z.v z.w) (hw : 1 ≤ y.w ∧ y.w ≤ 32) (hv : 1 ≤ z.w ∧ z.w ≤ 32) (he : ¬op = 14 → y.w = z.w) (h14 : op = 14 → y.w + z.w ≤ 32) (ho : 9 ≤ op ∧ op ≤ 16) : FV (expr_binary op y z).v (expr_binary op y z).w ∧ (expr_binary op y z).w = if op = 14 then y.w + z.w else if op = 15 ∨ op = 16 then 1 else y.w := by
  unfold expr_binary bitvec_Add bitvec_Sub bitvec_Concat expr_truth
  simp only [LET, decide_eq_true_eq]
  by_cases h9 : op = 9
  · rw [if_pos h9, if_neg (by omega), if_neg (by omega)]; exact ⟨fv_mask hw _, rfl⟩
  rw [if_neg h9]
  by_cases h10 : op = 10
  · rw [if_pos h10, if_neg (by omega), if_neg (by omega)]; exact ⟨fv_mask hw _, rfl⟩
  rw [if_neg h10]
  by_cases h11 : op = 11
  · rw [if_pos h11, if_neg (by omega), if_neg (by omega)]
    refine ⟨?_, rfl⟩
    unfold FV at *
    rw [BitVec.toNat_and]
    exact Nat.lt_of_le_of_lt Nat.and_le_left hy
  rw [if_neg h11]
  by_cases h12 : op = 12
  · rw [if_pos h12, if_neg (by omega), if_neg (by omega)]
    refine ⟨?_, rfl⟩
    unfold FV at *
    rw [← he (by omega)] at hz
    rw [BitVec.toNat_or]
    exact Nat.or_lt_two_pow hy hz
  rw [if_neg h12]
  by_cases h13 : op = 13
  · rw [if_pos h13, if_neg (by omega), if_neg (by omega)]
    refine ⟨?_, rfl⟩
    unfold FV at *
    rw [← he (by omega)] at hz
    rw [BitVec.toNat_xor]
    exact Nat.xor_lt_two_pow hy hz
  rw [if_neg h13]
  by_cases hc : op = 14
  · rw [if_pos hc, if_pos hc]
    have h32 := h14 hc
    rw [bitvec_valid_two, wr_of (n := y.w + z.w) (by omega) (by omega), if_neg (by simp; omega)]
    refine ⟨?_, rfl⟩
    show FV ((y.v &&& bitvec_Mask y.w) <<< z.w.toNat ||| z.v &&& bitvec_Mask z.w) (y.w + z.w)
    rw [and_mask hw _ hy, and_mask hv _ hz]
    unfold FV at *
    rw [BitVec.toNat_or, BitVec.toNat_shiftLeft]
    have e : (y.w + z.w).toNat = y.w.toNat + z.w.toNat := by omega
    rw [e]
    refine Nat.or_lt_two_pow ?_ ?_
    · refine Nat.lt_of_le_of_lt (Nat.mod_le _ _) ?_
      rw [Nat.shiftLeft_eq, Nat.pow_add]
      exact Nat.mul_lt_mul_of_pos_right hy (Nat.two_pow_pos _)
    · refine Nat.lt_of_lt_of_le hz ?_
      exact Nat.pow_le_pow_right (by omega) (by omega)
  rw [if_neg hc, if_neg hc, if_pos (show op = 15 ∨ op = 16 by omega)]
  split
  · split
    · exact ⟨fv_one (by decide), rfl⟩
    · exact ⟨fv_zero _, rfl⟩
  · split
    · exact ⟨fv_one (by decide), rfl⟩
    · exact ⟨fv_zero _, rfl⟩
theorem load_w (m : expr_machine) (x : api_ExprNode) (h : (m1_expr_Scope__primary m.scope x).2 = 0) : FV (m2_expr_machine__load m x).1.v (m2_expr_machine__load m x).1.w ∧ (m2_expr_machine__load m x).1.w = (m1_expr_Scope__primary m.scope x).1 := by
  have hw := primary_w h
  unfold m2_expr_machine__load
  simp only [LET]
  have fm := fun x => fv_mask hw x
  split
  · exact ⟨fm _, rfl⟩
  · split
    · exact ⟨fm _, rfl⟩
    · split
      · split
        · exact ⟨fm _, rfl⟩
        · exact ⟨fm _, rfl⟩
      · split
        · split
          · exact ⟨fm _, rfl⟩
          · exact ⟨fm _, rfl⟩
        · exact ⟨fm _, rfl⟩
theorem vl_ok (e : api_Env) (g : List (BitVec 32)) : ∀ {a : Int}, Ok s n a → FV (vl s e g n a).v (vl s e g n a).w ∧ (vl s e g n a).w = wd s n a := by
  intro a
  refine (Ok.ind (P := fun a => FV (vl s e g n a).v (vl s e g n a).w ∧ (vl s e g n a).w = wd s n a) ?_) a
  intro a h ih
  have hlt := h.lt
  rcases h.step with t | t | t | t
  · rw [vl_0 e g h t.1, t.2.2.1]
    exact load_w (mch s e g n (a + 1)) _ t.2.1
  · have o := (op_of t.1 (by omega)).2.1 rfl
    obtain ⟨f1, w1⟩ := ih _ (by omega) t.2.1
    have k1 := wd_ok t.2.1
    have hc := t.2.2.1
    rw [vl_1 e g h t.1 t.2.1, t.2.2.2.1]
    rw [combine_eq _ _ _ _ (by omega)] at hc ⊢
    have h8 : (ix n a).Op = 8 → 1 ≤ (ix n a).W ∧ (ix n a).W ≤ 32 := by
      intro h8
      rw [if_neg (by omega), if_neg (by omega), if_pos h8] at hc
      split at hc
      · cases hc
      · split at hc
        · cases hc
        · rename_i hd
          have hz : (expr_wide (ix n a).W).2 = 0 := by omega
          exact (wide_ok hz).2
    have := fv_unary (x := ix n a) f1 (by rw [w1]; exact k1) h8 o
    refine ⟨this.1, ?_⟩
    rw [this.2]
    by_cases h5 : (ix n a).Op = 5
    · rw [if_neg (by omega), if_pos h5]; exact w1
    rw [if_neg h5] at hc ⊢
    by_cases h6 : (ix n a).Op = 6 ∨ (ix n a).Op = 7
    · rw [if_pos h6] at hc ⊢
      rw [if_neg (by omega)]
      split at hc
      · cases hc
      · rename_i hd; rw [if_neg hd]; exact w1
    rw [if_neg h6] at hc ⊢
    rw [if_pos (show (ix n a).Op = 8 by omega)] at hc ⊢
    rw [if_pos (show (ix n a).Op = 8 by omega)]
    split at hc
    · cases hc
    · rename_i hd
      rw [if_neg hd]
      split at hc
      · cases hc
      · rename_i hd; rw [if_neg hd]
  · have o := (op_of t.1 (by omega)).2.2.1 rfl
    obtain ⟨f1, w1⟩ := ih _ (by omega) t.2.1
    have g1 := t.2.1.gt
    obtain ⟨f2, w2⟩ := ih _ (by omega) t.2.2.1
    have k1 := wd_ok t.2.1
    have k2 := wd_ok t.2.2.1
    have hc := t.2.2.2.1
    rw [vl_2 e g h t.1 t.2.1 t.2.2.1, t.2.2.2.2.1]
    rw [combine_eq _ _ _ _ (by omega), if_neg (by omega), if_neg (by omega), if_neg (by omega)] at hc ⊢
    by_cases h14 : (ix n a).Op = 14
    · rw [if_pos h14] at hc ⊢
      have wo := wide_ok hc
      rw [wr_of (by omega) (by omega)] at wo
      have := fv_binary (op := (ix n a).Op) f1 f2 (by rw [w1]; exact k1) (by rw [w2]; exact k2) (by omega) (by omega) o
      refine ⟨this.1, ?_⟩
      rw [this.2, if_pos h14, w1, w2, wr_of (by omega) (by omega)]
      exact wo.1.symm
    rw [if_neg h14, if_neg (by omega)] at hc ⊢
    split at hc
    · cases hc
    · rename_i hd
      rw [if_neg hd]
      have := fv_binary (op := (ix n a).Op) f1 f2 (by rw [w1]; exact k1) (by rw [w2]; exact k2) (by omega) (by omega) o
      refine ⟨this.1, ?_⟩
      rw [this.2, if_neg h14]
      split
      · rfl
      · exact w1
  · have o := (op_of t.1 (by omega)).2.2.2 rfl
    have g1 := t.2.1.gt
    have g2 := t.2.2.1.gt
    obtain ⟨f2, w2⟩ := ih _ (by omega) t.2.2.1
    obtain ⟨f3, w3⟩ := ih _ (by omega) t.2.2.2.1
    have hc := t.2.2.2.2.1
    rw [t.2.2.2.2.2.1]
    rw [combine_eq _ _ _ _ (by omega), if_neg (by omega), if_neg (by omega), if_neg (by omega), if_neg (by omega), if_pos o] at hc ⊢
    split at hc
    · cases hc
    · rename_i hd
      rw [if_neg hd, vl_3 e g h t.1 t.2.1 t.2.2.1 t.2.2.2.1]
      split
      · exact ⟨f2, w2⟩
      · exact ⟨f3, by rw [w3]; omega⟩
end
theorem rv_t {w : Int} (h : 1 ≤ w ∧ w ≤ 32) : ref01_valid w = true := by
  unfold ref01_valid
  simpa using h
theorem reduce_nat {w : Int} (h : 1 ≤ w ∧ w ≤ 32) (x : BitVec 64) : (ref01_Reduce x w).toNat = x.toNat % 2 ^ w.toNat := by
  unfold ref01_Reduce
  simp only [LET, rv_t h]
  rw [if_neg (by simp), BitVec.toNat_setWidth, BitVec.toNat_umod, rpow (by omega)]
  have h1 : x.toNat % 2 ^ w.toNat < 2 ^ w.toNat := Nat.mod_lt _ (Nat.two_pow_pos _)
  have h2 : 2 ^ w.toNat ≤ 2 ^ 32 := Nat.pow_le_pow_right (by omega) (by omega)
  exact Nat.mod_eq_of_lt (by omega)
theorem and_mask_mod {w : Int} (h : 1 ≤ w ∧ w ≤ 32) (x : BitVec 32) : (x &&& bitvec_Mask w).toNat = x.toNat % 2 ^ w.toNat := by
  rw [BitVec.toNat_and, mask_nat h, Nat.and_two_pow_sub_one_eq_mod]
theorem sw_nat (x : BitVec 32) : (BitVec.setWidth 64 x).toNat = x.toNat := by
  rw [BitVec.toNat_setWidth]
  have := x.isLt
  exact Nat.mod_eq_of_lt (by omega)
theorem reduce32 {w : Int} (h : 1 ≤ w ∧ w ≤ 32) (x : BitVec 32) : ref01_Reduce (BitVec.setWidth 64 x) w = x &&& bitvec_Mask w := by
  apply BitVec.eq_of_toNat_eq
  rw [reduce_nat h, and_mask_mod h, sw_nat]
theorem pdvd {w : Int} (h : 1 ≤ w ∧ w ≤ 32) (k : Nat) (hk : 32 ≤ k) : 2 ^ w.toNat ∣ 2 ^ k := Nat.pow_dvd_pow 2 (by omega)
/-! Operators -/
theorem not_eq {w : Int} (h : 1 ≤ w ∧ w ≤ 32) {x : BitVec 32} (hx : FV x w) : ref01_Not x w = bitvec_Not x w := by
  unfold ref01_Not bitvec_Not
  simp only [LET, rmask_eq, reduce32 h, and_mask h x hx]
  apply BitVec.eq_of_toNat_eq
  rw [and_mask_mod h, BitVec.toNat_sub, mask_nat h, BitVec.toNat_not]
  obtain ⟨c, hc⟩ := pdvd h 32 (by omega)
  unfold FV at hx
  have x32 := x.isLt
  have hp : 0 < 2 ^ w.toNat := Nat.two_pow_pos _
  have h2 : 2 ^ w.toNat ≤ 2 ^ 32 := Nat.pow_le_pow_right (by omega) (by omega)
  have e : 2 ^ 32 - 1 - x.toNat = 2 ^ w.toNat * (c - 1) + (2 ^ w.toNat - 1 - x.toNat) := by
    have c1 : 1 ≤ c := by
      rcases Nat.eq_zero_or_pos c with h | h
      · subst h; simp at hc
      · exact h
    have : 2 ^ w.toNat * c = 2 ^ w.toNat * (c - 1) + 2 ^ w.toNat := by
      conv => lhs; rw [show c = (c - 1) + 1 by omega, Nat.mul_add, Nat.mul_one]
    omega
  rw [e, Nat.mul_add_mod, Nat.mod_eq_of_lt (a := 2 ^ w.toNat - 1 - x.toNat) (by omega)]
  rw [show 2 ^ 32 - x.toNat + (2 ^ w.toNat - 1) = (2 ^ w.toNat - 1 - x.toNat) + 2 ^ 32 by omega, Nat.add_mod_right]
  exact Nat.mod_eq_of_lt (by omega)
theorem shl_loop {w : Int} (h : 1 ≤ w ∧ w ≤ 32) (N : Int) (hN : N ≤ 31) (K : BitVec 32 → BitVec 32) : ∀ (m : Nat) (z : BitVec 32) (i : Int), 0 ≤ i → i + m = N → z.toNat < 2 ^ w.toNat → ∃ z', ref01_Shl_L1 N w K m z i = K z' ∧ z'.toNat = (z.toNat * 2 ^ m) % 2 ^ w.toNat
  | 0, z, i, h0, hi, hz => ⟨z, by rw [ref01_Shl_L1], by rw [Nat.pow_zero, Nat.mul_one, Nat.mod_eq_of_lt hz]⟩
  | m + 1, z, i, h0, hi, hz => by
    have e : (ref01_Reduce (2#64 * BitVec.setWidth 64 z) w).toNat = (2 * z.toNat) % 2 ^ w.toNat := by
      rw [reduce_nat h, BitVec.toNat_mul, sw_nat, Nat.mod_mod_of_dvd _ (pdvd h 64 (by omega))]
      rfl
    obtain ⟨z', e1, e2⟩ := shl_loop h N hN K m (ref01_Reduce (2#64 * BitVec.setWidth 64 z) w) (i + 1) (by omega) (by omega) (by rw [e]; exact Nat.mod_lt _ (Nat.two_pow_pos _))
    refine ⟨z', ?_, ?_⟩
    · rw [ref01_Shl_L1, if_pos (by simp; omega)]
      exact e1
    · rw [e2, e, Nat.mul_mod, Nat.mod_mod, ← Nat.mul_mod, Nat.pow_succ]
      congr 1
      rw [Nat.mul_comm 2, Nat.mul_assoc, Nat.mul_comm 2]
theorem shl_eq {w N : Int} (h : 1 ≤ w ∧ w ≤ 32) (hN : 0 ≤ N ∧ N ≤ 31) (x : BitVec 32) : ref01_Shl x N w = bitvec_Shl x N w := by
  unfold ref01_Shl bitvec_Shl
  simp only [LET, reduce32 h]
  obtain ⟨z', e1, e2⟩ := shl_loop h N hN.2 (fun z => z) (Int.toNat (N - 0)) (x &&& bitvec_Mask w) 0 (by omega) (by omega) (fv_mask h x)
  rw [e1]
  apply BitVec.eq_of_toNat_eq
  show z'.toNat = _
  rw [e2, and_mask_mod h, and_mask_mod h, BitVec.toNat_shiftLeft, Nat.mod_mod_of_dvd _ (pdvd h 32 (by omega)), Nat.shiftLeft_eq, Nat.mul_mod, Nat.mod_mod, ← Nat.mul_mod, show (max N 0).toNat = (N - 0).toNat by omega]
theorem shr_loop (N : Int) (hN : N ≤ 31) (K : BitVec 32 → BitVec 32) : ∀ (m : Nat) (z : BitVec 32) (i : Int), 0 ≤ i → i + m = N → ∃ z', ref01_Shr_L1 N K m z i = K z' ∧ z'.toNat = z.toNat / 2 ^ m
  | 0, z, i, h0, hi => ⟨z, by rw [ref01_Shr_L1], by rw [Nat.pow_zero, Nat.div_one]⟩
  | m + 1, z, i, h0, hi => by
    have e : (z / 2#32).toNat = z.toNat / 2 := by rw [BitVec.toNat_udiv]; rfl
    obtain ⟨z', e1, e2⟩ := shr_loop N hN K m (z / 2#32) (i + 1) (by omega) (by omega)
    refine ⟨z', ?_, ?_⟩
    · rw [ref01_Shr_L1, if_pos (by simp; omega)]
      exact e1
    · rw [e2, e, Nat.div_div_eq_div_mul, Nat.pow_succ, Nat.mul_comm]
theorem shr_eq {w N : Int} (h : 1 ≤ w ∧ w ≤ 32) (hN : 0 ≤ N ∧ N ≤ 31) (x : BitVec 32) : ref01_Shr x N w = bitvec_Shr x N w := by
  unfold ref01_Shr bitvec_Shr
  simp only [LET, reduce32 h]
  obtain ⟨z', e1, e2⟩ := shr_loop N hN.2 (fun z => z) (Int.toNat (N - 0)) (x &&& bitvec_Mask w) 0 (by omega) (by omega)
  rw [e1]
  apply BitVec.eq_of_toNat_eq
  show z'.toNat = _
  rw [e2, BitVec.toNat_ushiftRight, Nat.shiftRight_eq_div_pow, show (max N 0).toNat = (N - 0).toNat by omega]
theorem slice_eq {w N : Int} (h : 1 ≤ w ∧ w ≤ 32) (x : BitVec 32) : ref01_Slice x N w = bitvec_Slice x N w := by
  unfold ref01_Slice bitvec_Slice
  simp only [LET, rv_t h, bitvec_valid_one, decide_eq_true h]
  split
  · rfl
  rename_i hc
  simp only [Bool.or_eq_true, decide_eq_true_eq, not_or, Bool.not_true, Bool.false_eq_true, not_false_eq_true, true_and] at hc
  rw [wr_of (by omega) (by omega)] at hc
  apply BitVec.eq_of_toNat_eq
  rw [reduce_nat h, and_mask_mod h, BitVec.toNat_udiv, sw_nat, rpow (by omega), BitVec.toNat_ushiftRight, Nat.shiftRight_eq_div_pow]
theorem add_eq {w : Int} (h : 1 ≤ w ∧ w ≤ 32) (x y : BitVec 32) : ref01_Add x y w = bitvec_Add x y w := by
  unfold ref01_Add bitvec_Add
  simp only [LET]
  apply BitVec.eq_of_toNat_eq
  rw [reduce_nat h, and_mask_mod h, BitVec.toNat_add, BitVec.toNat_add, sw_nat, sw_nat, Nat.mod_mod_of_dvd _ (pdvd h 64 (by omega)), Nat.mod_mod_of_dvd _ (pdvd h 32 (by omega))]
theorem sub_eq {w : Int} (h : 1 ≤ w ∧ w ≤ 32) {x y : BitVec 32} (hx : FV x w) (hy : FV y w) : ref01_Sub x y w = bitvec_Sub x y w := by
  unfold ref01_Sub bitvec_Sub
  simp only [LET, rv_t h, reduce32 h, and_mask h x hx, and_mask h y hy]
  rw [if_neg (by simp)]
  apply BitVec.eq_of_toNat_eq
  rw [reduce_nat h, and_mask_mod h, BitVec.toNat_sub, BitVec.toNat_sub, BitVec.toNat_add, sw_nat, sw_nat, rpow (by omega), Nat.mod_mod_of_dvd _ (pdvd h 64 (by omega)), Nat.mod_mod_of_dvd _ (pdvd h 32 (by omega))]
  obtain ⟨c, hc⟩ := pdvd h 32 (by omega)
  obtain ⟨d, hd⟩ := pdvd h 64 (by omega)
  unfold FV at hx hy
  have hp : 0 < 2 ^ w.toNat := Nat.two_pow_pos _
  have h2 : 2 ^ w.toNat ≤ 2 ^ 32 := Nat.pow_le_pow_right (by omega) (by omega)
  have x32 := x.isLt
  have y32 := y.isLt
  have pred : ∀ c : Nat, 1 ≤ c → 2 ^ w.toNat * c = 2 ^ w.toNat * (c - 1) + 2 ^ w.toNat := fun c hc => by
    conv => lhs; rw [show c = (c - 1) + 1 by omega, Nat.mul_add, Nat.mul_one]
  have c1 : 1 ≤ c := by
    rcases Nat.eq_zero_or_pos c with h | h
    · subst h; simp at hc
    · exact h
  have d1 : 1 ≤ d := by
    rcases Nat.eq_zero_or_pos d with h | h
    · subst h; simp at hd
    · exact h
  have e1 : 2 ^ 32 - y.toNat + x.toNat = 2 ^ w.toNat * (c - 1) + (2 ^ w.toNat - y.toNat + x.toNat) := by have := pred c c1; omega
  have e0 : 2 ^ w.toNat + x.toNat < 2 ^ 64 := by omega
  have e2 : 2 ^ 64 - y.toNat + (2 ^ w.toNat + x.toNat) % 2 ^ 64 = 2 ^ w.toNat * d + (2 ^ w.toNat - y.toNat + x.toNat) := by rw [Nat.mod_eq_of_lt e0]; omega
  rw [e1, e2, Nat.mul_add_mod, Nat.mul_add_mod]
theorem concat_eq {u v : Int} (hu : 1 ≤ u) (hv : 1 ≤ v) (h : u + v ≤ 32) {x y : BitVec 32} (hx : FV x u) (hy : FV y v) : (ref01_Concat x u y v).1 = (bitvec_Concat x u y v).1 := by
  unfold ref01_Concat bitvec_Concat
  simp only [LET, rv_t ⟨hu, show u ≤ 32 by omega⟩, rv_t ⟨hv, show v ≤ 32 by omega⟩, bitvec_valid_two, wr_of (n := u + v) (by omega) (by omega)]
  rw [if_neg (by simp; omega), if_neg (by simp; omega)]
  show _ = (x &&& bitvec_Mask u) <<< v.toNat ||| y &&& bitvec_Mask v
  apply BitVec.eq_of_toNat_eq
  rw [reduce32 ⟨hu, by omega⟩, reduce32 ⟨hv, by omega⟩, and_mask ⟨hu, by omega⟩ _ hx, and_mask ⟨hv, by omega⟩ _ hy, BitVec.toNat_or, BitVec.toNat_shiftLeft, BitVec.toNat_add, BitVec.toNat_setWidth, BitVec.toNat_mul, sw_nat, rpow (by omega)]
  unfold FV at hx hy
  have hlt : (x.toNat + 1) * 2 ^ v.toNat ≤ 2 ^ 32 := by
    have h1 : (x.toNat + 1) * 2 ^ v.toNat ≤ 2 ^ u.toNat * 2 ^ v.toNat := Nat.mul_le_mul_right _ hx
    have h2 : 2 ^ u.toNat * 2 ^ v.toNat ≤ 2 ^ 32 := by rw [← Nat.pow_add]; exact Nat.pow_le_pow_right (by omega) (by omega)
    omega
  rw [Nat.add_mul, Nat.one_mul] at hlt
  have h3 : x.toNat * 2 ^ v.toNat < 2 ^ 32 := by omega
  rw [Nat.shiftLeft_eq, Nat.mod_eq_of_lt h3, Nat.mod_eq_of_lt (a := x.toNat * 2 ^ v.toNat) (b := 2 ^ 64) (by omega), Nat.mod_eq_of_lt h3, Nat.mod_eq_of_lt (by omega), Nat.mul_comm x.toNat, Nat.two_pow_add_eq_or_of_lt hy]
theorem apply_un {x : api_ExprNode} {y : expr_value} (t : Int) (ho : 5 ≤ x.Op ∧ x.Op ≤ 8) (hw : 1 ≤ y.w ∧ y.w ≤ 32) (hy : FV y.v y.w) (hN : x.Op = 6 ∨ x.Op = 7 → 0 ≤ x.N ∧ x.N ≤ 31) (h8 : x.Op = 8 → 1 ≤ x.W ∧ x.W ≤ 32) : ref13_apply x [{ V := y.v, W := y.w, To := t }] = (expr_unary x y).v := by
  have e0 : ix [({ V := y.v, W := y.w, To := t } : ref13_Value)] 0 = { V := y.v, W := y.w, To := t } := rfl
  unfold ref13_apply expr_unary
  simp only [LET, e0]
  have : x.Op = 5 ∨ x.Op = 6 ∨ x.Op = 7 ∨ x.Op = 8 := by omega
  rcases this with h | h | h | h
  · simp only [h, decide_true, if_true]; exact not_eq hw hy
  · simp [h]; exact shl_eq hw (hN (by omega)) _
  · simp [h]; exact shr_eq hw (hN (by omega)) _
  · simp [h]; exact slice_eq (h8 h) _
theorem apply_if (x : api_ExprNode) (h : x.Op = 17) (a b c : ref13_Value) : ref13_apply x [a, b, c] = if a.V = 1#32 then b.V else c.V := by
  have e0 : ix [a, b, c] 0 = a := rfl
  have e1 : ix [a, b, c] 1 = b := rfl
  have e2 : ix [a, b, c] 2 = c := rfl
  unfold ref13_apply
  simp [h, e0, e1, e2, LET]
theorem truth_v (b : Bool) : (expr_truth b).v = ref13_bit b := by cases b <;> rfl
theorem apply_bin {x : api_ExprNode} {y z : expr_value} (t u : Int) (ho : 9 ≤ x.Op ∧ x.Op ≤ 16) (hw : 1 ≤ y.w ∧ y.w ≤ 32) (hv : 1 ≤ z.w ∧ z.w ≤ 32) (hy : FV y.v y.w) (hz : FV z.v z.w) (he : ¬x.Op = 14 → y.w = z.w) (h14 : x.Op = 14 → y.w + z.w ≤ 32) : ref13_apply x [{ V := y.v, W := y.w, To := t }, { V := z.v, W := z.w, To := u }] = (expr_binary x.Op y z).v := by
  have e0 : ix [({ V := y.v, W := y.w, To := t } : ref13_Value), { V := z.v, W := z.w, To := u }] 0 = { V := y.v, W := y.w, To := t } := rfl
  have e1 : ix [({ V := y.v, W := y.w, To := t } : ref13_Value), { V := z.v, W := z.w, To := u }] 1 = { V := z.v, W := z.w, To := u } := rfl
  unfold ref13_apply expr_binary
  simp only [LET, e0, e1]
  have : x.Op = 9 ∨ x.Op = 10 ∨ x.Op = 11 ∨ x.Op = 12 ∨ x.Op = 13 ∨ x.Op = 14 ∨ x.Op = 15 ∨ x.Op = 16 := by omega
  rcases this with h | h | h | h | h | h | h | h
  · simp [h]; exact add_eq hw _ _
  · simp [h]; exact sub_eq hw hy (by rw [he (by omega)]; exact hz)
  · simp [h]
  · simp [h]
  · simp [h]
  · simp [h]; exact concat_eq hw.1 hv.1 (h14 h) hy hz
  · simp [h, truth_v]
  · simp [h, truth_v]
/-! Leaves -/
theorem get_eq (e : api_Env) (r : api_FieldRef) : ref12_Get e r = env_Get e r := by
  unfold ref12_Get env_Get ref12_element env_element ref12_Has env_at__uint32_ env_at_bool env_in_uint32
  simp only [LET]
  obtain ⟨H, F⟩ := r
  have hq : ((⟨H, F⟩ : api_FieldRef) = { Header := -1, Field := F }) ↔ H = -1 := by
    constructor
    · intro h; injection h
    · intro h; rw [h]
  by_cases h : H = -1
  · simp only [decide_eq_true h, decide_eq_true (hq.mpr h), if_true]
  · simp only [decide_eq_false h, decide_eq_false (fun hc => h (hq.mp hc)), if_false, Bool.false_eq_true]
    by_cases h1 : H < 0 ∨ (e.Fields.length : Int) ≤ H
    · have c1 : (decide (0 ≤ H) && decide (H < (e.Fields.length : Int))) = false := by simp; omega
      have c2 : (decide (H < 0) || decide ((e.Fields.length : Int) ≤ H)) = true := by simpa using h1
      simp [c1, c2]
      intros
      omega
    · have c1 : (decide (0 ≤ H) && decide (H < (e.Fields.length : Int))) = true := by simp; omega
      have c2 : (decide (H < 0) || decide ((e.Fields.length : Int) ≤ H)) = false := by simp; omega
      rw [c1, c2]
      simp only [Bool.true_and, if_false, Bool.false_eq_true]
      by_cases h2 : H < 0 ∨ (e.Valid.length : Int) ≤ H
      · have c3 : (decide (0 ≤ H) && decide (H < (e.Valid.length : Int))) = false := by simp; omega
        have c4 : (decide (H < 0) || decide ((e.Valid.length : Int) ≤ H)) = true := by simpa using h2
        rw [c3, c4]
        simp
      · have c3 : (decide (0 ≤ H) && decide (H < (e.Valid.length : Int))) = true := by simp; omega
        have c4 : (decide (H < 0) || decide ((e.Valid.length : Int) ≤ H)) = false := by simp; omega
        rw [c3, c4]
        simp only [Bool.true_and, if_false, Bool.false_eq_true]
        cases ix e.Valid H <;> cases (decide (0 ≤ F) && decide (F < ((ix e.Fields H).length : Int))) <;> rfl
theorem bit_mask (b : Bool) (m : expr_machine) (x : api_ExprNode) {w : Int} (hw : 1 ≤ w ∧ w ≤ 32) : ref13_bit b = (if b = true then 1#32 &&& bitvec_Mask w else 0#32 &&& bitvec_Mask w) := by
  cases b
  · simp [ref13_bit]
  · rw [if_pos rfl, and_mask hw 1#32 (fv_one hw.1)]; rfl
theorem lfv_eq {s : expr_Scope} {n : List api_ExprNode} {a : Int} (e : api_Env) (g : List (BitVec 32)) (h : Ok s n a) (ha : expr_arity (ix n a).Op = 0) : lfv (ix n a) (wd s n a) e g = (vl s e g n a).v := by
  have ho := (op_of ha (by omega)).1 rfl
  obtain ⟨_, hp, hw', _⟩ := lf0 h ho
  have hw := wd_ok h
  rw [vl_0 e g h ha]
  unfold lfv m2_expr_machine__load
  have hs : (mch s e g n (a + 1)).scope = s := rfl
  simp only [LET, hs, ← hw']
  show _ = (if decide ((ix n a).Op = 1) = true then (({ v := BitVec.ofInt 32 (ix n a).N &&& bitvec_Mask (wd s n a), w := wd s n a } : expr_value), mch s e g n (a + 1)) else if decide ((ix n a).Op = 2) = true then (({ v := env_Get e { Header := (ix n a).N, Field := (ix n a).W } &&& bitvec_Mask (wd s n a), w := wd s n a } : expr_value), mch s e g n (a + 1)) else if decide ((ix n a).Op = 3) = true then (if decide ((ix n a).N < (g.length : Int)) = true then (({ v := ix g (ix n a).N &&& bitvec_Mask (wd s n a), w := wd s n a } : expr_value), mch s e g n (a + 1)) else (({ v := 0#32 &&& bitvec_Mask (wd s n a), w := wd s n a } : expr_value), mch s e g n (a + 1))) else if decide ((ix n a).Op = 4) = true then (if (decide ((ix n a).N < (e.Valid.length : Int)) && ix e.Valid (ix n a).N) = true then (({ v := 1#32 &&& bitvec_Mask (wd s n a), w := wd s n a } : expr_value), mch s e g n (a + 1)) else (({ v := 0#32 &&& bitvec_Mask (wd s n a), w := wd s n a } : expr_value), mch s e g n (a + 1))) else _).1.v
  by_cases h1 : (ix n a).Op = 1
  · rw [if_pos h1, if_pos (by simpa using h1)]
    show _ = BitVec.ofInt 32 (ix n a).N &&& bitvec_Mask (wd s n a)
    rw [and_mask hw]
    have hp' := hp
    unfold m1_expr_Scope__primary at hp'
    rw [if_pos (by simpa using h1)] at hp'
    simp only [LET] at hp'
    split at hp'
    · cases hp'
    · rename_i hc
      have hww : wd s n a = (expr_wide (ix n a).W).1 := by
        rw [hw']
        unfold m1_expr_Scope__primary
        rw [if_pos (by simpa using h1)]
        simp only [LET]
        rw [if_neg hc]
      have hp2 : (expr_wide (ix n a).W).2 = 0 := hp'
      rw [← hww] at hc
      simp only [hp2, decide_true, Bool.true_and, Bool.or_eq_true, decide_eq_true_eq, not_or] at hc
      have hm := mask_nat hw
      unfold FV
      rw [BitVec.toNat_ofInt]
      have : 2 ^ (wd s n a).toNat ≤ 2 ^ 32 := Nat.pow_le_pow_right (by omega) (by omega)
      have hp0 : 0 < 2 ^ (wd s n a).toNat := Nat.two_pow_pos _
      omega
  · rw [if_neg h1, if_neg (show ¬decide ((ix n a).Op = 1) = true by simpa using h1)]
    by_cases h2 : (ix n a).Op = 2
    · rw [if_pos h2, if_pos (by simpa using h2), reduce32 hw, get_eq]
    · rw [if_neg h2, if_neg (show ¬decide ((ix n a).Op = 2) = true by simpa using h2)]
      by_cases h3 : (ix n a).Op = 3
      · rw [if_pos h3, if_pos (show decide ((ix n a).Op = 3) = true by simpa using h3)]
        by_cases h5 : (ix n a).N < (g.length : Int)
        · rw [if_pos h5, if_pos (by simpa using h5), reduce32 hw]
        · rw [if_neg h5, if_neg (show ¬decide ((ix n a).N < (g.length : Int)) = true by simpa using h5)]
          simp
      · rw [if_neg h3, if_neg (show ¬decide ((ix n a).Op = 3) = true by simpa using h3), if_pos (show decide ((ix n a).Op = 4) = true by simp; omega), bit_mask _ (mch s e g n a) (ix n a) hw]
        split <;> rfl
/-! The value -/
theorem reval_eq : ∀ (k : Nat) (n : List api_ExprNode) (a : Int) (s : expr_Scope) (e : api_Env) (g : List (BitVec 32)), Ok s n a → n.length - a.toNat < k → ref13_eval_R k n a s e g = { V := (vl s e g n a).v, W := (vl s e g n a).w, To := nx s n a }
  | 0, n, a, s, e, g, h, hk => by omega
  | k + 1, n, a, s, e, g, h, hk => by
    have hlt := h.lt
    have hlo := h.lo
    have V := vl_ok e g h
    rw [ref13_eval_R, V.2]
    rcases h.step with t | t | t | t
    · rw [rB0 _ h t.1, lfv_eq e g h t.1]
    · have o := (op_of t.1 (by omega)).2.1 rfl
      have w1 := wd_ok t.2.1
      obtain ⟨f1, q1⟩ := vl_ok e g t.2.1
      have hc := t.2.2.1
      rw [combine_eq _ _ _ _ (by omega)] at hc
      rw [rB_1 _ h t.1, reval_eq k n (a + 1) s e g t.2.1 (by omega), t.2.2.2.2, vl_1 e g h t.1 t.2.1, apply_un _ o (by rw [q1]; exact w1) f1 ?_ ?_]
      · intro h6
        rw [if_neg (by omega), if_pos h6] at hc
        split at hc
        · cases hc
        · omega
      · intro h8
        rw [if_neg (by omega), if_neg (by omega), if_pos h8] at hc
        split at hc
        · cases hc
        · split at hc
          · cases hc
          · rename_i hd
            exact (wide_ok (show (expr_wide (ix n a).W).2 = 0 by omega)).2
    · have o := (op_of t.1 (by omega)).2.2.1 rfl
      have g1 := t.2.1.gt
      have w1 := wd_ok t.2.1
      obtain ⟨f1, q1⟩ := vl_ok e g t.2.1
      have w2 := wd_ok t.2.2.1
      obtain ⟨f2, q2⟩ := vl_ok e g t.2.2.1
      have hc := t.2.2.2.1
      rw [combine_eq _ _ _ _ (by omega), if_neg (by omega), if_neg (by omega), if_neg (by omega)] at hc
      rw [rB_2 _ h t.1, reval_eq k n (a + 1) s e g t.2.1 (by omega)]
      show ({ V := ref13_apply (ix n a) [_, ref13_eval_R k n (nx s n (a + 1)) s e g], W := wd s n a, To := (ref13_eval_R k n (nx s n (a + 1)) s e g).To } : ref13_Value) = _
      rw [reval_eq k n (nx s n (a + 1)) s e g t.2.2.1 (by omega), t.2.2.2.2.2, vl_2 e g h t.1 t.2.1 t.2.2.1, apply_bin _ _ o (by rw [q1]; exact w1) (by rw [q2]; exact w2) f1 f2 ?_ ?_]
      · intro h14
        rw [if_neg h14, if_neg (by omega)] at hc
        rw [q1, q2]
        split at hc
        · cases hc
        · omega
      · intro h14
        rw [if_pos h14] at hc
        have := wide_ok hc
        rw [wr_of (by omega) (by omega)] at this
        omega
    · have o := (op_of t.1 (by omega)).2.2.2 rfl
      have g1 := t.2.1.gt
      have g2 := t.2.2.1.gt
      rw [rB_3 _ h t.1, reval_eq k n (a + 1) s e g t.2.1 (by omega)]
      show ({ V := ref13_apply (ix n a) [_, ref13_eval_R k n (nx s n (a + 1)) s e g, ref13_eval_R k n (ref13_eval_R k n (nx s n (a + 1)) s e g).To s e g], W := wd s n a, To := (ref13_eval_R k n (ref13_eval_R k n (nx s n (a + 1)) s e g).To s e g).To } : ref13_Value) = _
      rw [reval_eq k n (nx s n (a + 1)) s e g t.2.2.1 (by omega)]
      show ({ V := ref13_apply (ix n a) [_, _, ref13_eval_R k n (nx s n (nx s n (a + 1))) s e g], W := wd s n a, To := (ref13_eval_R k n (nx s n (nx s n (a + 1))) s e g).To } : ref13_Value) = _
      rw [reval_eq k n (nx s n (nx s n (a + 1))) s e g t.2.2.2.1 (by omega), t.2.2.2.2.2.2, vl_3 e g h t.1 t.2.1 t.2.2.1 t.2.2.2.1]
      congr 1
      rw [apply_if _ o]
      show (if (vl s e g n (a + 1)).v = 1#32 then _ else _) = _
      split <;> rfl
theorem ExprEvaluates_law (x0 : law13_Args) : law13_ExprEvaluates x0 = true := by
  unfold law13_ExprEvaluates
  simp only [LET]
  split
  · rfl
  · have hs : ({ Program := x0.P, Params := x0.Params } : expr_Scope) = m1_law13_Args__scope x0 := rfl
    rw [hs]
    have : expr_Eval x0.Nodes (m1_law13_Args__scope x0) x0.E x0.Args = ref13_Eval x0.Nodes (m1_law13_Args__scope x0) x0.E x0.Args := by
      unfold ref13_Eval
      simp only [LET, rCheck_eq]
      by_cases h : (expr_Check x0.Nodes (m1_law13_Args__scope x0)).2 = 0
      · obtain ⟨k1, k2, k3, k4⟩ := chk_ok rfl h
        rw [Eval_ok _ _ _ _ h, if_neg (by simp [h])]
        unfold ref13_eval
        rw [reval_eq _ _ _ _ _ _ k2 (by omega)]
      · rw [Eval_bad _ _ _ _ h, if_pos (by simp [h])]
    rw [this]
    simp
    rfl
end Go.Proofs.YtfekghenlhoamaaGreat
