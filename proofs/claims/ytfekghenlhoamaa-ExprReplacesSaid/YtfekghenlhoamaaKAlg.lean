/-
  ExprAlgebra and ExprReplaces: the plain laws.
-/
import Derived.Test.YtfekghenlhoamaaKEnd
set_option linter.unusedVariables false
set_option linter.unusedSimpArgs false
set_option maxRecDepth 100000
namespace Go.Proofs.Ytfekghenlhoamaa
open Go Go.Pb Go.RowKit
theorem ix_l {α : Type} [Inhabited α] {l k : List α} {i : Int} (h0 : 0 ≤ i) (h : i < l.length) : ix (l ++ k) i = ix l i := by
  unfold ix
  rw [List.getD_eq_getElem?_getD, List.getD_eq_getElem?_getD, List.getElem?_append_left (by omega)]
theorem ix_r {α : Type} [Inhabited α] {l k : List α} {i : Int} (h : (l.length : Int) ≤ i) : ix (l ++ k) i = ix k (i - l.length) := by
  unfold ix
  rw [List.getD_eq_getElem?_getD, List.getD_eq_getElem?_getD, List.getElem?_append_right (by omega), show i.toNat - l.length = (i - l.length).toNat by omega]
theorem ix_sub {α : Type} [Inhabited α] {l : List α} {a b i : Int} (h0 : 0 ≤ a) (h1 : 0 ≤ i) (h2 : i < b - a) : ix (sub l a b) i = ix l (i + a) := by
  unfold ix sub
  rw [List.getD_eq_getElem?_getD, List.getD_eq_getElem?_getD, List.getElem?_take, if_pos (by omega), List.getElem?_drop, show a.toNat + i.toNat = (i + a).toNat by omega]
/-! Bits -/
theorem and_mask' {w : Int} (h : 1 ≤ w ∧ w ≤ 32) {x : BitVec 32} (hx : FV x w) : x &&& bitvec_Mask w = x := and_mask h x hx
theorem not_not_mask {w : Int} (h : 1 ≤ w ∧ w ≤ 32) {x : BitVec 32} (hx : FV x w) : (~~~((~~~x) &&& bitvec_Mask w)) &&& bitvec_Mask w = x := by
  conv => rhs; rw [← and_mask h x hx]
  apply BitVec.eq_of_getLsbD_eq
  intro i hi
  simp only [BitVec.getLsbD_and, BitVec.getLsbD_not, hi, decide_true, Bool.true_and]
  cases x.getLsbD i <;> cases (bitvec_Mask w).getLsbD i <;> rfl
theorem and_mask_mod {w : Int} (h : 1 ≤ w ∧ w ≤ 32) (x : BitVec 32) : (x &&& bitvec_Mask w).toNat = x.toNat % 2 ^ w.toNat := by
  rw [BitVec.toNat_and, mask_nat h, Nat.and_two_pow_sub_one_eq_mod]
theorem add_sub_mask {w : Int} (h : 1 ≤ w ∧ w ≤ 32) {x y : BitVec 32} (hx : FV x w) (hy : FV y w) : (((x + y) &&& bitvec_Mask w) - y) &&& bitvec_Mask w = x := by
  apply BitVec.eq_of_toNat_eq
  rw [and_mask_mod h, BitVec.toNat_sub, and_mask_mod h, BitVec.toNat_add]
  have hd : 2 ^ w.toNat ∣ 2 ^ 32 := Nat.pow_dvd_pow 2 (by omega)
  unfold FV at hx hy
  rw [Nat.mod_mod_of_dvd _ hd, Nat.mod_mod_of_dvd _ hd]
  obtain ⟨c, hc⟩ := hd
  have y32 := y.isLt
  have e : 2 ^ 32 - y.toNat = 2 ^ w.toNat * (c - 1) + (2 ^ w.toNat - y.toNat) := by
    have c1 : 1 ≤ c := by
      rcases Nat.eq_zero_or_pos c with h | h
      · subst h; simp at hc
      · exact h
    have : 2 ^ w.toNat * c = 2 ^ w.toNat * (c - 1) + 2 ^ w.toNat := by
      conv => lhs; rw [show c = (c - 1) + 1 by omega, Nat.mul_add, Nat.mul_one]
    omega
  rw [e, Nat.add_assoc, Nat.mul_add_mod]
  generalize 2 ^ w.toNat = p at *
  have hp : 0 < p := by omega
  by_cases hs : x.toNat + y.toNat < p
  · rw [Nat.mod_eq_of_lt hs, show p - y.toNat + (x.toNat + y.toNat) = x.toNat + p by omega, Nat.add_mod_right, Nat.mod_eq_of_lt hx]
  · rw [Nat.mod_eq_sub_mod (a := x.toNat + y.toNat) (by omega), Nat.mod_eq_of_lt (by omega : x.toNat + y.toNat - p < p), show p - y.toNat + (x.toNat + y.toNat - p) = x.toNat by omega, Nat.mod_eq_of_lt hx]
theorem cat_nat {u v : Int} (hu : 1 ≤ u) (hv : 1 ≤ v) (h : u + v ≤ 32) {x y : BitVec 32} (hx : FV x u) (hy : FV y v) : ((x &&& bitvec_Mask u) <<< v.toNat ||| y &&& bitvec_Mask v).toNat = x.toNat * 2 ^ v.toNat + y.toNat := by
  rw [and_mask ⟨hu, by omega⟩ _ hx, and_mask ⟨hv, by omega⟩ _ hy, BitVec.toNat_or, BitVec.toNat_shiftLeft]
  unfold FV at hx hy
  have : x.toNat <<< v.toNat < 2 ^ 32 := by
    rw [Nat.shiftLeft_eq]
    have : 2 ^ u.toNat * 2 ^ v.toNat ≤ 2 ^ 32 := by rw [← Nat.pow_add]; exact Nat.pow_le_pow_right (by omega) (by omega)
    exact Nat.lt_of_lt_of_le (Nat.mul_lt_mul_of_pos_right hx (Nat.two_pow_pos _)) this
  rw [Nat.mod_eq_of_lt this, Nat.shiftLeft_eq, Nat.mul_comm, ← Nat.two_pow_add_eq_or_of_lt hy]
theorem cat_hi {u v : Int} (hu : 1 ≤ u) (hv : 1 ≤ v) (h : u + v ≤ 32) {x y : BitVec 32} (hx : FV x u) (hy : FV y v) : (((x &&& bitvec_Mask u) <<< v.toNat ||| y &&& bitvec_Mask v) >>> v.toNat) &&& bitvec_Mask u = x := by
  apply BitVec.eq_of_toNat_eq
  rw [and_mask_mod ⟨hu, by omega⟩, BitVec.toNat_ushiftRight, cat_nat hu hv h hx hy, Nat.shiftRight_eq_div_pow]
  unfold FV at hx hy
  rw [Nat.mul_comm, Nat.mul_add_div (Nat.two_pow_pos _), Nat.div_eq_of_lt hy, Nat.add_zero, Nat.mod_eq_of_lt hx]
theorem cat_lo {u v : Int} (hu : 1 ≤ u) (hv : 1 ≤ v) (h : u + v ≤ 32) {x y : BitVec 32} (hx : FV x u) (hy : FV y v) : (((x &&& bitvec_Mask u) <<< v.toNat ||| y &&& bitvec_Mask v) >>> 0) &&& bitvec_Mask v = y := by
  apply BitVec.eq_of_toNat_eq
  rw [and_mask_mod ⟨hv, by omega⟩, BitVec.toNat_ushiftRight, cat_nat hu hv h hx hy, Nat.shiftRight_zero]
  unfold FV at hx hy
  rw [Nat.mul_comm, Nat.mul_add_mod, Nat.mod_eq_of_lt hy]
/-! Building -/
section
variable {s : expr_Scope} {n : List api_ExprNode} (e : api_Env) (g : List (BitVec 32))
theorem un_mk {a z c : Int} (h0 : 0 ≤ a) (h1 : a < n.length) (hl : n.length ≤ 1000000) (k : Ok s n (a + 1)) (ha : expr_arity (ix n a).Op = 1) (hc : expr_combine (ix n a) [wd s n (a + 1), 0, 0] = (c, 0)) (hz : nx s n (a + 1) = z) : Ok s n a ∧ wd s n a = c ∧ nx s n a = z ∧ vl s e g n a = expr_unary (ix n a) (vl s e g n (a + 1)) := by
  have ch := check_1 (s := s) h0 h1 hl ha k
  rw [hc] at ch
  have ko : Ok s n a := ⟨h0, hl, by rw [ch]⟩
  refine ⟨ko, ?_, ?_, vl_1 e g ko ha k⟩
  · rw [wd, ch]
  · rw [nx, ch]; exact hz
theorem bin_mk {a z c b : Int} (h0 : 0 ≤ a) (h1 : a < n.length) (hl : n.length ≤ 1000000) (k : Ok s n (a + 1)) (hb : nx s n (a + 1) = b) (k2 : Ok s n b) (ha : expr_arity (ix n a).Op = 2) (hc : expr_combine (ix n a) [wd s n (a + 1), wd s n b, 0] = (c, 0)) (hz : nx s n b = z) : Ok s n a ∧ wd s n a = c ∧ nx s n a = z ∧ vl s e g n a = expr_binary (ix n a).Op (vl s e g n (a + 1)) (vl s e g n b) := by
  subst hb
  have ch := check_2 (s := s) h0 h1 hl ha k k2
  rw [hc] at ch
  have ko : Ok s n a := ⟨h0, hl, by rw [ch]⟩
  refine ⟨ko, ?_, ?_, vl_2 e g ko ha k k2⟩
  · rw [wd, ch]
  · rw [nx, ch]; exact hz
end
theorem same_mk {x0 : law13_Args} {n L : List api_ExprNode} (hn : (expr_Check n (m1_law13_Args__scope x0)).2 = 0) (hl : L.length ≤ 24) (k : Ok (m1_law13_Args__scope x0) L 0) (z : nx (m1_law13_Args__scope x0) L 0 = L.length) (w : wd (m1_law13_Args__scope x0) L 0 = wd (m1_law13_Args__scope x0) n 0) (v : (vl (m1_law13_Args__scope x0) x0.E x0.Args L 0).v = (vl (m1_law13_Args__scope x0) x0.E x0.Args n 0).v) : m1_law13_Args__same x0 L n = true := by
  obtain ⟨k1, k2, k3, k4⟩ := chk_ok rfl hn
  have cl := chk_mk hl k z
  unfold m1_law13_Args__same
  simp only [LET]
  rw [Eval_ok _ _ _ _ hn, Eval_ok _ _ _ _ (by rw [cl]), cl, hn, k3, w, v]
  simp
section
variable {x0 : law13_Args} {x1 : List api_ExprNode}
theorem un5 (u : Int) (x : api_ExprNode) (h : x.Op = 5) : expr_combine x [u, 0, 0] = (u, 0) := by
  rw [combine_eq _ _ _ _ (by omega), if_pos h]
theorem alg_not (hn : (expr_Check x0.Nodes (m1_law13_Args__scope x0)).2 = 0) (h20 : x0.Nodes.length ≤ 20) : m1_law13_Args__same x0 (law13_join ([({ Op := 5, N := 0, W := 0 } : api_ExprNode), ({ Op := 5, N := 0, W := 0 } : api_ExprNode)] : List api_ExprNode) x0.Nodes ([] : List api_ExprNode)) x0.Nodes = true := by
  obtain ⟨k1, k2, k3, k4⟩ := chk_ok rfl hn
  have hle := nx_le k2
  obtain ⟨f1, f2⟩ := vl_ok x0.E x0.Args k2
  have hw := wd_ok k2
  have hnx : nx (m1_law13_Args__scope x0) x0.Nodes 0 = x0.Nodes.length := by omega
  let L : List api_ExprNode := [{ Op := 5, N := 0, W := 0 }, { Op := 5, N := 0, W := 0 }] ++ x0.Nodes
  have hL : law13_join ([({ Op := 5, N := 0, W := 0 } : api_ExprNode), ({ Op := 5, N := 0, W := 0 } : api_ExprNode)] : List api_ExprNode) x0.Nodes ([] : List api_ExprNode) = L := by
    unfold law13_join
    exact List.append_nil _
  have hlen : (L.length : Int) = x0.Nodes.length + 2 := by show ((x0.Nodes.length + 1 + 1 : Nat) : Int) = _; omega
  rw [hL]
  have m := mv_shift (e := x0.E) (g := x0.Args) (n' := L) 2 (by omega) k2 (by omega) (by omega) (fun i h0 h1 => by
    show ix ([_, _] ++ x0.Nodes) _ = _
    rw [ix_r (by simp; omega)]
    congr 1
    try simp
    try omega)
  have i0 : ix L 0 = { Op := 5, N := 0, W := 0 } := rfl
  have i1 : ix L 1 = { Op := 5, N := 0, W := 0 } := rfl
  have a5 : expr_arity 5 = 1 := rfl
  obtain ⟨o1, w1, z1, v1⟩ := un_mk (a := 1) x0.E x0.Args (by omega) (by omega) (by omega) m.ok (by rw [i1]; exact a5) (by rw [i1]; exact un5 _ _ rfl) m.x
  obtain ⟨o0, w0, z0, v0⟩ := un_mk (a := 0) x0.E x0.Args (by omega) (by omega) (by omega) o1 (by rw [i0]; exact a5) (by rw [i0]; exact un5 _ _ rfl) z1
  have mw : wd (m1_law13_Args__scope x0) L (1 + 1) = wd (m1_law13_Args__scope x0) x0.Nodes 0 := m.w
  have mv : vl (m1_law13_Args__scope x0) x0.E x0.Args L (1 + 1) = vl (m1_law13_Args__scope x0) x0.E x0.Args x0.Nodes 0 := m.v
  refine same_mk hn (by omega) o0 (by rw [z0]; omega) (by rw [w0]; show wd _ L 1 = _; rw [w1, mw]) ?_
  rw [v0]
  show (expr_unary (ix L 0) (vl (m1_law13_Args__scope x0) x0.E x0.Args L 1)).v = _
  rw [v1, i0, i1, mv]
  show (~~~((~~~(vl (m1_law13_Args__scope x0) x0.E x0.Args x0.Nodes 0).v) &&& bitvec_Mask (vl (m1_law13_Args__scope x0) x0.E x0.Args x0.Nodes 0).w)) &&& bitvec_Mask (vl (m1_law13_Args__scope x0) x0.E x0.Args x0.Nodes 0).w = _
  exact not_not_mask (by rw [f2]; exact hw) f1
theorem alg_sub (hn : (expr_Check x0.Nodes (m1_law13_Args__scope x0)).2 = 0) (hm : (expr_Check x1 (m1_law13_Args__scope x0)).2 = 0) (he : (expr_Check x0.Nodes (m1_law13_Args__scope x0)).1 = (expr_Check x1 (m1_law13_Args__scope x0)).1) (h22 : x0.Nodes.length + x1.length + x1.length ≤ 22) : m1_law13_Args__same x0 (law13_join ([({ Op := 10, N := 0, W := 0 } : api_ExprNode), ({ Op := 9, N := 0, W := 0 } : api_ExprNode)] : List api_ExprNode) (law13_join x0.Nodes x1 ([] : List api_ExprNode)) x1) x0.Nodes = true := by
  obtain ⟨k1, k2, k3, k4⟩ := chk_ok rfl hn
  obtain ⟨q1, q2, q3, q4⟩ := chk_ok rfl hm
  rw [k3, q3] at he
  have hle := nx_le k2
  have qle := nx_le q2
  obtain ⟨f1, f2⟩ := vl_ok x0.E x0.Args k2
  obtain ⟨r1, r2⟩ := vl_ok x0.E x0.Args q2
  have hw := wd_ok k2
  have hnx : nx (m1_law13_Args__scope x0) x0.Nodes 0 = x0.Nodes.length := by omega
  have qnx : nx (m1_law13_Args__scope x0) x1 0 = x1.length := by omega
  let L : List api_ExprNode := [{ Op := 10, N := 0, W := 0 }, { Op := 9, N := 0, W := 0 }] ++ (x0.Nodes ++ (x1 ++ x1))
  have hL : law13_join ([({ Op := 10, N := 0, W := 0 } : api_ExprNode), ({ Op := 9, N := 0, W := 0 } : api_ExprNode)] : List api_ExprNode) (law13_join x0.Nodes x1 ([] : List api_ExprNode)) x1 = L := by
    unfold law13_join
    simp [L]
  have hlen : (L.length : Int) = x0.Nodes.length + x1.length + x1.length + 2 := by simp [L]; omega
  rw [hL]
  have m := mv_shift (e := x0.E) (g := x0.Args) (n' := L) 2 (by omega) k2 (by omega) (by omega) (fun i h0 h1 => by
    show ix ([_, _] ++ _) _ = _
    rw [ix_r (by simp; omega), ix_l (by simp; omega) (by simp; omega)]
    congr 1
    try simp
    try omega)
  have m1 := mv_shift (e := x0.E) (g := x0.Args) (n' := L) (2 + x0.Nodes.length) (by omega) q2 (by omega) (by omega) (fun i h0 h1 => by
    show ix ([_, _] ++ _) _ = _
    rw [ix_r (by simp; omega), ix_r (by simp; omega), ix_l (by simp; omega) (by simp; omega)]
    congr 1
    try simp
    try omega)
  have m2 := mv_shift (e := x0.E) (g := x0.Args) (n' := L) (2 + x0.Nodes.length + x1.length) (by omega) q2 (by omega) (by omega) (fun i h0 h1 => by
    show ix ([_, _] ++ _) _ = _
    rw [ix_r (by simp; omega), ix_r (by simp; omega), ix_r (by simp; omega)]
    congr 1
    try simp
    try omega)
  have i0 : ix L 0 = { Op := 10, N := 0, W := 0 } := rfl
  have i1 : ix L 1 = { Op := 9, N := 0, W := 0 } := rfl
  have a10 : expr_arity 10 = 2 := rfl
  have a9 : expr_arity 9 = 2 := rfl
  have mx : nx (m1_law13_Args__scope x0) L (1 + 1) = 0 + (2 + x0.Nodes.length) := by
    have := m.x
    rw [hnx] at this
    show nx (m1_law13_Args__scope x0) L (0 + 2) = _
    rw [this]; omega
  have mx1 : nx (m1_law13_Args__scope x0) L (0 + (2 + x0.Nodes.length)) = 0 + (2 + x0.Nodes.length + x1.length) := by
    rw [m1.x, qnx]; omega
  have mw : wd (m1_law13_Args__scope x0) L (1 + 1) = wd (m1_law13_Args__scope x0) x0.Nodes 0 := m.w
  have mv : vl (m1_law13_Args__scope x0) x0.E x0.Args L (1 + 1) = vl (m1_law13_Args__scope x0) x0.E x0.Args x0.Nodes 0 := m.v
  obtain ⟨o1, w1, z1, v1⟩ := bin_mk (a := 1) (c := wd (m1_law13_Args__scope x0) x0.Nodes 0) x0.E x0.Args (by omega) (by omega) (by omega) m.ok mx m1.ok (by rw [i1]; exact a9) (by
    rw [i1, mw, m1.w, combine_eq _ _ _ _ (by show 5 ≤ (9 : Int) ∧ (9 : Int) ≤ 17; omega)]
    simp [he]) mx1
  obtain ⟨o0, w0, z0, v0⟩ := bin_mk (a := 0) (c := wd (m1_law13_Args__scope x0) x0.Nodes 0) x0.E x0.Args (by omega) (by omega) (by omega) o1 z1 m2.ok (by rw [i0]; exact a10) (by
    show expr_combine (ix L 0) [wd (m1_law13_Args__scope x0) L 1, _, 0] = _
    rw [i0, w1, m2.w, combine_eq _ _ _ _ (by show 5 ≤ (10 : Int) ∧ (10 : Int) ≤ 17; omega)]
    simp [he]) m2.x
  refine same_mk hn (by omega) o0 (by rw [z0, qnx]; omega) w0 ?_
  rw [v0]
  show (expr_binary (ix L 0).Op (vl (m1_law13_Args__scope x0) x0.E x0.Args L 1) _).v = _
  rw [v1, i0, i1, mv, m1.v, m2.v]
  show (((vl (m1_law13_Args__scope x0) x0.E x0.Args x0.Nodes 0).v + (vl (m1_law13_Args__scope x0) x0.E x0.Args x1 0).v &&& bitvec_Mask (vl (m1_law13_Args__scope x0) x0.E x0.Args x0.Nodes 0).w) - (vl (m1_law13_Args__scope x0) x0.E x0.Args x1 0).v) &&& bitvec_Mask (vl (m1_law13_Args__scope x0) x0.E x0.Args x0.Nodes 0).w = _
  refine add_sub_mask (by rw [f2]; exact hw) f1 ?_
  rw [f2, he, ← r2]
  exact r1
/-- A slice of a concatenation. -/
theorem alg_cat (hn : (expr_Check x0.Nodes (m1_law13_Args__scope x0)).2 = 0) (hm : (expr_Check x1 (m1_law13_Args__scope x0)).2 = 0) (h32 : wd (m1_law13_Args__scope x0) x0.Nodes 0 + wd (m1_law13_Args__scope x0) x1 0 ≤ 32) (h22 : x0.Nodes.length + x1.length ≤ 22) (N W : Int) (hN : 0 ≤ N) (hW : 1 ≤ W) (hs : N + W ≤ wd (m1_law13_Args__scope x0) x0.Nodes 0 + wd (m1_law13_Args__scope x0) x1 0) :
    ∃ L, law13_join ([({ Op := 8, N := N, W := W } : api_ExprNode), ({ Op := 14, N := 0, W := 0 } : api_ExprNode)] : List api_ExprNode) x0.Nodes x1 = L ∧ L.length ≤ 24 ∧ Ok (m1_law13_Args__scope x0) L 0 ∧ nx (m1_law13_Args__scope x0) L 0 = L.length ∧ wd (m1_law13_Args__scope x0) L 0 = W ∧
      (vl (m1_law13_Args__scope x0) x0.E x0.Args L 0).v = ((((vl (m1_law13_Args__scope x0) x0.E x0.Args x0.Nodes 0).v &&& bitvec_Mask (wd (m1_law13_Args__scope x0) x0.Nodes 0)) <<< (wd (m1_law13_Args__scope x0) x1 0).toNat ||| (vl (m1_law13_Args__scope x0) x0.E x0.Args x1 0).v &&& bitvec_Mask (wd (m1_law13_Args__scope x0) x1 0)) >>> N.toNat) &&& bitvec_Mask W := by
  obtain ⟨k1, k2, k3, k4⟩ := chk_ok rfl hn
  obtain ⟨q1, q2, q3, q4⟩ := chk_ok rfl hm
  have hle := nx_le k2
  have qle := nx_le q2
  obtain ⟨f1, f2⟩ := vl_ok x0.E x0.Args k2
  obtain ⟨r1, r2⟩ := vl_ok x0.E x0.Args q2
  have hw := wd_ok k2
  have qw := wd_ok q2
  have hnx : nx (m1_law13_Args__scope x0) x0.Nodes 0 = x0.Nodes.length := by omega
  have qnx : nx (m1_law13_Args__scope x0) x1 0 = x1.length := by omega
  let L : List api_ExprNode := [{ Op := 8, N := N, W := W }, { Op := 14, N := 0, W := 0 }] ++ (x0.Nodes ++ x1)
  have hL : law13_join ([({ Op := 8, N := N, W := W } : api_ExprNode), ({ Op := 14, N := 0, W := 0 } : api_ExprNode)] : List api_ExprNode) x0.Nodes x1 = L := by
    unfold law13_join
    simp [L]
  have hlen : (L.length : Int) = x0.Nodes.length + x1.length + 2 := by simp [L]; omega
  refine ⟨L, hL, by omega, ?_⟩
  have m := mv_shift (e := x0.E) (g := x0.Args) (n' := L) 2 (by omega) k2 (by omega) (by omega) (fun i h0 h1 => by
    show ix ([_, _] ++ _) _ = _
    rw [ix_r (by simp; omega), ix_l (by simp; omega) (by simp; omega)]
    congr 1
    try simp
    try omega)
  have m1 := mv_shift (e := x0.E) (g := x0.Args) (n' := L) (2 + x0.Nodes.length) (by omega) q2 (by omega) (by omega) (fun i h0 h1 => by
    show ix ([_, _] ++ _) _ = _
    rw [ix_r (by simp; omega), ix_r (by simp; omega)]
    congr 1
    try simp
    try omega)
  have i0 : ix L 0 = { Op := 8, N := N, W := W } := rfl
  have i1 : ix L 1 = { Op := 14, N := 0, W := 0 } := rfl
  have a8 : expr_arity 8 = 1 := rfl
  have a14 : expr_arity 14 = 2 := rfl
  have mx : nx (m1_law13_Args__scope x0) L (1 + 1) = 0 + (2 + x0.Nodes.length) := by
    have := m.x
    rw [hnx] at this
    show nx (m1_law13_Args__scope x0) L (0 + 2) = _
    rw [this]; omega
  have mw : wd (m1_law13_Args__scope x0) L (1 + 1) = wd (m1_law13_Args__scope x0) x0.Nodes 0 := m.w
  have mv : vl (m1_law13_Args__scope x0) x0.E x0.Args L (1 + 1) = vl (m1_law13_Args__scope x0) x0.E x0.Args x0.Nodes 0 := m.v
  obtain ⟨o1, w1, z1, v1⟩ := bin_mk (a := 1) (c := wd (m1_law13_Args__scope x0) x0.Nodes 0 + wd (m1_law13_Args__scope x0) x1 0) x0.E x0.Args (by omega) (by omega) (by omega) m.ok mx m1.ok (by rw [i1]; exact a14) (by
    rw [i1, mw, m1.w, combine_eq _ _ _ _ (by show 5 ≤ (14 : Int) ∧ (14 : Int) ≤ 17; omega)]
    rw [if_neg (show ¬(14 : Int) = 5 by omega), if_neg (show ¬((14 : Int) = 6 ∨ (14 : Int) = 7) by omega), if_neg (show ¬(14 : Int) = 8 by omega), if_pos (show (14 : Int) = 14 by omega), wide_eq, wr_of (by omega) (by omega), if_neg (by omega)]) m1.x
  obtain ⟨o0, w0, z0, v0⟩ := un_mk (a := 0) (c := W) x0.E x0.Args (by omega) (by omega) (by omega) o1 (by rw [i0]; exact a8) (by
    show expr_combine (ix L 0) [wd (m1_law13_Args__scope x0) L 1, _, 0] = _
    rw [i0, w1, combine_eq _ _ _ _ (by show 5 ≤ (8 : Int) ∧ (8 : Int) ≤ 17; omega)]
    rw [if_neg (show ¬(8 : Int) = 5 by omega), if_neg (show ¬((8 : Int) = 6 ∨ (8 : Int) = 7) by omega), if_pos (show (8 : Int) = 8 by omega), wide_eq]
    show (if N < 0 then _ else if ¬(if W < 1 ∨ 32 < W then ((0 : Int), (10 : Int)) else (W, 0)).2 = 0 ∨ wr (wd (m1_law13_Args__scope x0) x0.Nodes 0 + wd (m1_law13_Args__scope x0) x1 0 - W) < N then _ else (W, 0)) = _
    rw [if_neg (by omega), if_neg (c := W < 1 ∨ 32 < W) (by omega), wr_of (by omega) (by omega), if_neg (by simp; omega)]) z1
  refine ⟨o0, by rw [z0, qnx]; omega, w0, ?_⟩
  rw [v0]
  show (expr_unary (ix L 0) (vl (m1_law13_Args__scope x0) x0.E x0.Args L 1)).v = _
  rw [v1, i0, i1, mv, m1.v]
  have hb : expr_binary 14 (vl (m1_law13_Args__scope x0) x0.E x0.Args x0.Nodes 0) (vl (m1_law13_Args__scope x0) x0.E x0.Args x1 0) = { v := (((vl (m1_law13_Args__scope x0) x0.E x0.Args x0.Nodes 0).v &&& bitvec_Mask (wd (m1_law13_Args__scope x0) x0.Nodes 0)) <<< (wd (m1_law13_Args__scope x0) x1 0).toNat ||| (vl (m1_law13_Args__scope x0) x0.E x0.Args x1 0).v &&& bitvec_Mask (wd (m1_law13_Args__scope x0) x1 0)), w := wd (m1_law13_Args__scope x0) x0.Nodes 0 + wd (m1_law13_Args__scope x0) x1 0 } := by
    unfold expr_binary bitvec_Concat
    simp only [LET]
    rw [if_neg (by decide), if_neg (by decide), if_neg (by decide), if_neg (by decide), if_neg (by decide), if_pos (by decide), f2, r2, bitvec_valid_two, wr_of (by omega) (by omega), if_neg (by simp; omega)]
  rw [hb]
  unfold expr_unary bitvec_Slice
  simp only [LET]
  rw [if_neg (by simp), if_neg (by simp), if_neg (by simp), bitvec_valid_one, wr_of (by omega) (by omega), if_neg (by simp; omega)]
theorem ExprAlgebra_pure : law13_ExprAlgebra x0 x1 = true := by
  unfold law13_ExprAlgebra
  simp only [LET]
  split
  · rfl
  rename_i h1
  simp only [Bool.or_eq_true, Bool.not_eq_true', decide_eq_false_iff_not, decide_eq_true_eq, not_or, Decidable.not_not, Int.not_lt] at h1
  obtain ⟨⟨hn, hm⟩, h20⟩ := h1
  obtain ⟨k1, k2, k3, k4⟩ := chk_ok rfl hn
  obtain ⟨q1, q2, q3, q4⟩ := chk_ok rfl hm
  have hw := wd_ok k2
  have qw := wd_ok q2
  obtain ⟨f1, f2⟩ := vl_ok x0.E x0.Args k2
  obtain ⟨r1, r2⟩ := vl_ok x0.E x0.Args q2
  rw [if_neg (by rw [alg_not hn (by omega)]; decide)]
  rw [wr_of (n := (x0.Nodes.length : Int) + (x1.length : Int)) (by omega) (by omega), wr_of (n := (x0.Nodes.length : Int) + (x1.length : Int) + (x1.length : Int)) (by omega) (by omega)]
  rw [if_neg (by
    simp only [Bool.and_eq_true, decide_eq_true_eq, Bool.not_eq_true', not_and, Bool.not_eq_false]
    intro h
    exact alg_sub hn hm h.1 (by omega))]
  split
  · rfl
  rename_i h2
  simp only [Bool.or_eq_true, decide_eq_true_eq, not_or, Int.not_lt] at h2
  rw [k3, q3, wr_of (by omega) (by omega)] at h2
  rw [k3, q3]
  rw [f2] at f1
  rw [r2] at r1
  obtain ⟨L1, e1, l1, o1, z1, w1, v1⟩ := alg_cat hn hm h2.1 (by omega) (wd (m1_law13_Args__scope x0) x1 0) (wd (m1_law13_Args__scope x0) x0.Nodes 0) (by omega) (by omega) (by omega)
  obtain ⟨L2, e2, l2, o2, z2, w2, v2⟩ := alg_cat hn hm h2.1 (by omega) 0 (wd (m1_law13_Args__scope x0) x1 0) (by omega) (by omega) (by omega)
  rw [e1, e2, same_mk hn l1 o1 z1 w1 (by rw [v1]; exact cat_hi hw.1 qw.1 h2.1 f1 r1), same_mk hm l2 o2 z2 w2 (by rw [v2]; exact cat_lo hw.1 qw.1 h2.1 f1 r1)]
  rfl
end
end Go.Proofs.Ytfekghenlhoamaa
