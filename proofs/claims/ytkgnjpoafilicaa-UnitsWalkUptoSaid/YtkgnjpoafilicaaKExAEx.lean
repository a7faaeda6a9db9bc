/-
  Hand-written texts in one.
-/
import Derived.Test.YtkgnjpoafilicaaKDef
import Derived.Test.YtkgnjpoafilicaaPbP
set_option linter.unusedVariables false
set_option linter.unusedSimpArgs false
set_option maxRecDepth 100000
namespace Go.Proofs.Ytkgnjpoafilicaa
open Go Go.Pb Go.RowKit
theorem bitvec_valid_one (w : Int) : bitvec_valid [w] = decide (1 ≤ w ∧ w ≤ 32) := by
  unfold bitvec_valid
  have e : (Int.toNat (((([w] : List Int)).length : Int) - 0)) = 1 := by simp
  rw [e, bitvec_valid_L1, bitvec_valid_L1]
  have hx : ix ([w] : List Int) 0 = w := rfl
  rw [hx]
  by_cases h : 1 ≤ w ∧ w ≤ 32
  · rw [if_neg (by simp; omega)]; simp [h]
  · rw [if_pos (by simp; omega)]; simp [h]
theorem bitvec_valid_two (v w : Int) : bitvec_valid [v, w] = decide ((1 ≤ v ∧ v ≤ 32) ∧ (1 ≤ w ∧ w ≤ 32)) := by
  unfold bitvec_valid
  have e : (Int.toNat (((([v, w] : List Int)).length : Int) - 0)) = 2 := by simp
  rw [e, bitvec_valid_L1, bitvec_valid_L1, bitvec_valid_L1]
  have hx : ix ([v, w] : List Int) 0 = v ∧ ix ([v, w] : List Int) (0 + 1) = w := ⟨rfl, rfl⟩
  rw [hx.1, hx.2]
  by_cases h : 1 ≤ v ∧ v ≤ 32
  · rw [if_neg (by simp; omega)]
    by_cases h2 : 1 ≤ w ∧ w ≤ 32
    · rw [if_neg (by simp; omega)]; simp [h, h2]
    · rw [if_pos (by simp; omega)]; simp [h2]
  · rw [if_pos (by simp; omega)]; simp [h]
theorem mask_sh {w : Int} {b : Bool} (h : bitvec_valid [w] = b) (h2 : b = true) : 0 ≤ wr (32 - w) := by
  rw [bitvec_valid_one] at h
  subst h2
  simp only [decide_eq_true_eq] at h
  rw [wr_of (by omega) (by omega)]
  omega
theorem two_sh {v w : Int} {b : Bool} (h : bitvec_valid [v, w] = b) (h2 : b = true) : (1 ≤ v ∧ v ≤ 32) ∧ 1 ≤ w ∧ w ≤ 32 := by
  rw [bitvec_valid_two] at h
  subst h2
  simpa using h
theorem arity_le (op : Int) : expr_arity op ≤ 3 ∧ -1 ≤ expr_arity op := by
  unfold expr_arity
  simp only [LET]
  repeat' split
  all_goals omega
theorem ar {op y : Int} (h : expr_arity op = y) : y ≤ 3 ∧ -1 ≤ y := by rw [← h]; exact arity_le op
theorem pr3 {s : expr_Scope} {x : api_ExprNode} (h : (m1_expr_Scope__primary s x).2 = 0) (h1 : x.Op = 3) : 0 ≤ x.N := by
  unfold m1_expr_Scope__primary at h
  rw [if_neg (by simp [h1]), if_neg (by simp [h1]), if_pos (by simp [h1])] at h
  split at h
  · cases h
  · rename_i hc
    simp only [Bool.or_eq_true, decide_eq_true_eq, not_or] at hc
    omega
theorem pr4 {s : expr_Scope} {x : api_ExprNode} (h : (m1_expr_Scope__primary s x).2 = 0) (h1 : x.Op = 4) : 0 ≤ x.N := by
  unfold m1_expr_Scope__primary at h
  rw [if_neg (by simp [h1]), if_neg (by simp [h1]), if_neg (by simp [h1])] at h
  split at h
  · cases h
  · rename_i hc
    simp only [Bool.or_eq_true, decide_eq_true_eq, not_or] at hc
    omega
theorem check_next_L1 (s : expr_Scope) (n : List api_ExprNode) (rec_ : expr_Scope → List api_ExprNode → Int → Int × Int × Int) (a : Int) (ha : 0 ≤ a) (K : Int → List Int → Int × Int × Int) (hr : ∀ z : Int, 0 ≤ z → (rec_ s n z).2.2 = 0 → z < (rec_ s n z).2.1) (hK : ∀ x z, a < x → (K x z).2.2 = 0 → a < (K x z).2.1) :
    ∀ (m : Nat) (x i : Int) (z : List Int), a < x → (m1_expr_Scope__check_L1 s n rec_ K m x i z).2.2 = 0 → a < (m1_expr_Scope__check_L1 s n rec_ K m x i z).2.1
  | 0, x, i, z, hx, h => by rw [m1_expr_Scope__check_L1] at h ⊢; exact hK x z hx h
  | m + 1, x, i, z, hx, h => by
    rw [m1_expr_Scope__check_L1] at h ⊢
    simp only [LET] at h ⊢
    split at h
    · rename_i hc
      simp only [Bool.not_eq_true', decide_eq_false_iff_not] at hc
      exact absurd h hc
    · rename_i hc
      rw [if_neg hc]
      simp only [Bool.not_eq_true', decide_eq_false_iff_not, Decidable.not_not] at hc
      have := hr x (by omega) hc
      exact check_next_L1 s n rec_ a ha K hr hK m _ _ _ (by omega) h
theorem check_next : ∀ (k : Nat) (s : expr_Scope) (n : List api_ExprNode) (a : Int), 0 ≤ a → n.length ≤ 1000000 → (m1_expr_Scope__check_R k s n a).2.2 = 0 → a < (m1_expr_Scope__check_R k s n a).2.1
  | 0, s, n, a, ha, hn, h => by rw [m1_expr_Scope__check_R] at h; cases h
  | k + 1, s, n, a, ha, hn, h => by
    rw [m1_expr_Scope__check_R] at h ⊢
    unfold m1_expr_Scope__check_B at h ⊢
    simp only [LET] at h ⊢
    split at h
    · cases h
    · rename_i h1
      rw [if_neg h1]
      simp only [decide_eq_true_eq, Int.not_le] at h1
      have ew : wr (a + 1) = a + 1 := wr_of (by omega) (by omega)
      split at h
      · cases h
      · rename_i h2
        rw [if_neg h2]
        split at h
        · rename_i h3
          rw [if_pos h3]
          show a < wr (a + 1)
          omega
        · rename_i h3
          rw [if_neg h3]
          exact check_next_L1 s n _ a ha _ (fun z hz hz2 => check_next k s n z hz hn hz2) (fun x z hx _ => hx) _ _ _ _ (by omega) h
theorem check_fuel_L1 (s : expr_Scope) (n : List api_ExprNode) (r1 r2 : expr_Scope → List api_ExprNode → Int → Int × Int × Int) (a : Int) (ha : 0 ≤ a) (K : Int → List Int → Int × Int × Int) (hr : ∀ z : Int, a < z → r1 s n z = r2 s n z) (hn : ∀ z : Int, 0 ≤ z → (r1 s n z).2.2 = 0 → z < (r1 s n z).2.1) :
    ∀ (m : Nat) (x i : Int) (z : List Int), a < x → m1_expr_Scope__check_L1 s n r1 K m x i z = m1_expr_Scope__check_L1 s n r2 K m x i z
  | 0, x, i, z, hx => by rw [m1_expr_Scope__check_L1, m1_expr_Scope__check_L1]
  | m + 1, x, i, z, hx => by
    rw [m1_expr_Scope__check_L1, m1_expr_Scope__check_L1]
    simp only [LET, ← hr x hx]
    split
    · rfl
    · rename_i hc
      simp only [Bool.not_eq_true', decide_eq_false_iff_not, Decidable.not_not] at hc
      have := hn x (by omega) hc
      exact check_fuel_L1 s n r1 r2 a ha K hr hn m _ _ _ (by omega)
theorem check_fuel : ∀ (k k' : Nat) (s : expr_Scope) (n : List api_ExprNode) (a : Int), 0 ≤ a → n.length ≤ 1000000 → n.length - a.toNat < k → n.length - a.toNat < k' → m1_expr_Scope__check_R k s n a = m1_expr_Scope__check_R k' s n a
  | 0, k', s, n, a, ha, hn, h1, h2 => by omega
  | k + 1, 0, s, n, a, ha, hn, h1, h2 => by omega
  | k + 1, k' + 1, s, n, a, ha, hn, h1, h2 => by
    rw [m1_expr_Scope__check_R, m1_expr_Scope__check_R]
    unfold m1_expr_Scope__check_B
    simp only [LET]
    split
    · rfl
    · rename_i h3
      simp only [decide_eq_true_eq, Int.not_le] at h3
      have ew : wr (a + 1) = a + 1 := wr_of (by omega) (by omega)
      split
      · rfl
      · split
        · rfl
        · exact check_fuel_L1 s n _ _ a ha _ (fun z hz => check_fuel k k' s n z (by omega) hn (by omega) (by omega)) (fun z hz h => check_next k s n z hz hn h) _ _ _ _ (by omega)
theorem check_eq (s : expr_Scope) (n : List api_ExprNode) (a : Int) (ha : 0 ≤ a) (hn : n.length ≤ 1000000) : m1_expr_Scope__check s n a = m1_expr_Scope__check_B m1_expr_Scope__check s n a := by
  have e : m1_expr_Scope__check s n a = m1_expr_Scope__check_B (m1_expr_Scope__check_R (n.length - a.toNat)) s n a := by
    unfold m1_expr_Scope__check
    rw [m1_expr_Scope__check_R]
  rw [e]
  unfold m1_expr_Scope__check_B
  simp only [LET]
  split
  · rfl
  · rename_i h3
    simp only [decide_eq_true_eq, Int.not_le] at h3
    have ew : wr (a + 1) = a + 1 := wr_of (by omega) (by omega)
    split
    · rfl
    · split
      · rfl
      · exact check_fuel_L1 s n _ _ a ha _ (fun z hz => check_fuel (n.length - a.toNat) (n.length - z.toNat + 1) s n z (by omega) hn (by omega) (by omega)) (fun z hz h => check_next _ s n z hz hn h) _ _ _ _ (by omega)
theorem cnext {s : expr_Scope} {n : List api_ExprNode} {a : Int} (ha : 0 ≤ a) (hn : n.length ≤ 1000000) (h : (m1_expr_Scope__check s n a).2.2 = 0) : a < (m1_expr_Scope__check s n a).2.1 := check_next _ s n a ha hn h
/-- A valid subexpression at an index: what its check says, part by part. -/
structure Ok (s : expr_Scope) (n : List api_ExprNode) (a : Int) : Prop where
  lo : 0 ≤ a
  len : n.length ≤ 1000000
  ok : (m1_expr_Scope__check s n a).2.2 = 0
def nx (s : expr_Scope) (n : List api_ExprNode) (a : Int) : Int := (m1_expr_Scope__check s n a).2.1
def wd (s : expr_Scope) (n : List api_ExprNode) (a : Int) : Int := (m1_expr_Scope__check s n a).1
theorem Ok.lt {s : expr_Scope} {n : List api_ExprNode} {a : Int} (h : Ok s n a) : a < n.length := by
  have := h.ok
  rw [check_eq s n a h.lo h.len] at this
  unfold m1_expr_Scope__check_B at this
  by_cases hc : (n.length : Int) ≤ a
  · rw [if_pos (by simpa using hc)] at this; cases this
  · omega
theorem Ok.wr1 {s : expr_Scope} {n : List api_ExprNode} {a : Int} (h : Ok s n a) : wr (a + 1) = a + 1 := by
  have := h.lt
  have := h.len
  have := h.lo
  exact wr_of (by omega) (by omega)
theorem Ok.step {s : expr_Scope} {n : List api_ExprNode} {a : Int} (h : Ok s n a) :
    (expr_arity (ix n a).Op = 0 ∧ (m1_expr_Scope__primary s (ix n a)).2 = 0 ∧ wd s n a = (m1_expr_Scope__primary s (ix n a)).1 ∧ nx s n a = a + 1) ∨
    (expr_arity (ix n a).Op = 1 ∧ Ok s n (a + 1) ∧ (expr_combine (ix n a) [wd s n (a + 1), 0, 0]).2 = 0 ∧ wd s n a = (expr_combine (ix n a) [wd s n (a + 1), 0, 0]).1 ∧ nx s n a = nx s n (a + 1)) ∨
    (expr_arity (ix n a).Op = 2 ∧ Ok s n (a + 1) ∧ Ok s n (nx s n (a + 1)) ∧ (expr_combine (ix n a) [wd s n (a + 1), wd s n (nx s n (a + 1)), 0]).2 = 0 ∧ wd s n a = (expr_combine (ix n a) [wd s n (a + 1), wd s n (nx s n (a + 1)), 0]).1 ∧ nx s n a = nx s n (nx s n (a + 1))) ∨
    (expr_arity (ix n a).Op = 3 ∧ Ok s n (a + 1) ∧ Ok s n (nx s n (a + 1)) ∧ Ok s n (nx s n (nx s n (a + 1))) ∧ (expr_combine (ix n a) [wd s n (a + 1), wd s n (nx s n (a + 1)), wd s n (nx s n (nx s n (a + 1)))]).2 = 0 ∧ wd s n a = (expr_combine (ix n a) [wd s n (a + 1), wd s n (nx s n (a + 1)), wd s n (nx s n (nx s n (a + 1)))]).1 ∧ nx s n a = nx s n (nx s n (nx s n (a + 1)))) := by
  have hlt := h.lt
  have hw := h.wr1
  have hok := h.ok
  have hlo := h.lo
  have har := arity_le (ix n a).Op
  have e : m1_expr_Scope__check s n a = m1_expr_Scope__check_B m1_expr_Scope__check s n a := check_eq s n a h.lo h.len
  have mk : ∀ z : Int, 0 ≤ z → (m1_expr_Scope__check s n z).2.2 = 0 → Ok s n z := fun z h0 h1 => ⟨h0, h.len, h1⟩
  simp only [wd, nx]
  rw [e] at hok ⊢
  unfold m1_expr_Scope__check_B at hok ⊢
  simp only [LET, hw] at hok ⊢
  rw [if_neg (show ¬(decide ((n.length : Int) ≤ a) = true) by simpa using hlt)] at hok ⊢
  by_cases hn : expr_arity (ix n a).Op < 0
  · rw [if_pos (by simpa using hn)] at hok; cases hok
  rw [if_neg (show ¬(decide (expr_arity (ix n a).Op < 0) = true) by simpa using hn)] at hok ⊢
  by_cases h0 : expr_arity (ix n a).Op = 0
  · rw [if_pos (by simpa using h0)] at hok ⊢
    exact .inl ⟨h0, hok, rfl, rfl⟩
  rw [if_neg (show ¬(decide (expr_arity (ix n a).Op = 0) = true) by simpa using h0)] at hok ⊢
  right
  have hcase : expr_arity (ix n a).Op = 1 ∨ expr_arity (ix n a).Op = 2 ∨ expr_arity (ix n a).Op = 3 := by omega
  rcases hcase with ha | ha | ha
  · left
    rw [ha] at hok ⊢
    rw [show Int.toNat (1 - 0) = 1 from rfl] at hok ⊢
    simp only [m1_expr_Scope__check_L1, LET] at hok ⊢
    by_cases c1 : (m1_expr_Scope__check s n (a + 1)).2.2 = 0
    · rw [if_neg (by simp [c1])] at hok ⊢
      exact ⟨trivial, mk _ (by omega) c1, hok, rfl, rfl⟩
    · rw [if_pos (by simp [c1])] at hok; exact absurd hok c1
  · right; left
    rw [ha] at hok ⊢
    rw [show Int.toNat (2 - 0) = 2 from rfl] at hok ⊢
    simp only [m1_expr_Scope__check_L1, LET] at hok ⊢
    by_cases c1 : (m1_expr_Scope__check s n (a + 1)).2.2 = 0
    · rw [if_neg (by simp [c1])] at hok ⊢
      have n1 := cnext (s := s) (n := n) (a := a + 1) (by omega) h.len c1
      by_cases c2 : (m1_expr_Scope__check s n (m1_expr_Scope__check s n (a + 1)).2.1).2.2 = 0
      · rw [if_neg (by simp [c2])] at hok ⊢
        exact ⟨trivial, mk _ (by omega) c1, mk _ (by omega) c2, hok, rfl, rfl⟩
      · rw [if_pos (by simp [c2])] at hok; exact absurd hok c2
    · rw [if_pos (by simp [c1])] at hok; exact absurd hok c1
  · right; right
    rw [ha] at hok ⊢
    rw [show Int.toNat (3 - 0) = 3 from rfl] at hok ⊢
    simp only [m1_expr_Scope__check_L1, LET] at hok ⊢
    by_cases c1 : (m1_expr_Scope__check s n (a + 1)).2.2 = 0
    · rw [if_neg (by simp [c1])] at hok ⊢
      have n1 := cnext (s := s) (n := n) (a := a + 1) (by omega) h.len c1
      by_cases c2 : (m1_expr_Scope__check s n (m1_expr_Scope__check s n (a + 1)).2.1).2.2 = 0
      · rw [if_neg (by simp [c2])] at hok ⊢
        have n2 := cnext (s := s) (n := n) (by omega) h.len c2
        by_cases c3 : (m1_expr_Scope__check s n (m1_expr_Scope__check s n (m1_expr_Scope__check s n (a + 1)).2.1).2.1).2.2 = 0
        · rw [if_neg (by simp [c3])] at hok ⊢
          exact ⟨trivial, mk _ (by omega) c1, mk _ (by omega) c2, mk _ (by omega) c3, hok, rfl, rfl⟩
        · rw [if_pos (by simp [c3])] at hok; exact absurd hok c3
      · rw [if_pos (by simp [c2])] at hok; exact absurd hok c2
    · rw [if_pos (by simp [c1])] at hok; exact absurd hok c1
theorem Ok.gt {s : expr_Scope} {n : List api_ExprNode} {a : Int} (h : Ok s n a) : a < nx s n a := cnext h.lo h.len h.ok
theorem chk_ok {n : List api_ExprNode} {s : expr_Scope} {y : Int × Int} (h : expr_Check n s = y) (h2 : y.2 = 0) : n.length ≤ 24 ∧ Ok s n 0 ∧ y.1 = wd s n 0 ∧ (n.length : Int) ≤ nx s n 0 := by
  subst h
  unfold expr_Check at h2 ⊢
  simp only [LET] at h2 ⊢
  split at h2
  · cases h2
  · rename_i h3
    rw [if_neg h3]
    simp only [decide_eq_true_eq, Int.not_lt] at h3
    split at h2
    · rename_i h4
      simp only [Bool.not_eq_true', decide_eq_false_iff_not] at h4
      exact absurd h2 h4
    · rename_i h4
      rw [if_neg h4]
      simp only [Bool.not_eq_true', decide_eq_false_iff_not, Decidable.not_not] at h4
      split at h2
      · cases h2
      · rename_i h5
        rw [if_neg h5]
        simp only [decide_eq_true_eq, Int.not_lt] at h5
        exact ⟨by omega, ⟨by omega, by omega, h4⟩, rfl, h5⟩
theorem arity_eq (op : Int) : expr_arity op = if 1 ≤ op ∧ op ≤ 4 then 0 else if 5 ≤ op ∧ op ≤ 8 then 1 else if 9 ≤ op ∧ op ≤ 16 then 2 else if op = 17 then 3 else -1 := by
  by_cases h : 1 ≤ op ∧ op ≤ 17
  · have : op = 1 ∨ op = 2 ∨ op = 3 ∨ op = 4 ∨ op = 5 ∨ op = 6 ∨ op = 7 ∨ op = 8 ∨ op = 9 ∨ op = 10 ∨ op = 11 ∨ op = 12 ∨ op = 13 ∨ op = 14 ∨ op = 15 ∨ op = 16 ∨ op = 17 := by omega
    rcases this with rfl | rfl | rfl | rfl | rfl | rfl | rfl | rfl | rfl | rfl | rfl | rfl | rfl | rfl | rfl | rfl | rfl <;> rfl
  · rw [if_neg (by omega), if_neg (by omega), if_neg (by omega), if_neg (by omega)]
    have e : ∀ k : Int, 1 ≤ k → k ≤ 17 → decide (op = k) = false := fun k h1 h2 => by simp; omega
    unfold expr_arity
    simp only [LET, e 1 (by omega) (by omega), e 2 (by omega) (by omega), e 3 (by omega) (by omega), e 4 (by omega) (by omega), e 5 (by omega) (by omega), e 6 (by omega) (by omega), e 7 (by omega) (by omega), e 8 (by omega) (by omega), e 9 (by omega) (by omega), e 10 (by omega) (by omega), e 11 (by omega) (by omega), e 12 (by omega) (by omega), e 13 (by omega) (by omega), e 14 (by omega) (by omega), e 15 (by omega) (by omega), e 16 (by omega) (by omega), e 17 (by omega) (by omega), Bool.false_eq_true, if_false]
theorem wide_ok {w : Int} (h : (expr_wide w).2 = 0) : (expr_wide w).1 = w ∧ 1 ≤ w ∧ w ≤ 32 := by
  unfold expr_wide at h ⊢
  split at h
  · cases h
  · rename_i hc
    rw [if_neg hc]
    simp only [Bool.or_eq_true, decide_eq_true_eq, not_or] at hc
    exact ⟨rfl, by omega⟩
/-- What the operators ask of the widths of their operands, and the width they give. -/
theorem combine_eq (x : api_ExprNode) (u v w : Int) (ho : 5 ≤ x.Op ∧ x.Op ≤ 17) : expr_combine x [u, v, w] =
    if x.Op = 5 then (u, 0) else if x.Op = 6 ∨ x.Op = 7 then (if x.N < 0 ∨ 31 < x.N then (0, 9) else (u, 0)) else
    if x.Op = 8 then (if x.N < 0 then (0, 9) else if ¬(expr_wide x.W).2 = 0 ∨ wr (u - x.W) < x.N then (0, 10) else (x.W, 0)) else
    if x.Op = 14 then expr_wide (wr (u + v)) else if x.Op = 17 then (if ¬u = 1 ∨ ¬v = w then (0, 10) else (v, 0)) else
    if ¬u = v then (0, 10) else if x.Op = 15 ∨ x.Op = 16 then (1, 0) else (u, 0) := by
  have e0 : ix [u, v, w] 0 = u := rfl
  have e1 : ix [u, v, w] 1 = v := rfl
  have e2 : ix [u, v, w] 2 = w := rfl
  have : x.Op = 5 ∨ x.Op = 6 ∨ x.Op = 7 ∨ x.Op = 8 ∨ x.Op = 9 ∨ x.Op = 10 ∨ x.Op = 11 ∨ x.Op = 12 ∨ x.Op = 13 ∨ x.Op = 14 ∨ x.Op = 15 ∨ x.Op = 16 ∨ x.Op = 17 := by omega
  unfold expr_combine
  simp only [LET, e0, e1, e2]
  rcases this with h | h | h | h | h | h | h | h | h | h | h | h | h <;> simp [h, arity_eq]
theorem check_step (a : api_ControlNode) (p : api_Program) (u : List Int) (e n : Int) : (control_Check_1 a p u e n).2.1.length ≤ u.length + 1 := by
  unfold control_Check_1
  simp only [LET]
  split
  · simp
  · split <;> simp
theorem rarity_eq (op : Int) : ref13_Arity op = expr_arity op := by
  rw [arity_eq]
  unfold ref13_Arity
  simp only [Bool.and_eq_true, decide_eq_true_eq]
theorem rar4 (op : Int) : ref13_Arity op ≤ 3 ∧ -1 ≤ ref13_Arity op := by rw [rarity_eq]; exact arity_le op
theorem rar {op y : Int} (h : ref13_Arity op = y) : y ≤ 3 ∧ -1 ≤ y := by rw [← h]; exact rar4 op
theorem opl {x : Int} {op : Int} (h : x = ref13_Arity op) : (5 ≤ op ∧ op ≤ 8 → x = 1) ∧ (9 ≤ op ∧ op ≤ 16 → x = 2) ∧ (op = 17 → x = 3) ∧ (op ≤ 4 → x ≤ 0) ∧ (18 ≤ op → x ≤ 0) := by
  rw [rarity_eq, arity_eq] at h
  subst h
  split
  · omega
  · split
    · omega
    · split
      · omega
      · split <;> omega
theorem rval {w : Int} {y : Bool} (h : ref01_valid w = y) (h2 : y = true) : 1 ≤ w ∧ w ≤ 32 := by
  rw [h2] at h
  unfold ref01_valid at h
  simpa using h
theorem jor {p q : Prop} [Decidable p] [Decidable q] {x : Bool} (h : x = (if decide p = true then decide p else decide q)) (hx : x = false) : ¬p ∧ ¬q := by
  subst hx
  by_cases hp : p
  · simp [hp] at h
  · simp [hp] at h
    exact ⟨hp, h⟩
theorem rpow {w : Int} (h : 0 ≤ w ∧ w ≤ 32) : (ref01_power w).toNat = 2 ^ w.toNat := by
  have : ∃ k : Fin 33, w = (k.val : Int) := ⟨⟨w.toNat, by omega⟩, by simp; omega⟩
  obtain ⟨k, rfl⟩ := this
  clear h
  revert k
  decide +kernel
theorem rpow_nz0 {w : Int} (h : 0 ≤ w ∧ w ≤ 32) : ref01_power w ≠ 0#64 := by
  intro hc
  have h1 := rpow h
  rw [hc] at h1
  have h2 : 0 < 2 ^ w.toNat := Nat.two_pow_pos _
  have h3 : (0#64).toNat = 0 := rfl
  omega
theorem rpow_nz {w : Int} {b : Bool} {y : BitVec 64} (h : ref01_valid w = b) (h2 : b = true) (h3 : ref01_power w = y) : y ≠ 0#64 := by
  have := rval h h2
  rw [← h3]
  exact rpow_nz0 (by omega)
theorem rpow_nz2 {n w : Int} {b : Bool} {y : BitVec 64} (h : ref01_valid w = b) (h2 : (b = true ∧ ¬n < 0) ∧ ¬wr (32 - w) < n) (h3 : ref01_power n = y) : y ≠ 0#64 := by
  have := rval h h2.1.1
  rw [← h3]
  have e := h2.2
  rw [wr_of (by omega) (by omega)] at e
  exact rpow_nz0 (by omega)
theorem rslc {n w : Int} {b : Bool} (h2 : (b = true ∧ ¬n < 0) ∧ ¬wr (32 - w) < n) (hw : 1 ≤ w ∧ w ≤ 32 := by omega) : 0 ≤ n ∧ n ≤ 32 - w := by
  have e := h2.2
  rw [wr_of (by omega) (by omega)] at e
  omega
theorem rwide_eq (w : Int) : ref13_wide w = expr_wide w := rfl
theorem rmask_eq (w : Int) : ref01_Mask w = bitvec_Mask w := by
  by_cases h : 1 ≤ w ∧ w ≤ 32
  · have : ∃ k : Fin 33, w = (k.val : Int) := ⟨⟨w.toNat, by omega⟩, by simp; omega⟩
    obtain ⟨k, rfl⟩ := this
    revert h
    revert k
    decide +kernel
  · unfold ref01_Mask bitvec_Mask ref01_valid
    simp only [LET, bitvec_valid_one]
    rw [if_pos (by simp; omega), if_pos (by simp; omega)]
theorem leaf_eq (x : api_ExprNode) (s : expr_Scope) : ref13_leaf x s = m1_expr_Scope__primary s x := by
  unfold ref13_leaf m1_expr_Scope__primary
  simp only [LET, rmask_eq, rwide_eq]
  unfold ref13_Declared m1_expr_Scope__field
  simp only [LET]
  by_cases h1 : x.Op = 1
  · simp only [h1, decide_true, if_true]
    try rfl
  · simp only [h1, decide_false, if_false, Bool.false_eq_true]
    by_cases h2 : x.Op = 2
    · simp only [h2, decide_true, if_true]
      by_cases h3 : x.N = -1
      · simp only [h3, decide_true, Bool.not_true, if_false, Bool.false_eq_true]
        by_cases h4 : (decide (x.W < 0) || decide ((s.Program.Metadata.length : Int) ≤ x.W)) = true
        · simp only [h4, if_true, Bool.not_false]
        · simp only [h4, if_false, Bool.not_true, Bool.false_eq_true]
      · simp only [h3, decide_false, Bool.not_false, if_true]
        by_cases h5 : (decide (x.N < 0) || decide ((s.Program.Headers.length : Int) ≤ x.N)) = true
        · simp only [h5, if_true, Bool.not_false]
        · simp only [h5, if_false, Bool.false_eq_true]
          by_cases h4 : (decide (x.W < 0) || decide (((ix s.Program.Headers x.N).Fields.length : Int) ≤ x.W)) = true
          · simp only [h4, if_true, Bool.not_false]
          · simp only [h4, if_false, Bool.not_true, Bool.false_eq_true]
    · simp only [h2, decide_false, if_false, Bool.false_eq_true]
theorem operator_eq (x : api_ExprNode) : (∀ u, 5 ≤ x.Op ∧ x.Op ≤ 8 → ref13_operator x [u] = expr_combine x [u, 0, 0]) ∧ (∀ u v, 9 ≤ x.Op ∧ x.Op ≤ 16 → ref13_operator x [u, v] = expr_combine x [u, v, 0]) ∧ (∀ u v w, x.Op = 17 → ref13_operator x [u, v, w] = expr_combine x [u, v, w]) := by
  refine ⟨fun u h => ?_, fun u v h => ?_, fun u v w h => ?_⟩
  · have e0 : ix [u] 0 = u := rfl
    rw [combine_eq _ _ _ _ (by omega)]
    unfold ref13_operator
    simp only [LET, e0]
    have : x.Op = 5 ∨ x.Op = 6 ∨ x.Op = 7 ∨ x.Op = 8 := by omega
    rcases this with h | h | h | h
    · simp [h]
    · simp [h]
    · simp [h]
    · simp only [h]
      by_cases h1 : x.N < 0
      · simp [h1]
      · unfold expr_wide
        by_cases h2 : x.W < 1 ∨ 32 < x.W
        · simp [h1, h2]
        · have h3 : ¬x.W < 1 := by omega
          have h4 : ¬32 < x.W := by omega
          simp [h1, h3, h4]
  · have e0 : ix [u, v] 0 = u := rfl
    have e1 : ix [u, v] 1 = v := rfl
    rw [combine_eq _ _ _ _ (by omega)]
    unfold ref13_operator
    simp only [LET, e0, e1]
    have : x.Op = 9 ∨ x.Op = 10 ∨ x.Op = 11 ∨ x.Op = 12 ∨ x.Op = 13 ∨ x.Op = 14 ∨ x.Op = 15 ∨ x.Op = 16 := by omega
    rcases this with h | h | h | h | h | h | h | h <;> simp [h, rwide_eq]
  · have e0 : ix [u, v, w] 0 = u := rfl
    have e1 : ix [u, v, w] 1 = v := rfl
    have e2 : ix [u, v, w] 2 = w := rfl
    rw [combine_eq _ _ _ _ (by omega)]
    unfold ref13_operator
    simp only [LET, e0, e1, e2]
    simp [h]
def REL (r c : Int × Int × Int) : Prop := r.2.2 = c.2.2 ∧ (c.2.2 = 0 → r.1 = c.1 ∧ r.2.1 = c.2.1)
theorem REL.of_eq {r c : Int × Int × Int} (h : r = c) : REL r c := by subst h; exact ⟨rfl, fun _ => ⟨rfl, rfl⟩⟩
theorem rel_L1 (s : expr_Scope) (n : List api_ExprNode) (r1 : List api_ExprNode → Int → expr_Scope → Int × Int × Int) (r2 : expr_Scope → List api_ExprNode → Int → Int × Int × Int) (hr : ∀ z, REL (r1 n z s) (r2 s n z)) (K1 K2 : Int → List Int → Int × Int × Int) (j k : Nat) (hK : ∀ x (z : List Int), z.length = k → K1 x z = K2 x (z ++ List.replicate j 0)) :
    ∀ (m : Nat) (x i : Int) (z : List Int), (z.length : Int) = i → z.length + m = k → REL (ref13_check_L1 n s r1 K1 m x i z) (m1_expr_Scope__check_L1 s n r2 K2 m x i (z ++ List.replicate (m + j) 0))
  | 0, x, i, z, hi, hk => by
    rw [ref13_check_L1, m1_expr_Scope__check_L1, hK x z (by omega), Nat.zero_add]
    exact .of_eq rfl
  | m + 1, x, i, z, hi, hk => by
    rw [ref13_check_L1, m1_expr_Scope__check_L1]
    simp only [LET]
    obtain ⟨e1, e2⟩ := hr x
    by_cases hc : (r2 s n x).2.2 = 0
    · have hd : (r1 n x s).2.2 = 0 := e1.trans hc
      rw [if_neg (show ¬(!decide ((r1 n x s).2.2 = 0)) = true by simp [hd]), if_neg (show ¬(!decide ((r2 s n x).2.2 = 0)) = true by simp [hc])]
      obtain ⟨e3, e4⟩ := e2 hc
      rw [e3, e4, show (z ++ List.replicate (m + 1 + j) (0 : Int)).set i.toNat (r2 s n x).1 = (z ++ [(r2 s n x).1]) ++ List.replicate (m + j) 0 by
        rw [show m + 1 + j = (m + j) + 1 by omega, List.replicate_succ, show i.toNat = z.length by omega]
        simp]
      exact rel_L1 s n r1 r2 hr K1 K2 j k hK m _ _ _ (by simp; omega) (by simp; omega)
    · have hd : ¬(r1 n x s).2.2 = 0 := fun h => hc (e1.symm.trans h)
      rw [if_pos (show (!decide ((r1 n x s).2.2 = 0)) = true by simp [hd]), if_pos (show (!decide ((r2 s n x).2.2 = 0)) = true by simp [hc])]
      exact ⟨e1, fun h => absurd h hc⟩
theorem rel_R : ∀ (k : Nat) (s : expr_Scope) (n : List api_ExprNode) (a : Int), REL (ref13_check_R k n a s) (m1_expr_Scope__check_R k s n a)
  | 0, s, n, a => .of_eq rfl
  | k + 1, s, n, a => by
    rw [ref13_check_R, m1_expr_Scope__check_R]
    unfold ref13_check_B m1_expr_Scope__check_B
    simp only [LET, rarity_eq, leaf_eq]
    split
    · exact ⟨rfl, fun h => absurd h (by decide)⟩
    split
    · exact ⟨rfl, fun h => absurd h (by decide)⟩
    split
    · exact .of_eq rfl
    rename_i h1 h2 h3
    simp only [decide_eq_true_eq] at h2 h3
    have hb := arity_le (ix n a).Op
    have ho := opl (rarity_eq (ix n a).Op).symm
    have hz := arity_eq (ix n a).Op
    obtain ⟨o1, o2, o3⟩ := operator_eq (ix n a)
    have main := rel_L1 s n (ref13_check_R k) (m1_expr_Scope__check_R k) (rel_R k s n) (fun x z => ((ref13_operator (ix n a) z).1, x, (ref13_operator (ix n a) z).2)) (fun x z => ((expr_combine (ix n a) z).1, x, (expr_combine (ix n a) z).2)) (3 - (expr_arity (ix n a).Op).toNat) (expr_arity (ix n a).Op).toNat ?_ (Int.toNat (expr_arity (ix n a).Op - 0)) (wr (a + 1)) 0 [] rfl (by simp)
    · rw [List.nil_append, show (expr_arity (ix n a).Op - 0).toNat + (3 - (expr_arity (ix n a).Op).toNat) = 3 by omega] at main
      exact main
    · intro x z hz
      have hc : expr_arity (ix n a).Op = 1 ∨ expr_arity (ix n a).Op = 2 ∨ expr_arity (ix n a).Op = 3 := by omega
      rcases hc with hc | hc | hc
      · rw [hc] at hz ⊢
        have hl : z.length = 1 := hz
        match z, hl with
        | [u], _ => rw [show [u] ++ List.replicate (3 - Int.toNat 1) (0 : Int) = [u, 0, 0] from rfl, o1 u (by omega)]
      · rw [hc] at hz ⊢
        have hl : z.length = 2 := hz
        match z, hl with
        | [u, v], _ => rw [show [u, v] ++ List.replicate (3 - Int.toNat 2) (0 : Int) = [u, v, 0] from rfl, o2 u v (by omega)]
      · rw [hc] at hz ⊢
        have hl : z.length = 3 := hz
        match z, hl with
        | [u, v, w], _ => rw [show [u, v, w] ++ List.replicate (3 - Int.toNat 3) (0 : Int) = [u, v, w] from rfl, o3 u v w (by omega)]
theorem rel (s : expr_Scope) (n : List api_ExprNode) (a : Int) : REL (ref13_check n a s) (m1_expr_Scope__check s n a) := rel_R _ s n a
theorem rcheck_next (k : Nat) (n : List api_ExprNode) (a : Int) (s : expr_Scope) (ha : 0 ≤ a) (hn : n.length ≤ 1000000) (h : (ref13_check_R k n a s).2.2 = 0) : a < (ref13_check_R k n a s).2.1 := by
  obtain ⟨e1, e2⟩ := rel_R k s n a
  have h' := h
  rw [e1] at h'
  rw [(e2 h').2]
  exact check_next k s n a ha hn h'
theorem rCheck_eq (n : List api_ExprNode) (s : expr_Scope) : ref13_Check n s = expr_Check n s := by
  unfold ref13_Check expr_Check
  simp only [LET]
  obtain ⟨e1, e2⟩ := rel s n 0
  split
  · rfl
  · rw [e1]
    by_cases hc : (m1_expr_Scope__check s n 0).2.2 = 0
    · rw [(e2 hc).1, (e2 hc).2]
    · have hd : (!decide ((m1_expr_Scope__check s n 0).2.2 = 0)) = true := by simp [hc]
      simp only [hd, if_true]
end Go.Proofs.Ytkgnjpoafilicaa
