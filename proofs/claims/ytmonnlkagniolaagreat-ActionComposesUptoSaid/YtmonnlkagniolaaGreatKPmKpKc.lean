/-
  Hand-written texts in one.
-/
import Derived.Test.YtmonnlkagniolaaGreatKDef
import Derived.Test.YtmonnlkagniolaaGreatPbP
import Derived.Test.YtmonnlkagniolaaGreatPbLaw
set_option linter.unusedVariables false
set_option linter.unusedSimpArgs false
set_option maxRecDepth 100000
namespace Go.Proofs.YtmonnlkagniolaaGreat
open Go Go.Pb Go.RowKit
theorem bitvec_valid_one (w : Int) : bitvec_valid [w] = decide (1 ≤ w ∧ w ≤ 32) := by
  unfold bitvec_valid
  have e : (Int.toNat (((([w] : List Int)).length : Int) - 0)) = 1 := by simp
  rw [e, bitvec_valid_L1, bitvec_valid_L1]
  have hx : ix ([w] : List Int) 0 = w := rfl
  rw [hx]
  by_cases h : 1 ≤ w ∧ w ≤ 32
  · rw [if_neg (by simp; omega)]; simp [h]
  · rw [if_pos (by simp; omega)]; simp [h]
theorem bitvec_valid_two (v w : Int) : bitvec_valid [v, w] = decide ((1 ≤ v ∧ v ≤ 32) ∧ (1 ≤ w ∧ w ≤ 32)) := by
  unfold bitvec_valid
  have e : (Int.toNat (((([v, w] : List Int)).length : Int) - 0)) = 2 := by simp
  rw [e, bitvec_valid_L1, bitvec_valid_L1, bitvec_valid_L1]
  have hx : ix ([v, w] : List Int) 0 = v ∧ ix ([v, w] : List Int) (0 + 1) = w := ⟨rfl, rfl⟩
  rw [hx.1, hx.2]
  by_cases h : 1 ≤ v ∧ v ≤ 32
  · rw [if_neg (by simp; omega)]
    by_cases h2 : 1 ≤ w ∧ w ≤ 32
    · rw [if_neg (by simp; omega)]; simp [h, h2]
    · rw [if_pos (by simp; omega)]; simp [h2]
  · rw [if_pos (by simp; omega)]; simp [h]
theorem mask_sh {w : Int} {b : Bool} (h : bitvec_valid [w] = b) (h2 : b = true) : 0 ≤ wr (32 - w) := by
  rw [bitvec_valid_one] at h
  subst h2
  simp only [decide_eq_true_eq] at h
  rw [wr_of (by omega) (by omega)]
  omega
theorem two_sh {v w : Int} {b : Bool} (h : bitvec_valid [v, w] = b) (h2 : b = true) : (1 ≤ v ∧ v ≤ 32) ∧ 1 ≤ w ∧ w ≤ 32 := by
  rw [bitvec_valid_two] at h
  subst h2
  simpa using h
theorem arity_le (op : Int) : expr_arity op ≤ 3 ∧ -1 ≤ expr_arity op := by
  unfold expr_arity
  simp only [LET]
  repeat' split
  all_goals omega
theorem ar {op y : Int} (h : expr_arity op = y) : y ≤ 3 ∧ -1 ≤ y := by rw [← h]; exact arity_le op
theorem pr3 {s : expr_Scope} {x : api_ExprNode} (h : (m1_expr_Scope__primary s x).2 = 0) (h1 : x.Op = 3) : 0 ≤ x.N := by
  unfold m1_expr_Scope__primary at h
  rw [if_neg (by simp [h1]), if_neg (by simp [h1]), if_pos (by simp [h1])] at h
  split at h
  · cases h
  · rename_i hc
    simp only [Bool.or_eq_true, decide_eq_true_eq, not_or] at hc
    omega
theorem pr4 {s : expr_Scope} {x : api_ExprNode} (h : (m1_expr_Scope__primary s x).2 = 0) (h1 : x.Op = 4) : 0 ≤ x.N := by
  unfold m1_expr_Scope__primary at h
  rw [if_neg (by simp [h1]), if_neg (by simp [h1]), if_neg (by simp [h1])] at h
  split at h
  · cases h
  · rename_i hc
    simp only [Bool.or_eq_true, decide_eq_true_eq, not_or] at hc
    omega
theorem check_next_L1 (s : expr_Scope) (n : List api_ExprNode) (rec_ : expr_Scope → List api_ExprNode → Int → Int × Int × Int) (a : Int) (ha : 0 ≤ a) (K : Int → List Int → Int × Int × Int) (hr : ∀ z : Int, 0 ≤ z → (rec_ s n z).2.2 = 0 → z < (rec_ s n z).2.1) (hK : ∀ x z, a < x → (K x z).2.2 = 0 → a < (K x z).2.1) :
    ∀ (m : Nat) (x i : Int) (z : List Int), a < x → (m1_expr_Scope__check_L1 s n rec_ K m x i z).2.2 = 0 → a < (m1_expr_Scope__check_L1 s n rec_ K m x i z).2.1
  | 0, x, i, z, hx, h => by rw [m1_expr_Scope__check_L1] at h ⊢; exact hK x z hx h
  | m + 1, x, i, z, hx, h => by
    rw [m1_expr_Scope__check_L1] at h ⊢
    simp only [LET] at h ⊢
    split at h
    · rename_i hc
      simp only [Bool.not_eq_true', decide_eq_false_iff_not] at hc
      exact absurd h hc
    · rename_i hc
      rw [if_neg hc]
      simp only [Bool.not_eq_true', decide_eq_false_iff_not, Decidable.not_not] at hc
      have := hr x (by omega) hc
      exact check_next_L1 s n rec_ a ha K hr hK m _ _ _ (by omega) h
theorem check_next : ∀ (k : Nat) (s : expr_Scope) (n : List api_ExprNode) (a : Int), 0 ≤ a → n.length ≤ 1000000 → (m1_expr_Scope__check_R k s n a).2.2 = 0 → a < (m1_expr_Scope__check_R k s n a).2.1
  | 0, s, n, a, ha, hn, h => by rw [m1_expr_Scope__check_R] at h; cases h
  | k + 1, s, n, a, ha, hn, h => by
    rw [m1_expr_Scope__check_R] at h ⊢
    unfold m1_expr_Scope__check_B at h ⊢
    simp only [LET] at h ⊢
    split at h
    · cases h
    · rename_i h1
      rw [if_neg h1]
      simp only [decide_eq_true_eq, Int.not_le] at h1
      have ew : wr (a + 1) = a + 1 := wr_of (by omega) (by omega)
      split at h
      · cases h
      · rename_i h2
        rw [if_neg h2]
        split at h
        · rename_i h3
          rw [if_pos h3]
          show a < wr (a + 1)
          omega
        · rename_i h3
          rw [if_neg h3]
          exact check_next_L1 s n _ a ha _ (fun z hz hz2 => check_next k s n z hz hn hz2) (fun x z hx _ => hx) _ _ _ _ (by omega) h
theorem check_fuel_L1 (s : expr_Scope) (n : List api_ExprNode) (r1 r2 : expr_Scope → List api_ExprNode → Int → Int × Int × Int) (a : Int) (ha : 0 ≤ a) (K : Int → List Int → Int × Int × Int) (hr : ∀ z : Int, a < z → r1 s n z = r2 s n z) (hn : ∀ z : Int, 0 ≤ z → (r1 s n z).2.2 = 0 → z < (r1 s n z).2.1) :
    ∀ (m : Nat) (x i : Int) (z : List Int), a < x → m1_expr_Scope__check_L1 s n r1 K m x i z = m1_expr_Scope__check_L1 s n r2 K m x i z
  | 0, x, i, z, hx => by rw [m1_expr_Scope__check_L1, m1_expr_Scope__check_L1]
  | m + 1, x, i, z, hx => by
    rw [m1_expr_Scope__check_L1, m1_expr_Scope__check_L1]
    simp only [LET, ← hr x hx]
    split
    · rfl
    · rename_i hc
      simp only [Bool.not_eq_true', decide_eq_false_iff_not, Decidable.not_not] at hc
      have := hn x (by omega) hc
      exact check_fuel_L1 s n r1 r2 a ha K hr hn m _ _ _ (by omega)
theorem check_fuel : ∀ (k k' : Nat) (s : expr_Scope) (n : List api_ExprNode) (a : Int), 0 ≤ a → n.length ≤ 1000000 → n.length - a.toNat < k → n.length - a.toNat < k' → m1_expr_Scope__check_R k s n a = m1_expr_Scope__check_R k' s n a
  | 0, k', s, n, a, ha, hn, h1, h2 => by omega
  | k + 1, 0, s, n, a, ha, hn, h1, h2 => by omega
  | k + 1, k' + 1, s, n, a, ha, hn, h1, h2 => by
    rw [m1_expr_Scope__check_R, m1_expr_Scope__check_R]
    unfold m1_expr_Scope__check_B
    simp only [LET]
    split
    · rfl
    · rename_i h3
      simp only [decide_eq_true_eq, Int.not_le] at h3
      have ew : wr (a + 1) = a + 1 := wr_of (by omega) (by omega)
      split
      · rfl
      · split
        · rfl
        · exact check_fuel_L1 s n _ _ a ha _ (fun z hz => check_fuel k k' s n z (by omega) hn (by omega) (by omega)) (fun z hz h => check_next k s n z hz hn h) _ _ _ _ (by omega)
theorem check_eq (s : expr_Scope) (n : List api_ExprNode) (a : Int) (ha : 0 ≤ a) (hn : n.length ≤ 1000000) : m1_expr_Scope__check s n a = m1_expr_Scope__check_B m1_expr_Scope__check s n a := by
  have e : m1_expr_Scope__check s n a = m1_expr_Scope__check_B (m1_expr_Scope__check_R (n.length - a.toNat)) s n a := by
    unfold m1_expr_Scope__check
    rw [m1_expr_Scope__check_R]
  rw [e]
  unfold m1_expr_Scope__check_B
  simp only [LET]
  split
  · rfl
  · rename_i h3
    simp only [decide_eq_true_eq, Int.not_le] at h3
    have ew : wr (a + 1) = a + 1 := wr_of (by omega) (by omega)
    split
    · rfl
    · split
      · rfl
      · exact check_fuel_L1 s n _ _ a ha _ (fun z hz => check_fuel (n.length - a.toNat) (n.length - z.toNat + 1) s n z (by omega) hn (by omega) (by omega)) (fun z hz h => check_next _ s n z hz hn h) _ _ _ _ (by omega)
theorem cnext {s : expr_Scope} {n : List api_ExprNode} {a : Int} (ha : 0 ≤ a) (hn : n.length ≤ 1000000) (h : (m1_expr_Scope__check s n a).2.2 = 0) : a < (m1_expr_Scope__check s n a).2.1 := check_next _ s n a ha hn h
/-- A valid subexpression at an index: what its check says, part by part. -/
structure Ok (s : expr_Scope) (n : List api_ExprNode) (a : Int) : Prop where
  lo : 0 ≤ a
  len : n.length ≤ 1000000
  ok : (m1_expr_Scope__check s n a).2.2 = 0
def nx (s : expr_Scope) (n : List api_ExprNode) (a : Int) : Int := (m1_expr_Scope__check s n a).2.1
def wd (s : expr_Scope) (n : List api_ExprNode) (a : Int) : Int := (m1_expr_Scope__check s n a).1
theorem Ok.lt {s : expr_Scope} {n : List api_ExprNode} {a : Int} (h : Ok s n a) : a < n.length := by
  have := h.ok
  rw [check_eq s n a h.lo h.len] at this
  unfold m1_expr_Scope__check_B at this
  by_cases hc : (n.length : Int) ≤ a
  · rw [if_pos (by simpa using hc)] at this; cases this
  · omega
theorem Ok.wr1 {s : expr_Scope} {n : List api_ExprNode} {a : Int} (h : Ok s n a) : wr (a + 1) = a + 1 := by
  have := h.lt
  have := h.len
  have := h.lo
  exact wr_of (by omega) (by omega)
theorem Ok.step {s : expr_Scope} {n : List api_ExprNode} {a : Int} (h : Ok s n a) :
    (expr_arity (ix n a).Op = 0 ∧ (m1_expr_Scope__primary s (ix n a)).2 = 0 ∧ wd s n a = (m1_expr_Scope__primary s (ix n a)).1 ∧ nx s n a = a + 1) ∨
    (expr_arity (ix n a).Op = 1 ∧ Ok s n (a + 1) ∧ (expr_combine (ix n a) [wd s n (a + 1), 0, 0]).2 = 0 ∧ wd s n a = (expr_combine (ix n a) [wd s n (a + 1), 0, 0]).1 ∧ nx s n a = nx s n (a + 1)) ∨
    (expr_arity (ix n a).Op = 2 ∧ Ok s n (a + 1) ∧ Ok s n (nx s n (a + 1)) ∧ (expr_combine (ix n a) [wd s n (a + 1), wd s n (nx s n (a + 1)), 0]).2 = 0 ∧ wd s n a = (expr_combine (ix n a) [wd s n (a + 1), wd s n (nx s n (a + 1)), 0]).1 ∧ nx s n a = nx s n (nx s n (a + 1))) ∨
    (expr_arity (ix n a).Op = 3 ∧ Ok s n (a + 1) ∧ Ok s n (nx s n (a + 1)) ∧ Ok s n (nx s n (nx s n (a + 1))) ∧ (expr_combine (ix n a) [wd s n (a + 1), wd s n (nx s n (a + 1)), wd s n (nx s n (nx s n (a + 1)))]).2 = 0 ∧ wd s n a = (expr_combine (ix n a) [wd s n (a + 1), wd s n (nx s n (a + 1)), wd s n (nx s n (nx s n (a + 1)))]).1 ∧ nx s n a = nx s n (nx s n (nx s n (a + 1)))) := by
  have hlt := h.lt
  have hw := h.wr1
  have hok := h.ok
  have hlo := h.lo
  have har := arity_le (ix n a).Op
  have e : m1_expr_Scope__check s n a = m1_expr_Scope__check_B m1_expr_Scope__check s n a := check_eq s n a h.lo h.len
  have mk : ∀ z : Int, 0 ≤ z → (m1_expr_Scope__check s n z).2.2 = 0 → Ok s n z := fun z h0 h1 => ⟨h0, h.len, h1⟩
  simp only [wd, nx]
  rw [e] at hok ⊢
  unfold m1_expr_Scope__check_B at hok ⊢
  simp only [LET, hw] at hok ⊢
  rw [if_neg (show ¬(decide ((n.length : Int) ≤ a) = true) by simpa using hlt)] at hok ⊢
  by_cases hn : expr_arity (ix n a).Op < 0
  · rw [if_pos (by simpa using hn)] at hok; cases hok
  rw [if_neg (show ¬(decide (expr_arity (ix n a).Op < 0) = true) by simpa using hn)] at hok ⊢
  by_cases h0 : expr_arity (ix n a).Op = 0
  · rw [if_pos (by simpa using h0)] at hok ⊢
    exact .inl ⟨h0, hok, rfl, rfl⟩
  rw [if_neg (show ¬(decide (expr_arity (ix n a).Op = 0) = true) by simpa using h0)] at hok ⊢
  right
  have hcase : expr_arity (ix n a).Op = 1 ∨ expr_arity (ix n a).Op = 2 ∨ expr_arity (ix n a).Op = 3 := by omega
  rcases hcase with ha | ha | ha
  · left
    rw [ha] at hok ⊢
    rw [show Int.toNat (1 - 0) = 1 from rfl] at hok ⊢
    simp only [m1_expr_Scope__check_L1, LET] at hok ⊢
    by_cases c1 : (m1_expr_Scope__check s n (a + 1)).2.2 = 0
    · rw [if_neg (by simp [c1])] at hok ⊢
      exact ⟨trivial, mk _ (by omega) c1, hok, rfl, rfl⟩
    · rw [if_pos (by simp [c1])] at hok; exact absurd hok c1
  · right; left
    rw [ha] at hok ⊢
    rw [show Int.toNat (2 - 0) = 2 from rfl] at hok ⊢
    simp only [m1_expr_Scope__check_L1, LET] at hok ⊢
    by_cases c1 : (m1_expr_Scope__check s n (a + 1)).2.2 = 0
    · rw [if_neg (by simp [c1])] at hok ⊢
      have n1 := cnext (s := s) (n := n) (a := a + 1) (by omega) h.len c1
      by_cases c2 : (m1_expr_Scope__check s n (m1_expr_Scope__check s n (a + 1)).2.1).2.2 = 0
      · rw [if_neg (by simp [c2])] at hok ⊢
        exact ⟨trivial, mk _ (by omega) c1, mk _ (by omega) c2, hok, rfl, rfl⟩
      · rw [if_pos (by simp [c2])] at hok; exact absurd hok c2
    · rw [if_pos (by simp [c1])] at hok; exact absurd hok c1
  · right; right
    rw [ha] at hok ⊢
    rw [show Int.toNat (3 - 0) = 3 from rfl] at hok ⊢
    simp only [m1_expr_Scope__check_L1, LET] at hok ⊢
    by_cases c1 : (m1_expr_Scope__check s n (a + 1)).2.2 = 0
    · rw [if_neg (by simp [c1])] at hok ⊢
      have n1 := cnext (s := s) (n := n) (a := a + 1) (by omega) h.len c1
      by_cases c2 : (m1_expr_Scope__check s n (m1_expr_Scope__check s n (a + 1)).2.1).2.2 = 0
      · rw [if_neg (by simp [c2])] at hok ⊢
        have n2 := cnext (s := s) (n := n) (by omega) h.len c2
        by_cases c3 : (m1_expr_Scope__check s n (m1_expr_Scope__check s n (m1_expr_Scope__check s n (a + 1)).2.1).2.1).2.2 = 0
        · rw [if_neg (by simp [c3])] at hok ⊢
          exact ⟨trivial, mk _ (by omega) c1, mk _ (by omega) c2, mk _ (by omega) c3, hok, rfl, rfl⟩
        · rw [if_pos (by simp [c3])] at hok; exact absurd hok c3
      · rw [if_pos (by simp [c2])] at hok; exact absurd hok c2
    · rw [if_pos (by simp [c1])] at hok; exact absurd hok c1
theorem Ok.gt {s : expr_Scope} {n : List api_ExprNode} {a : Int} (h : Ok s n a) : a < nx s n a := cnext h.lo h.len h.ok
/-! The machine -/
def VE (m : expr_machine) : Prop := Ok m.scope m.nodes m.next
abbrev st1 (m : expr_machine) : expr_machine := { scope := m.scope, env := m.env, args := m.args, nodes := m.nodes, next := wr (m.next + 1) }
def HR (rec_ : expr_machine → expr_value × expr_machine) : Prop := ∀ z, VE z → (rec_ z).2 = { z with next := nx z.scope z.nodes z.next }
theorem ve_lt {m : expr_machine} (h : VE m) : 0 ≤ m.next ∧ m.next < m.nodes.length := ⟨h.lo, h.lt⟩
theorem evp {m : expr_machine} (h : VE m) {y : Int} (ha : expr_arity (ix m.nodes m.next).Op = y) (h0 : y = 0) : (m1_expr_Scope__primary m.scope (ix m.nodes m.next)).2 = 0 := by
  subst ha
  rcases h.step with h | h | h | h
  · exact h.2.1
  all_goals (have := h.1; omega)
theorem ev1 {m : expr_machine} (h : VE m) {y : Int} (ha : expr_arity (ix m.nodes m.next).Op = y) (h0 : ¬y = 0) : VE (st1 m) := by
  subst ha
  have e : VE (st1 m) = Ok m.scope m.nodes (m.next + 1) := by show Ok _ _ (wr (m.next + 1)) = _; rw [h.wr1]
  rw [e]
  rcases h.step with h | h | h | h
  · exact absurd h.1 h0
  all_goals exact h.2.1
section
variable {rec_ : expr_machine → expr_value × expr_machine} {m : expr_machine} {y1 y2 : expr_value × expr_machine}
theorem snd1 (h : VE m) {y : Int} (ha : expr_arity (ix m.nodes m.next).Op = y) (h0 : ¬y = 0) (hr : HR rec_) (hw : rec_ (st1 m) = y1) : y1.2 = { m with next := nx m.scope m.nodes (m.next + 1) } := by
  rw [← hw, hr _ (ev1 h ha h0)]
  show ({ scope := _, env := _, args := _, nodes := _, next := nx m.scope m.nodes (wr (m.next + 1)) } : expr_machine) = _
  rw [h.wr1]
theorem ev2 (h : VE m) {y : Int} (ha : expr_arity (ix m.nodes m.next).Op = y) (h0 : ¬y = 0) (h1 : ¬y = 1) (hr : HR rec_) (hw : rec_ (st1 m) = y1) : VE y1.2 := by
  rw [snd1 h ha h0 hr hw]
  subst ha
  show Ok m.scope m.nodes (nx m.scope m.nodes (m.next + 1))
  rcases h.step with h | h | h | h
  · exact absurd h.1 h0
  · exact absurd h.1 h1
  all_goals exact h.2.2.1
theorem snd2 (h : VE m) {y : Int} (ha : expr_arity (ix m.nodes m.next).Op = y) (h0 : ¬y = 0) (h1 : ¬y = 1) (hr : HR rec_) (hw : rec_ (st1 m) = y1) (hw2 : rec_ y1.2 = y2) : y2.2 = { m with next := nx m.scope m.nodes (nx m.scope m.nodes (m.next + 1)) } := by
  rw [← hw2, hr _ (ev2 h ha h0 h1 hr hw), snd1 h ha h0 hr hw]
theorem ev3 (h : VE m) {y : Int} (ha : expr_arity (ix m.nodes m.next).Op = y) (h0 : ¬y = 0) (h1 : ¬y = 1) (h2 : ¬y = 2) (hr : HR rec_) (hw : rec_ (st1 m) = y1) (hw2 : rec_ y1.2 = y2) : VE y2.2 := by
  rw [snd2 h ha h0 h1 hr hw hw2]
  subst ha
  show Ok m.scope m.nodes (nx m.scope m.nodes (nx m.scope m.nodes (m.next + 1)))
  rcases h.step with h | h | h | h
  · exact absurd h.1 h0
  · exact absurd h.1 h1
  · exact absurd h.1 h2
  · exact h.2.2.2.1
theorem dv1 (h : VE m) {y : Int} (ha : expr_arity (ix m.nodes m.next).Op = y) (h0 : ¬y = 0) : (st1 m).nodes.length - (st1 m).next.toNat < m.nodes.length - m.next.toNat := by
  have h1 := ve_lt h
  show m.nodes.length - (wr (m.next + 1)).toNat < _
  rw [h.wr1]; omega
theorem dv2 (h : VE m) {y : Int} (ha : expr_arity (ix m.nodes m.next).Op = y) (h0 : ¬y = 0) (h1 : ¬y = 1) (hr : HR rec_) (hw : rec_ (st1 m) = y1) : y1.2.nodes.length - y1.2.next.toNat < m.nodes.length - m.next.toNat := by
  have e1 := ev1 h ha h0
  have g : m.next + 1 < nx m.scope m.nodes (m.next + 1) := by
    have := e1.gt
    have e : (st1 m).next = m.next + 1 := h.wr1
    rw [e] at this
    exact this
  rw [snd1 h ha h0 hr hw]
  have := ve_lt h
  show m.nodes.length - (nx m.scope m.nodes (m.next + 1)).toNat < _
  omega
theorem dv3 (h : VE m) {y : Int} (ha : expr_arity (ix m.nodes m.next).Op = y) (h0 : ¬y = 0) (h1 : ¬y = 1) (h2 : ¬y = 2) (hr : HR rec_) (hw : rec_ (st1 m) = y1) (hw2 : rec_ y1.2 = y2) : y2.2.nodes.length - y2.2.next.toNat < m.nodes.length - m.next.toNat := by
  have e1 := ev1 h ha h0
  have g : m.next + 1 < nx m.scope m.nodes (m.next + 1) := by
    have := e1.gt
    have e : (st1 m).next = m.next + 1 := h.wr1
    rw [e] at this
    exact this
  have e2 := ev2 h ha h0 h1 hr hw
  have g2 : nx m.scope m.nodes (m.next + 1) < nx m.scope m.nodes (nx m.scope m.nodes (m.next + 1)) := by
    have := e2.gt
    rw [snd1 h ha h0 hr hw] at this
    exact this
  rw [snd2 h ha h0 h1 hr hw hw2]
  have := ve_lt h
  show m.nodes.length - (nx m.scope m.nodes (nx m.scope m.nodes (m.next + 1))).toNat < _
  omega
end
theorem load_snd (m : expr_machine) (x : api_ExprNode) : (m2_expr_machine__load m x).2 = m := by
  unfold m2_expr_machine__load
  simp only [LET]
  repeat' split
  all_goals rfl
theorem eval_next : ∀ k : Nat, HR (m2_expr_machine__eval_R k)
  | 0 => fun z hz => by rw [m2_expr_machine__eval_R]; rfl
  | k + 1 => fun z hz => by
    have ih := eval_next k
    rw [m2_expr_machine__eval_R]
    unfold m2_expr_machine__eval_B
    simp only [LET, decide_eq_true_eq]
    have hs := hz.step
    have hw := hz.wr1
    by_cases h0 : expr_arity (ix z.nodes z.next).Op = 0
    · rw [if_pos h0]
      simp only [load_snd, hw]
      rcases hs with h | h | h | h
      · rw [h.2.2.2]
      all_goals (have := h.1; omega)
    · rw [if_neg h0]
      have e1 := ev1 hz rfl h0
      by_cases h1 : expr_arity (ix z.nodes z.next).Op = 1
      · rw [if_pos h1]
        have := snd1 hz rfl h0 ih rfl
        refine Eq.trans this ?_
        rcases hs with h | h | h | h
        · exact absurd h.1 h0
        · rw [h.2.2.2.2]
        all_goals (have := h.1; omega)
      · rw [if_neg h1]
        by_cases h2 : expr_arity (ix z.nodes z.next).Op = 2
        · rw [if_pos h2]
          have := snd2 hz rfl h0 h1 ih rfl rfl
          refine Eq.trans this ?_
          rcases hs with h | h | h | h
          · exact absurd h.1 h0
          · exact absurd h.1 h1
          · rw [h.2.2.2.2.2]
          · have := h.1; omega
        · rw [if_neg h2]
          have e3 := ev3 hz rfl h0 h1 h2 ih rfl rfl
          have key := ih _ e3
          have s2 := snd2 hz rfl h0 h1 ih rfl rfl
          rcases hs with h | h | h | h
          · exact absurd h.1 h0
          · exact absurd h.1 h1
          · exact absurd h.1 h2
          · have fin := key.trans (show _ = ({ z with next := nx z.scope z.nodes z.next } : expr_machine) by rw [s2, h.2.2.2.2.2.2])
            split
            · exact fin
            · exact fin
theorem chk_ok {n : List api_ExprNode} {s : expr_Scope} {y : Int × Int} (h : expr_Check n s = y) (h2 : y.2 = 0) : n.length ≤ 24 ∧ Ok s n 0 ∧ y.1 = wd s n 0 ∧ (n.length : Int) ≤ nx s n 0 := by
  subst h
  unfold expr_Check at h2 ⊢
  simp only [LET] at h2 ⊢
  split at h2
  · cases h2
  · rename_i h3
    rw [if_neg h3]
    simp only [decide_eq_true_eq, Int.not_lt] at h3
    split at h2
    · rename_i h4
      simp only [Bool.not_eq_true', decide_eq_false_iff_not] at h4
      exact absurd h2 h4
    · rename_i h4
      rw [if_neg h4]
      simp only [Bool.not_eq_true', decide_eq_false_iff_not, Decidable.not_not] at h4
      split at h2
      · cases h2
      · rename_i h5
        rw [if_neg h5]
        simp only [decide_eq_true_eq, Int.not_lt] at h5
        exact ⟨by omega, ⟨by omega, by omega, h4⟩, rfl, h5⟩
theorem ev0 {n : List api_ExprNode} {s : expr_Scope} {y : Int × Int} (h : expr_Check n s = y) (h2 : y.2 = 0) (e : api_Env) (a : List (BitVec 32)) : VE { scope := s, env := e, args := a, nodes := n, next := 0 } := (chk_ok h h2).2.1
theorem el_ok {e : api_Env} {r : api_FieldRef} {y : List (BitVec 32) × Bool} (h : env_element e r = y) (hb : y.2 = true) : 0 ≤ r.Field ∧ r.Field < y.1.length := by
  subst h
  unfold env_element at hb ⊢
  simp only [LET] at hb ⊢
  split at hb
  · rename_i h
    rw [if_pos h]
    simpa [env_in_uint32] using hb
  · rename_i h
    rw [if_neg h]
    simp only [Bool.and_eq_true, env_in_uint32, decide_eq_true_eq] at hb
    exact hb.2
section
variable {s : expr_Scope} {n : List api_ExprNode} {a : Int}
end
/-! Values -/
def mch (s : expr_Scope) (e : api_Env) (g : List (BitVec 32)) (n : List api_ExprNode) (a : Int) : expr_machine := { scope := s, env := e, args := g, nodes := n, next := a }
def vl (s : expr_Scope) (e : api_Env) (g : List (BitVec 32)) (n : List api_ExprNode) (a : Int) : expr_value := (m2_expr_machine__eval (mch s e g n a)).1
section
variable {s : expr_Scope} {n : List api_ExprNode} {a : Int} (e : api_Env) (g : List (BitVec 32))
end
/-! Widths -/
theorem RB.set {rs : List (List (BitVec 32))} (h : RB rs) {k : Nat} {l : List (BitVec 32)} (hl : l.length ≤ 1048576) : RB (rs.set k l) :=
  ⟨by rw [List.length_set]; exact h.o, fun x hx => by
    rcases List.mem_or_eq_of_mem_set hx with h1 | rfl
    · exact h.i x h1
    · exact hl⟩
theorem ix_len {l : List (List (BitVec 32))} (h : ∀ x ∈ l, x.length ≤ 1048576) (i : Int) : (ix l i).length ≤ 1048576 := by
  unfold ix
  rw [List.getD_eq_getElem?_getD]
  cases hk : l[i.toNat]? with
  | none => simp; decide
  | some x => exact h x (List.mem_of_getElem? hk)
theorem EB.put {e : api_Env} (h : EB e) (r : api_FieldRef) (v : BitVec 32) : EB (putF e r v) := by
  unfold putF
  split
  · exact h.setM
  · exact h.setF (by rw [List.length_set]; exact ix_len h.i _)
theorem EB.sw {e : api_Env} (h : EB e) (i : Int) (b : Bool) : EB (swE e i b) := by
  have := h.setV (k := i.toNat) (v := b)
  exact this.setF (by rw [List.length_replicate]; exact ix_len h.i _)
theorem EB.Set {p : api_Program} {e : api_Env} (h : EB e) (r : api_FieldRef) (v : BitVec 32) : EB (env_Set p e r v) := by
  unfold env_Set
  split
  · exact h.put _ _
  · exact h
theorem EB.switched {p : api_Program} {e : api_Env} (h : EB e) (i : Int) (a b : Bool) : EB (env_switched p e i a b) := by
  unfold env_switched
  split
  · exact h
  · exact h.sw _ _
theorem RB.Write {p : api_Program} {rs : List (List (BitVec 32))} (h : RB rs) (r : Int) (i v : BitVec 32) : RB (register_Write p rs r i v) := by
  unfold register_Write
  split
  · exact h.set (by rw [List.length_set]; exact ix_len h.i _)
  · exact h
theorem hs_ok {f : register_file} {r : Int} {i : BitVec 32} {y : Bool} (h : m1_register_file__has f r i = y) (hy : y = true) : (0 ≤ r ∧ r < f.p.Registers.length) ∧ r < f.cells.length ∧ (i.toNat : Int) < (ix f.cells r).length := by
  subst hy
  unfold m1_register_file__has at h
  split at h
  · cases h
  · rename_i hc
    simp only [Bool.or_eq_true, decide_eq_true_eq, not_or] at hc
    simp only [Bool.and_eq_true, decide_eq_true_eq] at h
    omega
theorem ck_ix {p : api_Program} {i : Int} {y : Int × Int} (h : action_Check p i = y) (h2 : y.2 = 0) : 0 ≤ i ∧ i < p.Actions.length := by
  subst h
  unfold action_Check at h2
  split at h2
  · simp at h2
  · rename_i h1
    simp at h1
    omega
/-- What the state of an action holds is no longer than a claim's arguments may be. -/
def SB (s : action_state) : Prop := EB s.env ∧ RB s.regs
theorem sb0 {e e' : api_Env} {rs rs' : List (List (BitVec 32))} (hE : EB e) (hR : RB rs) (h1 : env_Clone e = e') (h2 : action_duplicate rs = rs') : EB e' ∧ RB rs' := by subst h1 h2; exact ⟨hE, hR⟩
section
variable {s y : action_state} {x : api_Statement}
theorem sb1 (h : SB s) (e : m2_action_state__assign s x = y) : SB y := by subst e; exact ⟨h.1.Set _ _, h.2⟩
theorem sb2 (h : SB s) (e : m2_action_state__addHeader s x = y) : SB y := by subst e; exact ⟨h.1.switched _ _ _, h.2⟩
theorem sb3 (h : SB s) (e : m2_action_state__removeHeader s x = y) : SB y := by subst e; exact ⟨h.1.switched _ _ _, h.2⟩
theorem sb4 (h : SB s) (e : m2_action_state__read s x = y) : SB y := by subst e; exact ⟨h.1.Set _ _, h.2⟩
theorem sb5 (h : SB s) (e : m2_action_state__write s x = y) : SB y := by subst e; exact ⟨h.1, h.2.Write _ _ _⟩
end

theorem loop_iff {β : Type} {good : β} {F : Nat → Int → β} {K : Prop} {Q : Int → Prop} (h0 : ∀ i, F 0 i = good ↔ K) (hs : ∀ m i, F (m + 1) i = good ↔ (Q i ∧ F m (i + 1) = good)) : ∀ n i, F n i = good ↔ (K ∧ ∀ j, i ≤ j → j < i + n → Q j)
  | 0, i => by rw [h0]; exact ⟨fun h => ⟨h, fun j h1 h2 => by omega⟩, fun h => h.1⟩
  | n + 1, i => by
    rw [hs, loop_iff h0 hs n (i + 1)]
    constructor
    · rintro ⟨a, b, c⟩
      refine ⟨b, fun j h1 h2 => ?_⟩
      by_cases h3 : j = i
      · rw [h3]; exact a
      · exact c j (by omega) (by omega)
    · rintro ⟨a, b⟩
      exact ⟨b i (by omega) (by omega), a, fun j h1 h2 => b j (by omega) (by omega)⟩
theorem exec_inv {S : action_state → Prop} {p : api_Program} {c : api_ActionCall} {K : action_state → api_Env × List (List (BitVec 32))} {R : api_Env × List (List (BitVec 32)) → Prop}
    (h1 : ∀ s x, S s → S (m2_action_state__assign s x)) (h2 : ∀ s x, S s → S (m2_action_state__addHeader s x)) (h3 : ∀ s x, S s → S (m2_action_state__removeHeader s x)) (h4 : ∀ s x, S s → S (m2_action_state__read s x)) (h5 : ∀ s x, S s → S (m2_action_state__write s x))
    (hK : ∀ s, S s → R (K s)) : ∀ (n : Nat) (i : Int) (s : action_state), S s → R (action_Execute_L1 p c K n i s)
  | 0, i, s, h => by rw [action_Execute_L1]; exact hK s h
  | n + 1, i, s, h => by
    have ih := exec_inv (p := p) (c := c) h1 h2 h3 h4 h5 hK n
    rw [action_Execute_L1]
    simp only [LET]
    repeat' split
    · exact ih _ _ (h2 _ _ h)
    · exact ih _ _ (h3 _ _ h)
    · exact ih _ _ (h4 _ _ h)
    · exact ih _ _ (h5 _ _ h)
    · exact ih _ _ (h1 _ _ h)
/-- What a call gives is no longer than what it got. -/
theorem ex_sb {p : api_Program} {c : api_ActionCall} {e : api_Env} {rs : List (List (BitVec 32))} {y : api_Env × List (List (BitVec 32))} (hE : EB e) (hR : RB rs) (h : action_Execute p c e rs = y) : EB y.1 ∧ RB y.2 := by
  subst h
  unfold action_Execute
  simp only [LET]
  split
  · exact ⟨hE, hR⟩
  · exact exec_inv (S := SB) (K := fun s => (s.env, s.regs)) (R := fun x => EB x.1 ∧ RB x.2) (fun s x h => sb1 h rfl) (fun s x h => sb2 h rfl) (fun s x h => sb3 h rfl) (fun s x h => sb4 h rfl) (fun s x h => sb5 h rfl) (fun s h => h) _ _ _ ⟨hE, hR⟩
/-! A small argument holds no long list. -/
theorem all_wt {α : Type} {t : TR α} (h1 : ∀ a e, t.R a e → 1 ≤ wt e) : ∀ {l : List α} {es : List PV}, All2 t.R l es → l.length ≤ wtL es
  | [], [], _ => by simp
  | a :: l, e :: es, h => by
    obtain ⟨h2, h3⟩ := h
    have := all_wt h1 h3
    have := h1 _ _ h2
    simp only [wtL, List.length_cons]
    omega
  | [], _ :: _, h => by simp [All2] at h
  | _ :: _, [], h => by simp [All2] at h
theorem sl_wt {α : Type} {t : TR α} (h1 : ∀ a e, t.R a e → 1 ≤ wt e) {l : List α} {v : PV} (r : (tSl t).R l v) : l.length ≤ wt v := by
  obtain ⟨⟨es, he, hl⟩, _⟩ := r
  have := all_wt h1 hl
  rcases he with ⟨ad, rfl, rfl⟩ | ⟨tg, rfl⟩
  · simp only [wtL] at this; omega
  · simp only [wt]; omega
theorem sl_wt1 {α : Type} {t : TR α} {l : List α} {v : PV} (r : (tSl t).R l v) : 1 ≤ wt v := by
  obtain ⟨⟨es, he, hl⟩, _⟩ := r
  rcases he with ⟨ad, rfl, rfl⟩ | ⟨tg, rfl⟩
  · simp [wt]
  · simp only [wt]; omega
theorem all_in {α : Type} {t : TR α} : ∀ {l : List α} {es : List PV}, All2 t.R l es → ∀ a ∈ l, ∃ e, t.R a e ∧ wt e ≤ wtL es
  | a :: l, e :: es, h, b, hb => by
    obtain ⟨h2, h3⟩ := h
    rcases List.mem_cons.1 hb with rfl | hb
    · exact ⟨e, h2, by simp only [wtL]; omega⟩
    · obtain ⟨e', h4, h5⟩ := all_in h3 b hb
      exact ⟨e', h4, by simp only [wtL]; omega⟩
  | [], _, _, _, hb => by cases hb
  | _ :: _, [], h, _, _ => by simp [All2] at h
theorem sl_in {α : Type} {t : TR α} {l : List α} {v : PV} (r : (tSl t).R l v) : ∀ a ∈ l, ∃ e, t.R a e ∧ wt e ≤ wt v := by
  intro a ha
  obtain ⟨⟨es, he, hl⟩, _⟩ := r
  obtain ⟨e, h1, h2⟩ := all_in hl a ha
  refine ⟨e, h1, ?_⟩
  rcases he with ⟨ad, rfl, rfl⟩ | ⟨tg, rfl⟩
  · simp only [wtL] at h2; omega
  · simp only [wt]; omega
theorem wB (a : Bool) (e : PV) (h : tB.R a e) : 1 ≤ wt e := by have h' : e = _ := h; subst h'; simp [wt]
theorem w32 (a : BitVec 32) (e : PV) (h : tU32.R a e) : 1 ≤ wt e := by have h' : e = _ := h; subst h'; simp [wt]
theorem w8 (a : UInt8) (e : PV) (h : tU8.R a e) : 1 ≤ wt e := by have h' : e = _ := h; subst h'; simp [wt]
theorem case_eb {x : law16_Case} {v : PV} (r : law16_Case.t.R x v) (hw : wt v ≤ 1048576) : EB x.E ∧ RB x.Regs := by
  have r : law16_Case.R x v := r
  unfold law16_Case.R at r
  obtain ⟨c1, c2, c3, c4, c5, c6, c7, c8, c10, c11, c12, c13, c14, c15, h0, hc1, hc2, hc3, hc4, hc5, hc6, hc7, hc8, hc10, hc11, hc12, hc13, hc14, hc15⟩ := r
  subst h0
  have hw : wt c11 + wt c12 + wt c13 + wt c14 + wt c15 ≤ 1048576 := by
    rw [wt] at hw
    simp only [wtL] at hw
    clear hc1 hc2 hc3 hc4 hc5 hc6 hc7 hc8 hc10 hc11 hc12 hc13 hc14 hc15
    omega
  have k1 := sl_wt wB hc11
  have k2 := sl_wt (fun a e h => sl_wt1 h) hc12
  have k3 := sl_wt w32 hc13
  have k4 := sl_wt w8 hc14
  have k5 := sl_wt (fun a e h => sl_wt1 h) hc15
  refine ⟨⟨by omega, by omega, by omega, by omega, fun l hl => ?_⟩, ⟨by omega, fun l hl => ?_⟩⟩
  · obtain ⟨e, h1, h2⟩ := sl_in hc12 l hl
    have := sl_wt w32 h1
    omega
  · obtain ⟨e, h1, h2⟩ := sl_in hc15 l hl
    have := sl_wt w32 h1
    omega
/-! Other actions do not matter to a statement -/
def prA (A : List api_Action) (p : api_Program) : api_Program := { p with Actions := A }
def scA (A : List api_Action) (s : expr_Scope) : expr_Scope := { s with Program := prA A s.Program }
def maA (A : List api_Action) (m : expr_machine) : expr_machine := { m with scope := scA A m.scope }
def stA (A : List api_Action) (s : action_state) : action_state := { s with scope := scA A s.scope }
section
variable {A : List api_Action}
theorem prim_A (s : expr_Scope) (x : api_ExprNode) : m1_expr_Scope__primary (scA A s) x = m1_expr_Scope__primary s x := rfl
theorem chkL_A {s : expr_Scope} {l : List api_ExprNode} {r1 r2 : expr_Scope → List api_ExprNode → Int → Int × Int × Int} {K : Int → List Int → Int × Int × Int} (h : ∀ i, r1 (scA A s) l i = r2 s l i) :
    ∀ (m : Nat) (a b : Int) (c : List Int), m1_expr_Scope__check_L1 (scA A s) l r1 K m a b c = m1_expr_Scope__check_L1 s l r2 K m a b c
  | 0, a, b, c => rfl
  | m + 1, a, b, c => by
    rw [m1_expr_Scope__check_L1, m1_expr_Scope__check_L1]
    simp only [LET, h, chkL_A h m]
theorem chkR_A {s : expr_Scope} {l : List api_ExprNode} : ∀ (n : Nat) (i : Int), m1_expr_Scope__check_R n (scA A s) l i = m1_expr_Scope__check_R n s l i
  | 0, i => rfl
  | n + 1, i => by
    rw [m1_expr_Scope__check_R, m1_expr_Scope__check_R]
    unfold m1_expr_Scope__check_B
    simp only [LET, prim_A, chkL_A (chkR_A n)]
theorem chk_A (s : expr_Scope) (l : List api_ExprNode) : expr_Check l (scA A s) = expr_Check l s := by
  unfold expr_Check m1_expr_Scope__check
  simp only [LET, chkR_A]
theorem load_A (m : expr_machine) (x : api_ExprNode) : m2_expr_machine__load (maA A m) x = ((m2_expr_machine__load m x).1, maA A (m2_expr_machine__load m x).2) := by
  unfold m2_expr_machine__load
  have h : m1_expr_Scope__primary (maA A m).scope x = m1_expr_Scope__primary m.scope x := prim_A _ _
  simp only [LET, h]
  repeat' split
  all_goals first | rfl | contradiction
theorem evR_A : ∀ (n : Nat) (m : expr_machine), m2_expr_machine__eval_R n (maA A m) = ((m2_expr_machine__eval_R n m).1, maA A (m2_expr_machine__eval_R n m).2)
  | 0, m => by
    rw [m2_expr_machine__eval_R, m2_expr_machine__eval_R]
    have : (m1_expr_Scope__check (maA A m).scope (maA A m).nodes (maA A m).next) = (m1_expr_Scope__check m.scope m.nodes m.next) := by
      unfold m1_expr_Scope__check
      exact chkR_A _ _
    rw [this]
    rfl
  | n + 1, m => by
    have ih := evR_A n
    rw [m2_expr_machine__eval_R, m2_expr_machine__eval_R]
    have e : ({ scope := (maA A m).scope, env := (maA A m).env, args := (maA A m).args, nodes := (maA A m).nodes, next := wr ((maA A m).next + 1) } : expr_machine) = maA A { scope := m.scope, env := m.env, args := m.args, nodes := m.nodes, next := wr (m.next + 1) } := rfl
    have e2 : (maA A m).nodes = m.nodes := rfl
    have e3 : (maA A m).next = m.next := rfl
    unfold m2_expr_machine__eval_B
    simp only [LET]
    rw [e]
    simp only [e2, e3, ih, load_A]
    repeat' split
    all_goals first | rfl | contradiction
theorem eval_A (l : List api_ExprNode) (s : expr_Scope) (e : api_Env) (a : List (BitVec 32)) : expr_Eval l (scA A s) e a = expr_Eval l s e a := by
  unfold expr_Eval m2_expr_machine__eval
  simp only [LET, chk_A]
  have h := evR_A (A := A) (l.length - Int.toNat 0 + 1) { scope := s, env := e, args := a, nodes := l, next := 0 }
  have h' : (m2_expr_machine__eval_R (l.length - Int.toNat 0 + 1) { scope := scA A s, env := e, args := a, nodes := l, next := 0 }).1 = (m2_expr_machine__eval_R (l.length - Int.toNat 0 + 1) { scope := s, env := e, args := a, nodes := l, next := 0 }).1 := by
    have h2 : ({ scope := scA A s, env := e, args := a, nodes := l, next := 0 } : expr_machine) = maA A { scope := s, env := e, args := a, nodes := l, next := 0 } := rfl
    rw [h2, h]
  rw [h']
theorem sev_A (s : action_state) (l : List api_ExprNode) : m2_action_state__eval (stA A s) l = m2_action_state__eval s l := eval_A _ _ _ _
/-- One statement. -/
def stepS (s : action_state) (x : api_Statement) : action_state :=
  if x.Kind = 2 then m2_action_state__addHeader s x else if x.Kind = 3 then m2_action_state__removeHeader s x else if x.Kind = 4 then m2_action_state__read s x else if x.Kind = 5 then m2_action_state__write s x else m2_action_state__assign s x
theorem step_A (s : action_state) (x : api_Statement) : stepS (stA A s) x = stA A (stepS s x) := by
  unfold stepS
  repeat' split
  · rfl
  · rfl
  · unfold m2_action_state__read
    simp only [LET, sev_A]
    rfl
  · unfold m2_action_state__write
    simp only [LET, sev_A]
    rfl
  · unfold m2_action_state__assign
    simp only [LET, sev_A]
    rfl
theorem step_keep (s : action_state) (x : api_Statement) : (stepS s x).scope = s.scope ∧ (stepS s x).args = s.args := by
  unfold stepS
  repeat' split
  all_goals exact ⟨rfl, rfl⟩
/-- A row of statements. -/
def runS (b : List api_Statement) : Nat → Int → action_state → action_state
  | 0, _, s => s
  | n + 1, i, s => runS b n (i + 1) (stepS s (ix b i))
theorem exec_run {p : api_Program} {c : api_ActionCall} {K : action_state → api_Env × List (List (BitVec 32))} : ∀ (n : Nat) (i : Int) (s : action_state), action_Execute_L1 p c K n i s = K (runS (ix p.Actions c.Action).Body n i s)
  | 0, i, s => rfl
  | n + 1, i, s => by
    rw [action_Execute_L1, runS]
    simp only [LET, exec_run n, stepS, decide_eq_true_eq]
    repeat' split
    all_goals first | rfl | contradiction
theorem run_add (b : List api_Statement) (m : Nat) : ∀ (n : Nat) (i : Int) (s : action_state), runS b (n + m) i s = runS b m (i + n) (runS b n i s)
  | 0, i, s => by simp [runS]
  | n + 1, i, s => by
    rw [show n + 1 + m = (n + m) + 1 by omega, runS, runS, run_add b m n, show i + 1 + (n : Int) = i + ((n + 1 : Nat) : Int) by omega]
theorem run_ext {b b' : List api_Statement} {k : Int} : ∀ (n : Nat) (i : Int) (s : action_state), (∀ j, i ≤ j → j < i + n → ix b' j = ix b (j + k)) → runS b' n i s = runS b n (i + k) s
  | 0, i, s, h => rfl
  | n + 1, i, s, h => by
    rw [runS, runS, h i (by omega) (by omega), run_ext n (i + 1) _ (fun j h1 h2 => h j (by omega) (by omega)), show i + 1 + k = i + k + 1 by omega]
theorem run_A (b : List api_Statement) : ∀ (n : Nat) (i : Int) (s : action_state), runS b n i (stA A s) = stA A (runS b n i s)
  | 0, i, s => rfl
  | n + 1, i, s => by rw [runS, runS, step_A, run_A b n]
theorem run_keep (b : List api_Statement) : ∀ (n : Nat) (i : Int) (s : action_state), (runS b n i s).scope = s.scope ∧ (runS b n i s).args = s.args
  | 0, i, s => ⟨rfl, rfl⟩
  | n + 1, i, s => by
    rw [runS]
    have := run_keep b n (i + 1) (stepS s (ix b i))
    rw [this.1, this.2]
    exact step_keep _ _
end
theorem ix_sub2 {α : Type} [Inhabited α] {l : List α} {a b j : Int} (h0 : 0 ≤ j) (h1 : 0 ≤ a) (h2 : a + j < b) : ix (sub l a b) j = ix l (j + a) := by
  unfold ix sub
  rw [List.getD_eq_getElem?_getD, List.getD_eq_getElem?_getD, List.getElem?_take, if_pos (by omega), List.getElem?_drop]
  congr 2
  omega
theorem evs_refl (l : List (BitVec 32)) : ref12_EqualValues l l = true := by
  unfold ref12_EqualValues
  rw [if_neg (by simp)]
  generalize (Int.toNat ((l.length : Int) - 0)) = n
  generalize (0 : Int) = i
  induction n generalizing i with
  | zero => rfl
  | succ n ih => rw [ref12_EqualValues_L1, if_neg (by simp)]; exact ih _
theorem e15_refl (l : List (List (BitVec 32))) : ref15_Equal l l = true := by
  unfold ref15_Equal
  rw [if_neg (by simp)]
  generalize (Int.toNat ((l.length : Int) - 0)) = n
  generalize (0 : Int) = i
  induction n generalizing i with
  | zero => rfl
  | succ n ih => rw [ref15_Equal_L1]; simp only [LET, evs_refl]; exact ih _
theorem e12_refl (e : api_Env) : ref12_Equal e e = true := by
  unfold ref12_Equal
  rw [if_neg (by simp)]
  have h2 : ∀ (K : Unit → Bool) (n : Nat) (i : Int), K () = true → ref12_Equal_L2 e e K n i = true := by
    intro K n
    induction n with
    | zero => intro i h; rw [ref12_Equal_L2]; exact h
    | succ n ih => intro i h; rw [ref12_Equal_L2]; simp only [LET, evs_refl]; exact ih _ h
  have h3 : ∀ (n : Nat) (i : Int), ref12_Equal_L2 e e (fun _ => LET (ref12_EqualValues e.Metd e.Metd) fun y => y) n i = true := fun n i => h2 _ n i (evs_refl _)
  simp only [h3]
  generalize (Int.toNat ((e.Valid.length : Int) - 0)) = n
  generalize (0 : Int) = i
  induction n generalizing i with
  | zero => rfl
  | succ n ih => rw [ref12_Equal_L1, if_neg (by simp)]; exact ih _
/-! The checks of the halves -/
theorem stm_A {A : List api_Action} (s : expr_Scope) (x : api_Statement) : m1_action_checker__statement { scope := scA A s } x = m1_action_checker__statement { scope := s } x := by
  unfold m1_action_checker__statement m1_action_checker__value
  simp only [LET, chk_A]
  rfl
theorem chk_all {p : api_Program} {i : Int} : ∀ (n : Nat) (j : Int), (action_Check_L1 p i (fun _ => (0, 0)) n j).2 = 0 ↔ (True ∧ ∀ k, j ≤ k → k < j + n → m1_action_checker__statement { scope := { Program := p, Params := (ix p.Actions i).Params } } (ix (ix p.Actions i).Body k) = 0) :=
  loop_iff (F := fun n j => (action_Check_L1 p i (fun _ => (0, 0)) n j).2) (fun i => by simp [action_Check_L1]) (fun m j => by
    show (action_Check_L1 _ _ _ (m + 1) j).2 = 0 ↔ _
    rw [action_Check_L1]
    simp only [LET]
    split
    · rename_i h
      simp only [Bool.not_eq_true', decide_eq_false_iff_not] at h
      simp [h]
    · rename_i h
      simp only [Bool.not_eq_true', decide_eq_false_iff_not, Decidable.not_not] at h
      simp [h])
theorem decl_same {a b : api_Action} (h1 : b.Params = a.Params) (h2 : lexer_IsIdentifier b.Name = true) (h3 : b.Body.length ≤ a.Body.length) (h : action_declaration a = 0) : action_declaration b = 0 := by
  unfold action_declaration at h ⊢
  simp only [LET, h2, h1] at h ⊢
  split at h
  · simp at h
  · split at h
    · simp at h
    · rename_i h5
      simp only [Bool.or_eq_true, decide_eq_true_eq, not_or] at h5
      rw [if_neg (by simp), if_neg (by simp only [Bool.or_eq_true, decide_eq_true_eq, not_or]; omega)]
      refine Eq.trans ?_ h
      have e : ∀ (n : Nat) (i : Int), action_declaration_L1 b (fun _ => 0) n i = action_declaration_L1 a (fun _ => 0) n i := by
        intro n
        induction n with
        | zero => intro i; rfl
        | succ n ih => intro i; rw [action_declaration_L1, action_declaration_L1]; simp only [LET, h1, ih]
      exact e _ _
theorem chk_iff {p : api_Program} {i : Int} : (action_Check p i).2 = 0 ↔ (0 ≤ i ∧ i < p.Actions.length) ∧ action_declaration (ix p.Actions i) = 0 ∧ ∀ k : Int, 0 ≤ k → k < (ix p.Actions i).Body.length → m1_action_checker__statement { scope := { Program := p, Params := (ix p.Actions i).Params } } (ix (ix p.Actions i).Body k) = 0 := by
  unfold action_Check
  simp only [LET]
  split
  · rename_i h
    simp only [Bool.or_eq_true, decide_eq_true_eq] at h
    exact ⟨fun c => by simp at c, fun c => by omega⟩
  · rename_i h
    simp only [Bool.or_eq_true, decide_eq_true_eq, not_or] at h
    split
    · rename_i h2
      simp only [Bool.not_eq_true', decide_eq_false_iff_not] at h2
      exact ⟨fun c => absurd c h2, fun c => absurd c.2.1 h2⟩
    · rename_i h2
      simp only [Bool.not_eq_true', decide_eq_false_iff_not, Decidable.not_not] at h2
      rw [chk_all]
      exact ⟨fun c => ⟨by omega, h2, fun k h3 h4 => c.2 k h3 (by omega)⟩, fun c => ⟨trivial, fun k h3 h4 => c.2.2 k h3 (by omega)⟩⟩
/-- A part of an action is right where the action is. -/
theorem chk_part {p : api_Program} {i j : Int} {A : List api_Action} {b : api_Action} {k m : Int} (h : (action_Check p i).2 = 0) (hj : 0 ≤ j ∧ j < A.length) (hb : ix A j = b) (h1 : b.Params = (ix p.Actions i).Params) (h2 : lexer_IsIdentifier b.Name = true) (hk : 0 ≤ k) (hm : k ≤ m) (hl : m ≤ (ix p.Actions i).Body.length) (h3 : b.Body = sub (ix p.Actions i).Body k m) :
    (action_Check (prA A p) j).2 = 0 := by
  obtain ⟨a1, a2, a3⟩ := chk_iff.1 h
  have hlen := sub_len (l := (ix p.Actions i).Body) hk hm hl
  refine chk_iff.2 ⟨hj, ?_, fun x h4 h5 => ?_⟩
  · show action_declaration (ix A j) = 0
    rw [hb]
    exact decl_same h1 h2 (by rw [h3]; omega) a2
  · have h5' : x < (ix A j).Body.length := h5
    rw [hb, h3] at h5'
    show m1_action_checker__statement { scope := { Program := prA A p, Params := (ix A j).Params } } (ix (ix A j).Body x) = 0
    rw [hb, h1, h3, ix_sub2 h4 hk (by omega)]
    rw [← a3 (x + k) (by omega) (by omega)]
    exact stm_A (A := A) { Program := p, Params := (ix p.Actions i).Params } _
theorem call_same {p q : api_Program} {c d : api_ActionCall} (h0 : 0 ≤ c.Action ∧ c.Action < p.Actions.length) (h1 : 0 ≤ d.Action ∧ d.Action < q.Actions.length) (h2 : (ix q.Actions d.Action).Params = (ix p.Actions c.Action).Params) (h3 : d.Args = c.Args) : action_CheckCall q d = action_CheckCall p c := by
  unfold action_CheckCall
  have d1 : ¬ (decide (d.Action < 0) || decide ((q.Actions.length : Int) ≤ d.Action)) = true := by simp only [Bool.or_eq_true, decide_eq_true_eq, not_or]; omega
  have c1 : ¬ (decide (c.Action < 0) || decide ((p.Actions.length : Int) ≤ c.Action)) = true := by simp only [Bool.or_eq_true, decide_eq_true_eq, not_or]; omega
  rw [if_neg d1, if_neg c1, h2, h3]
  have e : ∀ (n : Nat) (i : Int), action_CheckCall_L1 q d (fun _ => 0) n i = action_CheckCall_L1 p c (fun _ => 0) n i := by
    intro n
    induction n with
    | zero => intro i; rfl
    | succ n ih => intro i; rw [action_CheckCall_L1, action_CheckCall_L1]; simp only [LET, h2, h3, ih]
  rw [e]
theorem exec_eq {p : api_Program} {c : api_ActionCall} {e : api_Env} {rs : List (List (BitVec 32))} (h : (action_Check p c.Action).2 = 0) (h2 : action_CheckCall p c = 0) :
    action_Execute p c e rs = ((runS (ix p.Actions c.Action).Body (ix p.Actions c.Action).Body.length 0 { scope := { Program := p, Params := (ix p.Actions c.Action).Params }, args := c.Args, env := e, regs := rs }).env, (runS (ix p.Actions c.Action).Body (ix p.Actions c.Action).Body.length 0 { scope := { Program := p, Params := (ix p.Actions c.Action).Params }, args := c.Args, env := e, regs := rs }).regs) := by
  unfold action_Execute
  simp only [LET]
  rw [if_neg (by simp [h, h2]), exec_run, show Int.toNat (((ix p.Actions c.Action).Body.length : Int) - 0) = (ix p.Actions c.Action).Body.length by omega]
  rfl
theorem exec_no {p : api_Program} {c : api_ActionCall} {e : api_Env} {rs : List (List (BitVec 32))} (h2 : action_CheckCall p c ≠ 0) : action_Execute p c e rs = (e, rs) := by
  unfold action_Execute
  simp only [LET]
  rw [if_pos (by simp [h2])]
  rfl
theorem ActionComposes_law (x : law16_Case) (at_ : Int) (hE : EB x.E) (hR : RB x.Regs) : law16_ActionComposes x at_ = true := by
  unfold law16_ActionComposes
  simp only [LET]
  split
  · rfl
  · split
    · rfl
    · rename_i h
      simp only [Bool.or_eq_true, Bool.not_eq_true', decide_eq_false_iff_not, decide_eq_true_eq, not_or, Decidable.not_not] at h
      obtain ⟨⟨⟨⟨hc, h0⟩, h1⟩, h2⟩, h3⟩ := h
      generalize hA : ([_, _] : List api_Action) = A
      have hA0 : ix A 0 = { Name := [102, 105, 114, 115, 116], Params := (ix x.P.Actions x.Call.Action).Params, Body := sub (ix x.P.Actions x.Call.Action).Body 0 at_ } := by rw [← hA]; rfl
      have hA1 : ix A 1 = { Name := [115, 101, 99, 111, 110, 100], Params := (ix x.P.Actions x.Call.Action).Params, Body := sub (ix x.P.Actions x.Call.Action).Body at_ (ix x.P.Actions x.Call.Action).Body.length } := by rw [← hA]; rfl
      have hAl : A.length = 2 := by rw [← hA]; rfl
      have hp : ({ Name := x.P.Name, Headers := x.P.Headers, Metadata := x.P.Metadata, Registers := x.P.Registers, Actions := A, Tables := x.P.Tables, States := x.P.States, Control := x.P.Control, Deparser := x.P.Deparser } : api_Program) = prA A x.P := rfl
      rw [hp]
      have c0 := chk_part (A := A) (j := 0) hc (by omega) hA0 rfl (show lexer_IsIdentifier [102, 105, 114, 115, 116] = true by decide) (Int.le_refl 0) (by omega) (by omega) rfl
      have c1 := chk_part (A := A) (j := 1) hc (by omega) hA1 rfl (show lexer_IsIdentifier [115, 101, 99, 111, 110, 100] = true by decide) (by omega) (by omega) (Int.le_refl _) rfl
      have k0 : action_CheckCall (prA A x.P) { Action := 0, Args := x.Call.Args } = action_CheckCall x.P x.Call := call_same (by omega) (by show 0 ≤ (0 : Int) ∧ (0 : Int) < A.length; omega) (by show (ix A 0).Params = _; rw [hA0]) rfl
      have k1 : action_CheckCall (prA A x.P) { Action := 1, Args := x.Call.Args } = action_CheckCall x.P x.Call := call_same (by omega) (by show 0 ≤ (1 : Int) ∧ (1 : Int) < A.length; omega) (by show (ix A 1).Params = _; rw [hA1]) rfl
      have key : action_Execute (prA A x.P) { Action := 1, Args := x.Call.Args } (action_Execute (prA A x.P) { Action := 0, Args := x.Call.Args } x.E x.Regs).1 (action_Execute (prA A x.P) { Action := 0, Args := x.Call.Args } x.E x.Regs).2 = action_Execute x.P x.Call x.E x.Regs := by
        by_cases hk : action_CheckCall x.P x.Call = 0
        · have z0 : ix (prA A x.P).Actions 0 = _ := hA0
          have z1 : ix (prA A x.P).Actions 1 = _ := hA1
          rw [exec_eq (c := { Action := 0, Args := x.Call.Args }) c0 (k0.trans hk), exec_eq (c := { Action := 1, Args := x.Call.Args }) c1 (k1.trans hk), exec_eq hc hk]
          simp only [z0, z1]
          generalize (ix x.P.Actions x.Call.Action).Body = B at *
          generalize (ix x.P.Actions x.Call.Action).Params = R at *
          have l0 := sub_len (l := B) (a := 0) (b := at_) (Int.le_refl 0) (by omega) (by omega)
          have l1 := sub_len (l := B) (a := at_) (b := (B.length : Int)) (by omega) (by omega) (Int.le_refl _)
          have e0 : (sub B 0 at_).length = at_.toNat := by omega
          have e1 : (sub B at_ B.length).length = B.length - at_.toNat := by omega
          rw [e0, e1]
          rw [run_ext (b := B) (k := 0) at_.toNat 0 _ (fun j q1 q2 => ix_sub2 (a := 0) (b := at_) q1 (Int.le_refl 0) (by omega))]
          rw [run_ext (b := B) (k := at_) (B.length - at_.toNat) 0 _ (fun j q1 q2 => ix_sub2 (a := at_) (b := (B.length : Int)) q1 (by omega) (by omega))]
          have s0 : ({ scope := { Program := prA A x.P, Params := R }, args := x.Call.Args, env := x.E, regs := x.Regs } : action_state) = stA A { scope := { Program := x.P, Params := R }, args := x.Call.Args, env := x.E, regs := x.Regs } := rfl
          rw [s0, run_A]
          generalize hT : ({ scope := { Program := x.P, Params := R }, args := x.Call.Args, env := x.E, regs := x.Regs } : action_state) = T
          have kp := run_keep B at_.toNat (0 + 0) T
          have s1 : ({ scope := { Program := prA A x.P, Params := R }, args := x.Call.Args, env := (stA A (runS B at_.toNat (0 + 0) T)).env, regs := (stA A (runS B at_.toNat (0 + 0) T)).regs } : action_state) = stA A (runS B at_.toNat (0 + 0) T) := by
            generalize runS B at_.toNat (0 + 0) T = U at kp
            obtain ⟨us, ua, ue, ur⟩ := U
            obtain ⟨k2, k3⟩ := kp
            simp only at k2 k3
            subst k2 k3
            rw [← hT]
            rfl
          rw [s1, run_A]
          have e2 := run_add B (B.length - at_.toNat) at_.toNat 0 T
          rw [show at_.toNat + (B.length - at_.toNat) = B.length by omega, show (0 : Int) + (at_.toNat : Int) = 0 + at_ by omega] at e2
          rw [e2]
          rfl
        · rw [exec_no (c := { Action := 0, Args := x.Call.Args }) (by rw [k0]; exact hk), exec_no (c := { Action := 1, Args := x.Call.Args }) (by rw [k1]; exact hk), exec_no hk]
      rw [key, e12_refl, e15_refl]
      rfl
end Go.Proofs.YtmonnlkagniolaaGreat
