/-
  Hand-written texts in one.
-/
import Derived.Test.YtmonnlkagniolaaGreatKDef
import Derived.Test.YtmonnlkagniolaaGreatPbP
import Derived.Test.YtmonnlkagniolaaGreatPbLaw
set_option linter.unusedVariables false
set_option linter.unusedSimpArgs false
set_option maxRecDepth 100000
namespace Go.Proofs.YtmonnlkagniolaaGreat
open Go Go.Pb Go.RowKit
theorem bitvec_valid_one (w : Int) : bitvec_valid [w] = decide (1 ≤ w ∧ w ≤ 32) := by
  unfold bitvec_valid
  have e : (Int.toNat (((([w] : List Int)).length : Int) - 0)) = 1 := by simp
  rw [e, bitvec_valid_L1, bitvec_valid_L1]
  have hx : ix ([w] : List Int) 0 = w := rfl
  rw [hx]
  by_cases h : 1 ≤ w ∧ w ≤ 32
  · rw [if_neg (by simp; omega)]; simp [h]
  · rw [if_pos (by simp; omega)]; simp [h]
theorem bitvec_valid_two (v w : Int) : bitvec_valid [v, w] = decide ((1 ≤ v ∧ v ≤ 32) ∧ (1 ≤ w ∧ w ≤ 32)) := by
  unfold bitvec_valid
  have e : (Int.toNat (((([v, w] : List Int)).length : Int) - 0)) = 2 := by simp
  rw [e, bitvec_valid_L1, bitvec_valid_L1, bitvec_valid_L1]
  have hx : ix ([v, w] : List Int) 0 = v ∧ ix ([v, w] : List Int) (0 + 1) = w := ⟨rfl, rfl⟩
  rw [hx.1, hx.2]
  by_cases h : 1 ≤ v ∧ v ≤ 32
  · rw [if_neg (by simp; omega)]
    by_cases h2 : 1 ≤ w ∧ w ≤ 32
    · rw [if_neg (by simp; omega)]; simp [h, h2]
    · rw [if_pos (by simp; omega)]; simp [h2]
  · rw [if_pos (by simp; omega)]; simp [h]
theorem mask_sh {w : Int} {b : Bool} (h : bitvec_valid [w] = b) (h2 : b = true) : 0 ≤ wr (32 - w) := by
  rw [bitvec_valid_one] at h
  subst h2
  simp only [decide_eq_true_eq] at h
  rw [wr_of (by omega) (by omega)]
  omega
theorem two_sh {v w : Int} {b : Bool} (h : bitvec_valid [v, w] = b) (h2 : b = true) : (1 ≤ v ∧ v ≤ 32) ∧ 1 ≤ w ∧ w ≤ 32 := by
  rw [bitvec_valid_two] at h
  subst h2
  simpa using h
theorem arity_le (op : Int) : expr_arity op ≤ 3 ∧ -1 ≤ expr_arity op := by
  unfold expr_arity
  simp only [LET]
  repeat' split
  all_goals omega
theorem ar {op y : Int} (h : expr_arity op = y) : y ≤ 3 ∧ -1 ≤ y := by rw [← h]; exact arity_le op
theorem pr3 {s : expr_Scope} {x : api_ExprNode} (h : (m1_expr_Scope__primary s x).2 = 0) (h1 : x.Op = 3) : 0 ≤ x.N := by
  unfold m1_expr_Scope__primary at h
  rw [if_neg (by simp [h1]), if_neg (by simp [h1]), if_pos (by simp [h1])] at h
  split at h
  · cases h
  · rename_i hc
    simp only [Bool.or_eq_true, decide_eq_true_eq, not_or] at hc
    omega
theorem pr4 {s : expr_Scope} {x : api_ExprNode} (h : (m1_expr_Scope__primary s x).2 = 0) (h1 : x.Op = 4) : 0 ≤ x.N := by
  unfold m1_expr_Scope__primary at h
  rw [if_neg (by simp [h1]), if_neg (by simp [h1]), if_neg (by simp [h1])] at h
  split at h
  · cases h
  · rename_i hc
    simp only [Bool.or_eq_true, decide_eq_true_eq, not_or] at hc
    omega
theorem check_next_L1 (s : expr_Scope) (n : List api_ExprNode) (rec_ : expr_Scope → List api_ExprNode → Int → Int × Int × Int) (a : Int) (ha : 0 ≤ a) (K : Int → List Int → Int × Int × Int) (hr : ∀ z : Int, 0 ≤ z → (rec_ s n z).2.2 = 0 → z < (rec_ s n z).2.1) (hK : ∀ x z, a < x → (K x z).2.2 = 0 → a < (K x z).2.1) :
    ∀ (m : Nat) (x i : Int) (z : List Int), a < x → (m1_expr_Scope__check_L1 s n rec_ K m x i z).2.2 = 0 → a < (m1_expr_Scope__check_L1 s n rec_ K m x i z).2.1
  | 0, x, i, z, hx, h => by rw [m1_expr_Scope__check_L1] at h ⊢; exact hK x z hx h
  | m + 1, x, i, z, hx, h => by
    rw [m1_expr_Scope__check_L1] at h ⊢
    simp only [LET] at h ⊢
    split at h
    · rename_i hc
      simp only [Bool.not_eq_true', decide_eq_false_iff_not] at hc
      exact absurd h hc
    · rename_i hc
      rw [if_neg hc]
      simp only [Bool.not_eq_true', decide_eq_false_iff_not, Decidable.not_not] at hc
      have := hr x (by omega) hc
      exact check_next_L1 s n rec_ a ha K hr hK m _ _ _ (by omega) h
theorem check_next : ∀ (k : Nat) (s : expr_Scope) (n : List api_ExprNode) (a : Int), 0 ≤ a → n.length ≤ 1000000 → (m1_expr_Scope__check_R k s n a).2.2 = 0 → a < (m1_expr_Scope__check_R k s n a).2.1
  | 0, s, n, a, ha, hn, h => by rw [m1_expr_Scope__check_R] at h; cases h
  | k + 1, s, n, a, ha, hn, h => by
    rw [m1_expr_Scope__check_R] at h ⊢
    unfold m1_expr_Scope__check_B at h ⊢
    simp only [LET] at h ⊢
    split at h
    · cases h
    · rename_i h1
      rw [if_neg h1]
      simp only [decide_eq_true_eq, Int.not_le] at h1
      have ew : wr (a + 1) = a + 1 := wr_of (by omega) (by omega)
      split at h
      · cases h
      · rename_i h2
        rw [if_neg h2]
        split at h
        · rename_i h3
          rw [if_pos h3]
          show a < wr (a + 1)
          omega
        · rename_i h3
          rw [if_neg h3]
          exact check_next_L1 s n _ a ha _ (fun z hz hz2 => check_next k s n z hz hn hz2) (fun x z hx _ => hx) _ _ _ _ (by omega) h
theorem check_fuel_L1 (s : expr_Scope) (n : List api_ExprNode) (r1 r2 : expr_Scope → List api_ExprNode → Int → Int × Int × Int) (a : Int) (ha : 0 ≤ a) (K : Int → List Int → Int × Int × Int) (hr : ∀ z : Int, a < z → r1 s n z = r2 s n z) (hn : ∀ z : Int, 0 ≤ z → (r1 s n z).2.2 = 0 → z < (r1 s n z).2.1) :
    ∀ (m : Nat) (x i : Int) (z : List Int), a < x → m1_expr_Scope__check_L1 s n r1 K m x i z = m1_expr_Scope__check_L1 s n r2 K m x i z
  | 0, x, i, z, hx => by rw [m1_expr_Scope__check_L1, m1_expr_Scope__check_L1]
  | m + 1, x, i, z, hx => by
    rw [m1_expr_Scope__check_L1, m1_expr_Scope__check_L1]
    simp only [LET, ← hr x hx]
    split
    · rfl
    · rename_i hc
      simp only [Bool.not_eq_true', decide_eq_false_iff_not, Decidable.not_not] at hc
      have := hn x (by omega) hc
      exact check_fuel_L1 s n r1 r2 a ha K hr hn m _ _ _ (by omega)
theorem check_fuel : ∀ (k k' : Nat) (s : expr_Scope) (n : List api_ExprNode) (a : Int), 0 ≤ a → n.length ≤ 1000000 → n.length - a.toNat < k → n.length - a.toNat < k' → m1_expr_Scope__check_R k s n a = m1_expr_Scope__check_R k' s n a
  | 0, k', s, n, a, ha, hn, h1, h2 => by omega
  | k + 1, 0, s, n, a, ha, hn, h1, h2 => by omega
  | k + 1, k' + 1, s, n, a, ha, hn, h1, h2 => by
    rw [m1_expr_Scope__check_R, m1_expr_Scope__check_R]
    unfold m1_expr_Scope__check_B
    simp only [LET]
    split
    · rfl
    · rename_i h3
      simp only [decide_eq_true_eq, Int.not_le] at h3
      have ew : wr (a + 1) = a + 1 := wr_of (by omega) (by omega)
      split
      · rfl
      · split
        · rfl
        · exact check_fuel_L1 s n _ _ a ha _ (fun z hz => check_fuel k k' s n z (by omega) hn (by omega) (by omega)) (fun z hz h => check_next k s n z hz hn h) _ _ _ _ (by omega)
theorem check_eq (s : expr_Scope) (n : List api_ExprNode) (a : Int) (ha : 0 ≤ a) (hn : n.length ≤ 1000000) : m1_expr_Scope__check s n a = m1_expr_Scope__check_B m1_expr_Scope__check s n a := by
  have e : m1_expr_Scope__check s n a = m1_expr_Scope__check_B (m1_expr_Scope__check_R (n.length - a.toNat)) s n a := by
    unfold m1_expr_Scope__check
    rw [m1_expr_Scope__check_R]
  rw [e]
  unfold m1_expr_Scope__check_B
  simp only [LET]
  split
  · rfl
  · rename_i h3
    simp only [decide_eq_true_eq, Int.not_le] at h3
    have ew : wr (a + 1) = a + 1 := wr_of (by omega) (by omega)
    split
    · rfl
    · split
      · rfl
      · exact check_fuel_L1 s n _ _ a ha _ (fun z hz => check_fuel (n.length - a.toNat) (n.length - z.toNat + 1) s n z (by omega) hn (by omega) (by omega)) (fun z hz h => check_next _ s n z hz hn h) _ _ _ _ (by omega)
theorem cnext {s : expr_Scope} {n : List api_ExprNode} {a : Int} (ha : 0 ≤ a) (hn : n.length ≤ 1000000) (h : (m1_expr_Scope__check s n a).2.2 = 0) : a < (m1_expr_Scope__check s n a).2.1 := check_next _ s n a ha hn h
/-- A valid subexpression at an index: what its check says, part by part. -/
structure Ok (s : expr_Scope) (n : List api_ExprNode) (a : Int) : Prop where
  lo : 0 ≤ a
  len : n.length ≤ 1000000
  ok : (m1_expr_Scope__check s n a).2.2 = 0
def nx (s : expr_Scope) (n : List api_ExprNode) (a : Int) : Int := (m1_expr_Scope__check s n a).2.1
def wd (s : expr_Scope) (n : List api_ExprNode) (a : Int) : Int := (m1_expr_Scope__check s n a).1
theorem Ok.lt {s : expr_Scope} {n : List api_ExprNode} {a : Int} (h : Ok s n a) : a < n.length := by
  have := h.ok
  rw [check_eq s n a h.lo h.len] at this
  unfold m1_expr_Scope__check_B at this
  by_cases hc : (n.length : Int) ≤ a
  · rw [if_pos (by simpa using hc)] at this; cases this
  · omega
theorem Ok.wr1 {s : expr_Scope} {n : List api_ExprNode} {a : Int} (h : Ok s n a) : wr (a + 1) = a + 1 := by
  have := h.lt
  have := h.len
  have := h.lo
  exact wr_of (by omega) (by omega)
theorem Ok.step {s : expr_Scope} {n : List api_ExprNode} {a : Int} (h : Ok s n a) :
    (expr_arity (ix n a).Op = 0 ∧ (m1_expr_Scope__primary s (ix n a)).2 = 0 ∧ wd s n a = (m1_expr_Scope__primary s (ix n a)).1 ∧ nx s n a = a + 1) ∨
    (expr_arity (ix n a).Op = 1 ∧ Ok s n (a + 1) ∧ (expr_combine (ix n a) [wd s n (a + 1), 0, 0]).2 = 0 ∧ wd s n a = (expr_combine (ix n a) [wd s n (a + 1), 0, 0]).1 ∧ nx s n a = nx s n (a + 1)) ∨
    (expr_arity (ix n a).Op = 2 ∧ Ok s n (a + 1) ∧ Ok s n (nx s n (a + 1)) ∧ (expr_combine (ix n a) [wd s n (a + 1), wd s n (nx s n (a + 1)), 0]).2 = 0 ∧ wd s n a = (expr_combine (ix n a) [wd s n (a + 1), wd s n (nx s n (a + 1)), 0]).1 ∧ nx s n a = nx s n (nx s n (a + 1))) ∨
    (expr_arity (ix n a).Op = 3 ∧ Ok s n (a + 1) ∧ Ok s n (nx s n (a + 1)) ∧ Ok s n (nx s n (nx s n (a + 1))) ∧ (expr_combine (ix n a) [wd s n (a + 1), wd s n (nx s n (a + 1)), wd s n (nx s n (nx s n (a + 1)))]).2 = 0 ∧ wd s n a = (expr_combine (ix n a) [wd s n (a + 1), wd s n (nx s n (a + 1)), wd s n (nx s n (nx s n (a + 1)))]).1 ∧ nx s n a = nx s n (nx s n (nx s n (a + 1)))) := by
  have hlt := h.lt
  have hw := h.wr1
  have hok := h.ok
  have hlo := h.lo
  have har := arity_le (ix n a).Op
  have e : m1_expr_Scope__check s n a = m1_expr_Scope__check_B m1_expr_Scope__check s n a := check_eq s n a h.lo h.len
  have mk : ∀ z : Int, 0 ≤ z → (m1_expr_Scope__check s n z).2.2 = 0 → Ok s n z := fun z h0 h1 => ⟨h0, h.len, h1⟩
  simp only [wd, nx]
  rw [e] at hok ⊢
  unfold m1_expr_Scope__check_B at hok ⊢
  simp only [LET, hw] at hok ⊢
  rw [if_neg (show ¬(decide ((n.length : Int) ≤ a) = true) by simpa using hlt)] at hok ⊢
  by_cases hn : expr_arity (ix n a).Op < 0
  · rw [if_pos (by simpa using hn)] at hok; cases hok
  rw [if_neg (show ¬(decide (expr_arity (ix n a).Op < 0) = true) by simpa using hn)] at hok ⊢
  by_cases h0 : expr_arity (ix n a).Op = 0
  · rw [if_pos (by simpa using h0)] at hok ⊢
    exact .inl ⟨h0, hok, rfl, rfl⟩
  rw [if_neg (show ¬(decide (expr_arity (ix n a).Op = 0) = true) by simpa using h0)] at hok ⊢
  right
  have hcase : expr_arity (ix n a).Op = 1 ∨ expr_arity (ix n a).Op = 2 ∨ expr_arity (ix n a).Op = 3 := by omega
  rcases hcase with ha | ha | ha
  · left
    rw [ha] at hok ⊢
    rw [show Int.toNat (1 - 0) = 1 from rfl] at hok ⊢
    simp only [m1_expr_Scope__check_L1, LET] at hok ⊢
    by_cases c1 : (m1_expr_Scope__check s n (a + 1)).2.2 = 0
    · rw [if_neg (by simp [c1])] at hok ⊢
      exact ⟨trivial, mk _ (by omega) c1, hok, rfl, rfl⟩
    · rw [if_pos (by simp [c1])] at hok; exact absurd hok c1
  · right; left
    rw [ha] at hok ⊢
    rw [show Int.toNat (2 - 0) = 2 from rfl] at hok ⊢
    simp only [m1_expr_Scope__check_L1, LET] at hok ⊢
    by_cases c1 : (m1_expr_Scope__check s n (a + 1)).2.2 = 0
    · rw [if_neg (by simp [c1])] at hok ⊢
      have n1 := cnext (s := s) (n := n) (a := a + 1) (by omega) h.len c1
      by_cases c2 : (m1_expr_Scope__check s n (m1_expr_Scope__check s n (a + 1)).2.1).2.2 = 0
      · rw [if_neg (by simp [c2])] at hok ⊢
        exact ⟨trivial, mk _ (by omega) c1, mk _ (by omega) c2, hok, rfl, rfl⟩
      · rw [if_pos (by simp [c2])] at hok; exact absurd hok c2
    · rw [if_pos (by simp [c1])] at hok; exact absurd hok c1
  · right; right
    rw [ha] at hok ⊢
    rw [show Int.toNat (3 - 0) = 3 from rfl] at hok ⊢
    simp only [m1_expr_Scope__check_L1, LET] at hok ⊢
    by_cases c1 : (m1_expr_Scope__check s n (a + 1)).2.2 = 0
    · rw [if_neg (by simp [c1])] at hok ⊢
      have n1 := cnext (s := s) (n := n) (a := a + 1) (by omega) h.len c1
      by_cases c2 : (m1_expr_Scope__check s n (m1_expr_Scope__check s n (a + 1)).2.1).2.2 = 0
      · rw [if_neg (by simp [c2])] at hok ⊢
        have n2 := cnext (s := s) (n := n) (by omega) h.len c2
        by_cases c3 : (m1_expr_Scope__check s n (m1_expr_Scope__check s n (m1_expr_Scope__check s n (a + 1)).2.1).2.1).2.2 = 0
        · rw [if_neg (by simp [c3])] at hok ⊢
          exact ⟨trivial, mk _ (by omega) c1, mk _ (by omega) c2, mk _ (by omega) c3, hok, rfl, rfl⟩
        · rw [if_pos (by simp [c3])] at hok; exact absurd hok c3
      · rw [if_pos (by simp [c2])] at hok; exact absurd hok c2
    · rw [if_pos (by simp [c1])] at hok; exact absurd hok c1
theorem Ok.gt {s : expr_Scope} {n : List api_ExprNode} {a : Int} (h : Ok s n a) : a < nx s n a := cnext h.lo h.len h.ok
/-! The machine -/
def VE (m : expr_machine) : Prop := Ok m.scope m.nodes m.next
abbrev st1 (m : expr_machine) : expr_machine := { scope := m.scope, env := m.env, args := m.args, nodes := m.nodes, next := wr (m.next + 1) }
def HR (rec_ : expr_machine → expr_value × expr_machine) : Prop := ∀ z, VE z → (rec_ z).2 = { z with next := nx z.scope z.nodes z.next }
theorem ve_lt {m : expr_machine} (h : VE m) : 0 ≤ m.next ∧ m.next < m.nodes.length := ⟨h.lo, h.lt⟩
theorem evp {m : expr_machine} (h : VE m) {y : Int} (ha : expr_arity (ix m.nodes m.next).Op = y) (h0 : y = 0) : (m1_expr_Scope__primary m.scope (ix m.nodes m.next)).2 = 0 := by
  subst ha
  rcases h.step with h | h | h | h
  · exact h.2.1
  all_goals (have := h.1; omega)
theorem ev1 {m : expr_machine} (h : VE m) {y : Int} (ha : expr_arity (ix m.nodes m.next).Op = y) (h0 : ¬y = 0) : VE (st1 m) := by
  subst ha
  have e : VE (st1 m) = Ok m.scope m.nodes (m.next + 1) := by show Ok _ _ (wr (m.next + 1)) = _; rw [h.wr1]
  rw [e]
  rcases h.step with h | h | h | h
  · exact absurd h.1 h0
  all_goals exact h.2.1
section
variable {rec_ : expr_machine → expr_value × expr_machine} {m : expr_machine} {y1 y2 : expr_value × expr_machine}
theorem snd1 (h : VE m) {y : Int} (ha : expr_arity (ix m.nodes m.next).Op = y) (h0 : ¬y = 0) (hr : HR rec_) (hw : rec_ (st1 m) = y1) : y1.2 = { m with next := nx m.scope m.nodes (m.next + 1) } := by
  rw [← hw, hr _ (ev1 h ha h0)]
  show ({ scope := _, env := _, args := _, nodes := _, next := nx m.scope m.nodes (wr (m.next + 1)) } : expr_machine) = _
  rw [h.wr1]
theorem ev2 (h : VE m) {y : Int} (ha : expr_arity (ix m.nodes m.next).Op = y) (h0 : ¬y = 0) (h1 : ¬y = 1) (hr : HR rec_) (hw : rec_ (st1 m) = y1) : VE y1.2 := by
  rw [snd1 h ha h0 hr hw]
  subst ha
  show Ok m.scope m.nodes (nx m.scope m.nodes (m.next + 1))
  rcases h.step with h | h | h | h
  · exact absurd h.1 h0
  · exact absurd h.1 h1
  all_goals exact h.2.2.1
theorem snd2 (h : VE m) {y : Int} (ha : expr_arity (ix m.nodes m.next).Op = y) (h0 : ¬y = 0) (h1 : ¬y = 1) (hr : HR rec_) (hw : rec_ (st1 m) = y1) (hw2 : rec_ y1.2 = y2) : y2.2 = { m with next := nx m.scope m.nodes (nx m.scope m.nodes (m.next + 1)) } := by
  rw [← hw2, hr _ (ev2 h ha h0 h1 hr hw), snd1 h ha h0 hr hw]
theorem ev3 (h : VE m) {y : Int} (ha : expr_arity (ix m.nodes m.next).Op = y) (h0 : ¬y = 0) (h1 : ¬y = 1) (h2 : ¬y = 2) (hr : HR rec_) (hw : rec_ (st1 m) = y1) (hw2 : rec_ y1.2 = y2) : VE y2.2 := by
  rw [snd2 h ha h0 h1 hr hw hw2]
  subst ha
  show Ok m.scope m.nodes (nx m.scope m.nodes (nx m.scope m.nodes (m.next + 1)))
  rcases h.step with h | h | h | h
  · exact absurd h.1 h0
  · exact absurd h.1 h1
  · exact absurd h.1 h2
  · exact h.2.2.2.1
theorem dv1 (h : VE m) {y : Int} (ha : expr_arity (ix m.nodes m.next).Op = y) (h0 : ¬y = 0) : (st1 m).nodes.length - (st1 m).next.toNat < m.nodes.length - m.next.toNat := by
  have h1 := ve_lt h
  show m.nodes.length - (wr (m.next + 1)).toNat < _
  rw [h.wr1]; omega
theorem dv2 (h : VE m) {y : Int} (ha : expr_arity (ix m.nodes m.next).Op = y) (h0 : ¬y = 0) (h1 : ¬y = 1) (hr : HR rec_) (hw : rec_ (st1 m) = y1) : y1.2.nodes.length - y1.2.next.toNat < m.nodes.length - m.next.toNat := by
  have e1 := ev1 h ha h0
  have g : m.next + 1 < nx m.scope m.nodes (m.next + 1) := by
    have := e1.gt
    have e : (st1 m).next = m.next + 1 := h.wr1
    rw [e] at this
    exact this
  rw [snd1 h ha h0 hr hw]
  have := ve_lt h
  show m.nodes.length - (nx m.scope m.nodes (m.next + 1)).toNat < _
  omega
theorem dv3 (h : VE m) {y : Int} (ha : expr_arity (ix m.nodes m.next).Op = y) (h0 : ¬y = 0) (h1 : ¬y = 1) (h2 : ¬y = 2) (hr : HR rec_) (hw : rec_ (st1 m) = y1) (hw2 : rec_ y1.2 = y2) : y2.2.nodes.length - y2.2.next.toNat < m.nodes.length - m.next.toNat := by
  have e1 := ev1 h ha h0
  have g : m.next + 1 < nx m.scope m.nodes (m.next + 1) := by
    have := e1.gt
    have e : (st1 m).next = m.next + 1 := h.wr1
    rw [e] at this
    exact this
  have e2 := ev2 h ha h0 h1 hr hw
  have g2 : nx m.scope m.nodes (m.next + 1) < nx m.scope m.nodes (nx m.scope m.nodes (m.next + 1)) := by
    have := e2.gt
    rw [snd1 h ha h0 hr hw] at this
    exact this
  rw [snd2 h ha h0 h1 hr hw hw2]
  have := ve_lt h
  show m.nodes.length - (nx m.scope m.nodes (nx m.scope m.nodes (m.next + 1))).toNat < _
  omega
end
theorem load_snd (m : expr_machine) (x : api_ExprNode) : (m2_expr_machine__load m x).2 = m := by
  unfold m2_expr_machine__load
  simp only [LET]
  repeat' split
  all_goals rfl
theorem eval_next : ∀ k : Nat, HR (m2_expr_machine__eval_R k)
  | 0 => fun z hz => by rw [m2_expr_machine__eval_R]; rfl
  | k + 1 => fun z hz => by
    have ih := eval_next k
    rw [m2_expr_machine__eval_R]
    unfold m2_expr_machine__eval_B
    simp only [LET, decide_eq_true_eq]
    have hs := hz.step
    have hw := hz.wr1
    by_cases h0 : expr_arity (ix z.nodes z.next).Op = 0
    · rw [if_pos h0]
      simp only [load_snd, hw]
      rcases hs with h | h | h | h
      · rw [h.2.2.2]
      all_goals (have := h.1; omega)
    · rw [if_neg h0]
      have e1 := ev1 hz rfl h0
      by_cases h1 : expr_arity (ix z.nodes z.next).Op = 1
      · rw [if_pos h1]
        have := snd1 hz rfl h0 ih rfl
        refine Eq.trans this ?_
        rcases hs with h | h | h | h
        · exact absurd h.1 h0
        · rw [h.2.2.2.2]
        all_goals (have := h.1; omega)
      · rw [if_neg h1]
        by_cases h2 : expr_arity (ix z.nodes z.next).Op = 2
        · rw [if_pos h2]
          have := snd2 hz rfl h0 h1 ih rfl rfl
          refine Eq.trans this ?_
          rcases hs with h | h | h | h
          · exact absurd h.1 h0
          · exact absurd h.1 h1
          · rw [h.2.2.2.2.2]
          · have := h.1; omega
        · rw [if_neg h2]
          have e3 := ev3 hz rfl h0 h1 h2 ih rfl rfl
          have key := ih _ e3
          have s2 := snd2 hz rfl h0 h1 ih rfl rfl
          rcases hs with h | h | h | h
          · exact absurd h.1 h0
          · exact absurd h.1 h1
          · exact absurd h.1 h2
          · have fin := key.trans (show _ = ({ z with next := nx z.scope z.nodes z.next } : expr_machine) by rw [s2, h.2.2.2.2.2.2])
            split
            · exact fin
            · exact fin
theorem chk_ok {n : List api_ExprNode} {s : expr_Scope} {y : Int × Int} (h : expr_Check n s = y) (h2 : y.2 = 0) : n.length ≤ 24 ∧ Ok s n 0 ∧ y.1 = wd s n 0 ∧ (n.length : Int) ≤ nx s n 0 := by
  subst h
  unfold expr_Check at h2 ⊢
  simp only [LET] at h2 ⊢
  split at h2
  · cases h2
  · rename_i h3
    rw [if_neg h3]
    simp only [decide_eq_true_eq, Int.not_lt] at h3
    split at h2
    · rename_i h4
      simp only [Bool.not_eq_true', decide_eq_false_iff_not] at h4
      exact absurd h2 h4
    · rename_i h4
      rw [if_neg h4]
      simp only [Bool.not_eq_true', decide_eq_false_iff_not, Decidable.not_not] at h4
      split at h2
      · cases h2
      · rename_i h5
        rw [if_neg h5]
        simp only [decide_eq_true_eq, Int.not_lt] at h5
        exact ⟨by omega, ⟨by omega, by omega, h4⟩, rfl, h5⟩
theorem ev0 {n : List api_ExprNode} {s : expr_Scope} {y : Int × Int} (h : expr_Check n s = y) (h2 : y.2 = 0) (e : api_Env) (a : List (BitVec 32)) : VE { scope := s, env := e, args := a, nodes := n, next := 0 } := (chk_ok h h2).2.1
theorem el_ok {e : api_Env} {r : api_FieldRef} {y : List (BitVec 32) × Bool} (h : env_element e r = y) (hb : y.2 = true) : 0 ≤ r.Field ∧ r.Field < y.1.length := by
  subst h
  unfold env_element at hb ⊢
  simp only [LET] at hb ⊢
  split at hb
  · rename_i h
    rw [if_pos h]
    simpa [env_in_uint32] using hb
  · rename_i h
    rw [if_neg h]
    simp only [Bool.and_eq_true, env_in_uint32, decide_eq_true_eq] at hb
    exact hb.2
section
variable {s : expr_Scope} {n : List api_ExprNode} {a : Int}
end
/-! Values -/
def mch (s : expr_Scope) (e : api_Env) (g : List (BitVec 32)) (n : List api_ExprNode) (a : Int) : expr_machine := { scope := s, env := e, args := g, nodes := n, next := a }
def vl (s : expr_Scope) (e : api_Env) (g : List (BitVec 32)) (n : List api_ExprNode) (a : Int) : expr_value := (m2_expr_machine__eval (mch s e g n a)).1
section
variable {s : expr_Scope} {n : List api_ExprNode} {a : Int} (e : api_Env) (g : List (BitVec 32))
end
/-! Widths -/
theorem rw_le {p : api_Program} {r : api_FieldRef} {y : Int} (h : ref12_Width p r = y) : y ≤ 32 := by
  subst h
  unfold ref12_Width
  simp only [LET]
  repeat' split
  all_goals first | omega | (rename_i hc; simp only [Bool.or_eq_true, decide_eq_true_eq, not_or] at hc; omega)
theorem rw15_le {r : api_Register} {y : Int} (h : ref15_width r = y) : y ≤ 32 := by
  subst h
  unfold ref15_width
  split
  · omega
  · rename_i hc
    simp only [Bool.or_eq_true, decide_eq_true_eq, not_or] at hc
    omega
theorem sized_ok {p : api_Program} {e : api_Env} {y : Bool} (h : ref12_sized p e = y) (hy : y = true) : e.Valid.length = p.Headers.length ∧ e.Fields.length = p.Headers.length ∧ e.Metd.length = p.Metadata.length := by
  subst hy
  unfold ref12_sized at h
  split at h
  · cases h
  · rename_i hc
    simp only [Bool.or_eq_true, Bool.not_eq_true', decide_eq_false_iff_not, not_or, Decidable.not_not] at hc
    omega
theorem RB.set {rs : List (List (BitVec 32))} (h : RB rs) {k : Nat} {l : List (BitVec 32)} (hl : l.length ≤ 1048576) : RB (rs.set k l) :=
  ⟨by rw [List.length_set]; exact h.o, fun x hx => by
    rcases List.mem_or_eq_of_mem_set hx with h1 | rfl
    · exact h.i x h1
    · exact hl⟩
theorem ix_len {l : List (List (BitVec 32))} (h : ∀ x ∈ l, x.length ≤ 1048576) (i : Int) : (ix l i).length ≤ 1048576 := by
  unfold ix
  rw [List.getD_eq_getElem?_getD]
  cases hk : l[i.toNat]? with
  | none => simp; decide
  | some x => exact h x (List.mem_of_getElem? hk)
theorem EB.put {e : api_Env} (h : EB e) (r : api_FieldRef) (v : BitVec 32) : EB (putF e r v) := by
  unfold putF
  split
  · exact h.setM
  · exact h.setF (by rw [List.length_set]; exact ix_len h.i _)
theorem EB.sw {e : api_Env} (h : EB e) (i : Int) (b : Bool) : EB (swE e i b) := by
  have := h.setV (k := i.toNat) (v := b)
  exact this.setF (by rw [List.length_replicate]; exact ix_len h.i _)
theorem EB.Set {p : api_Program} {e : api_Env} (h : EB e) (r : api_FieldRef) (v : BitVec 32) : EB (env_Set p e r v) := by
  unfold env_Set
  split
  · exact h.put _ _
  · exact h
theorem EB.switched {p : api_Program} {e : api_Env} (h : EB e) (i : Int) (a b : Bool) : EB (env_switched p e i a b) := by
  unfold env_switched
  split
  · exact h
  · exact h.sw _ _
theorem RB.Write {p : api_Program} {rs : List (List (BitVec 32))} (h : RB rs) (r : Int) (i v : BitVec 32) : RB (register_Write p rs r i v) := by
  unfold register_Write
  split
  · exact h.set (by rw [List.length_set]; exact ix_len h.i _)
  · exact h
theorem hs_ok {f : register_file} {r : Int} {i : BitVec 32} {y : Bool} (h : m1_register_file__has f r i = y) (hy : y = true) : (0 ≤ r ∧ r < f.p.Registers.length) ∧ r < f.cells.length ∧ (i.toNat : Int) < (ix f.cells r).length := by
  subst hy
  unfold m1_register_file__has at h
  split at h
  · cases h
  · rename_i hc
    simp only [Bool.or_eq_true, decide_eq_true_eq, not_or] at hc
    simp only [Bool.and_eq_true, decide_eq_true_eq] at h
    omega
theorem ck_ix {p : api_Program} {i : Int} {y : Int × Int} (h : action_Check p i = y) (h2 : y.2 = 0) : 0 ≤ i ∧ i < p.Actions.length := by
  subst h
  unfold action_Check at h2
  split at h2
  · simp at h2
  · rename_i h1
    simp at h1
    omega
/-- What the state of an action holds is no longer than a claim's arguments may be. -/
def SB (s : action_state) : Prop := EB s.env ∧ RB s.regs
theorem sb0 {e e' : api_Env} {rs rs' : List (List (BitVec 32))} (hE : EB e) (hR : RB rs) (h1 : env_Clone e = e') (h2 : action_duplicate rs = rs') : EB e' ∧ RB rs' := by subst h1 h2; exact ⟨hE, hR⟩
section
variable {s y : action_state} {x : api_Statement}
theorem sb1 (h : SB s) (e : m2_action_state__assign s x = y) : SB y := by subst e; exact ⟨h.1.Set _ _, h.2⟩
theorem sb2 (h : SB s) (e : m2_action_state__addHeader s x = y) : SB y := by subst e; exact ⟨h.1.switched _ _ _, h.2⟩
theorem sb3 (h : SB s) (e : m2_action_state__removeHeader s x = y) : SB y := by subst e; exact ⟨h.1.switched _ _ _, h.2⟩
theorem sb4 (h : SB s) (e : m2_action_state__read s x = y) : SB y := by subst e; exact ⟨h.1.Set _ _, h.2⟩
theorem sb5 (h : SB s) (e : m2_action_state__write s x = y) : SB y := by subst e; exact ⟨h.1, h.2.Write _ _ _⟩
end

/-! A small argument holds no long list. -/
theorem all_wt {α : Type} {t : TR α} (h1 : ∀ a e, t.R a e → 1 ≤ wt e) : ∀ {l : List α} {es : List PV}, All2 t.R l es → l.length ≤ wtL es
  | [], [], _ => by simp
  | a :: l, e :: es, h => by
    obtain ⟨h2, h3⟩ := h
    have := all_wt h1 h3
    have := h1 _ _ h2
    simp only [wtL, List.length_cons]
    omega
  | [], _ :: _, h => by simp [All2] at h
  | _ :: _, [], h => by simp [All2] at h
theorem sl_wt {α : Type} {t : TR α} (h1 : ∀ a e, t.R a e → 1 ≤ wt e) {l : List α} {v : PV} (r : (tSl t).R l v) : l.length ≤ wt v := by
  obtain ⟨⟨es, he, hl⟩, _⟩ := r
  have := all_wt h1 hl
  rcases he with ⟨ad, rfl, rfl⟩ | ⟨tg, rfl⟩
  · simp only [wtL] at this; omega
  · simp only [wt]; omega
theorem sl_wt1 {α : Type} {t : TR α} {l : List α} {v : PV} (r : (tSl t).R l v) : 1 ≤ wt v := by
  obtain ⟨⟨es, he, hl⟩, _⟩ := r
  rcases he with ⟨ad, rfl, rfl⟩ | ⟨tg, rfl⟩
  · simp [wt]
  · simp only [wt]; omega
theorem all_in {α : Type} {t : TR α} : ∀ {l : List α} {es : List PV}, All2 t.R l es → ∀ a ∈ l, ∃ e, t.R a e ∧ wt e ≤ wtL es
  | a :: l, e :: es, h, b, hb => by
    obtain ⟨h2, h3⟩ := h
    rcases List.mem_cons.1 hb with rfl | hb
    · exact ⟨e, h2, by simp only [wtL]; omega⟩
    · obtain ⟨e', h4, h5⟩ := all_in h3 b hb
      exact ⟨e', h4, by simp only [wtL]; omega⟩
  | [], _, _, _, hb => by cases hb
  | _ :: _, [], h, _, _ => by simp [All2] at h
theorem sl_in {α : Type} {t : TR α} {l : List α} {v : PV} (r : (tSl t).R l v) : ∀ a ∈ l, ∃ e, t.R a e ∧ wt e ≤ wt v := by
  intro a ha
  obtain ⟨⟨es, he, hl⟩, _⟩ := r
  obtain ⟨e, h1, h2⟩ := all_in hl a ha
  refine ⟨e, h1, ?_⟩
  rcases he with ⟨ad, rfl, rfl⟩ | ⟨tg, rfl⟩
  · simp only [wtL] at h2; omega
  · simp only [wt]; omega
theorem wB (a : Bool) (e : PV) (h : tB.R a e) : 1 ≤ wt e := by have h' : e = _ := h; subst h'; simp [wt]
theorem w32 (a : BitVec 32) (e : PV) (h : tU32.R a e) : 1 ≤ wt e := by have h' : e = _ := h; subst h'; simp [wt]
theorem w8 (a : UInt8) (e : PV) (h : tU8.R a e) : 1 ≤ wt e := by have h' : e = _ := h; subst h'; simp [wt]
theorem case_eb {x : law16_Case} {v : PV} (r : law16_Case.t.R x v) (hw : wt v ≤ 1048576) : EB x.E ∧ RB x.Regs := by
  have r : law16_Case.R x v := r
  unfold law16_Case.R at r
  obtain ⟨c1, c2, c3, c4, c5, c6, c7, c8, c10, c11, c12, c13, c14, c15, h0, hc1, hc2, hc3, hc4, hc5, hc6, hc7, hc8, hc10, hc11, hc12, hc13, hc14, hc15⟩ := r
  subst h0
  have hw : wt c11 + wt c12 + wt c13 + wt c14 + wt c15 ≤ 1048576 := by
    rw [wt] at hw
    simp only [wtL] at hw
    clear hc1 hc2 hc3 hc4 hc5 hc6 hc7 hc8 hc10 hc11 hc12 hc13 hc14 hc15
    omega
  have k1 := sl_wt wB hc11
  have k2 := sl_wt (fun a e h => sl_wt1 h) hc12
  have k3 := sl_wt w32 hc13
  have k4 := sl_wt w8 hc14
  have k5 := sl_wt (fun a e h => sl_wt1 h) hc15
  refine ⟨⟨by omega, by omega, by omega, by omega, fun l hl => ?_⟩, ⟨by omega, fun l hl => ?_⟩⟩
  · obtain ⟨e, h1, h2⟩ := sl_in hc12 l hl
    have := sl_wt w32 h1
    omega
  · obtain ⟨e, h1, h2⟩ := sl_in hc15 l hl
    have := sl_wt w32 h1
    omega
theorem loop_iff {β : Type} {good : β} {F : Nat → Int → β} {K : Prop} {Q : Int → Prop} (h0 : ∀ i, F 0 i = good ↔ K) (hs : ∀ m i, F (m + 1) i = good ↔ (Q i ∧ F m (i + 1) = good)) : ∀ n i, F n i = good ↔ (K ∧ ∀ j, i ≤ j → j < i + n → Q j)
  | 0, i => by rw [h0]; exact ⟨fun h => ⟨h, fun j h1 h2 => by omega⟩, fun h => h.1⟩
  | n + 1, i => by
    rw [hs, loop_iff h0 hs n (i + 1)]
    constructor
    · rintro ⟨a, b, c⟩
      refine ⟨b, fun j h1 h2 => ?_⟩
      by_cases h3 : j = i
      · rw [h3]; exact a
      · exact c j (by omega) (by omega)
    · rintro ⟨a, b⟩
      exact ⟨b i (by omega) (by omega), a, fun j h1 h2 => b j (by omega) (by omega)⟩
theorem fits_L (x : BitVec 32) : ∀ (m : Nat) (k : Nat) (i : Int), m + k ≤ 32 → ref12_Fits_L1 (fun b => decide (BitVec.setWidth 64 x < b)) m (BitVec.ofNat 64 (2 ^ k)) i = decide (x.toNat < 2 ^ (m + k))
  | 0, k, i, h => by
    rw [ref12_Fits_L1]
    have h1 : 2 ^ k < 2 ^ 64 := Nat.pow_lt_pow_right (by omega) (by omega)
    simp only [BitVec.lt_def, BitVec.toNat_setWidth, BitVec.toNat_ofNat, Nat.mod_eq_of_lt h1, Nat.zero_add]
    rw [Nat.mod_eq_of_lt (by have := x.isLt; omega)]
  | m + 1, k, i, h => by
    rw [ref12_Fits_L1]
    have e : 2#64 * BitVec.ofNat 64 (2 ^ k) = BitVec.ofNat 64 (2 ^ (k + 1)) := by
      apply BitVec.eq_of_toNat_eq
      simp only [BitVec.toNat_mul, BitVec.toNat_ofNat, Nat.mul_mod_mod, Nat.pow_succ]
      rw [show (2 : Nat) % 2 ^ 64 = 2 from rfl, Nat.mul_comm]
    rw [e, fits_L x m (k + 1) _ (by omega), show m + (k + 1) = m + 1 + k by omega]
theorem fits_iff {x : BitVec 32} {w : Int} (h : w ≤ 32) : ref12_Fits x w = decide (x.toNat < 2 ^ w.toNat) := by
  unfold ref12_Fits
  have := fits_L x (w - 0).toNat 0 0 (by omega)
  rw [show (1#64 : BitVec 64) = BitVec.ofNat 64 (2 ^ 0) from rfl, this, show (w - 0).toNat + 0 = w.toNat by omega]
theorem valid1 (w : Int) : bitvec_valid [w] = !(decide (w < 1) || decide (32 < w)) := by
  unfold bitvec_valid
  show bitvec_valid_L1 [w] (fun _ => true) 1 0 = _
  rw [bitvec_valid_L1, bitvec_valid_L1, show ix [w] 0 = w from rfl]
  split
  · rename_i h; rw [h]; rfl
  · rename_i h; rw [Bool.not_eq_true] at h; rw [h]; rfl
theorem mask_in {w : Int} (h1 : 1 ≤ w) (h2 : w ≤ 32) : bitvec_Mask w = 4294967295#32 >>> (32 - w).toNat := by
  unfold bitvec_Mask
  simp only [LET, valid1, wr_of (n := 32 - w) (by omega) (by omega)]
  simp [show ¬ w < 1 by omega, show ¬ 32 < w by omega]
theorem mask_out {w : Int} (h : w < 1 ∨ 32 < w) : bitvec_Mask w = 0#32 := by
  unfold bitvec_Mask
  simp only [LET, valid1]
  rcases h with h | h <;> simp [h]
theorem mask_lt0 : ∀ k : Fin 32, (4294967295#32 >>> k.val).toNat < 2 ^ (32 - k.val) ∧ (4294967295#32 >>> k.val) ≠ 0#32 := by decide
theorem mask_ne {w : Int} (h1 : 1 ≤ w) (h2 : w ≤ 32) : bitvec_Mask w ≠ 0#32 := by
  rw [mask_in h1 h2]
  exact (mask_lt0 ⟨(32 - w).toNat, by omega⟩).2
theorem mask_fit {w : Int} (v : BitVec 32) : (v &&& bitvec_Mask w).toNat < 2 ^ w.toNat := by
  have h0 : (v &&& bitvec_Mask w).toNat ≤ (bitvec_Mask w).toNat := by rw [BitVec.toNat_and]; exact Nat.and_le_right
  by_cases h : 1 ≤ w ∧ w ≤ 32
  · have := (mask_lt0 ⟨(32 - w).toNat, by omega⟩).1
    rw [mask_in h.1 h.2] at h0
    have e : 32 - (32 - w).toNat = w.toNat := by omega
    simp only [e] at this
    rw [mask_in h.1 h.2]
    omega
  · rw [mask_out (by omega)] at h0 ⊢
    have : 0 < 2 ^ w.toNat := Nat.pow_pos (by omega)
    simpa using this
theorem mask_w {w : Int} : (if bitvec_Mask w = 0#32 then 0 else w) = if w < 1 ∨ 32 < w then 0 else w := by
  by_cases h : w < 1 ∨ 32 < w
  · rw [mask_out h, if_pos rfl, if_pos h]
  · rw [if_neg (mask_ne (by omega) (by omega)), if_neg h]
theorem wl_eq {hd j : Int} {l : List api_Field} (h : ¬ hd < -1) : (if (((((decide (hd < (-1))) || (decide (j < 0))) || (decide ((l.length : Int) ≤ j))) || (decide (((ix l j).Width) < 1))) || (decide (32 < ((ix l j).Width)))) then 0 else (ix l j).Width) =
    (if (env_at_api_Field l j).Width < 1 ∨ 32 < (env_at_api_Field l j).Width then 0 else (env_at_api_Field l j).Width) := by
  unfold env_at_api_Field
  by_cases b : j < 0 ∨ (l.length : Int) ≤ j
  · rw [if_pos (by rcases b with b | b <;> simp [b]), if_pos (show (decide (j < 0) || decide ((l.length : Int) ≤ j)) = true by simpa using b)]
    rfl
  · simp only [not_or] at b
    rw [if_neg (show ¬ (decide (j < 0) || decide ((l.length : Int) ≤ j)) = true by simpa using b)]
    by_cases c : (ix l j).Width < 1 ∨ 32 < (ix l j).Width
    · rw [if_pos c, if_pos (by rcases c with c | c <;> simp [c])]
    · rw [if_neg c, if_neg]
      simp only [not_or] at c
      simp [h, b.1, b.2, c.1, c.2]
theorem width_eq (p : api_Program) (r : api_FieldRef) : env_Width p r = ref12_Width p r := by
  unfold env_Width ref12_Width env_fields
  simp only [LET, decide_eq_true_eq, mask_w]
  by_cases a : r.Header = -1
  · rw [if_pos a, if_neg (show ¬ 0 ≤ r.Header by omega), wl_eq (by omega)]
  · rw [if_neg a]
    unfold env_at_api_Header
    by_cases c : r.Header < 0 ∨ (p.Headers.length : Int) ≤ r.Header
    · rw [if_pos (show (decide (r.Header < 0) || decide ((p.Headers.length : Int) ≤ r.Header)) = true by simpa using c)]
      have z : (if (env_at_api_Field [] r.Field).Width < 1 ∨ 32 < (env_at_api_Field [] r.Field).Width then 0 else (env_at_api_Field [] r.Field).Width) = 0 := by
        have z0 : env_at_api_Field [] r.Field = ({ Name := [], Width := 0 } : api_Field) := if_pos (by simp; omega)
        rw [z0]
        rfl
      refine z.trans ?_
      by_cases d : 0 ≤ r.Header
      · rw [if_pos d, if_pos (show (p.Headers.length : Int) ≤ r.Header by rcases c with c | c; exact absurd d (by omega); exact c)]
      · rw [if_neg d, if_pos]
        have h1 : r.Header < -1 := by clear z; omega
        simp [h1]
    · rw [if_neg (show ¬ (decide (r.Header < 0) || decide ((p.Headers.length : Int) ≤ r.Header)) = true by simpa using c)]
      rw [if_pos (show 0 ≤ r.Header by omega), if_neg (show ¬ (p.Headers.length : Int) ≤ r.Header by omega), wl_eq (by omega)]

/-- An environment that fits its program. -/
structure E12 (p : api_Program) (e : api_Env) : Prop where
  v : e.Valid.length = p.Headers.length
  f : e.Fields.length = p.Headers.length
  m : e.Metd.length = p.Metadata.length
  w : ∀ i : Int, 0 ≤ i → i < p.Headers.length → (ix e.Fields i).length = (ix p.Headers i).Fields.length
  a : ∀ i : Int, 0 ≤ i → i < e.Fields.length → ∀ j : Int, 0 ≤ j → j < (ix e.Fields i).length → (ix (ix e.Fields i) j).toNat < 2 ^ (ref12_Width p { Header := i, Field := j }).toNat
  b : ∀ j : Int, 0 ≤ j → j < e.Metd.length → (ix e.Metd j).toNat < 2 ^ (ref12_Width p { Header := -1, Field := j }).toNat
  z : ∀ i : Int, 0 ≤ i → i < e.Fields.length → ix e.Valid i = false → ∀ j : Int, 0 ≤ j → j < (ix e.Fields i).length → ix (ix e.Fields i) j = 0#32
theorem check12_iff {p : api_Program} {e : api_Env} : ref12_Check p e = 0 ↔ E12 p e := by
  unfold ref12_Check
  simp only [LET]
  have hS : ref12_sized p e = true ↔ (e.Valid.length = p.Headers.length ∧ e.Fields.length = p.Headers.length ∧ e.Metd.length = p.Metadata.length) ∧ ∀ i : Int, 0 ≤ i → i < p.Headers.length → (ix e.Fields i).length = (ix p.Headers i).Fields.length := by
    unfold ref12_sized
    split
    · rename_i h
      simp only [Bool.or_eq_true, Bool.not_eq_true', decide_eq_false_iff_not] at h
      exact ⟨fun c => (by cases c), fun ⟨c, _⟩ => (by omega)⟩
    · rename_i h
      simp only [Bool.or_eq_true, Bool.not_eq_true', decide_eq_false_iff_not, not_or, Decidable.not_not] at h
      rw [loop_iff (good := true) (F := ref12_sized_L1 p e fun _ => true) (K := True) (Q := fun i => (ix e.Fields i).length = (ix p.Headers i).Fields.length) (fun i => by simp [ref12_sized_L1]) (fun m i => by
        rw [ref12_sized_L1]
        split
        · rename_i h; simp only [Bool.not_eq_true', decide_eq_false_iff_not] at h; simp; omega
        · rename_i h; simp only [Bool.not_eq_true', decide_eq_false_iff_not, Decidable.not_not] at h; simp; omega)]
      constructor
      · rintro ⟨_, c⟩; exact ⟨by omega, fun i h1 h2 => c i h1 (by omega)⟩
      · rintro ⟨_, c⟩; exact ⟨trivial, fun i h1 h2 => c i h1 (by omega)⟩
  have h5 : ∀ (x8 : Int) (K : Unit → Int) n i, ref12_Check_L5 e x8 K n i = 0 ↔ (K () = 0 ∧ ∀ j, i ≤ j → j < i + n → (ix e.Valid x8 = false → ix (ix e.Fields x8) j = 0#32)) := fun x8 K =>
    loop_iff (fun i => by rw [ref12_Check_L5]) (fun m i => by
      rw [ref12_Check_L5]
      split
      · rename_i h; simp only [Bool.and_eq_true, Bool.not_eq_true', decide_eq_false_iff_not] at h; simp [h]
      · rename_i h; simp only [Bool.and_eq_true, Bool.not_eq_true', decide_eq_false_iff_not, not_and, Decidable.not_not] at h; simp; exact fun _ => h)
  have h4 : ∀ (K : Unit → Int) n i, ref12_Check_L4 e K n i = 0 ↔ (K () = 0 ∧ ∀ j, i ≤ j → j < i + n → ∀ k : Int, 0 ≤ k → k < (ix e.Fields j).length → (ix e.Valid j = false → ix (ix e.Fields j) k = 0#32)) := fun K =>
    loop_iff (fun i => by rw [ref12_Check_L4]) (fun m i => by
      rw [ref12_Check_L4, h5, and_comm]
      refine and_congr ⟨fun h k h1 h2 => h k h1 (by omega), fun h k h1 h2 => h k h1 (by omega)⟩ Iff.rfl)
  have h3 : ∀ (K : Unit → Int) n i, ref12_Check_L3 p e K n i = 0 ↔ (K () = 0 ∧ ∀ j, i ≤ j → j < i + n → (ix e.Metd j).toNat < 2 ^ (ref12_Width p { Header := -1, Field := j }).toNat) := fun K =>
    loop_iff (fun i => by rw [ref12_Check_L3]) (fun m i => by
      rw [ref12_Check_L3]
      simp only [LET, fits_iff (rw_le rfl)]
      split
      · rename_i h; simp only [Bool.not_eq_true', decide_eq_false_iff_not] at h; simp [h]
      · rename_i h; simp only [Bool.not_eq_true', decide_eq_false_iff_not, Decidable.not_not] at h; simp [h])
  have h2 : ∀ (x5 : Int) (K : Unit → Int) n i, ref12_Check_L2 p e x5 K n i = 0 ↔ (K () = 0 ∧ ∀ j, i ≤ j → j < i + n → (ix (ix e.Fields x5) j).toNat < 2 ^ (ref12_Width p { Header := x5, Field := j }).toNat) := fun x5 K =>
    loop_iff (fun i => by rw [ref12_Check_L2]) (fun m i => by
      rw [ref12_Check_L2]
      simp only [LET, fits_iff (rw_le rfl)]
      split
      · rename_i h; simp only [Bool.not_eq_true', decide_eq_false_iff_not] at h; simp [h]
      · rename_i h; simp only [Bool.not_eq_true', decide_eq_false_iff_not, Decidable.not_not] at h; simp [h])
  have h1 : ∀ (K : Unit → Int) n i, ref12_Check_L1 p e K n i = 0 ↔ (K () = 0 ∧ ∀ j, i ≤ j → j < i + n → ∀ k : Int, 0 ≤ k → k < (ix e.Fields j).length → (ix (ix e.Fields j) k).toNat < 2 ^ (ref12_Width p { Header := j, Field := k }).toNat) := fun K =>
    loop_iff (fun i => by rw [ref12_Check_L1]) (fun m i => by
      rw [ref12_Check_L1, h2, and_comm]
      refine and_congr ⟨fun h k h1 h2 => h k h1 (by omega), fun h k h1 h2 => h k h1 (by omega)⟩ Iff.rfl)
  by_cases hs : ref12_sized p e = true
  · rw [hs]
    simp only [Bool.not_true, Bool.false_eq_true, if_false, h1, h3, h4]
    have hs' := hS.1 hs
    constructor
    · rintro ⟨⟨⟨_, z⟩, b⟩, a⟩
      exact ⟨hs'.1.1, hs'.1.2.1, hs'.1.2.2, hs'.2, fun i h1 h2 => a i h1 (by omega), fun i h1 h2 => b i h1 (by omega), fun i h1 h2 h3 k h4 h5 => z i h1 (by omega) k h4 h5 h3⟩
    · intro h
      exact ⟨⟨⟨trivial, fun i h1 h2 k h3 h4 h5 => h.z i h1 (by omega) h5 k h3 h4⟩, fun i h1 h2 => h.b i h1 (by omega)⟩, fun i h1 h2 => h.a i h1 (by omega)⟩
  · have hs2 := hs
    rw [Bool.not_eq_true] at hs
    rw [hs]
    simp only [Bool.not_false, if_true]
    exact ⟨fun h => by omega, fun h => absurd (hS.2 ⟨⟨h.v, h.f, h.m⟩, h.w⟩) hs2⟩
/-- Registers that fit their program. -/
structure E15 (p : api_Program) (rs : List (List (BitVec 32))) : Prop where
  o : rs.length = p.Registers.length
  w : ∀ i : Int, 0 ≤ i → i < rs.length → ((ix rs i).length : Int) = (ix p.Registers i).Size
  a : ∀ i : Int, 0 ≤ i → i < rs.length → ∀ j : Int, 0 ≤ j → j < (ix rs i).length → (ix (ix rs i) j).toNat < 2 ^ (ref15_width (ix p.Registers i)).toNat
theorem check15_iff {p : api_Program} {rs : List (List (BitVec 32))} : ref15_CheckContents p rs = 0 ↔ E15 p rs := by
  unfold ref15_CheckContents
  have h3 : ∀ (x6 : Int) (K : Unit → Int) n i, ref15_CheckContents_L3 p rs x6 K n i = 0 ↔ (K () = 0 ∧ ∀ j, i ≤ j → j < i + n → (ix (ix rs x6) j).toNat < 2 ^ (ref15_width (ix p.Registers x6)).toNat) := fun x6 K =>
    loop_iff (fun i => by rw [ref15_CheckContents_L3]) (fun m i => by
      rw [ref15_CheckContents_L3]
      simp only [LET, fits_iff (rw15_le rfl)]
      split
      · rename_i h; simp only [Bool.not_eq_true', decide_eq_false_iff_not] at h; simp [h]
      · rename_i h; simp only [Bool.not_eq_true', decide_eq_false_iff_not, Decidable.not_not] at h; simp [h])
  have h2 : ∀ (K : Unit → Int) n i, ref15_CheckContents_L2 p rs K n i = 0 ↔ (K () = 0 ∧ ∀ j, i ≤ j → j < i + n → ∀ k : Int, 0 ≤ k → k < (ix rs j).length → (ix (ix rs j) k).toNat < 2 ^ (ref15_width (ix p.Registers j)).toNat) := fun K =>
    loop_iff (fun i => by rw [ref15_CheckContents_L2]) (fun m i => by
      rw [ref15_CheckContents_L2, h3, and_comm]
      refine and_congr ⟨fun h k h1 h2 => h k h1 (by omega), fun h k h1 h2 => h k h1 (by omega)⟩ Iff.rfl)
  have h1 : ∀ (K : Unit → Int) n i, ref15_CheckContents_L1 p rs K n i = 0 ↔ (K () = 0 ∧ ∀ j, i ≤ j → j < i + n → ((ix rs j).length : Int) = (ix p.Registers j).Size) := fun K =>
    loop_iff (fun i => by rw [ref15_CheckContents_L1]) (fun m i => by
      rw [ref15_CheckContents_L1]
      split
      · rename_i h; simp only [Bool.not_eq_true', decide_eq_false_iff_not] at h; simp [h]
      · rename_i h; simp only [Bool.not_eq_true', decide_eq_false_iff_not, Decidable.not_not] at h; simp [h])
  split
  · rename_i h
    simp only [Bool.not_eq_true', decide_eq_false_iff_not] at h
    exact ⟨fun h => by omega, fun h' => absurd (by rw [h'.o]) h⟩
  · rename_i h
    simp only [Bool.not_eq_true', decide_eq_false_iff_not, Decidable.not_not] at h
    simp only [h1, h2]
    constructor
    · rintro ⟨⟨_, a⟩, b⟩
      exact ⟨by omega, fun i h1 h2 => b i h1 (by omega), fun i h1 h2 => a i h1 (by omega)⟩
    · intro h
      exact ⟨⟨trivial, fun i h1 h2 => h.a i h1 (by omega)⟩, fun i h1 h2 => h.w i h1 (by omega)⟩
theorem ix_set2 {α : Type} [Inhabited α] {l : List α} {i k : Int} {a : α} (h0 : 0 ≤ k) (h1 : k < l.length) (hi : 0 ≤ i) : ix (l.set i.toNat a) k = if k = i then a else ix l k := by
  unfold ix
  rw [List.getD_eq_getElem?_getD, List.getElem?_set, List.getD_eq_getElem?_getD]
  by_cases e : k = i
  · subst e
    rw [if_pos rfl, if_pos (by omega), if_pos rfl]
    rfl
  · rw [if_neg (by omega), if_neg e]
theorem elem_in {e : api_Env} {r : api_FieldRef} (h : (env_element e r).2 = true) : (r.Header = -1 ∧ 0 ≤ r.Field ∧ r.Field < e.Metd.length) ∨ (r.Header ≠ -1 ∧ 0 ≤ r.Header ∧ r.Header < e.Fields.length ∧ r.Header < e.Valid.length ∧ ix e.Valid r.Header = true ∧ 0 ≤ r.Field ∧ r.Field < (ix e.Fields r.Header).length) := by
  unfold env_element env_in_uint32 env_at__uint32_ env_at_bool at h
  simp only [LET] at h
  by_cases a : r.Header = -1
  · left
    rw [if_pos (by cases r; simp only at a; subst a; simp)] at h
    simp only [Bool.and_eq_true, decide_eq_true_eq] at h
    exact ⟨a, h⟩
  · right
    rw [if_neg (by
      intro c
      simp only [decide_eq_true_eq] at c
      rw [c] at a
      exact a rfl)] at h
    simp only [Bool.and_eq_true, decide_eq_true_eq] at h
    obtain ⟨h1, h2, h3⟩ := h
    split at h1
    · cases h1
    · rename_i c
      simp only [Bool.or_eq_true, decide_eq_true_eq, not_or] at c
      split at h3
      · simp only [List.length_nil] at h3; omega
      · rename_i d
        simp only [Bool.or_eq_true, decide_eq_true_eq, not_or] at d
        exact ⟨a, by omega, by omega, by omega, h1, h2, h3⟩
section
variable {p : api_Program} {e : api_Env} {rs : List (List (BitVec 32))}
theorem E12.set (H : E12 p e) (r : api_FieldRef) (v : BitVec 32) : E12 p (env_Set p e r v) := by
  unfold env_Set
  split
  · rename_i h
    simp only [Bool.and_eq_true, decide_eq_true_eq] at h
    have hm : ∀ {q : api_FieldRef}, q = r → (v &&& bitvec_Mask (env_Width p r)).toNat < 2 ^ (ref12_Width p q).toNat := fun e => by
      rw [e, ← width_eq]; exact mask_fit v
    generalize v &&& bitvec_Mask (env_Width p r) = w at hm ⊢
    obtain ⟨rh, rf⟩ := r
    have hm := hm rfl
    unfold putF
    rcases elem_in h.1 with ⟨a, b, c⟩ | ⟨a, b, c, d, d', f, g⟩
    · simp only at a b c ⊢
      subst a
      rw [if_pos rfl]
      refine ⟨H.v, H.f, by rw [List.length_set]; exact H.m, H.w, H.a, fun j h0 h1 => ?_, H.z⟩
      simp only [List.length_set] at h1
      simp only
      rw [ix_set2 h0 h1 b]
      split
      · rename_i k; subst k; exact hm
      · exact H.b j h0 h1
    · simp only at a b c d d' f g ⊢
      rw [if_neg a]
      have hl : ∀ i : Int, 0 ≤ i → i < e.Fields.length → (ix (e.Fields.set rh.toNat ((ix e.Fields rh).set rf.toNat w)) i).length = (ix e.Fields i).length := fun i h0 h1 => by
        rw [ix_set2 h0 h1 b]
        split
        · rename_i k; subst k; rw [List.length_set]
        · rfl
      have hx : ∀ i : Int, 0 ≤ i → i < e.Fields.length → ∀ j : Int, 0 ≤ j → j < (ix e.Fields i).length → ix (ix (e.Fields.set rh.toNat ((ix e.Fields rh).set rf.toNat w)) i) j = if i = rh ∧ j = rf then w else ix (ix e.Fields i) j := fun i h0 h1 j h2 h3 => by
        rw [ix_set2 h0 h1 b]
        by_cases k : i = rh
        · subst k
          rw [if_pos rfl, ix_set2 h2 h3 f]
          simp
        · rw [if_neg k, if_neg (fun c => k c.1)]
      refine ⟨H.v, by simp only [List.length_set]; exact H.f, H.m, fun i h0 h1 => ?_, fun i h0 h1 j h2 h3 => ?_, H.b, fun i h0 h1 h2 j h3 h4 => ?_⟩
      · simp only
        rw [hl i h0 (by have := H.f; omega)]
        exact H.w i h0 h1
      · simp only [List.length_set] at h1 h3 ⊢
        rw [hl i h0 h1] at h3
        rw [hx i h0 h1 j h2 h3]
        split
        · rename_i k; rw [k.1, k.2]; exact hm
        · exact H.a i h0 h1 j h2 h3
      · simp only [List.length_set] at h1 h2 h4 ⊢
        rw [hl i h0 h1] at h4
        rw [hx i h0 h1 j h3 h4]
        split
        · rename_i k; rw [k.1, d'] at h2; cases h2
        · exact H.z i h0 h1 h2 j h3 h4
  · exact H
theorem ix_rep2 {n : Nat} {c : Int} : ix (List.replicate n 0#32) c = 0#32 := by
  unfold ix
  rw [List.getD_eq_getElem?_getD, List.getElem?_replicate]
  split <;> rfl
theorem E12.switched (H : E12 p e) (i : Int) (a b : Bool) : E12 p (env_switched p e i a b) := by
  unfold env_switched
  split
  · exact H
  · rename_i h
    simp only [Bool.or_eq_true, not_or, Bool.not_eq_true, Bool.not_eq_false', env_in_api_Header, env_in_bool, Bool.and_eq_true, decide_eq_true_eq] at h
    obtain ⟨⟨⟨b0, b1⟩, b2⟩, _⟩ := h
    unfold swE
    have hl : ∀ k : Int, 0 ≤ k → k < e.Fields.length → (ix (e.Fields.set i.toNat (List.replicate (ix e.Fields i).length 0#32)) k).length = (ix e.Fields k).length := fun k h0 h1 => by
      rw [ix_set2 h0 h1 b0]
      split
      · rename_i k; subst k; rw [List.length_replicate]
      · rfl
    have hx : ∀ k : Int, 0 ≤ k → k < e.Fields.length → ∀ j : Int, ix (ix (e.Fields.set i.toNat (List.replicate (ix e.Fields i).length 0#32)) k) j = if k = i then 0#32 else ix (ix e.Fields k) j := fun k h0 h1 j => by
      rw [ix_set2 h0 h1 b0]
      split
      · exact ix_rep2
      · rfl
    refine ⟨by simp only [List.length_set]; exact H.v, by simp only [List.length_set]; exact H.f, H.m, fun i h0 h1 => ?_, fun i h0 h1 j h2 h3 => ?_, H.b, fun k h0 h1 h2 j h3 h4 => ?_⟩
    · simp only
      rw [hl i h0 (by have := H.f; omega)]
      exact H.w i h0 h1
    · simp only [List.length_set] at h1 h3 ⊢
      rw [hl i h0 h1] at h3
      rw [hx i h0 h1 j]
      split
      · exact Nat.pow_pos (by omega)
      · exact H.a i h0 h1 j h2 h3
    · simp only [List.length_set] at h1 h2 h4 ⊢
      rw [hl k h0 h1] at h4
      rw [hx k h0 h1 j]
      split
      · rfl
      · rename_i hk
        rw [ix_set2 h0 (by have := H.f; have := H.v; omega) b0, if_neg hk] at h2
        exact H.z k h0 h1 h2 j h3 h4
theorem E15.write (H : E15 p rs) (r : Int) (i v : BitVec 32) : E15 p (register_Write p rs r i v) := by
  unfold register_Write
  split
  · rename_i h
    simp only [Bool.and_eq_true] at h
    obtain ⟨h, hm⟩ := h
    obtain ⟨⟨r0, r1⟩, r2, r3⟩ := hs_ok rfl h
    simp only at r0 r1 r2 r3
    have hw : ref15_width (ix p.Registers r) = (ix p.Registers r).Width := by
      unfold ref15_width
      by_cases c : (ix p.Registers r).Width < 1 ∨ 32 < (ix p.Registers r).Width
      · rw [mask_out c] at hm; simp at hm
      · rw [if_neg (by simpa using c)]
    have hf : (v &&& bitvec_Mask (ix p.Registers r).Width).toNat < 2 ^ (ref15_width (ix p.Registers r)).toNat := by rw [hw]; exact mask_fit v
    generalize v &&& bitvec_Mask (ix p.Registers r).Width = u at hf ⊢
    have hl : ∀ k : Int, 0 ≤ k → k < rs.length → (ix (rs.set r.toNat ((ix rs r).set i.toNat u)) k).length = (ix rs k).length := fun k h0 h1 => by
      rw [ix_set2 h0 h1 r0]
      split
      · rename_i k; subst k; rw [List.length_set]
      · rfl
    refine ⟨by rw [List.length_set]; exact H.o, fun k h0 h1 => ?_, fun k h0 h1 j h2 h3 => ?_⟩
    · rw [List.length_set] at h1
      rw [hl k h0 h1]
      exact H.w k h0 h1
    · rw [List.length_set] at h1
      rw [hl k h0 h1] at h3
      rw [ix_set2 h0 h1 r0]
      split
      · rename_i hk
        subst hk
        rw [show i.toNat = ((i.toNat : Int)).toNat from rfl, ix_set2 h2 h3 (by omega)]
        split
        · exact hf
        · exact H.a k h0 h1 j h2 h3
      · exact H.a k h0 h1 j h2 h3
  · exact H
end
/-- What an action's state holds fits its program. -/
def SR (p : api_Program) (s : action_state) : Prop := s.scope.Program = p ∧ E12 p s.env ∧ E15 p s.regs
section
variable {p : api_Program} {s : action_state} {x : api_Statement}
theorem sr1 (h : SR p s) : SR p (m2_action_state__assign s x) := by obtain ⟨h1, h2, h3⟩ := h; exact ⟨h1, by subst h1; exact h2.set _ _, h3⟩
theorem sr2 (h : SR p s) : SR p (m2_action_state__addHeader s x) := by obtain ⟨h1, h2, h3⟩ := h; exact ⟨h1, by subst h1; exact h2.switched _ _ _, h3⟩
theorem sr3 (h : SR p s) : SR p (m2_action_state__removeHeader s x) := by obtain ⟨h1, h2, h3⟩ := h; exact ⟨h1, by subst h1; exact h2.switched _ _ _, h3⟩
theorem sr4 (h : SR p s) : SR p (m2_action_state__read s x) := by obtain ⟨h1, h2, h3⟩ := h; exact ⟨h1, by subst h1; exact h2.set _ _, h3⟩
theorem sr5 (h : SR p s) : SR p (m2_action_state__write s x) := by obtain ⟨h1, h2, h3⟩ := h; exact ⟨h1, h2, by subst h1; exact h3.write _ _ _⟩
end
theorem exec_inv {α : Type} {S : action_state → Prop} {p : api_Program} {c : api_ActionCall} {K : action_state → api_Env × List (List (BitVec 32))} {R : api_Env × List (List (BitVec 32)) → Prop}
    (h1 : ∀ s x, S s → S (m2_action_state__assign s x)) (h2 : ∀ s x, S s → S (m2_action_state__addHeader s x)) (h3 : ∀ s x, S s → S (m2_action_state__removeHeader s x)) (h4 : ∀ s x, S s → S (m2_action_state__read s x)) (h5 : ∀ s x, S s → S (m2_action_state__write s x))
    (hK : ∀ s, S s → R (K s)) : ∀ (n : Nat) (i : Int) (s : action_state), S s → R (action_Execute_L1 p c K n i s)
  | 0, i, s, h => by rw [action_Execute_L1]; exact hK s h
  | n + 1, i, s, h => by
    have ih := exec_inv (α := α) (p := p) (c := c) h1 h2 h3 h4 h5 hK n
    rw [action_Execute_L1]
    simp only [LET]
    repeat' split
    · exact ih _ _ (h2 _ _ h)
    · exact ih _ _ (h3 _ _ h)
    · exact ih _ _ (h4 _ _ h)
    · exact ih _ _ (h5 _ _ h)
    · exact ih _ _ (h1 _ _ h)
theorem exec_right {p : api_Program} {c : api_ActionCall} {e : api_Env} {rs : List (List (BitVec 32))} (h1 : E12 p e) (h2 : E15 p rs) : E12 p (action_Execute p c e rs).1 ∧ E15 p (action_Execute p c e rs).2 := by
  unfold action_Execute
  simp only [LET]
  split
  · exact ⟨h1, h2⟩
  · exact exec_inv (α := Unit) (S := SR p) (R := fun x => E12 p x.1 ∧ E15 p x.2) (fun s x h => sr1 h) (fun s x h => sr2 h) (fun s x h => sr3 h) (fun s x h => sr4 h) (fun s x h => sr5 h) (fun s h => h.2) _ _ _ ⟨rfl, h1, h2⟩
theorem right_iff {x : law16_Case} : law16_right x = true ↔ E12 x.P x.E ∧ E15 x.P x.Regs := by
  unfold law16_right
  simp only [LET, Bool.and_eq_true, decide_eq_true_eq, check12_iff, check15_iff]
theorem keeps_true (a : law16_Case) : law16_ActionKeeps a = true := by
  unfold law16_ActionKeeps
  simp only [LET]
  split
  · rfl
  · rename_i h
    simp only [Bool.or_eq_true, Bool.not_eq_true', not_or, Bool.not_eq_false] at h
    have hr := right_iff.1 h.2
    rw [Bool.and_eq_true]
    exact ⟨right_iff.2 (exec_right hr.1 hr.2), rfl⟩
theorem ActionKeeps_law (a0 : law16_Case) (hE : EB a0.E) (hR : RB a0.Regs) : law16_ActionKeeps a0 = true := keeps_true a0
end Go.Proofs.YtmonnlkagniolaaGreat
