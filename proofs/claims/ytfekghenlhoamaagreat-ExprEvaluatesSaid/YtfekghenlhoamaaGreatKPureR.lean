/-
  Expressions: the program and its definition, part by part.
-/
import Derived.Test.YtfekghenlhoamaaGreatKDef
import Derived.Test.YtfekghenlhoamaaGreatPbP
set_option linter.unusedVariables false
set_option linter.unusedSimpArgs false
set_option maxRecDepth 100000
namespace Go.Proofs.YtfekghenlhoamaaGreat
open Go Go.Pb Go.RowKit
theorem bitvec_valid_one (w : Int) : bitvec_valid [w] = decide (1 ≤ w ∧ w ≤ 32) := by
  unfold bitvec_valid
  have e : (Int.toNat (((([w] : List Int)).length : Int) - 0)) = 1 := by simp
  rw [e, bitvec_valid_L1, bitvec_valid_L1]
  have hx : ix ([w] : List Int) 0 = w := rfl
  rw [hx]
  by_cases h : 1 ≤ w ∧ w ≤ 32
  · rw [if_neg (by simp; omega)]; simp [h]
  · rw [if_pos (by simp; omega)]; simp [h]
theorem bitvec_valid_two (v w : Int) : bitvec_valid [v, w] = decide ((1 ≤ v ∧ v ≤ 32) ∧ (1 ≤ w ∧ w ≤ 32)) := by
  unfold bitvec_valid
  have e : (Int.toNat (((([v, w] : List Int)).length : Int) - 0)) = 2 := by simp
  rw [e, bitvec_valid_L1, bitvec_valid_L1, bitvec_valid_L1]
  have hx : ix ([v, w] : List Int) 0 = v ∧ ix ([v, w] : List Int) (0 + 1) = w := ⟨rfl, rfl⟩
  rw [hx.1, hx.2]
  by_cases h : 1 ≤ v ∧ v ≤ 32
  · rw [if_neg (by simp; omega)]
    by_cases h2 : 1 ≤ w ∧ w ≤ 32
    · rw [if_neg (by simp; omega)]; simp [h, h2]
    · rw [if_pos (by simp; omega)]; simp [h2]
  · rw [if_pos (by simp; omega)]; simp [h]
theorem mask_sh {w : Int} {b : Bool} (h : bitvec_valid [w] = b) (h2 : b = true) : 0 ≤ wr (32 - w) := by
  rw [bitvec_valid_one] at h
  subst h2
  simp only [decide_eq_true_eq] at h
  rw [wr_of (by omega) (by omega)]
  omega
theorem two_sh {v w : Int} {b : Bool} (h : bitvec_valid [v, w] = b) (h2 : b = true) : (1 ≤ v ∧ v ≤ 32) ∧ 1 ≤ w ∧ w ≤ 32 := by
  rw [bitvec_valid_two] at h
  subst h2
  simpa using h
theorem arity_le (op : Int) : expr_arity op ≤ 3 ∧ -1 ≤ expr_arity op := by
  unfold expr_arity
  simp only [LET]
  repeat' split
  all_goals omega
theorem ar {op y : Int} (h : expr_arity op = y) : y ≤ 3 ∧ -1 ≤ y := by rw [← h]; exact arity_le op
theorem pr3 {s : expr_Scope} {x : api_ExprNode} (h : (m1_expr_Scope__primary s x).2 = 0) (h1 : x.Op = 3) : 0 ≤ x.N := by
  unfold m1_expr_Scope__primary at h
  rw [if_neg (by simp [h1]), if_neg (by simp [h1]), if_pos (by simp [h1])] at h
  split at h
  · cases h
  · rename_i hc
    simp only [Bool.or_eq_true, decide_eq_true_eq, not_or] at hc
    omega
theorem pr4 {s : expr_Scope} {x : api_ExprNode} (h : (m1_expr_Scope__primary s x).2 = 0) (h1 : x.Op = 4) : 0 ≤ x.N := by
  unfold m1_expr_Scope__primary at h
  rw [if_neg (by simp [h1]), if_neg (by simp [h1]), if_neg (by simp [h1])] at h
  split at h
  · cases h
  · rename_i hc
    simp only [Bool.or_eq_true, decide_eq_true_eq, not_or] at hc
    omega
theorem check_next_L1 (s : expr_Scope) (n : List api_ExprNode) (rec_ : expr_Scope → List api_ExprNode → Int → Int × Int × Int) (a : Int) (ha : 0 ≤ a) (K : Int → List Int → Int × Int × Int) (hr : ∀ z : Int, 0 ≤ z → (rec_ s n z).2.2 = 0 → z < (rec_ s n z).2.1) (hK : ∀ x z, a < x → (K x z).2.2 = 0 → a < (K x z).2.1) :
    ∀ (m : Nat) (x i : Int) (z : List Int), a < x → (m1_expr_Scope__check_L1 s n rec_ K m x i z).2.2 = 0 → a < (m1_expr_Scope__check_L1 s n rec_ K m x i z).2.1
  | 0, x, i, z, hx, h => by rw [m1_expr_Scope__check_L1] at h ⊢; exact hK x z hx h
  | m + 1, x, i, z, hx, h => by
    rw [m1_expr_Scope__check_L1] at h ⊢
    simp only [LET] at h ⊢
    split at h
    · rename_i hc
      simp only [Bool.not_eq_true', decide_eq_false_iff_not] at hc
      exact absurd h hc
    · rename_i hc
      rw [if_neg hc]
      simp only [Bool.not_eq_true', decide_eq_false_iff_not, Decidable.not_not] at hc
      have := hr x (by omega) hc
      exact check_next_L1 s n rec_ a ha K hr hK m _ _ _ (by omega) h
theorem check_next : ∀ (k : Nat) (s : expr_Scope) (n : List api_ExprNode) (a : Int), 0 ≤ a → n.length ≤ 1000000 → (m1_expr_Scope__check_R k s n a).2.2 = 0 → a < (m1_expr_Scope__check_R k s n a).2.1
  | 0, s, n, a, ha, hn, h => by rw [m1_expr_Scope__check_R] at h; cases h
  | k + 1, s, n, a, ha, hn, h => by
    rw [m1_expr_Scope__check_R] at h ⊢
    unfold m1_expr_Scope__check_B at h ⊢
    simp only [LET] at h ⊢
    split at h
    · cases h
    · rename_i h1
      rw [if_neg h1]
      simp only [decide_eq_true_eq, Int.not_le] at h1
      have ew : wr (a + 1) = a + 1 := wr_of (by omega) (by omega)
      split at h
      · cases h
      · rename_i h2
        rw [if_neg h2]
        split at h
        · rename_i h3
          rw [if_pos h3]
          show a < wr (a + 1)
          omega
        · rename_i h3
          rw [if_neg h3]
          exact check_next_L1 s n _ a ha _ (fun z hz hz2 => check_next k s n z hz hn hz2) (fun x z hx _ => hx) _ _ _ _ (by omega) h
theorem check_fuel_L1 (s : expr_Scope) (n : List api_ExprNode) (r1 r2 : expr_Scope → List api_ExprNode → Int → Int × Int × Int) (a : Int) (ha : 0 ≤ a) (K : Int → List Int → Int × Int × Int) (hr : ∀ z : Int, a < z → r1 s n z = r2 s n z) (hn : ∀ z : Int, 0 ≤ z → (r1 s n z).2.2 = 0 → z < (r1 s n z).2.1) :
    ∀ (m : Nat) (x i : Int) (z : List Int), a < x → m1_expr_Scope__check_L1 s n r1 K m x i z = m1_expr_Scope__check_L1 s n r2 K m x i z
  | 0, x, i, z, hx => by rw [m1_expr_Scope__check_L1, m1_expr_Scope__check_L1]
  | m + 1, x, i, z, hx => by
    rw [m1_expr_Scope__check_L1, m1_expr_Scope__check_L1]
    simp only [LET, ← hr x hx]
    split
    · rfl
    · rename_i hc
      simp only [Bool.not_eq_true', decide_eq_false_iff_not, Decidable.not_not] at hc
      have := hn x (by omega) hc
      exact check_fuel_L1 s n r1 r2 a ha K hr hn m _ _ _ (by omega)
theorem check_fuel : ∀ (k k' : Nat) (s : expr_Scope) (n : List api_ExprNode) (a : Int), 0 ≤ a → n.length ≤ 1000000 → n.length - a.toNat < k → n.length - a.toNat < k' → m1_expr_Scope__check_R k s n a = m1_expr_Scope__check_R k' s n a
  | 0, k', s, n, a, ha, hn, h1, h2 => by omega
  | k + 1, 0, s, n, a, ha, hn, h1, h2 => by omega
  | k + 1, k' + 1, s, n, a, ha, hn, h1, h2 => by
    rw [m1_expr_Scope__check_R, m1_expr_Scope__check_R]
    unfold m1_expr_Scope__check_B
    simp only [LET]
    split
    · rfl
    · rename_i h3
      simp only [decide_eq_true_eq, Int.not_le] at h3
      have ew : wr (a + 1) = a + 1 := wr_of (by omega) (by omega)
      split
      · rfl
      · split
        · rfl
        · exact check_fuel_L1 s n _ _ a ha _ (fun z hz => check_fuel k k' s n z (by omega) hn (by omega) (by omega)) (fun z hz h => check_next k s n z hz hn h) _ _ _ _ (by omega)
theorem check_eq (s : expr_Scope) (n : List api_ExprNode) (a : Int) (ha : 0 ≤ a) (hn : n.length ≤ 1000000) : m1_expr_Scope__check s n a = m1_expr_Scope__check_B m1_expr_Scope__check s n a := by
  have e : m1_expr_Scope__check s n a = m1_expr_Scope__check_B (m1_expr_Scope__check_R (n.length - a.toNat)) s n a := by
    unfold m1_expr_Scope__check
    rw [m1_expr_Scope__check_R]
  rw [e]
  unfold m1_expr_Scope__check_B
  simp only [LET]
  split
  · rfl
  · rename_i h3
    simp only [decide_eq_true_eq, Int.not_le] at h3
    have ew : wr (a + 1) = a + 1 := wr_of (by omega) (by omega)
    split
    · rfl
    · split
      · rfl
      · exact check_fuel_L1 s n _ _ a ha _ (fun z hz => check_fuel (n.length - a.toNat) (n.length - z.toNat + 1) s n z (by omega) hn (by omega) (by omega)) (fun z hz h => check_next _ s n z hz hn h) _ _ _ _ (by omega)
theorem cnext {s : expr_Scope} {n : List api_ExprNode} {a : Int} (ha : 0 ≤ a) (hn : n.length ≤ 1000000) (h : (m1_expr_Scope__check s n a).2.2 = 0) : a < (m1_expr_Scope__check s n a).2.1 := check_next _ s n a ha hn h
/-- A valid subexpression at an index: what its check says, part by part. -/
structure Ok (s : expr_Scope) (n : List api_ExprNode) (a : Int) : Prop where
  lo : 0 ≤ a
  len : n.length ≤ 1000000
  ok : (m1_expr_Scope__check s n a).2.2 = 0
def nx (s : expr_Scope) (n : List api_ExprNode) (a : Int) : Int := (m1_expr_Scope__check s n a).2.1
def wd (s : expr_Scope) (n : List api_ExprNode) (a : Int) : Int := (m1_expr_Scope__check s n a).1
theorem Ok.lt {s : expr_Scope} {n : List api_ExprNode} {a : Int} (h : Ok s n a) : a < n.length := by
  have := h.ok
  rw [check_eq s n a h.lo h.len] at this
  unfold m1_expr_Scope__check_B at this
  by_cases hc : (n.length : Int) ≤ a
  · rw [if_pos (by simpa using hc)] at this; cases this
  · omega
theorem Ok.wr1 {s : expr_Scope} {n : List api_ExprNode} {a : Int} (h : Ok s n a) : wr (a + 1) = a + 1 := by
  have := h.lt
  have := h.len
  have := h.lo
  exact wr_of (by omega) (by omega)
theorem Ok.step {s : expr_Scope} {n : List api_ExprNode} {a : Int} (h : Ok s n a) :
    (expr_arity (ix n a).Op = 0 ∧ (m1_expr_Scope__primary s (ix n a)).2 = 0 ∧ wd s n a = (m1_expr_Scope__primary s (ix n a)).1 ∧ nx s n a = a + 1) ∨
    (expr_arity (ix n a).Op = 1 ∧ Ok s n (a + 1) ∧ (expr_combine (ix n a) [wd s n (a + 1), 0, 0]).2 = 0 ∧ wd s n a = (expr_combine (ix n a) [wd s n (a + 1), 0, 0]).1 ∧ nx s n a = nx s n (a + 1)) ∨
    (expr_arity (ix n a).Op = 2 ∧ Ok s n (a + 1) ∧ Ok s n (nx s n (a + 1)) ∧ (expr_combine (ix n a) [wd s n (a + 1), wd s n (nx s n (a + 1)), 0]).2 = 0 ∧ wd s n a = (expr_combine (ix n a) [wd s n (a + 1), wd s n (nx s n (a + 1)), 0]).1 ∧ nx s n a = nx s n (nx s n (a + 1))) ∨
    (expr_arity (ix n a).Op = 3 ∧ Ok s n (a + 1) ∧ Ok s n (nx s n (a + 1)) ∧ Ok s n (nx s n (nx s n (a + 1))) ∧ (expr_combine (ix n a) [wd s n (a + 1), wd s n (nx s n (a + 1)), wd s n (nx s n (nx s n (a + 1)))]).2 = 0 ∧ wd s n a = (expr_combine (ix n a) [wd s n (a + 1), wd s n (nx s n (a + 1)), wd s n (nx s n (nx s n (a + 1)))]).1 ∧ nx s n a = nx s n (nx s n (nx s n (a + 1)))) := by
  have hlt := h.lt
  have hw := h.wr1
  have hok := h.ok
  have hlo := h.lo
  have har := arity_le (ix n a).Op
  have e : m1_expr_Scope__check s n a = m1_expr_Scope__check_B m1_expr_Scope__check s n a := check_eq s n a h.lo h.len
  have mk : ∀ z : Int, 0 ≤ z → (m1_expr_Scope__check s n z).2.2 = 0 → Ok s n z := fun z h0 h1 => ⟨h0, h.len, h1⟩
  simp only [wd, nx]
  rw [e] at hok ⊢
  unfold m1_expr_Scope__check_B at hok ⊢
  simp only [LET, hw] at hok ⊢
  rw [if_neg (show ¬(decide ((n.length : Int) ≤ a) = true) by simpa using hlt)] at hok ⊢
  by_cases hn : expr_arity (ix n a).Op < 0
  · rw [if_pos (by simpa using hn)] at hok; cases hok
  rw [if_neg (show ¬(decide (expr_arity (ix n a).Op < 0) = true) by simpa using hn)] at hok ⊢
  by_cases h0 : expr_arity (ix n a).Op = 0
  · rw [if_pos (by simpa using h0)] at hok ⊢
    exact .inl ⟨h0, hok, rfl, rfl⟩
  rw [if_neg (show ¬(decide (expr_arity (ix n a).Op = 0) = true) by simpa using h0)] at hok ⊢
  right
  have hcase : expr_arity (ix n a).Op = 1 ∨ expr_arity (ix n a).Op = 2 ∨ expr_arity (ix n a).Op = 3 := by omega
  rcases hcase with ha | ha | ha
  · left
    rw [ha] at hok ⊢
    rw [show Int.toNat (1 - 0) = 1 from rfl] at hok ⊢
    simp only [m1_expr_Scope__check_L1, LET] at hok ⊢
    by_cases c1 : (m1_expr_Scope__check s n (a + 1)).2.2 = 0
    · rw [if_neg (by simp [c1])] at hok ⊢
      exact ⟨trivial, mk _ (by omega) c1, hok, rfl, rfl⟩
    · rw [if_pos (by simp [c1])] at hok; exact absurd hok c1
  · right; left
    rw [ha] at hok ⊢
    rw [show Int.toNat (2 - 0) = 2 from rfl] at hok ⊢
    simp only [m1_expr_Scope__check_L1, LET] at hok ⊢
    by_cases c1 : (m1_expr_Scope__check s n (a + 1)).2.2 = 0
    · rw [if_neg (by simp [c1])] at hok ⊢
      have n1 := cnext (s := s) (n := n) (a := a + 1) (by omega) h.len c1
      by_cases c2 : (m1_expr_Scope__check s n (m1_expr_Scope__check s n (a + 1)).2.1).2.2 = 0
      · rw [if_neg (by simp [c2])] at hok ⊢
        exact ⟨trivial, mk _ (by omega) c1, mk _ (by omega) c2, hok, rfl, rfl⟩
      · rw [if_pos (by simp [c2])] at hok; exact absurd hok c2
    · rw [if_pos (by simp [c1])] at hok; exact absurd hok c1
  · right; right
    rw [ha] at hok ⊢
    rw [show Int.toNat (3 - 0) = 3 from rfl] at hok ⊢
    simp only [m1_expr_Scope__check_L1, LET] at hok ⊢
    by_cases c1 : (m1_expr_Scope__check s n (a + 1)).2.2 = 0
    · rw [if_neg (by simp [c1])] at hok ⊢
      have n1 := cnext (s := s) (n := n) (a := a + 1) (by omega) h.len c1
      by_cases c2 : (m1_expr_Scope__check s n (m1_expr_Scope__check s n (a + 1)).2.1).2.2 = 0
      · rw [if_neg (by simp [c2])] at hok ⊢
        have n2 := cnext (s := s) (n := n) (by omega) h.len c2
        by_cases c3 : (m1_expr_Scope__check s n (m1_expr_Scope__check s n (m1_expr_Scope__check s n (a + 1)).2.1).2.1).2.2 = 0
        · rw [if_neg (by simp [c3])] at hok ⊢
          exact ⟨trivial, mk _ (by omega) c1, mk _ (by omega) c2, mk _ (by omega) c3, hok, rfl, rfl⟩
        · rw [if_pos (by simp [c3])] at hok; exact absurd hok c3
      · rw [if_pos (by simp [c2])] at hok; exact absurd hok c2
    · rw [if_pos (by simp [c1])] at hok; exact absurd hok c1
theorem Ok.gt {s : expr_Scope} {n : List api_ExprNode} {a : Int} (h : Ok s n a) : a < nx s n a := cnext h.lo h.len h.ok
/-! The machine -/
def VE (m : expr_machine) : Prop := Ok m.scope m.nodes m.next
abbrev st1 (m : expr_machine) : expr_machine := { scope := m.scope, env := m.env, args := m.args, nodes := m.nodes, next := wr (m.next + 1) }
def HR (rec_ : expr_machine → expr_value × expr_machine) : Prop := ∀ z, VE z → (rec_ z).2 = { z with next := nx z.scope z.nodes z.next }
theorem ve_lt {m : expr_machine} (h : VE m) : 0 ≤ m.next ∧ m.next < m.nodes.length := ⟨h.lo, h.lt⟩
theorem evp {m : expr_machine} (h : VE m) {y : Int} (ha : expr_arity (ix m.nodes m.next).Op = y) (h0 : y = 0) : (m1_expr_Scope__primary m.scope (ix m.nodes m.next)).2 = 0 := by
  subst ha
  rcases h.step with h | h | h | h
  · exact h.2.1
  all_goals (have := h.1; omega)
theorem ev1 {m : expr_machine} (h : VE m) {y : Int} (ha : expr_arity (ix m.nodes m.next).Op = y) (h0 : ¬y = 0) : VE (st1 m) := by
  subst ha
  have e : VE (st1 m) = Ok m.scope m.nodes (m.next + 1) := by show Ok _ _ (wr (m.next + 1)) = _; rw [h.wr1]
  rw [e]
  rcases h.step with h | h | h | h
  · exact absurd h.1 h0
  all_goals exact h.2.1
section
variable {rec_ : expr_machine → expr_value × expr_machine} {m : expr_machine} {y1 y2 : expr_value × expr_machine}
theorem snd1 (h : VE m) {y : Int} (ha : expr_arity (ix m.nodes m.next).Op = y) (h0 : ¬y = 0) (hr : HR rec_) (hw : rec_ (st1 m) = y1) : y1.2 = { m with next := nx m.scope m.nodes (m.next + 1) } := by
  rw [← hw, hr _ (ev1 h ha h0)]
  show ({ scope := _, env := _, args := _, nodes := _, next := nx m.scope m.nodes (wr (m.next + 1)) } : expr_machine) = _
  rw [h.wr1]
theorem ev2 (h : VE m) {y : Int} (ha : expr_arity (ix m.nodes m.next).Op = y) (h0 : ¬y = 0) (h1 : ¬y = 1) (hr : HR rec_) (hw : rec_ (st1 m) = y1) : VE y1.2 := by
  rw [snd1 h ha h0 hr hw]
  subst ha
  show Ok m.scope m.nodes (nx m.scope m.nodes (m.next + 1))
  rcases h.step with h | h | h | h
  · exact absurd h.1 h0
  · exact absurd h.1 h1
  all_goals exact h.2.2.1
theorem snd2 (h : VE m) {y : Int} (ha : expr_arity (ix m.nodes m.next).Op = y) (h0 : ¬y = 0) (h1 : ¬y = 1) (hr : HR rec_) (hw : rec_ (st1 m) = y1) (hw2 : rec_ y1.2 = y2) : y2.2 = { m with next := nx m.scope m.nodes (nx m.scope m.nodes (m.next + 1)) } := by
  rw [← hw2, hr _ (ev2 h ha h0 h1 hr hw), snd1 h ha h0 hr hw]
theorem ev3 (h : VE m) {y : Int} (ha : expr_arity (ix m.nodes m.next).Op = y) (h0 : ¬y = 0) (h1 : ¬y = 1) (h2 : ¬y = 2) (hr : HR rec_) (hw : rec_ (st1 m) = y1) (hw2 : rec_ y1.2 = y2) : VE y2.2 := by
  rw [snd2 h ha h0 h1 hr hw hw2]
  subst ha
  show Ok m.scope m.nodes (nx m.scope m.nodes (nx m.scope m.nodes (m.next + 1)))
  rcases h.step with h | h | h | h
  · exact absurd h.1 h0
  · exact absurd h.1 h1
  · exact absurd h.1 h2
  · exact h.2.2.2.1
theorem dv1 (h : VE m) {y : Int} (ha : expr_arity (ix m.nodes m.next).Op = y) (h0 : ¬y = 0) : (st1 m).nodes.length - (st1 m).next.toNat < m.nodes.length - m.next.toNat := by
  have h1 := ve_lt h
  show m.nodes.length - (wr (m.next + 1)).toNat < _
  rw [h.wr1]; omega
theorem dv2 (h : VE m) {y : Int} (ha : expr_arity (ix m.nodes m.next).Op = y) (h0 : ¬y = 0) (h1 : ¬y = 1) (hr : HR rec_) (hw : rec_ (st1 m) = y1) : y1.2.nodes.length - y1.2.next.toNat < m.nodes.length - m.next.toNat := by
  have e1 := ev1 h ha h0
  have g : m.next + 1 < nx m.scope m.nodes (m.next + 1) := by
    have := e1.gt
    have e : (st1 m).next = m.next + 1 := h.wr1
    rw [e] at this
    exact this
  rw [snd1 h ha h0 hr hw]
  have := ve_lt h
  show m.nodes.length - (nx m.scope m.nodes (m.next + 1)).toNat < _
  omega
theorem dv3 (h : VE m) {y : Int} (ha : expr_arity (ix m.nodes m.next).Op = y) (h0 : ¬y = 0) (h1 : ¬y = 1) (h2 : ¬y = 2) (hr : HR rec_) (hw : rec_ (st1 m) = y1) (hw2 : rec_ y1.2 = y2) : y2.2.nodes.length - y2.2.next.toNat < m.nodes.length - m.next.toNat := by
  have e1 := ev1 h ha h0
  have g : m.next + 1 < nx m.scope m.nodes (m.next + 1) := by
    have := e1.gt
    have e : (st1 m).next = m.next + 1 := h.wr1
    rw [e] at this
    exact this
  have e2 := ev2 h ha h0 h1 hr hw
  have g2 : nx m.scope m.nodes (m.next + 1) < nx m.scope m.nodes (nx m.scope m.nodes (m.next + 1)) := by
    have := e2.gt
    rw [snd1 h ha h0 hr hw] at this
    exact this
  rw [snd2 h ha h0 h1 hr hw hw2]
  have := ve_lt h
  show m.nodes.length - (nx m.scope m.nodes (nx m.scope m.nodes (m.next + 1))).toNat < _
  omega
end
theorem load_snd (m : expr_machine) (x : api_ExprNode) : (m2_expr_machine__load m x).2 = m := by
  unfold m2_expr_machine__load
  simp only [LET]
  repeat' split
  all_goals rfl
theorem eval_next : ∀ k : Nat, HR (m2_expr_machine__eval_R k)
  | 0 => fun z hz => by rw [m2_expr_machine__eval_R]; rfl
  | k + 1 => fun z hz => by
    have ih := eval_next k
    rw [m2_expr_machine__eval_R]
    unfold m2_expr_machine__eval_B
    simp only [LET, decide_eq_true_eq]
    have hs := hz.step
    have hw := hz.wr1
    by_cases h0 : expr_arity (ix z.nodes z.next).Op = 0
    · rw [if_pos h0]
      simp only [load_snd, hw]
      rcases hs with h | h | h | h
      · rw [h.2.2.2]
      all_goals (have := h.1; omega)
    · rw [if_neg h0]
      have e1 := ev1 hz rfl h0
      by_cases h1 : expr_arity (ix z.nodes z.next).Op = 1
      · rw [if_pos h1]
        have := snd1 hz rfl h0 ih rfl
        refine Eq.trans this ?_
        rcases hs with h | h | h | h
        · exact absurd h.1 h0
        · rw [h.2.2.2.2]
        all_goals (have := h.1; omega)
      · rw [if_neg h1]
        by_cases h2 : expr_arity (ix z.nodes z.next).Op = 2
        · rw [if_pos h2]
          have := snd2 hz rfl h0 h1 ih rfl rfl
          refine Eq.trans this ?_
          rcases hs with h | h | h | h
          · exact absurd h.1 h0
          · exact absurd h.1 h1
          · rw [h.2.2.2.2.2]
          · have := h.1; omega
        · rw [if_neg h2]
          have e3 := ev3 hz rfl h0 h1 h2 ih rfl rfl
          have key := ih _ e3
          have s2 := snd2 hz rfl h0 h1 ih rfl rfl
          rcases hs with h | h | h | h
          · exact absurd h.1 h0
          · exact absurd h.1 h1
          · exact absurd h.1 h2
          · have fin := key.trans (show _ = ({ z with next := nx z.scope z.nodes z.next } : expr_machine) by rw [s2, h.2.2.2.2.2.2])
            split
            · exact fin
            · exact fin
theorem chk_ok {n : List api_ExprNode} {s : expr_Scope} {y : Int × Int} (h : expr_Check n s = y) (h2 : y.2 = 0) : n.length ≤ 24 ∧ Ok s n 0 ∧ y.1 = wd s n 0 ∧ (n.length : Int) ≤ nx s n 0 := by
  subst h
  unfold expr_Check at h2 ⊢
  simp only [LET] at h2 ⊢
  split at h2
  · cases h2
  · rename_i h3
    rw [if_neg h3]
    simp only [decide_eq_true_eq, Int.not_lt] at h3
    split at h2
    · rename_i h4
      simp only [Bool.not_eq_true', decide_eq_false_iff_not] at h4
      exact absurd h2 h4
    · rename_i h4
      rw [if_neg h4]
      simp only [Bool.not_eq_true', decide_eq_false_iff_not, Decidable.not_not] at h4
      split at h2
      · cases h2
      · rename_i h5
        rw [if_neg h5]
        simp only [decide_eq_true_eq, Int.not_lt] at h5
        exact ⟨by omega, ⟨by omega, by omega, h4⟩, rfl, h5⟩
theorem ev0 {n : List api_ExprNode} {s : expr_Scope} {y : Int × Int} (h : expr_Check n s = y) (h2 : y.2 = 0) (e : api_Env) (a : List (BitVec 32)) : VE { scope := s, env := e, args := a, nodes := n, next := 0 } := (chk_ok h h2).2.1
theorem el_ok {e : api_Env} {r : api_FieldRef} {y : List (BitVec 32) × Bool} (h : env_element e r = y) (hb : y.2 = true) : 0 ≤ r.Field ∧ r.Field < y.1.length := by
  subst h
  unfold env_element at hb ⊢
  simp only [LET] at hb ⊢
  split at hb
  · rename_i h
    rw [if_pos h]
    simpa [env_in_uint32] using hb
  · rename_i h
    rw [if_neg h]
    simp only [Bool.and_eq_true, env_in_uint32, decide_eq_true_eq] at hb
    exact hb.2
theorem arity_eq (op : Int) : expr_arity op = if 1 ≤ op ∧ op ≤ 4 then 0 else if 5 ≤ op ∧ op ≤ 8 then 1 else if 9 ≤ op ∧ op ≤ 16 then 2 else if op = 17 then 3 else -1 := by
  by_cases h : 1 ≤ op ∧ op ≤ 17
  · have : op = 1 ∨ op = 2 ∨ op = 3 ∨ op = 4 ∨ op = 5 ∨ op = 6 ∨ op = 7 ∨ op = 8 ∨ op = 9 ∨ op = 10 ∨ op = 11 ∨ op = 12 ∨ op = 13 ∨ op = 14 ∨ op = 15 ∨ op = 16 ∨ op = 17 := by omega
    rcases this with rfl | rfl | rfl | rfl | rfl | rfl | rfl | rfl | rfl | rfl | rfl | rfl | rfl | rfl | rfl | rfl | rfl <;> rfl
  · rw [if_neg (by omega), if_neg (by omega), if_neg (by omega), if_neg (by omega)]
    have e : ∀ k : Int, 1 ≤ k → k ≤ 17 → decide (op = k) = false := fun k h1 h2 => by simp; omega
    unfold expr_arity
    simp only [LET, e 1 (by omega) (by omega), e 2 (by omega) (by omega), e 3 (by omega) (by omega), e 4 (by omega) (by omega), e 5 (by omega) (by omega), e 6 (by omega) (by omega), e 7 (by omega) (by omega), e 8 (by omega) (by omega), e 9 (by omega) (by omega), e 10 (by omega) (by omega), e 11 (by omega) (by omega), e 12 (by omega) (by omega), e 13 (by omega) (by omega), e 14 (by omega) (by omega), e 15 (by omega) (by omega), e 16 (by omega) (by omega), e 17 (by omega) (by omega), Bool.false_eq_true, if_false]
section
variable {s : expr_Scope} {n : List api_ExprNode} {a : Int}
end
/-! Values -/
def mch (s : expr_Scope) (e : api_Env) (g : List (BitVec 32)) (n : List api_ExprNode) (a : Int) : expr_machine := { scope := s, env := e, args := g, nodes := n, next := a }
def vl (s : expr_Scope) (e : api_Env) (g : List (BitVec 32)) (n : List api_ExprNode) (a : Int) : expr_value := (m2_expr_machine__eval (mch s e g n a)).1
theorem eval_fuel : ∀ (k k' : Nat) (m : expr_machine), VE m → m.nodes.length - m.next.toNat < k → m.nodes.length - m.next.toNat < k' → m2_expr_machine__eval_R k m = m2_expr_machine__eval_R k' m
  | 0, k', m, h, h1, h2 => by omega
  | k + 1, 0, m, h, h1, h2 => by omega
  | k + 1, k' + 1, m, h, h1, h2 => by
    rw [m2_expr_machine__eval_R, m2_expr_machine__eval_R]
    unfold m2_expr_machine__eval_B
    simp only [LET, decide_eq_true_eq]
    split
    · rfl
    · rename_i h3
      have e1 := ev1 h rfl h3
      have d1 := dv1 h rfl h3
      have q1 : m2_expr_machine__eval_R k (st1 m) = m2_expr_machine__eval_R k' (st1 m) := eval_fuel k k' _ e1 (by omega) (by omega)
      have ew : ({ scope := m.scope, env := m.env, args := m.args, nodes := m.nodes, next := wr (m.next + 1) } : expr_machine) = st1 m := rfl
      split
      · simp only [ew, q1]
      · rename_i h4
        have e2 := ev2 h rfl h3 h4 (eval_next k') rfl
        have d2 := dv2 h rfl h3 h4 (eval_next k') rfl
        have q2 := eval_fuel k k' _ e2 (by omega) (by omega)
        split
        · simp only [ew, q1, q2]
        · rename_i h5
          have e3 := ev3 h rfl h3 h4 h5 (eval_next k') rfl rfl
          have d3 := dv3 h rfl h3 h4 h5 (eval_next k') rfl rfl
          have q3 := eval_fuel k k' _ e3 (by omega) (by omega)
          simp only [ew, q1, q2, q3]
section
variable {s : expr_Scope} {n : List api_ExprNode} {a : Int} (e : api_Env) (g : List (BitVec 32))
theorem evalAt {k : Nat} (h : Ok s n a) (hk : n.length - a.toNat < k) : m2_expr_machine__eval_R k (mch s e g n a) = (vl s e g n a, mch s e g n (nx s n a)) := by
  have h1 : m2_expr_machine__eval_R k (mch s e g n a) = m2_expr_machine__eval (mch s e g n a) := eval_fuel k (n.length - a.toNat + 1) (mch s e g n a) h hk (by show n.length - a.toNat < _; omega)
  rw [h1]
  refine Prod.ext rfl ?_
  exact eval_next _ (mch s e g n a) h
theorem vl_eq (h : Ok s n a) : m2_expr_machine__eval (mch s e g n a) = m2_expr_machine__eval_B (m2_expr_machine__eval_R (n.length - a.toNat)) (mch s e g n a) := by
  unfold m2_expr_machine__eval
  rw [show (mch s e g n a).nodes.length - (mch s e g n a).next.toNat + 1 = (n.length - a.toNat) + 1 from rfl, m2_expr_machine__eval_R]
theorem evalB (rec_ : expr_machine → expr_value × expr_machine) (x0 : expr_machine) : m2_expr_machine__eval_B rec_ x0 =
    if expr_arity ((ix x0.nodes x0.next).Op) = 0 then ((m2_expr_machine__load (st1 x0) (ix x0.nodes x0.next)).1, (m2_expr_machine__load (st1 x0) (ix x0.nodes x0.next)).2)
    else if expr_arity ((ix x0.nodes x0.next).Op) = 1 then (expr_unary (ix x0.nodes x0.next) (rec_ (st1 x0)).1, (rec_ (st1 x0)).2)
    else if expr_arity ((ix x0.nodes x0.next).Op) = 2 then (expr_binary (ix x0.nodes x0.next).Op (rec_ (st1 x0)).1 (rec_ (rec_ (st1 x0)).2).1, (rec_ (rec_ (st1 x0)).2).2)
    else if (rec_ (st1 x0)).1.v = 1#32 then ((rec_ (rec_ (st1 x0)).2).1, (rec_ (rec_ (rec_ (st1 x0)).2).2).2) else ((rec_ (rec_ (rec_ (st1 x0)).2).2).1, (rec_ (rec_ (rec_ (st1 x0)).2).2).2) := by
  unfold m2_expr_machine__eval_B
  simp only [LET, decide_eq_true_eq]
theorem st1_mch (h : Ok s n a) : st1 (mch s e g n a) = mch s e g n (a + 1) := by
  show ({ scope := _, env := _, args := _, nodes := _, next := wr (a + 1) } : expr_machine) = _
  rw [h.wr1]
  rfl
theorem vl_0 (h : Ok s n a) (ha : expr_arity (ix n a).Op = 0) : vl s e g n a = (m2_expr_machine__load (mch s e g n (a + 1)) (ix n a)).1 := by
  show (m2_expr_machine__eval (mch s e g n a)).1 = _
  rw [vl_eq e g h, evalB, if_pos (show expr_arity (ix (mch s e g n a).nodes (mch s e g n a).next).Op = 0 from ha), st1_mch e g h]
  rfl
theorem vl_1 (h : Ok s n a) (ha : expr_arity (ix n a).Op = 1) (k1 : Ok s n (a + 1)) : vl s e g n a = expr_unary (ix n a) (vl s e g n (a + 1)) := by
  have hlt := h.lt
  have hlo := h.lo
  have q1 := evalAt e g (k := n.length - a.toNat) k1 (by omega)
  have hm : expr_arity (ix (mch s e g n a).nodes (mch s e g n a).next).Op = 1 := ha
  show (m2_expr_machine__eval (mch s e g n a)).1 = _
  rw [vl_eq e g h, evalB, if_neg (by rw [hm]; omega), if_pos hm, st1_mch e g h, q1]
  rfl
theorem vl_2 (h : Ok s n a) (ha : expr_arity (ix n a).Op = 2) (k1 : Ok s n (a + 1)) (k2 : Ok s n (nx s n (a + 1))) : vl s e g n a = expr_binary (ix n a).Op (vl s e g n (a + 1)) (vl s e g n (nx s n (a + 1))) := by
  have hlt := h.lt
  have hlo := h.lo
  have g1 := k1.gt
  have q1 := evalAt e g (k := n.length - a.toNat) k1 (by omega)
  have q2 := evalAt e g (k := n.length - a.toNat) k2 (by omega)
  have hm : expr_arity (ix (mch s e g n a).nodes (mch s e g n a).next).Op = 2 := ha
  show (m2_expr_machine__eval (mch s e g n a)).1 = _
  rw [vl_eq e g h, evalB, if_neg (by rw [hm]; omega), if_neg (by rw [hm]; omega), if_pos hm, st1_mch e g h, q1]
  show expr_binary _ _ (m2_expr_machine__eval_R _ (mch s e g n (nx s n (a + 1)))).1 = _
  rw [q2]
  rfl
theorem vl_3 (h : Ok s n a) (ha : expr_arity (ix n a).Op = 3) (k1 : Ok s n (a + 1)) (k2 : Ok s n (nx s n (a + 1))) (k3 : Ok s n (nx s n (nx s n (a + 1)))) : vl s e g n a = if (vl s e g n (a + 1)).v = 1#32 then vl s e g n (nx s n (a + 1)) else vl s e g n (nx s n (nx s n (a + 1))) := by
  have hlt := h.lt
  have hlo := h.lo
  have g1 := k1.gt
  have g2 := k2.gt
  have q1 := evalAt e g (k := n.length - a.toNat) k1 (by omega)
  have q2 := evalAt e g (k := n.length - a.toNat) k2 (by omega)
  have q3 := evalAt e g (k := n.length - a.toNat) k3 (by omega)
  have hm : expr_arity (ix (mch s e g n a).nodes (mch s e g n a).next).Op = 3 := ha
  show (m2_expr_machine__eval (mch s e g n a)).1 = _
  rw [vl_eq e g h, evalB, if_neg (by rw [hm]; omega), if_neg (by rw [hm]; omega), if_neg (by rw [hm]; omega), st1_mch e g h, q1]
  show (if (vl s e g n (a + 1)).v = 1#32 then ((m2_expr_machine__eval_R _ (mch s e g n (nx s n (a + 1)))).1, _) else ((m2_expr_machine__eval_R _ (m2_expr_machine__eval_R _ (mch s e g n (nx s n (a + 1)))).2).1, _)).1 = _
  rw [q2]
  show (if (vl s e g n (a + 1)).v = 1#32 then (vl s e g n (nx s n (a + 1)), (m2_expr_machine__eval_R _ (mch s e g n (nx s n (nx s n (a + 1))))).2) else ((m2_expr_machine__eval_R _ (mch s e g n (nx s n (nx s n (a + 1))))).1, (m2_expr_machine__eval_R _ (mch s e g n (nx s n (nx s n (a + 1))))).2)).1 = _
  rw [q3]
  split <;> rfl
end
theorem Eval_ok (n : List api_ExprNode) (s : expr_Scope) (e : api_Env) (g : List (BitVec 32)) (h : (expr_Check n s).2 = 0) : expr_Eval n s e g = (vl s e g n 0).v := by
  unfold expr_Eval
  simp only [LET]
  rw [if_neg (by simp [h])]
  rfl
theorem Eval_bad (n : List api_ExprNode) (s : expr_Scope) (e : api_Env) (g : List (BitVec 32)) (h : ¬(expr_Check n s).2 = 0) : expr_Eval n s e g = 0#32 := by
  unfold expr_Eval
  simp only [LET]
  rw [if_pos (by simp [h])]
/-! Widths -/
theorem wide_ok {w : Int} (h : (expr_wide w).2 = 0) : (expr_wide w).1 = w ∧ 1 ≤ w ∧ w ≤ 32 := by
  unfold expr_wide at h ⊢
  split at h
  · cases h
  · rename_i hc
    rw [if_neg hc]
    simp only [Bool.or_eq_true, decide_eq_true_eq, not_or] at hc
    exact ⟨rfl, by omega⟩
theorem primary_w {s : expr_Scope} {x : api_ExprNode} (h : (m1_expr_Scope__primary s x).2 = 0) : 1 ≤ (m1_expr_Scope__primary s x).1 ∧ (m1_expr_Scope__primary s x).1 ≤ 32 := by
  unfold m1_expr_Scope__primary at h ⊢
  simp only [LET] at h ⊢
  split at h
  · rename_i h1
    rw [if_pos h1]
    split at h
    · cases h
    · rename_i h2
      rw [if_neg h2]
      have := wide_ok h
      omega
  · rename_i h1
    rw [if_neg h1]
    split at h
    · rename_i h2
      rw [if_pos h2]
      split at h
      · cases h
      · rename_i h3
        rw [if_neg h3]
        have := wide_ok h
        omega
    · rename_i h2
      rw [if_neg h2]
      split at h
      · rename_i h3
        rw [if_pos h3]
        split at h
        · cases h
        · rename_i h4
          rw [if_neg h4]
          have := wide_ok h
          omega
      · rename_i h3
        rw [if_neg h3]
        split at h
        · cases h
        · rename_i h4
          rw [if_neg h4]
          omega
/-- What the operators ask of the widths of their operands, and the width they give. -/
theorem combine_eq (x : api_ExprNode) (u v w : Int) (ho : 5 ≤ x.Op ∧ x.Op ≤ 17) : expr_combine x [u, v, w] =
    if x.Op = 5 then (u, 0) else if x.Op = 6 ∨ x.Op = 7 then (if x.N < 0 ∨ 31 < x.N then (0, 9) else (u, 0)) else
    if x.Op = 8 then (if x.N < 0 then (0, 9) else if ¬(expr_wide x.W).2 = 0 ∨ wr (u - x.W) < x.N then (0, 10) else (x.W, 0)) else
    if x.Op = 14 then expr_wide (wr (u + v)) else if x.Op = 17 then (if ¬u = 1 ∨ ¬v = w then (0, 10) else (v, 0)) else
    if ¬u = v then (0, 10) else if x.Op = 15 ∨ x.Op = 16 then (1, 0) else (u, 0) := by
  have e0 : ix [u, v, w] 0 = u := rfl
  have e1 : ix [u, v, w] 1 = v := rfl
  have e2 : ix [u, v, w] 2 = w := rfl
  have : x.Op = 5 ∨ x.Op = 6 ∨ x.Op = 7 ∨ x.Op = 8 ∨ x.Op = 9 ∨ x.Op = 10 ∨ x.Op = 11 ∨ x.Op = 12 ∨ x.Op = 13 ∨ x.Op = 14 ∨ x.Op = 15 ∨ x.Op = 16 ∨ x.Op = 17 := by omega
  unfold expr_combine
  simp only [LET, e0, e1, e2]
  rcases this with h | h | h | h | h | h | h | h | h | h | h | h | h <;> simp [h, arity_eq]
theorem rarity_eq (op : Int) : ref13_Arity op = expr_arity op := by
  rw [arity_eq]
  unfold ref13_Arity
  simp only [Bool.and_eq_true, decide_eq_true_eq]
theorem rar4 (op : Int) : ref13_Arity op ≤ 3 ∧ -1 ≤ ref13_Arity op := by rw [rarity_eq]; exact arity_le op
theorem rar {op y : Int} (h : ref13_Arity op = y) : y ≤ 3 ∧ -1 ≤ y := by rw [← h]; exact rar4 op
theorem opl {x : Int} {op : Int} (h : x = ref13_Arity op) : (5 ≤ op ∧ op ≤ 8 → x = 1) ∧ (9 ≤ op ∧ op ≤ 16 → x = 2) ∧ (op = 17 → x = 3) ∧ (op ≤ 4 → x ≤ 0) ∧ (18 ≤ op → x ≤ 0) := by
  rw [rarity_eq, arity_eq] at h
  subst h
  split
  · omega
  · split
    · omega
    · split
      · omega
      · split <;> omega
theorem rval {w : Int} {y : Bool} (h : ref01_valid w = y) (h2 : y = true) : 1 ≤ w ∧ w ≤ 32 := by
  rw [h2] at h
  unfold ref01_valid at h
  simpa using h
theorem jor {p q : Prop} [Decidable p] [Decidable q] {x : Bool} (h : x = (if decide p = true then decide p else decide q)) (hx : x = false) : ¬p ∧ ¬q := by
  subst hx
  by_cases hp : p
  · simp [hp] at h
  · simp [hp] at h
    exact ⟨hp, h⟩
theorem rpow {w : Int} (h : 0 ≤ w ∧ w ≤ 32) : (ref01_power w).toNat = 2 ^ w.toNat := by
  have : ∃ k : Fin 33, w = (k.val : Int) := ⟨⟨w.toNat, by omega⟩, by simp; omega⟩
  obtain ⟨k, rfl⟩ := this
  clear h
  revert k
  decide +kernel
theorem rpow_nz0 {w : Int} (h : 0 ≤ w ∧ w ≤ 32) : ref01_power w ≠ 0#64 := by
  intro hc
  have h1 := rpow h
  rw [hc] at h1
  have h2 : 0 < 2 ^ w.toNat := Nat.two_pow_pos _
  have h3 : (0#64).toNat = 0 := rfl
  omega
theorem rpow_nz {w : Int} {b : Bool} {y : BitVec 64} (h : ref01_valid w = b) (h2 : b = true) (h3 : ref01_power w = y) : y ≠ 0#64 := by
  have := rval h h2
  rw [← h3]
  exact rpow_nz0 (by omega)
theorem rpow_nz2 {n w : Int} {b : Bool} {y : BitVec 64} (h : ref01_valid w = b) (h2 : (b = true ∧ ¬n < 0) ∧ ¬wr (32 - w) < n) (h3 : ref01_power n = y) : y ≠ 0#64 := by
  have := rval h h2.1.1
  rw [← h3]
  have e := h2.2
  rw [wr_of (by omega) (by omega)] at e
  exact rpow_nz0 (by omega)
theorem rslc {n w : Int} {b : Bool} (h2 : (b = true ∧ ¬n < 0) ∧ ¬wr (32 - w) < n) (hw : 1 ≤ w ∧ w ≤ 32 := by omega) : 0 ≤ n ∧ n ≤ 32 - w := by
  have e := h2.2
  rw [wr_of (by omega) (by omega)] at e
  omega
theorem rel_m {x : api_Env} {r : api_FieldRef} {y : Bool} (h : ref12_element x r = y) (h2 : y = true) (h3 : r.Header = -1) : 0 ≤ r.Field ∧ r.Field < x.Metd.length := by
  subst h
  unfold ref12_element at h2
  rw [if_pos (by simpa using h3)] at h2
  simpa using h2
theorem rel_h {x : api_Env} {r : api_FieldRef} {y : Bool} (h : ref12_element x r = y) (h2 : y = true) (h3 : ¬r.Header = -1) : ((0 ≤ r.Header ∧ r.Header < x.Fields.length) ∧ 0 ≤ r.Field) ∧ r.Field < (ix x.Fields r.Header).length := by
  subst h
  unfold ref12_element at h2
  rw [if_neg (by simpa using h3)] at h2
  simpa using h2
theorem rwide_eq (w : Int) : ref13_wide w = expr_wide w := rfl
theorem rmask_eq (w : Int) : ref01_Mask w = bitvec_Mask w := by
  by_cases h : 1 ≤ w ∧ w ≤ 32
  · have : ∃ k : Fin 33, w = (k.val : Int) := ⟨⟨w.toNat, by omega⟩, by simp; omega⟩
    obtain ⟨k, rfl⟩ := this
    revert h
    revert k
    decide +kernel
  · unfold ref01_Mask bitvec_Mask ref01_valid
    simp only [LET, bitvec_valid_one]
    rw [if_pos (by simp; omega), if_pos (by simp; omega)]
theorem leaf_eq (x : api_ExprNode) (s : expr_Scope) : ref13_leaf x s = m1_expr_Scope__primary s x := by
  unfold ref13_leaf m1_expr_Scope__primary
  simp only [LET, rmask_eq, rwide_eq]
  unfold ref13_Declared m1_expr_Scope__field
  simp only [LET]
  by_cases h1 : x.Op = 1
  · simp only [h1, decide_true, if_true]
    try rfl
  · simp only [h1, decide_false, if_false, Bool.false_eq_true]
    by_cases h2 : x.Op = 2
    · simp only [h2, decide_true, if_true]
      by_cases h3 : x.N = -1
      · simp only [h3, decide_true, Bool.not_true, if_false, Bool.false_eq_true]
        by_cases h4 : (decide (x.W < 0) || decide ((s.Program.Metadata.length : Int) ≤ x.W)) = true
        · simp only [h4, if_true, Bool.not_false]
        · simp only [h4, if_false, Bool.not_true, Bool.false_eq_true]
      · simp only [h3, decide_false, Bool.not_false, if_true]
        by_cases h5 : (decide (x.N < 0) || decide ((s.Program.Headers.length : Int) ≤ x.N)) = true
        · simp only [h5, if_true, Bool.not_false]
        · simp only [h5, if_false, Bool.false_eq_true]
          by_cases h4 : (decide (x.W < 0) || decide (((ix s.Program.Headers x.N).Fields.length : Int) ≤ x.W)) = true
          · simp only [h4, if_true, Bool.not_false]
          · simp only [h4, if_false, Bool.not_true, Bool.false_eq_true]
    · simp only [h2, decide_false, if_false, Bool.false_eq_true]
theorem operator_eq (x : api_ExprNode) : (∀ u, 5 ≤ x.Op ∧ x.Op ≤ 8 → ref13_operator x [u] = expr_combine x [u, 0, 0]) ∧ (∀ u v, 9 ≤ x.Op ∧ x.Op ≤ 16 → ref13_operator x [u, v] = expr_combine x [u, v, 0]) ∧ (∀ u v w, x.Op = 17 → ref13_operator x [u, v, w] = expr_combine x [u, v, w]) := by
  refine ⟨fun u h => ?_, fun u v h => ?_, fun u v w h => ?_⟩
  · have e0 : ix [u] 0 = u := rfl
    rw [combine_eq _ _ _ _ (by omega)]
    unfold ref13_operator
    simp only [LET, e0]
    have : x.Op = 5 ∨ x.Op = 6 ∨ x.Op = 7 ∨ x.Op = 8 := by omega
    rcases this with h | h | h | h
    · simp [h]
    · simp [h]
    · simp [h]
    · simp only [h]
      by_cases h1 : x.N < 0
      · simp [h1]
      · unfold expr_wide
        by_cases h2 : x.W < 1 ∨ 32 < x.W
        · simp [h1, h2]
        · have h3 : ¬x.W < 1 := by omega
          have h4 : ¬32 < x.W := by omega
          simp [h1, h3, h4]
  · have e0 : ix [u, v] 0 = u := rfl
    have e1 : ix [u, v] 1 = v := rfl
    rw [combine_eq _ _ _ _ (by omega)]
    unfold ref13_operator
    simp only [LET, e0, e1]
    have : x.Op = 9 ∨ x.Op = 10 ∨ x.Op = 11 ∨ x.Op = 12 ∨ x.Op = 13 ∨ x.Op = 14 ∨ x.Op = 15 ∨ x.Op = 16 := by omega
    rcases this with h | h | h | h | h | h | h | h <;> simp [h, rwide_eq]
  · have e0 : ix [u, v, w] 0 = u := rfl
    have e1 : ix [u, v, w] 1 = v := rfl
    have e2 : ix [u, v, w] 2 = w := rfl
    rw [combine_eq _ _ _ _ (by omega)]
    unfold ref13_operator
    simp only [LET, e0, e1, e2]
    simp [h]
def REL (r c : Int × Int × Int) : Prop := r.2.2 = c.2.2 ∧ (c.2.2 = 0 → r.1 = c.1 ∧ r.2.1 = c.2.1)
theorem REL.of_eq {r c : Int × Int × Int} (h : r = c) : REL r c := by subst h; exact ⟨rfl, fun _ => ⟨rfl, rfl⟩⟩
theorem rel_L1 (s : expr_Scope) (n : List api_ExprNode) (r1 : List api_ExprNode → Int → expr_Scope → Int × Int × Int) (r2 : expr_Scope → List api_ExprNode → Int → Int × Int × Int) (hr : ∀ z, REL (r1 n z s) (r2 s n z)) (K1 K2 : Int → List Int → Int × Int × Int) (j k : Nat) (hK : ∀ x (z : List Int), z.length = k → K1 x z = K2 x (z ++ List.replicate j 0)) :
    ∀ (m : Nat) (x i : Int) (z : List Int), (z.length : Int) = i → z.length + m = k → REL (ref13_check_L1 n s r1 K1 m x i z) (m1_expr_Scope__check_L1 s n r2 K2 m x i (z ++ List.replicate (m + j) 0))
  | 0, x, i, z, hi, hk => by
    rw [ref13_check_L1, m1_expr_Scope__check_L1, hK x z (by omega), Nat.zero_add]
    exact .of_eq rfl
  | m + 1, x, i, z, hi, hk => by
    rw [ref13_check_L1, m1_expr_Scope__check_L1]
    simp only [LET]
    obtain ⟨e1, e2⟩ := hr x
    by_cases hc : (r2 s n x).2.2 = 0
    · have hd : (r1 n x s).2.2 = 0 := e1.trans hc
      rw [if_neg (show ¬(!decide ((r1 n x s).2.2 = 0)) = true by simp [hd]), if_neg (show ¬(!decide ((r2 s n x).2.2 = 0)) = true by simp [hc])]
      obtain ⟨e3, e4⟩ := e2 hc
      rw [e3, e4, show (z ++ List.replicate (m + 1 + j) (0 : Int)).set i.toNat (r2 s n x).1 = (z ++ [(r2 s n x).1]) ++ List.replicate (m + j) 0 by
        rw [show m + 1 + j = (m + j) + 1 by omega, List.replicate_succ, show i.toNat = z.length by omega]
        simp]
      exact rel_L1 s n r1 r2 hr K1 K2 j k hK m _ _ _ (by simp; omega) (by simp; omega)
    · have hd : ¬(r1 n x s).2.2 = 0 := fun h => hc (e1.symm.trans h)
      rw [if_pos (show (!decide ((r1 n x s).2.2 = 0)) = true by simp [hd]), if_pos (show (!decide ((r2 s n x).2.2 = 0)) = true by simp [hc])]
      exact ⟨e1, fun h => absurd h hc⟩
theorem rel_R : ∀ (k : Nat) (s : expr_Scope) (n : List api_ExprNode) (a : Int), REL (ref13_check_R k n a s) (m1_expr_Scope__check_R k s n a)
  | 0, s, n, a => .of_eq rfl
  | k + 1, s, n, a => by
    rw [ref13_check_R, m1_expr_Scope__check_R]
    unfold ref13_check_B m1_expr_Scope__check_B
    simp only [LET, rarity_eq, leaf_eq]
    split
    · exact ⟨rfl, fun h => absurd h (by decide)⟩
    split
    · exact ⟨rfl, fun h => absurd h (by decide)⟩
    split
    · exact .of_eq rfl
    rename_i h1 h2 h3
    simp only [decide_eq_true_eq] at h2 h3
    have hb := arity_le (ix n a).Op
    have ho := opl (rarity_eq (ix n a).Op).symm
    have hz := arity_eq (ix n a).Op
    obtain ⟨o1, o2, o3⟩ := operator_eq (ix n a)
    have main := rel_L1 s n (ref13_check_R k) (m1_expr_Scope__check_R k) (rel_R k s n) (fun x z => ((ref13_operator (ix n a) z).1, x, (ref13_operator (ix n a) z).2)) (fun x z => ((expr_combine (ix n a) z).1, x, (expr_combine (ix n a) z).2)) (3 - (expr_arity (ix n a).Op).toNat) (expr_arity (ix n a).Op).toNat ?_ (Int.toNat (expr_arity (ix n a).Op - 0)) (wr (a + 1)) 0 [] rfl (by simp)
    · rw [List.nil_append, show (expr_arity (ix n a).Op - 0).toNat + (3 - (expr_arity (ix n a).Op).toNat) = 3 by omega] at main
      exact main
    · intro x z hz
      have hc : expr_arity (ix n a).Op = 1 ∨ expr_arity (ix n a).Op = 2 ∨ expr_arity (ix n a).Op = 3 := by omega
      rcases hc with hc | hc | hc
      · rw [hc] at hz ⊢
        have hl : z.length = 1 := hz
        match z, hl with
        | [u], _ => rw [show [u] ++ List.replicate (3 - Int.toNat 1) (0 : Int) = [u, 0, 0] from rfl, o1 u (by omega)]
      · rw [hc] at hz ⊢
        have hl : z.length = 2 := hz
        match z, hl with
        | [u, v], _ => rw [show [u, v] ++ List.replicate (3 - Int.toNat 2) (0 : Int) = [u, v, 0] from rfl, o2 u v (by omega)]
      · rw [hc] at hz ⊢
        have hl : z.length = 3 := hz
        match z, hl with
        | [u, v, w], _ => rw [show [u, v, w] ++ List.replicate (3 - Int.toNat 3) (0 : Int) = [u, v, w] from rfl, o3 u v w (by omega)]
theorem rel (s : expr_Scope) (n : List api_ExprNode) (a : Int) : REL (ref13_check n a s) (m1_expr_Scope__check s n a) := rel_R _ s n a
theorem rcheck_next (k : Nat) (n : List api_ExprNode) (a : Int) (s : expr_Scope) (ha : 0 ≤ a) (hn : n.length ≤ 1000000) (h : (ref13_check_R k n a s).2.2 = 0) : a < (ref13_check_R k n a s).2.1 := by
  obtain ⟨e1, e2⟩ := rel_R k s n a
  have h' := h
  rw [e1] at h'
  rw [(e2 h').2]
  exact check_next k s n a ha hn h'
theorem rCheck_eq (n : List api_ExprNode) (s : expr_Scope) : ref13_Check n s = expr_Check n s := by
  unfold ref13_Check expr_Check
  simp only [LET]
  obtain ⟨e1, e2⟩ := rel s n 0
  split
  · rfl
  · rw [e1]
    by_cases hc : (m1_expr_Scope__check s n 0).2.2 = 0
    · rw [(e2 hc).1, (e2 hc).2]
    · have hd : (!decide ((m1_expr_Scope__check s n 0).2.2 = 0)) = true := by simp [hc]
      simp only [hd, if_true]
theorem rchk_ok {n : List api_ExprNode} {s : expr_Scope} {y : Int × Int} (h : ref13_Check n s = y) (h2 : y.2 = 0) : Ok s n 0 := (chk_ok (by rw [rCheck_eq] at h; exact h) h2).2.1
theorem Ok.rw {s : expr_Scope} {n : List api_ExprNode} {a : Int} (h : Ok s n a) : ref13_check n a s = (wd s n a, nx s n a, 0) := by
  obtain ⟨e1, e2⟩ := rel s n a
  have := e2 h.ok
  exact Prod.ext this.1 (Prod.ext this.2 (e1.trans h.ok))
/-! The loop over the operands -/
def EI (s : expr_Scope) (n : List api_ExprNode) (a x i : Int) : Prop := (i = 0 ∧ x = a + 1) ∨ (i = 1 ∧ x = nx s n (a + 1)) ∨ (i = 2 ∧ x = nx s n (nx s n (a + 1))) ∨ (i = 3 ∧ x = nx s n (nx s n (nx s n (a + 1))))
section
variable {s : expr_Scope} {n : List api_ExprNode} {a x i : Int}
theorem ei_0 (h : Ok s n a) : EI s n a (wr (a + 1)) 0 := .inl ⟨rfl, h.wr1⟩
theorem ei_le (h : EI s n a x i) : 0 ≤ i ∧ i ≤ 3 := by
  rcases h with h | h | h | h <;> omega
theorem ei_okk (hv : Ok s n a) (h : EI s n a x i) (hi : i < expr_arity (ix n a).Op) : Ok s n x ∧ a < x := by
  rcases hv.step with t | t | t | t
  · have := ei_le h; omega
  · rcases h with h | h | h | h
    · rw [h.2]; exact ⟨t.2.1, by omega⟩
    all_goals omega
  · have g1 := t.2.1.gt
    rcases h with h | h | h | h
    · rw [h.2]; exact ⟨t.2.1, by omega⟩
    · rw [h.2]; exact ⟨t.2.2.1, by omega⟩
    all_goals omega
  · have g1 := t.2.1.gt
    have g2 := t.2.2.1.gt
    rcases h with h | h | h | h
    · rw [h.2]; exact ⟨t.2.1, by omega⟩
    · rw [h.2]; exact ⟨t.2.2.1, by omega⟩
    · rw [h.2]; exact ⟨t.2.2.2.1, by omega⟩
    · omega
theorem ei_ok (hv : Ok s n a) (h : EI s n a x i) {y : Int} (hy : ref13_Arity (ix n a).Op = y) (hi : i < y) : Ok s n x := (ei_okk hv h (by rw [← rarity_eq, hy]; exact hi)).1
theorem ei_dec (hv : Ok s n a) (h : EI s n a x i) {y : Int} (hy : ref13_Arity (ix n a).Op = y) (hi : i < y) : n.length - x.toNat < n.length - a.toNat := by
  obtain ⟨k, l⟩ := ei_okk hv h (by rw [← rarity_eq, hy]; exact hi)
  have := k.lt
  have := hv.lo
  omega
theorem ei_step (h : EI s n a x i) {z : Int} (hz : z = nx s n x) (hi : i < 3 := by omega) : EI s n a z (i + 1) := by
  subst hz
  rcases h with h | h | h | h
  · exact .inr (.inl ⟨by omega, by rw [h.2]⟩)
  · exact .inr (.inr (.inl ⟨by omega, by rw [h.2]⟩))
  · exact .inr (.inr (.inr ⟨by omega, by rw [h.2]⟩))
  · omega
theorem Ok.arn (h : Ok s n a) : 0 ≤ expr_arity (ix n a).Op := by
  rcases h.step with t | t | t | t <;> (have := t.1; omega)
theorem rar_0 (h : Ok s n a) (h1 : ¬(ix n a).Op = 1) (h2 : ¬(ix n a).Op = 2) (h3 : ¬(ix n a).Op = 3) (h4 : ¬(ix n a).Op = 4) : 0 ≤ ref13_Arity (ix n a).Op := by
  rw [rarity_eq]; exact h.arn
theorem lf_pos (h : Ok s n a) (h1 : ¬(ix n a).Op = 1) (h2 : ¬(ix n a).Op = 2) (h3 : ¬(ix n a).Op = 3) (h4 : ¬(ix n a).Op = 4) : 1 ≤ ref13_Arity (ix n a).Op := by
  rw [rarity_eq]
  have := h.arn
  have e := arity_eq (ix n a).Op
  split at e
  · omega
  · split at e
    · omega
    · split at e
      · omega
      · split at e <;> omega
theorem lf0 (h : Ok s n a) (h1 : 1 ≤ (ix n a).Op ∧ (ix n a).Op ≤ 4) : expr_arity (ix n a).Op = 0 ∧ (m1_expr_Scope__primary s (ix n a)).2 = 0 ∧ wd s n a = (m1_expr_Scope__primary s (ix n a)).1 ∧ nx s n a = a + 1 := by
  have e := arity_eq (ix n a).Op
  rw [if_pos h1] at e
  rcases h.step with t | t | t | t
  · exact t
  all_goals (have := t.1; omega)
theorem lf3 (h : Ok s n a) (h1 : (ix n a).Op = 3) : 0 ≤ (ix n a).N := pr3 (lf0 h (by omega)).2.1 h1
theorem lf4 (h : Ok s n a) (h1 : (ix n a).Op = 4) : 0 ≤ (ix n a).N := pr4 (lf0 h (by omega)).2.1 h1
end
/-! One step of the definition's value -/
section
variable {s : expr_Scope} {n : List api_ExprNode} {a : Int} {e : api_Env} {g : List (BitVec 32)} (rec_ : List api_ExprNode → Int → expr_Scope → api_Env → List (BitVec 32) → ref13_Value)
def lfv (x : api_ExprNode) (w : Int) (e : api_Env) (g : List (BitVec 32)) : BitVec 32 :=
  if x.Op = 1 then BitVec.ofInt 32 x.N else if x.Op = 2 then ref01_Reduce (BitVec.setWidth 64 (ref12_Get e { Header := x.N, Field := x.W })) w
  else if x.Op = 3 then (if x.N < (g.length : Int) then ref01_Reduce (BitVec.setWidth 64 (ix g x.N)) w else 0#32) else ref13_bit (decide (x.N < (e.Valid.length : Int)) && ix e.Valid x.N)
theorem rB0 (h : Ok s n a) (ha : expr_arity (ix n a).Op = 0) : ref13_eval_B rec_ n a s e g = { V := lfv (ix n a) (wd s n a) e g, W := wd s n a, To := nx s n a } := by
  have ho : 1 ≤ (ix n a).Op ∧ (ix n a).Op ≤ 4 := by
    have e := arity_eq (ix n a).Op
    split at e
    · assumption
    · split at e
      · omega
      · split at e
        · omega
        · split at e <;> omega
  obtain ⟨_, _, _, t⟩ := lf0 h ho
  unfold ref13_eval_B lfv
  simp only [LET, h.rw, h.wr1, t, decide_eq_true_eq]
  split
  · rfl
  split
  · rfl
  split
  · split <;> rfl
  rw [if_pos (by omega)]
theorem rB1 (h : Ok s n a) (ha : ¬expr_arity (ix n a).Op = 0) : ref13_eval_B rec_ n a s e g = ref13_eval_L1 n a s e g rec_ (fun x z => { V := ref13_apply (ix n a) z, W := wd s n a, To := x }) (Int.toNat (expr_arity (ix n a).Op)) (a + 1) 0 [] := by
  have ho : ¬(1 ≤ (ix n a).Op ∧ (ix n a).Op ≤ 4) := fun hc => ha (lf0 h hc).1
  unfold ref13_eval_B
  simp only [LET, h.rw, h.wr1, decide_eq_true_eq]
  rw [if_neg (by omega), if_neg (by omega), if_neg (by omega), if_neg (by omega), rarity_eq, Int.sub_zero]
theorem rL1 (K : Int → List ref13_Value → ref13_Value) (m : Nat) (x i : Int) (z : List ref13_Value) (hi : i < expr_arity (ix n a).Op) (h0 : 0 ≤ i) : ref13_eval_L1 n a s e g rec_ K (m + 1) x i z = ref13_eval_L1 n a s e g rec_ K m (rec_ n x s e g).To (i + 1) (z ++ [rec_ n x s e g]) := by
  have := arity_le (ix n a).Op
  rw [ref13_eval_L1]
  simp only [LET, rarity_eq, decide_eq_true_eq]
  rw [if_pos hi, wr_of (by omega) (by omega)]
theorem rB_1 (h : Ok s n a) (ha : expr_arity (ix n a).Op = 1) : ref13_eval_B rec_ n a s e g = { V := ref13_apply (ix n a) [rec_ n (a + 1) s e g], W := wd s n a, To := (rec_ n (a + 1) s e g).To } := by
  rw [rB1 rec_ h (by omega), ha, show Int.toNat 1 = 0 + 1 from rfl, rL1 _ _ _ _ _ _ (by omega) (by omega), ref13_eval_L1]
  rfl
theorem rB_2 (h : Ok s n a) (ha : expr_arity (ix n a).Op = 2) : ref13_eval_B rec_ n a s e g = { V := ref13_apply (ix n a) [rec_ n (a + 1) s e g, rec_ n (rec_ n (a + 1) s e g).To s e g], W := wd s n a, To := (rec_ n (rec_ n (a + 1) s e g).To s e g).To } := by
  rw [rB1 rec_ h (by omega), ha, show Int.toNat 2 = 0 + 1 + 1 from rfl, rL1 _ _ _ _ _ _ (by omega) (by omega), rL1 _ _ _ _ _ _ (by omega) (by omega), ref13_eval_L1]
  rfl
theorem rB_3 (h : Ok s n a) (ha : expr_arity (ix n a).Op = 3) : ref13_eval_B rec_ n a s e g = { V := ref13_apply (ix n a) [rec_ n (a + 1) s e g, rec_ n (rec_ n (a + 1) s e g).To s e g, rec_ n (rec_ n (rec_ n (a + 1) s e g).To s e g).To s e g], W := wd s n a, To := (rec_ n (rec_ n (rec_ n (a + 1) s e g).To s e g).To s e g).To } := by
  rw [rB1 rec_ h (by omega), ha, show Int.toNat 3 = 0 + 1 + 1 + 1 from rfl, rL1 _ _ _ _ _ _ (by omega) (by omega), rL1 _ _ _ _ _ _ (by omega) (by omega), rL1 _ _ _ _ _ _ (by omega) (by omega), ref13_eval_L1]
  rfl
end
theorem reval_next : ∀ (k : Nat) (n : List api_ExprNode) (a : Int) (s : expr_Scope) (e : api_Env) (g : List (BitVec 32)), Ok s n a → (ref13_eval_R k n a s e g).To = nx s n a
  | 0, n, a, s, e, g, h => rfl
  | k + 1, n, a, s, e, g, h => by
    rw [ref13_eval_R]
    rcases h.step with t | t | t | t
    · rw [rB0 _ h t.1]
    · rw [rB_1 _ h t.1, t.2.2.2.2]
      exact reval_next k n _ s e g t.2.1
    · rw [rB_2 _ h t.1, t.2.2.2.2.2, reval_next k n _ s e g t.2.1]
      exact reval_next k n _ s e g t.2.2.1
    · rw [rB_3 _ h t.1, t.2.2.2.2.2.2, reval_next k n _ s e g t.2.1, reval_next k n _ s e g t.2.2.1]
      exact reval_next k n _ s e g t.2.2.2.1
end Go.Proofs.YtfekghenlhoamaaGreat
