/-
  Facts of the plain programs that the walks need.
-/
import Derived.Test.YtfekghenlhoamaaKDef
import Derived.Test.YtfekghenlhoamaaPbP
set_option linter.unusedVariables false
set_option linter.unusedSimpArgs false
set_option maxRecDepth 100000
namespace Go.Proofs.Ytfekghenlhoamaa
open Go Go.Pb Go.RowKit
theorem bitvec_valid_one (w : Int) : bitvec_valid [w] = decide (1 ≤ w ∧ w ≤ 32) := by
  unfold bitvec_valid
  have e : (Int.toNat (((([w] : List Int)).length : Int) - 0)) = 1 := by simp
  rw [e, bitvec_valid_L1, bitvec_valid_L1]
  have hx : ix ([w] : List Int) 0 = w := rfl
  rw [hx]
  by_cases h : 1 ≤ w ∧ w ≤ 32
  · rw [if_neg (by simp; omega)]; simp [h]
  · rw [if_pos (by simp; omega)]; simp [h]
theorem bitvec_valid_two (v w : Int) : bitvec_valid [v, w] = decide ((1 ≤ v ∧ v ≤ 32) ∧ (1 ≤ w ∧ w ≤ 32)) := by
  unfold bitvec_valid
  have e : (Int.toNat (((([v, w] : List Int)).length : Int) - 0)) = 2 := by simp
  rw [e, bitvec_valid_L1, bitvec_valid_L1, bitvec_valid_L1]
  have hx : ix ([v, w] : List Int) 0 = v ∧ ix ([v, w] : List Int) (0 + 1) = w := ⟨rfl, rfl⟩
  rw [hx.1, hx.2]
  by_cases h : 1 ≤ v ∧ v ≤ 32
  · rw [if_neg (by simp; omega)]
    by_cases h2 : 1 ≤ w ∧ w ≤ 32
    · rw [if_neg (by simp; omega)]; simp [h, h2]
    · rw [if_pos (by simp; omega)]; simp [h2]
  · rw [if_pos (by simp; omega)]; simp [h]
theorem mask_sh {w : Int} {b : Bool} (h : bitvec_valid [w] = b) (h2 : b = true) : 0 ≤ wr (32 - w) := by
  rw [bitvec_valid_one] at h
  subst h2
  simp only [decide_eq_true_eq] at h
  rw [wr_of (by omega) (by omega)]
  omega
theorem two_sh {v w : Int} {b : Bool} (h : bitvec_valid [v, w] = b) (h2 : b = true) : (1 ≤ v ∧ v ≤ 32) ∧ 1 ≤ w ∧ w ≤ 32 := by
  rw [bitvec_valid_two] at h
  subst h2
  simpa using h
theorem arity_le (op : Int) : expr_arity op ≤ 3 ∧ -1 ≤ expr_arity op := by
  unfold expr_arity
  simp only [LET]
  repeat' split
  all_goals omega
theorem ar {op y : Int} (h : expr_arity op = y) : y ≤ 3 ∧ -1 ≤ y := by rw [← h]; exact arity_le op
theorem pr3 {s : expr_Scope} {x : api_ExprNode} (h : (m1_expr_Scope__primary s x).2 = 0) (h1 : x.Op = 3) : 0 ≤ x.N := by
  unfold m1_expr_Scope__primary at h
  rw [if_neg (by simp [h1]), if_neg (by simp [h1]), if_pos (by simp [h1])] at h
  split at h
  · cases h
  · rename_i hc
    simp only [Bool.or_eq_true, decide_eq_true_eq, not_or] at hc
    omega
theorem pr4 {s : expr_Scope} {x : api_ExprNode} (h : (m1_expr_Scope__primary s x).2 = 0) (h1 : x.Op = 4) : 0 ≤ x.N := by
  unfold m1_expr_Scope__primary at h
  rw [if_neg (by simp [h1]), if_neg (by simp [h1]), if_neg (by simp [h1])] at h
  split at h
  · cases h
  · rename_i hc
    simp only [Bool.or_eq_true, decide_eq_true_eq, not_or] at hc
    omega
theorem check_next_L1 (s : expr_Scope) (n : List api_ExprNode) (rec_ : expr_Scope → List api_ExprNode → Int → Int × Int × Int) (a : Int) (ha : 0 ≤ a) (K : Int → List Int → Int × Int × Int) (hr : ∀ z : Int, 0 ≤ z → (rec_ s n z).2.2 = 0 → z < (rec_ s n z).2.1) (hK : ∀ x z, a < x → (K x z).2.2 = 0 → a < (K x z).2.1) :
    ∀ (m : Nat) (x i : Int) (z : List Int), a < x → (m1_expr_Scope__check_L1 s n rec_ K m x i z).2.2 = 0 → a < (m1_expr_Scope__check_L1 s n rec_ K m x i z).2.1
  | 0, x, i, z, hx, h => by rw [m1_expr_Scope__check_L1] at h ⊢; exact hK x z hx h
  | m + 1, x, i, z, hx, h => by
    rw [m1_expr_Scope__check_L1] at h ⊢
    simp only [LET] at h ⊢
    split at h
    · rename_i hc
      simp only [Bool.not_eq_true', decide_eq_false_iff_not] at hc
      exact absurd h hc
    · rename_i hc
      rw [if_neg hc]
      simp only [Bool.not_eq_true', decide_eq_false_iff_not, Decidable.not_not] at hc
      have := hr x (by omega) hc
      exact check_next_L1 s n rec_ a ha K hr hK m _ _ _ (by omega) h
theorem check_next : ∀ (k : Nat) (s : expr_Scope) (n : List api_ExprNode) (a : Int), 0 ≤ a → n.length ≤ 1000000 → (m1_expr_Scope__check_R k s n a).2.2 = 0 → a < (m1_expr_Scope__check_R k s n a).2.1
  | 0, s, n, a, ha, hn, h => by rw [m1_expr_Scope__check_R] at h; cases h
  | k + 1, s, n, a, ha, hn, h => by
    rw [m1_expr_Scope__check_R] at h ⊢
    unfold m1_expr_Scope__check_B at h ⊢
    simp only [LET] at h ⊢
    split at h
    · cases h
    · rename_i h1
      rw [if_neg h1]
      simp only [decide_eq_true_eq, Int.not_le] at h1
      have ew : wr (a + 1) = a + 1 := wr_of (by omega) (by omega)
      split at h
      · cases h
      · rename_i h2
        rw [if_neg h2]
        split at h
        · rename_i h3
          rw [if_pos h3]
          show a < wr (a + 1)
          omega
        · rename_i h3
          rw [if_neg h3]
          exact check_next_L1 s n _ a ha _ (fun z hz hz2 => check_next k s n z hz hn hz2) (fun x z hx _ => hx) _ _ _ _ (by omega) h
theorem check_fuel_L1 (s : expr_Scope) (n : List api_ExprNode) (r1 r2 : expr_Scope → List api_ExprNode → Int → Int × Int × Int) (a : Int) (ha : 0 ≤ a) (K : Int → List Int → Int × Int × Int) (hr : ∀ z : Int, a < z → r1 s n z = r2 s n z) (hn : ∀ z : Int, 0 ≤ z → (r1 s n z).2.2 = 0 → z < (r1 s n z).2.1) :
    ∀ (m : Nat) (x i : Int) (z : List Int), a < x → m1_expr_Scope__check_L1 s n r1 K m x i z = m1_expr_Scope__check_L1 s n r2 K m x i z
  | 0, x, i, z, hx => by rw [m1_expr_Scope__check_L1, m1_expr_Scope__check_L1]
  | m + 1, x, i, z, hx => by
    rw [m1_expr_Scope__check_L1, m1_expr_Scope__check_L1]
    simp only [LET, ← hr x hx]
    split
    · rfl
    · rename_i hc
      simp only [Bool.not_eq_true', decide_eq_false_iff_not, Decidable.not_not] at hc
      have := hn x (by omega) hc
      exact check_fuel_L1 s n r1 r2 a ha K hr hn m _ _ _ (by omega)
theorem check_fuel : ∀ (k k' : Nat) (s : expr_Scope) (n : List api_ExprNode) (a : Int), 0 ≤ a → n.length ≤ 1000000 → n.length - a.toNat < k → n.length - a.toNat < k' → m1_expr_Scope__check_R k s n a = m1_expr_Scope__check_R k' s n a
  | 0, k', s, n, a, ha, hn, h1, h2 => by omega
  | k + 1, 0, s, n, a, ha, hn, h1, h2 => by omega
  | k + 1, k' + 1, s, n, a, ha, hn, h1, h2 => by
    rw [m1_expr_Scope__check_R, m1_expr_Scope__check_R]
    unfold m1_expr_Scope__check_B
    simp only [LET]
    split
    · rfl
    · rename_i h3
      simp only [decide_eq_true_eq, Int.not_le] at h3
      have ew : wr (a + 1) = a + 1 := wr_of (by omega) (by omega)
      split
      · rfl
      · split
        · rfl
        · exact check_fuel_L1 s n _ _ a ha _ (fun z hz => check_fuel k k' s n z (by omega) hn (by omega) (by omega)) (fun z hz h => check_next k s n z hz hn h) _ _ _ _ (by omega)
theorem check_eq (s : expr_Scope) (n : List api_ExprNode) (a : Int) (ha : 0 ≤ a) (hn : n.length ≤ 1000000) : m1_expr_Scope__check s n a = m1_expr_Scope__check_B m1_expr_Scope__check s n a := by
  have e : m1_expr_Scope__check s n a = m1_expr_Scope__check_B (m1_expr_Scope__check_R (n.length - a.toNat)) s n a := by
    unfold m1_expr_Scope__check
    rw [m1_expr_Scope__check_R]
  rw [e]
  unfold m1_expr_Scope__check_B
  simp only [LET]
  split
  · rfl
  · rename_i h3
    simp only [decide_eq_true_eq, Int.not_le] at h3
    have ew : wr (a + 1) = a + 1 := wr_of (by omega) (by omega)
    split
    · rfl
    · split
      · rfl
      · exact check_fuel_L1 s n _ _ a ha _ (fun z hz => check_fuel (n.length - a.toNat) (n.length - z.toNat + 1) s n z (by omega) hn (by omega) (by omega)) (fun z hz h => check_next _ s n z hz hn h) _ _ _ _ (by omega)
theorem cnext {s : expr_Scope} {n : List api_ExprNode} {a : Int} (ha : 0 ≤ a) (hn : n.length ≤ 1000000) (h : (m1_expr_Scope__check s n a).2.2 = 0) : a < (m1_expr_Scope__check s n a).2.1 := check_next _ s n a ha hn h
/-- A valid subexpression at an index: what its check says, part by part. -/
structure Ok (s : expr_Scope) (n : List api_ExprNode) (a : Int) : Prop where
  lo : 0 ≤ a
  len : n.length ≤ 1000000
  ok : (m1_expr_Scope__check s n a).2.2 = 0
def nx (s : expr_Scope) (n : List api_ExprNode) (a : Int) : Int := (m1_expr_Scope__check s n a).2.1
def wd (s : expr_Scope) (n : List api_ExprNode) (a : Int) : Int := (m1_expr_Scope__check s n a).1
theorem Ok.lt {s : expr_Scope} {n : List api_ExprNode} {a : Int} (h : Ok s n a) : a < n.length := by
  have := h.ok
  rw [check_eq s n a h.lo h.len] at this
  unfold m1_expr_Scope__check_B at this
  by_cases hc : (n.length : Int) ≤ a
  · rw [if_pos (by simpa using hc)] at this; cases this
  · omega
theorem Ok.wr1 {s : expr_Scope} {n : List api_ExprNode} {a : Int} (h : Ok s n a) : wr (a + 1) = a + 1 := by
  have := h.lt
  have := h.len
  have := h.lo
  exact wr_of (by omega) (by omega)
theorem Ok.step {s : expr_Scope} {n : List api_ExprNode} {a : Int} (h : Ok s n a) :
    (expr_arity (ix n a).Op = 0 ∧ (m1_expr_Scope__primary s (ix n a)).2 = 0 ∧ wd s n a = (m1_expr_Scope__primary s (ix n a)).1 ∧ nx s n a = a + 1) ∨
    (expr_arity (ix n a).Op = 1 ∧ Ok s n (a + 1) ∧ (expr_combine (ix n a) [wd s n (a + 1), 0, 0]).2 = 0 ∧ wd s n a = (expr_combine (ix n a) [wd s n (a + 1), 0, 0]).1 ∧ nx s n a = nx s n (a + 1)) ∨
    (expr_arity (ix n a).Op = 2 ∧ Ok s n (a + 1) ∧ Ok s n (nx s n (a + 1)) ∧ (expr_combine (ix n a) [wd s n (a + 1), wd s n (nx s n (a + 1)), 0]).2 = 0 ∧ wd s n a = (expr_combine (ix n a) [wd s n (a + 1), wd s n (nx s n (a + 1)), 0]).1 ∧ nx s n a = nx s n (nx s n (a + 1))) ∨
    (expr_arity (ix n a).Op = 3 ∧ Ok s n (a + 1) ∧ Ok s n (nx s n (a + 1)) ∧ Ok s n (nx s n (nx s n (a + 1))) ∧ (expr_combine (ix n a) [wd s n (a + 1), wd s n (nx s n (a + 1)), wd s n (nx s n (nx s n (a + 1)))]).2 = 0 ∧ wd s n a = (expr_combine (ix n a) [wd s n (a + 1), wd s n (nx s n (a + 1)), wd s n (nx s n (nx s n (a + 1)))]).1 ∧ nx s n a = nx s n (nx s n (nx s n (a + 1)))) := by
  have hlt := h.lt
  have hw := h.wr1
  have hok := h.ok
  have hlo := h.lo
  have har := arity_le (ix n a).Op
  have e : m1_expr_Scope__check s n a = m1_expr_Scope__check_B m1_expr_Scope__check s n a := check_eq s n a h.lo h.len
  have mk : ∀ z : Int, 0 ≤ z → (m1_expr_Scope__check s n z).2.2 = 0 → Ok s n z := fun z h0 h1 => ⟨h0, h.len, h1⟩
  simp only [wd, nx]
  rw [e] at hok ⊢
  unfold m1_expr_Scope__check_B at hok ⊢
  simp only [LET, hw] at hok ⊢
  rw [if_neg (show ¬(decide ((n.length : Int) ≤ a) = true) by simpa using hlt)] at hok ⊢
  by_cases hn : expr_arity (ix n a).Op < 0
  · rw [if_pos (by simpa using hn)] at hok; cases hok
  rw [if_neg (show ¬(decide (expr_arity (ix n a).Op < 0) = true) by simpa using hn)] at hok ⊢
  by_cases h0 : expr_arity (ix n a).Op = 0
  · rw [if_pos (by simpa using h0)] at hok ⊢
    exact .inl ⟨h0, hok, rfl, rfl⟩
  rw [if_neg (show ¬(decide (expr_arity (ix n a).Op = 0) = true) by simpa using h0)] at hok ⊢
  right
  have hcase : expr_arity (ix n a).Op = 1 ∨ expr_arity (ix n a).Op = 2 ∨ expr_arity (ix n a).Op = 3 := by omega
  rcases hcase with ha | ha | ha
  · left
    rw [ha] at hok ⊢
    rw [show Int.toNat (1 - 0) = 1 from rfl] at hok ⊢
    simp only [m1_expr_Scope__check_L1, LET] at hok ⊢
    by_cases c1 : (m1_expr_Scope__check s n (a + 1)).2.2 = 0
    · rw [if_neg (by simp [c1])] at hok ⊢
      exact ⟨trivial, mk _ (by omega) c1, hok, rfl, rfl⟩
    · rw [if_pos (by simp [c1])] at hok; exact absurd hok c1
  · right; left
    rw [ha] at hok ⊢
    rw [show Int.toNat (2 - 0) = 2 from rfl] at hok ⊢
    simp only [m1_expr_Scope__check_L1, LET] at hok ⊢
    by_cases c1 : (m1_expr_Scope__check s n (a + 1)).2.2 = 0
    · rw [if_neg (by simp [c1])] at hok ⊢
      have n1 := cnext (s := s) (n := n) (a := a + 1) (by omega) h.len c1
      by_cases c2 : (m1_expr_Scope__check s n (m1_expr_Scope__check s n (a + 1)).2.1).2.2 = 0
      · rw [if_neg (by simp [c2])] at hok ⊢
        exact ⟨trivial, mk _ (by omega) c1, mk _ (by omega) c2, hok, rfl, rfl⟩
      · rw [if_pos (by simp [c2])] at hok; exact absurd hok c2
    · rw [if_pos (by simp [c1])] at hok; exact absurd hok c1
  · right; right
    rw [ha] at hok ⊢
    rw [show Int.toNat (3 - 0) = 3 from rfl] at hok ⊢
    simp only [m1_expr_Scope__check_L1, LET] at hok ⊢
    by_cases c1 : (m1_expr_Scope__check s n (a + 1)).2.2 = 0
    · rw [if_neg (by simp [c1])] at hok ⊢
      have n1 := cnext (s := s) (n := n) (a := a + 1) (by omega) h.len c1
      by_cases c2 : (m1_expr_Scope__check s n (m1_expr_Scope__check s n (a + 1)).2.1).2.2 = 0
      · rw [if_neg (by simp [c2])] at hok ⊢
        have n2 := cnext (s := s) (n := n) (by omega) h.len c2
        by_cases c3 : (m1_expr_Scope__check s n (m1_expr_Scope__check s n (m1_expr_Scope__check s n (a + 1)).2.1).2.1).2.2 = 0
        · rw [if_neg (by simp [c3])] at hok ⊢
          exact ⟨trivial, mk _ (by omega) c1, mk _ (by omega) c2, mk _ (by omega) c3, hok, rfl, rfl⟩
        · rw [if_pos (by simp [c3])] at hok; exact absurd hok c3
      · rw [if_pos (by simp [c2])] at hok; exact absurd hok c2
    · rw [if_pos (by simp [c1])] at hok; exact absurd hok c1
theorem Ok.gt {s : expr_Scope} {n : List api_ExprNode} {a : Int} (h : Ok s n a) : a < nx s n a := cnext h.lo h.len h.ok
/-! The machine -/
def VE (m : expr_machine) : Prop := Ok m.scope m.nodes m.next
abbrev st1 (m : expr_machine) : expr_machine := { scope := m.scope, env := m.env, args := m.args, nodes := m.nodes, next := wr (m.next + 1) }
def HR (rec_ : expr_machine → expr_value × expr_machine) : Prop := ∀ z, VE z → (rec_ z).2 = { z with next := nx z.scope z.nodes z.next }
theorem ve_lt {m : expr_machine} (h : VE m) : 0 ≤ m.next ∧ m.next < m.nodes.length := ⟨h.lo, h.lt⟩
theorem evp {m : expr_machine} (h : VE m) {y : Int} (ha : expr_arity (ix m.nodes m.next).Op = y) (h0 : y = 0) : (m1_expr_Scope__primary m.scope (ix m.nodes m.next)).2 = 0 := by
  subst ha
  rcases h.step with h | h | h | h
  · exact h.2.1
  all_goals (have := h.1; omega)
theorem ev1 {m : expr_machine} (h : VE m) {y : Int} (ha : expr_arity (ix m.nodes m.next).Op = y) (h0 : ¬y = 0) : VE (st1 m) := by
  subst ha
  have e : VE (st1 m) = Ok m.scope m.nodes (m.next + 1) := by show Ok _ _ (wr (m.next + 1)) = _; rw [h.wr1]
  rw [e]
  rcases h.step with h | h | h | h
  · exact absurd h.1 h0
  all_goals exact h.2.1
section
variable {rec_ : expr_machine → expr_value × expr_machine} {m : expr_machine} {y1 y2 : expr_value × expr_machine}
theorem snd1 (h : VE m) {y : Int} (ha : expr_arity (ix m.nodes m.next).Op = y) (h0 : ¬y = 0) (hr : HR rec_) (hw : rec_ (st1 m) = y1) : y1.2 = { m with next := nx m.scope m.nodes (m.next + 1) } := by
  rw [← hw, hr _ (ev1 h ha h0)]
  show ({ scope := _, env := _, args := _, nodes := _, next := nx m.scope m.nodes (wr (m.next + 1)) } : expr_machine) = _
  rw [h.wr1]
theorem ev2 (h : VE m) {y : Int} (ha : expr_arity (ix m.nodes m.next).Op = y) (h0 : ¬y = 0) (h1 : ¬y = 1) (hr : HR rec_) (hw : rec_ (st1 m) = y1) : VE y1.2 := by
  rw [snd1 h ha h0 hr hw]
  subst ha
  show Ok m.scope m.nodes (nx m.scope m.nodes (m.next + 1))
  rcases h.step with h | h | h | h
  · exact absurd h.1 h0
  · exact absurd h.1 h1
  all_goals exact h.2.2.1
theorem snd2 (h : VE m) {y : Int} (ha : expr_arity (ix m.nodes m.next).Op = y) (h0 : ¬y = 0) (h1 : ¬y = 1) (hr : HR rec_) (hw : rec_ (st1 m) = y1) (hw2 : rec_ y1.2 = y2) : y2.2 = { m with next := nx m.scope m.nodes (nx m.scope m.nodes (m.next + 1)) } := by
  rw [← hw2, hr _ (ev2 h ha h0 h1 hr hw), snd1 h ha h0 hr hw]
theorem ev3 (h : VE m) {y : Int} (ha : expr_arity (ix m.nodes m.next).Op = y) (h0 : ¬y = 0) (h1 : ¬y = 1) (h2 : ¬y = 2) (hr : HR rec_) (hw : rec_ (st1 m) = y1) (hw2 : rec_ y1.2 = y2) : VE y2.2 := by
  rw [snd2 h ha h0 h1 hr hw hw2]
  subst ha
  show Ok m.scope m.nodes (nx m.scope m.nodes (nx m.scope m.nodes (m.next + 1)))
  rcases h.step with h | h | h | h
  · exact absurd h.1 h0
  · exact absurd h.1 h1
  · exact absurd h.1 h2
  · exact h.2.2.2.1
theorem dv1 (h : VE m) {y : Int} (ha : expr_arity (ix m.nodes m.next).Op = y) (h0 : ¬y = 0) : (st1 m).nodes.length - (st1 m).next.toNat < m.nodes.length - m.next.toNat := by
  have h1 := ve_lt h
  show m.nodes.length - (wr (m.next + 1)).toNat < _
  rw [h.wr1]; omega
theorem dv2 (h : VE m) {y : Int} (ha : expr_arity (ix m.nodes m.next).Op = y) (h0 : ¬y = 0) (h1 : ¬y = 1) (hr : HR rec_) (hw : rec_ (st1 m) = y1) : y1.2.nodes.length - y1.2.next.toNat < m.nodes.length - m.next.toNat := by
  have e1 := ev1 h ha h0
  have g : m.next + 1 < nx m.scope m.nodes (m.next + 1) := by
    have := e1.gt
    have e : (st1 m).next = m.next + 1 := h.wr1
    rw [e] at this
    exact this
  rw [snd1 h ha h0 hr hw]
  have := ve_lt h
  show m.nodes.length - (nx m.scope m.nodes (m.next + 1)).toNat < _
  omega
theorem dv3 (h : VE m) {y : Int} (ha : expr_arity (ix m.nodes m.next).Op = y) (h0 : ¬y = 0) (h1 : ¬y = 1) (h2 : ¬y = 2) (hr : HR rec_) (hw : rec_ (st1 m) = y1) (hw2 : rec_ y1.2 = y2) : y2.2.nodes.length - y2.2.next.toNat < m.nodes.length - m.next.toNat := by
  have e1 := ev1 h ha h0
  have g : m.next + 1 < nx m.scope m.nodes (m.next + 1) := by
    have := e1.gt
    have e : (st1 m).next = m.next + 1 := h.wr1
    rw [e] at this
    exact this
  have e2 := ev2 h ha h0 h1 hr hw
  have g2 : nx m.scope m.nodes (m.next + 1) < nx m.scope m.nodes (nx m.scope m.nodes (m.next + 1)) := by
    have := e2.gt
    rw [snd1 h ha h0 hr hw] at this
    exact this
  rw [snd2 h ha h0 h1 hr hw hw2]
  have := ve_lt h
  show m.nodes.length - (nx m.scope m.nodes (nx m.scope m.nodes (m.next + 1))).toNat < _
  omega
end
theorem load_snd (m : expr_machine) (x : api_ExprNode) : (m2_expr_machine__load m x).2 = m := by
  unfold m2_expr_machine__load
  simp only [LET]
  repeat' split
  all_goals rfl
theorem eval_next : ∀ k : Nat, HR (m2_expr_machine__eval_R k)
  | 0 => fun z hz => by rw [m2_expr_machine__eval_R]; rfl
  | k + 1 => fun z hz => by
    have ih := eval_next k
    rw [m2_expr_machine__eval_R]
    unfold m2_expr_machine__eval_B
    simp only [LET, decide_eq_true_eq]
    have hs := hz.step
    have hw := hz.wr1
    by_cases h0 : expr_arity (ix z.nodes z.next).Op = 0
    · rw [if_pos h0]
      simp only [load_snd, hw]
      rcases hs with h | h | h | h
      · rw [h.2.2.2]
      all_goals (have := h.1; omega)
    · rw [if_neg h0]
      have e1 := ev1 hz rfl h0
      by_cases h1 : expr_arity (ix z.nodes z.next).Op = 1
      · rw [if_pos h1]
        have := snd1 hz rfl h0 ih rfl
        refine Eq.trans this ?_
        rcases hs with h | h | h | h
        · exact absurd h.1 h0
        · rw [h.2.2.2.2]
        all_goals (have := h.1; omega)
      · rw [if_neg h1]
        by_cases h2 : expr_arity (ix z.nodes z.next).Op = 2
        · rw [if_pos h2]
          have := snd2 hz rfl h0 h1 ih rfl rfl
          refine Eq.trans this ?_
          rcases hs with h | h | h | h
          · exact absurd h.1 h0
          · exact absurd h.1 h1
          · rw [h.2.2.2.2.2]
          · have := h.1; omega
        · rw [if_neg h2]
          have e3 := ev3 hz rfl h0 h1 h2 ih rfl rfl
          have key := ih _ e3
          have s2 := snd2 hz rfl h0 h1 ih rfl rfl
          rcases hs with h | h | h | h
          · exact absurd h.1 h0
          · exact absurd h.1 h1
          · exact absurd h.1 h2
          · have fin := key.trans (show _ = ({ z with next := nx z.scope z.nodes z.next } : expr_machine) by rw [s2, h.2.2.2.2.2.2])
            split
            · exact fin
            · exact fin
theorem chk_ok {n : List api_ExprNode} {s : expr_Scope} {y : Int × Int} (h : expr_Check n s = y) (h2 : y.2 = 0) : n.length ≤ 24 ∧ Ok s n 0 ∧ y.1 = wd s n 0 ∧ (n.length : Int) ≤ nx s n 0 := by
  subst h
  unfold expr_Check at h2 ⊢
  simp only [LET] at h2 ⊢
  split at h2
  · cases h2
  · rename_i h3
    rw [if_neg h3]
    simp only [decide_eq_true_eq, Int.not_lt] at h3
    split at h2
    · rename_i h4
      simp only [Bool.not_eq_true', decide_eq_false_iff_not] at h4
      exact absurd h2 h4
    · rename_i h4
      rw [if_neg h4]
      simp only [Bool.not_eq_true', decide_eq_false_iff_not, Decidable.not_not] at h4
      split at h2
      · cases h2
      · rename_i h5
        rw [if_neg h5]
        simp only [decide_eq_true_eq, Int.not_lt] at h5
        exact ⟨by omega, ⟨by omega, by omega, h4⟩, rfl, h5⟩
theorem ev0 {n : List api_ExprNode} {s : expr_Scope} {y : Int × Int} (h : expr_Check n s = y) (h2 : y.2 = 0) (e : api_Env) (a : List (BitVec 32)) : VE { scope := s, env := e, args := a, nodes := n, next := 0 } := (chk_ok h h2).2.1
theorem el_ok {e : api_Env} {r : api_FieldRef} {y : List (BitVec 32) × Bool} (h : env_element e r = y) (hb : y.2 = true) : 0 ≤ r.Field ∧ r.Field < y.1.length := by
  subst h
  unfold env_element at hb ⊢
  simp only [LET] at hb ⊢
  split at hb
  · rename_i h
    rw [if_pos h]
    simpa [env_in_uint32] using hb
  · rename_i h
    rw [if_neg h]
    simp only [Bool.and_eq_true, env_in_uint32, decide_eq_true_eq] at hb
    exact hb.2
end Go.Proofs.Ytfekghenlhoamaa
