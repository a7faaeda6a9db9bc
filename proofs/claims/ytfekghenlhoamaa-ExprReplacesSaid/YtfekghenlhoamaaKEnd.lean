/-
  Extents of subexpressions: End, and moving a subexpression to another place.
-/
import Derived.Test.YtfekghenlhoamaaKFit
set_option linter.unusedVariables false
set_option linter.unusedSimpArgs false
set_option maxRecDepth 100000
namespace Go.Proofs.Ytfekghenlhoamaa
open Go Go.Pb Go.RowKit
section
variable {s : expr_Scope} {n : List api_ExprNode}
theorem nx_le : ∀ {a : Int}, Ok s n a → nx s n a ≤ n.length := by
  intro a
  refine (Ok.ind (P := fun a => nx s n a ≤ n.length) ?_) a
  intro a h ih
  have hlt := h.lt
  rcases h.step with t | t | t | t
  · rw [t.2.2.2]; omega
  · rw [t.2.2.2.2]; exact ih _ (by omega) t.2.1
  · have g1 := t.2.1.gt
    rw [t.2.2.2.2.2]; exact ih _ (by omega) t.2.2.1
  · have g1 := t.2.1.gt
    have g2 := t.2.2.1.gt
    rw [t.2.2.2.2.2.2]; exact ih _ (by omega) t.2.2.2.1
theorem sub_ok : ∀ {a : Int}, Ok s n a → ∀ i, a ≤ i → i < nx s n a → Ok s n i ∧ nx s n i ≤ nx s n a := by
  intro a
  refine (Ok.ind (P := fun a => ∀ i, a ≤ i → i < nx s n a → Ok s n i ∧ nx s n i ≤ nx s n a) ?_) a
  intro a h ih i h1 h2
  by_cases he : i = a
  · subst he; exact ⟨h, Int.le_refl _⟩
  rcases h.step with t | t | t | t
  · omega
  · have := ih _ (by omega) t.2.1 i (by omega) (by omega)
    rw [t.2.2.2.2]; exact this
  · have g1 := t.2.1.gt
    have g2 := t.2.2.1.gt
    by_cases c1 : i < nx s n (a + 1)
    · have := ih _ (by omega) t.2.1 i (by omega) c1
      exact ⟨this.1, by omega⟩
    · have := ih _ (by omega) t.2.2.1 i (by omega) (by omega)
      exact ⟨this.1, by omega⟩
  · have g1 := t.2.1.gt
    have g2 := t.2.2.1.gt
    have g3 := t.2.2.2.1.gt
    by_cases c1 : i < nx s n (a + 1)
    · have := ih _ (by omega) t.2.1 i (by omega) c1
      exact ⟨this.1, by omega⟩
    · by_cases c2 : i < nx s n (nx s n (a + 1))
      · have := ih _ (by omega) t.2.2.1 i (by omega) (by omega)
        exact ⟨this.1, by omega⟩
      · have := ih _ (by omega) t.2.2.2.1 i (by omega) (by omega)
        exact ⟨this.1, by omega⟩
theorem End_1 (K : Int → Int) (m : Nat) (a o : Int) (h : Ok s n a) (ho : 1 ≤ o) (hb : o ≤ 1000000000) : expr_End_L1 n K (m + 1) a o = expr_End_L1 n K m (a + 1) (o + (expr_arity (ix n a).Op - 1)) := by
  have hlt := h.lt
  have hl := h.len
  have hlo := h.lo
  have har := arity_le (ix n a).Op
  have hp : 0 ≤ expr_arity (ix n a).Op := by
    rcases h.step with t | t | t | t <;> (have := t.1; omega)
  rw [expr_End_L1]
  simp only [LET]
  rw [if_pos (by simp; omega), if_neg (by simp; omega), if_neg (by simp; omega), h.wr1, wr_of (n := expr_arity (ix n a).Op - 1) (by omega) (by omega), wr_of (by omega) (by omega)]
theorem End_sub (K : Int → Int) : ∀ {a : Int}, Ok s n a → ∀ (m : Nat) (o : Int), 1 ≤ o → o + 2 * (n.length - a) ≤ 1000000000 → expr_End_L1 n K (m + (nx s n a - a).toNat) a o = expr_End_L1 n K m (nx s n a) (o - 1) := by
  intro a
  refine (Ok.ind (P := fun a => ∀ (m : Nat) (o : Int), 1 ≤ o → o + 2 * (n.length - a) ≤ 1000000000 → expr_End_L1 n K (m + (nx s n a - a).toNat) a o = expr_End_L1 n K m (nx s n a) (o - 1)) ?_) a
  intro a h ih m o h1 h2
  have hlt := h.lt
  have hg := h.gt
  have l0 := nx_le h
  rcases h.step with t | t | t | t
  · rw [show m + (nx s n a - a).toNat = m + 1 by omega, End_1 K m a o h h1 (by omega), t.1, t.2.2.2, show o + (0 - 1) = o - 1 by omega]
  · have g1 := t.2.1.gt
    have l1 := nx_le t.2.1
    rw [t.2.2.2.2]
    rw [show m + (nx s n (a + 1) - a).toNat = (m + (nx s n (a + 1) - (a + 1)).toNat) + 1 by omega, End_1 K _ a o h h1 (by omega), t.1, show o + (1 - 1) = o by omega, ih _ (by omega) t.2.1 m o h1 (by omega)]
  · have g1 := t.2.1.gt
    have l1 := nx_le t.2.1
    have g2 := t.2.2.1.gt
    have l2 := nx_le t.2.2.1
    rw [t.2.2.2.2.2]
    rw [show m + (nx s n (nx s n (a + 1)) - a).toNat = ((m + (nx s n (nx s n (a + 1)) - nx s n (a + 1)).toNat) + (nx s n (a + 1) - (a + 1)).toNat) + 1 by omega, End_1 K _ a o h h1 (by omega), t.1, show o + (2 - 1) = o + 1 by omega, ih _ (by omega) t.2.1 _ (o + 1) (by omega) (by omega), show o + 1 - 1 = o by omega, ih _ (by omega) t.2.2.1 m o h1 (by omega)]
  · have g1 := t.2.1.gt
    have l1 := nx_le t.2.1
    have g2 := t.2.2.1.gt
    have l2 := nx_le t.2.2.1
    have g3 := t.2.2.2.1.gt
    have l3 := nx_le t.2.2.2.1
    rw [t.2.2.2.2.2.2]
    rw [show m + (nx s n (nx s n (nx s n (a + 1))) - a).toNat = (((m + (nx s n (nx s n (nx s n (a + 1))) - nx s n (nx s n (a + 1))).toNat) + (nx s n (nx s n (a + 1)) - nx s n (a + 1)).toNat) + (nx s n (a + 1) - (a + 1)).toNat) + 1 by omega, End_1 K _ a o h h1 (by omega), t.1, show o + (3 - 1) = o + 2 by omega, ih _ (by omega) t.2.1 _ (o + 2) (by omega) (by omega), show o + 2 - 1 = o + 1 by omega, ih _ (by omega) t.2.2.1 _ (o + 1) (by omega) (by omega), show o + 1 - 1 = o by omega, ih _ (by omega) t.2.2.2.1 m o h1 (by omega)]
theorem End_eq {a : Int} (h : Ok s n a) : expr_End n a = nx s n a := by
  have hlt := h.lt
  have hl := h.len
  have hlo := h.lo
  have hg := h.gt
  have l0 := nx_le h
  unfold expr_End
  rw [if_neg (by simp; omega), show Int.toNat ((n.length : Int) - a + 1) = (((n.length : Int) - nx s n a).toNat + 1) + (nx s n a - a).toNat by omega, End_sub _ h _ 1 (by omega) (by omega), expr_End_L1]
  rw [if_neg (by simp)]
theorem chk_mk (h : n.length ≤ 24) (k : Ok s n 0) (e : nx s n 0 = n.length) : expr_Check n s = (wd s n 0, 0) := by
  unfold expr_Check
  simp only [LET]
  rw [if_neg (by simp; omega), if_neg (by simp [k.ok]), if_neg ?_]
  · rfl
  · have : (m1_expr_Scope__check s n 0).2.1 = n.length := e
    rw [this]; simp
theorem load_eq (m m' : expr_machine) (x : api_ExprNode) (h1 : m.scope = m'.scope) (h2 : m.env = m'.env) (h3 : m.args = m'.args) : (m2_expr_machine__load m x).1 = (m2_expr_machine__load m' x).1 := by
  unfold m2_expr_machine__load
  simp only [LET, h1, h2, h3]
  repeat' split
  all_goals rfl
/-- What is said of a subexpression moved to another list. -/
structure Mv (s : expr_Scope) (e : api_Env) (g : List (BitVec 32)) (n n' : List api_ExprNode) (a a' z' : Int) : Prop where
  ok : Ok s n' a'
  w : wd s n' a' = wd s n a
  v : vl s e g n' a' = vl s e g n a
  x : nx s n' a' = z'
theorem mv_of {e : api_Env} {g : List (BitVec 32)} {n' : List api_ExprNode} (T : Int → Int) (D : Int → Prop) (E : Int) (hl : n'.length ≤ 1000000)
    (h1 : ∀ b, D b → Ok s n b → nx s n b ≤ E → Mv s e g n n' b (T b) (T (nx s n b)) ∨ (ix n' (T b) = ix n b ∧ T (b + 1) = T b + 1 ∧ D (b + 1) ∧ 0 ≤ T b ∧ T b < n'.length))
    (h2 : ∀ b, D b → Ok s n b → nx s n b ≤ E → D (nx s n b)) :
    ∀ {a : Int}, Ok s n a → D a → nx s n a ≤ E → Mv s e g n n' a (T a) (T (nx s n a)) := by
  intro a
  refine (Ok.ind (P := fun a => D a → nx s n a ≤ E → Mv s e g n n' a (T a) (T (nx s n a))) ?_) a
  intro a h ih hD hE
  rcases h1 a hD h hE with hm | ⟨e1, e2, e3, e4, e5⟩
  · exact hm
  have hlt := h.lt
  rcases h.step with t | t | t | t
  · have c := check_0 (s := s) e4 e5 hl (by rw [e1]; exact t.1)
    have k : Ok s n' (T a) := ⟨e4, hl, by rw [c, e1]; exact t.2.1⟩
    refine ⟨k, ?_, ?_, ?_⟩
    · rw [t.2.2.1, wd, c, e1]
    · rw [vl_0 e g k (by rw [e1]; exact t.1), vl_0 e g h t.1, e1]
      exact load_eq _ _ _ rfl rfl rfl
    · rw [t.2.2.2, nx, c, e2]
  · have g1 := t.2.1.gt
    have m1 := ih _ (by omega) t.2.1 e3 (by omega)
    rw [e2] at m1
    have ha' : expr_arity (ix n' (T a)).Op = 1 := by rw [e1]; exact t.1
    have c := check_1 (s := s) e4 e5 hl ha' m1.ok
    have k : Ok s n' (T a) := ⟨e4, hl, by rw [c, e1, m1.w]; exact t.2.2.1⟩
    refine ⟨k, ?_, ?_, ?_⟩
    · rw [t.2.2.2.1, wd, c, e1, m1.w]
    · rw [vl_1 e g k ha' m1.ok, vl_1 e g h t.1 t.2.1, e1, m1.v]
    · rw [t.2.2.2.2, nx, c, m1.x]
  · have g1 := t.2.1.gt
    have g2 := t.2.2.1.gt
    have m1 := ih _ (by omega) t.2.1 e3 (by omega)
    have m2 := ih _ (by omega) t.2.2.1 (h2 _ e3 t.2.1 (by omega)) (by omega)
    rw [e2] at m1
    rw [← m1.x] at m2
    have ha' : expr_arity (ix n' (T a)).Op = 2 := by rw [e1]; exact t.1
    have c := check_2 (s := s) e4 e5 hl ha' m1.ok m2.ok
    have k : Ok s n' (T a) := ⟨e4, hl, by rw [c, e1, m1.w, m2.w]; exact t.2.2.2.1⟩
    refine ⟨k, ?_, ?_, ?_⟩
    · rw [t.2.2.2.2.1, wd, c, e1, m1.w, m2.w]
    · rw [vl_2 e g k ha' m1.ok m2.ok, vl_2 e g h t.1 t.2.1 t.2.2.1, e1, m1.v, m2.v]
    · rw [t.2.2.2.2.2, nx, c, m2.x]
  · have g1 := t.2.1.gt
    have g2 := t.2.2.1.gt
    have g3 := t.2.2.2.1.gt
    have m1 := ih _ (by omega) t.2.1 e3 (by omega)
    have d2 := h2 _ e3 t.2.1 (by omega)
    have m2 := ih _ (by omega) t.2.2.1 d2 (by omega)
    have m3 := ih _ (by omega) t.2.2.2.1 (h2 _ d2 t.2.2.1 (by omega)) (by omega)
    rw [e2] at m1
    rw [← m1.x] at m2
    rw [← m2.x] at m3
    have ha' : expr_arity (ix n' (T a)).Op = 3 := by rw [e1]; exact t.1
    have c := check_3 (s := s) e4 e5 hl ha' m1.ok m2.ok m3.ok
    have k : Ok s n' (T a) := ⟨e4, hl, by rw [c, e1, m1.w, m2.w, m3.w]; exact t.2.2.2.2.1⟩
    refine ⟨k, ?_, ?_, ?_⟩
    · rw [t.2.2.2.2.2.1, wd, c, e1, m1.w, m2.w, m3.w]
    · rw [vl_3 e g k ha' m1.ok m2.ok m3.ok, vl_3 e g h t.1 t.2.1 t.2.2.1 t.2.2.2.1, m1.v, m2.v, m3.v]
    · rw [t.2.2.2.2.2.2, nx, c, m3.x]
/-- A shifted subexpression. -/
theorem mv_shift {e : api_Env} {g : List (BitVec 32)} {n' : List api_ExprNode} {a : Int} (d : Int) (hl : n'.length ≤ 1000000) (h : Ok s n a) (h0 : 0 ≤ a + d) (h1 : nx s n a + d ≤ n'.length) (hx : ∀ i, a ≤ i → i < nx s n a → ix n' (i + d) = ix n i) : Mv s e g n n' a (a + d) (nx s n a + d) := by
  refine mv_of (fun b => b + d) (fun b => a ≤ b) (nx s n a) hl ?_ ?_ h (Int.le_refl _) (Int.le_refl _)
  · intro b hb hk hE
    have := hk.gt
    exact .inr ⟨hx b hb (by omega), by omega, by omega, by omega, by omega⟩
  · intro b hb hk hE
    have := hk.gt
    omega
end
theorem ExprFits_pure (x0 : law13_Args) : law13_ExprFits x0 = true := by
  unfold law13_ExprFits
  simp only [LET]
  split
  · rfl
  · split
    · rename_i h1 h2
      simp only [Bool.not_eq_true', decide_eq_false_iff_not] at h2
      rw [Eval_bad _ _ _ _ h2]
      have : (expr_Check x0.Nodes (m1_law13_Args__scope x0)).1 = 0 := by
        unfold expr_Check at h2 ⊢
        simp only [LET] at h2 ⊢
        split
        · rfl
        · rename_i h3
          rw [if_neg h3] at h2
          split
          · rfl
          · rename_i h4
            rw [if_neg h4] at h2
            split
            · rfl
            · rename_i h5
              rw [if_neg h5] at h2
              exact absurd rfl h2
      rw [this]
      rfl
    · rename_i h1 h2
      simp only [Bool.not_eq_true', decide_eq_false_iff_not, Decidable.not_not] at h2
      obtain ⟨k1, k2, k3, k4⟩ := chk_ok rfl h2
      have hw := wd_ok k2
      obtain ⟨f1, f2⟩ := vl_ok x0.E x0.Args k2
      have hle := nx_le k2
      rw [Eval_ok _ _ _ _ h2, k3, End_eq k2]
      have hfit : bitvec_Fits (vl (m1_law13_Args__scope x0) x0.E x0.Args x0.Nodes 0).v (wd (m1_law13_Args__scope x0) x0.Nodes 0) = true := by
        unfold bitvec_Fits
        simp only [LET, bitvec_valid_one, Bool.and_eq_true, decide_eq_true_eq, BitVec.le_def]
        refine ⟨hw, ?_⟩
        rw [mask_nat hw]
        rw [f2] at f1
        unfold FV at f1
        omega
      rw [hfit]
      simp only [Bool.and_eq_true, decide_eq_true_eq]
      exact ⟨⟨⟨hw, trivial⟩, by omega⟩, rfl⟩
end Go.Proofs.Ytfekghenlhoamaa
