/-
  Hand-written texts in one.
-/
import Derived.Test.YtnejfbehaembkaaKDef
import Derived.Test.YtnejfbehaembkaaPbP
import Derived.Test.YtnejfbehaembkaaKCoFoFc
import Derived.Test.YtnejfbehaembkaaKPureSemFit
set_option linter.unusedVariables false
set_option linter.unusedSimpArgs false
set_option maxRecDepth 100000
namespace Go.Proofs.Ytnejfbehaembkaa
open Go Go.Pb Go.RowKit
theorem rel_m {x : api_Env} {r : api_FieldRef} {y : Bool} (h : ref12_element x r = y) (h2 : y = true) (h3 : r.Header = -1) : 0 ≤ r.Field ∧ r.Field < x.Metd.length := by
  subst h
  unfold ref12_element at h2
  rw [if_pos (by simpa using h3)] at h2
  simpa using h2
theorem rel_h {x : api_Env} {r : api_FieldRef} {y : Bool} (h : ref12_element x r = y) (h2 : y = true) (h3 : ¬r.Header = -1) : ((0 ≤ r.Header ∧ r.Header < x.Fields.length) ∧ 0 ≤ r.Field) ∧ r.Field < (ix x.Fields r.Header).length := by
  subst h
  unfold ref12_element at h2
  rw [if_neg (by simpa using h3)] at h2
  simpa using h2
theorem get_eq (e : api_Env) (r : api_FieldRef) : ref12_Get e r = env_Get e r := by
  unfold ref12_Get env_Get ref12_element env_element ref12_Has env_at__uint32_ env_at_bool env_in_uint32
  simp only [LET]
  obtain ⟨H, F⟩ := r
  have hq : ((⟨H, F⟩ : api_FieldRef) = { Header := -1, Field := F }) ↔ H = -1 := by
    constructor
    · intro h; injection h
    · intro h; rw [h]
  by_cases h : H = -1
  · simp only [decide_eq_true h, decide_eq_true (hq.mpr h), if_true]
  · simp only [decide_eq_false h, decide_eq_false (fun hc => h (hq.mp hc)), if_false, Bool.false_eq_true]
    by_cases h1 : H < 0 ∨ (e.Fields.length : Int) ≤ H
    · have c1 : (decide (0 ≤ H) && decide (H < (e.Fields.length : Int))) = false := by simp; omega
      have c2 : (decide (H < 0) || decide ((e.Fields.length : Int) ≤ H)) = true := by simpa using h1
      simp [c1, c2]
      intros
      omega
    · have c1 : (decide (0 ≤ H) && decide (H < (e.Fields.length : Int))) = true := by simp; omega
      have c2 : (decide (H < 0) || decide ((e.Fields.length : Int) ≤ H)) = false := by simp; omega
      rw [c1, c2]
      simp only [Bool.true_and, if_false, Bool.false_eq_true]
      by_cases h2 : H < 0 ∨ (e.Valid.length : Int) ≤ H
      · have c3 : (decide (0 ≤ H) && decide (H < (e.Valid.length : Int))) = false := by simp; omega
        have c4 : (decide (H < 0) || decide ((e.Valid.length : Int) ≤ H)) = true := by simpa using h2
        rw [c3, c4]
        simp
      · have c3 : (decide (0 ≤ H) && decide (H < (e.Valid.length : Int))) = true := by simp; omega
        have c4 : (decide (H < 0) || decide ((e.Valid.length : Int) ≤ H)) = false := by simp; omega
        rw [c3, c4]
        simp only [Bool.true_and, if_false, Bool.false_eq_true]
        cases ix e.Valid H <;> cases (decide (0 ≤ F) && decide (F < ((ix e.Fields H).length : Int))) <;> rfl
/-- Two environments agree on what the nodes read. -/
def AG (e e' : api_Env) (n : List api_ExprNode) : Prop := ∀ x ∈ n, (x.Op = 2 → ref12_Get e { Header := x.N, Field := x.W } = ref12_Get e' { Header := x.N, Field := x.W }) ∧ (x.Op = 4 → law13_valid e x.N = law13_valid e' x.N)
theorem load_dep0 {e e' : api_Env} {n : List api_ExprNode} (ag : AG e e' n) (s : expr_Scope) (g : List (BitVec 32)) (k k' : List api_ExprNode) (a a' : Int) {x : api_ExprNode} (hx : x ∈ n) (hp : (m1_expr_Scope__primary s x).2 = 0) : (m2_expr_machine__load ⟨s, e, g, k, a⟩ x).1 = (m2_expr_machine__load ⟨s, e', g, k', a'⟩ x).1 := by
  obtain ⟨h2, h4⟩ := ag x hx
  unfold m2_expr_machine__load
  simp only [LET]
  by_cases o1 : x.Op = 1
  · simp only [decide_eq_true o1, if_true]
  · simp only [decide_eq_false o1, Bool.false_eq_true, if_false]
    by_cases o2 : x.Op = 2
    · simp only [decide_eq_true o2, if_true]
      have := h2 o2
      rw [get_eq, get_eq] at this
      rw [this]
    · simp only [decide_eq_false o2, Bool.false_eq_true, if_false]
      by_cases o3 : x.Op = 3
      · simp only [decide_eq_true o3, if_true]
        split <;> rfl
      · simp only [decide_eq_false o3, Bool.false_eq_true, if_false]
        by_cases o4 : x.Op = 4
        · simp only [decide_eq_true o4, if_true]
          have h0 := pr4 hp o4
          have hv := h4 o4
          unfold law13_valid at hv
          rw [decide_eq_true h0, Bool.true_and, Bool.true_and] at hv
          rw [hv]
          split <;> rfl
        · simp only [decide_eq_false o4, Bool.false_eq_true, if_false]
theorem load_dep {e e' : api_Env} {n : List api_ExprNode} (ag : AG e e' n) (s : expr_Scope) (g : List (BitVec 32)) (a : Int) {x : api_ExprNode} (hx : x ∈ n) (hp : (m1_expr_Scope__primary s x).2 = 0) : (m2_expr_machine__load (mch s e g n a) x).1 = (m2_expr_machine__load (mch s e' g n a) x).1 := load_dep0 ag s g n n a a hx hp
theorem vl_dep {e e' : api_Env} {n : List api_ExprNode} (ag : AG e e' n) (s : expr_Scope) (g : List (BitVec 32)) : ∀ a, Ok s n a → vl s e g n a = vl s e' g n a := by
  refine Ok.ind fun a h ih => ?_
  have hlt := h.lt
  have hmem : ix n a ∈ n := ix_mem h.lo hlt
  rcases h.step with t | t | t | t
  · rw [vl_0 e g h t.1, vl_0 e' g h t.1]
    exact load_dep ag s g _ hmem t.2.1
  · rw [vl_1 e g h t.1 t.2.1, vl_1 e' g h t.1 t.2.1, ih _ (by omega) t.2.1]
  · have g1 := t.2.1.gt
    rw [vl_2 e g h t.1 t.2.1 t.2.2.1, vl_2 e' g h t.1 t.2.1 t.2.2.1, ih _ (by omega) t.2.1, ih _ (by omega) t.2.2.1]
  · have g1 := t.2.1.gt
    have g2 := t.2.2.1.gt
    rw [vl_3 e g h t.1 t.2.1 t.2.2.1 t.2.2.2.1, vl_3 e' g h t.1 t.2.1 t.2.2.1 t.2.2.2.1, ih _ (by omega) t.2.1, ih _ (by omega) t.2.2.1, ih _ (by omega) t.2.2.2.1]
theorem eval_dep {e e' : api_Env} {n : List api_ExprNode} (ag : AG e e' n) (s : expr_Scope) (g : List (BitVec 32)) : expr_Eval n s e g = expr_Eval n s e' g := by
  by_cases h : (expr_Check n s).2 = 0
  · rw [Eval_ok n s e g h, Eval_ok n s e' g h, vl_dep ag s g 0 (chk_ok rfl h).2.1]
  · rw [Eval_bad n s e g h, Eval_bad n s e' g h]
theorem dep_L1 (x0 : law13_Args) (x1 : api_Env) (l : List api_FieldRef) (K : Unit → Bool) : ∀ (m : Nat) (i : Int), m = Int.toNat ((l.length : Int) - i) → 0 ≤ i → ((∀ y ∈ l.drop i.toNat, ref12_Get x0.E y = ref12_Get x1 y) → K () = true) → law13_ExprDepends_L1 x0 x1 l K m i = true
  | 0, i, hm, h0, hK => by
    rw [law13_ExprDepends_L1]
    rw [List.drop_eq_nil_of_le (by omega)] at hK
    exact hK fun y hy => by cases hy
  | m + 1, i, hm, h0, hK => by
    rw [law13_ExprDepends_L1]
    simp only [LET]
    split
    · rfl
    · rename_i hc
      simp only [Bool.not_eq_true', decide_eq_false_iff_not, Classical.not_not] at hc
      refine dep_L1 x0 x1 l K m (i + 1) (by omega) (by omega) fun h => hK fun y hy => ?_
      rw [dropix h0 (by omega), List.mem_cons] at hy
      rcases hy with rfl | hy
      · exact hc
      · exact h y hy
theorem dep_L2 (x0 : law13_Args) (x1 : api_Env) (l : List Int) (K : Unit → Bool) : ∀ (m : Nat) (i : Int), m = Int.toNat ((l.length : Int) - i) → 0 ≤ i → ((∀ y ∈ l.drop i.toNat, law13_valid x0.E y = law13_valid x1 y) → K () = true) → law13_ExprDepends_L2 x0 x1 l K m i = true
  | 0, i, hm, h0, hK => by
    rw [law13_ExprDepends_L2]
    rw [List.drop_eq_nil_of_le (by omega)] at hK
    exact hK fun y hy => by cases hy
  | m + 1, i, hm, h0, hK => by
    rw [law13_ExprDepends_L2]
    simp only [LET]
    split
    · rfl
    · rename_i hc
      simp only [Bool.not_eq_true', decide_eq_false_iff_not, Classical.not_not] at hc
      refine dep_L2 x0 x1 l K m (i + 1) (by omega) (by omega) fun h => hK fun y hy => ?_
      rw [dropix h0 (by omega), List.mem_cons] at hy
      rcases hy with rfl | hy
      · exact hc
      · exact h y hy
theorem mem_fields {n : List api_ExprNode} {x : api_ExprNode} (hx : x ∈ n) (h : x.Op = 2) : ({ Header := x.N, Field := x.W } : api_FieldRef) ∈ expr_Fields n := by
  rw [fields_cpt, cpt_mem, sortFR, List.mem_mergeSort]
  exact List.mem_map.2 ⟨x, List.mem_filter.2 ⟨hx, by simpa using h⟩, rfl⟩
theorem mem_headers {n : List api_ExprNode} {x : api_ExprNode} (hx : x ∈ n) (h : x.Op = 4) : x.N ∈ expr_Headers n := by
  rw [headers_cpt, cpt_mem, slices_Sort__int_int_, List.mem_mergeSort]
  exact List.mem_map.2 ⟨x, List.mem_filter.2 ⟨hx, by simpa using h⟩, rfl⟩
theorem ExprDepends_law (x0 : law13_Args) (x1 : api_Env) : law13_ExprDepends x0 x1 = true := by
  unfold law13_ExprDepends
  simp only [LET]
  split
  · rfl
  · refine dep_L1 x0 x1 _ _ _ 0 rfl (by omega) fun h1 => ?_
    refine dep_L2 x0 x1 _ _ _ 0 rfl (by omega) fun h2 => ?_
    have ag : AG x0.E x1 x0.Nodes := fun x hx => ⟨fun o => h1 _ (mem_fields hx o), fun o => h2 _ (mem_headers hx o)⟩
    rw [eval_dep ag]
    simp [law13_awake]
end Go.Proofs.Ytnejfbehaembkaa
