/-
  The plain laws of UnitsGuard and UnitsExclude.
-/
import Derived.Test.YtkgnjpoafilicaaKDef
import Derived.Test.YtkgnjpoafilicaaPbP
set_option linter.unusedVariables false
set_option linter.unusedSimpArgs false
set_option maxRecDepth 100000
namespace Go.Proofs.Ytkgnjpoafilicaa
open Go Go.Pb Go.RowKit
theorem Executes_L1_eq (l : List api_Unit) (b : List Bool) (i : Int) (K : Unit → Bool) : ∀ (m : Nat) (j : Int), units_Executes_L1 l b i K m j = ref32_Executes_L1 l b i K m j
  | 0, j => rfl
  | m + 1, j => by rw [units_Executes_L1, ref32_Executes_L1, Executes_L1_eq l b i K m]
theorem Executes_eq (l : List api_Unit) (b : List Bool) (i : Int) : units_Executes l b i = ref32_Executes l b i := by
  unfold units_Executes ref32_Executes
  simp only [Executes_L1_eq]
theorem Index_L1 (l : List api_Guard) (g : api_Guard) : ∀ (m : Nat) (j : Int), m = Int.toNat ((l.length : Int) - j) → 0 ≤ j → (0 ≤ slices_Index__api_Guard_api_Guard__L1 l g (fun _ => -1) m j ↔ ∃ k : Int, j ≤ k ∧ k < l.length ∧ g = ix l k)
  | 0, j, hm, h0 => by
    rw [slices_Index__api_Guard_api_Guard__L1]
    constructor
    · intro h; omega
    · rintro ⟨k, h1, h2, _⟩; omega
  | m + 1, j, hm, h0 => by
    rw [slices_Index__api_Guard_api_Guard__L1]
    split
    · rename_i e
      simp only [decide_eq_true_eq] at e
      exact ⟨fun _ => ⟨j, by omega, by omega, e⟩, fun _ => h0⟩
    · rename_i e
      simp only [decide_eq_true_eq] at e
      rw [Index_L1 l g m (j + 1) (by omega) (by omega)]
      constructor
      · rintro ⟨k, h1, h2, h3⟩; exact ⟨k, by omega, h2, h3⟩
      · rintro ⟨k, h1, h2, h3⟩
        have : k ≠ j := fun e2 => by subst e2; exact e h3
        exact ⟨k, by omega, h2, h3⟩
theorem Contains_iff (l : List api_Guard) (g : api_Guard) : slices_Contains__api_Guard_api_Guard_ l g = true ↔ ∃ k : Int, 0 ≤ k ∧ k < l.length ∧ g = ix l k := by
  unfold slices_Contains__api_Guard_api_Guard_ slices_Index__api_Guard_api_Guard_
  simp only [LET, decide_eq_true_eq]
  exact Index_L1 l g _ 0 (by omega) (by omega)
theorem IndexF_L1 (l : List api_Guard) (f : api_Guard → Bool) : ∀ (m : Nat) (j : Int), m = Int.toNat ((l.length : Int) - j) → 0 ≤ j → (0 ≤ slices_IndexFunc__api_Guard_api_Guard__L1 l f (fun _ => -1) m j ↔ ∃ k : Int, j ≤ k ∧ k < l.length ∧ f (ix l k) = true)
  | 0, j, hm, h0 => by
    rw [slices_IndexFunc__api_Guard_api_Guard__L1]
    constructor
    · intro h; omega
    · rintro ⟨k, h1, h2, _⟩; omega
  | m + 1, j, hm, h0 => by
    rw [slices_IndexFunc__api_Guard_api_Guard__L1]
    split
    · rename_i e
      exact ⟨fun _ => ⟨j, by omega, by omega, e⟩, fun _ => h0⟩
    · rename_i e
      rw [IndexF_L1 l f m (j + 1) (by omega) (by omega)]
      constructor
      · rintro ⟨k, h1, h2, h3⟩; exact ⟨k, by omega, h2, h3⟩
      · rintro ⟨k, h1, h2, h3⟩
        have : k ≠ j := fun e2 => by subst e2; exact e h3
        exact ⟨k, by omega, h2, h3⟩
/-- Guards of both units that contradict each other. -/
def Clash (l : List api_Unit) (i j : Int) : Prop := (0 ≤ i ∧ i < l.length ∧ 0 ≤ j ∧ j < l.length) ∧ ∃ a b : Int, (0 ≤ a ∧ a < (ix l i).Guards.length) ∧ (0 ≤ b ∧ b < (ix l j).Guards.length) ∧ (ix (ix l i).Guards a).Unit = (ix (ix l j).Guards b).Unit ∧ (ix (ix l i).Guards a).Want ≠ (ix (ix l j).Guards b).Want
theorem Clash.symm {l : List api_Unit} {i j : Int} (h : Clash l i j) : Clash l j i := by
  obtain ⟨h1, a, b, h2, h3, h4, h5⟩ := h
  exact ⟨by omega, b, a, h3, h2, h4.symm, fun e => h5 e.symm⟩
theorem Exclusive_iff (l : List api_Unit) (i j : Int) : units_Exclusive l i j = true ↔ Clash l i j := by
  unfold units_Exclusive slices_ContainsFunc__api_Guard_api_Guard_ slices_IndexFunc__api_Guard_api_Guard_ Clash
  simp only [LET, Bool.or_eq_true, decide_eq_true_eq]
  split
  · rename_i h
    constructor
    · intro h; cases h
    · rintro ⟨h1, _⟩; omega
  · rename_i h
    rw [decide_eq_true_eq, IndexF_L1 _ _ _ 0 (by omega) (by omega)]
    constructor
    · rintro ⟨a, a0, a1, ha⟩
      simp only [units_Exclusive_1, LET, Contains_iff] at ha
      obtain ⟨b, b0, b1, hb⟩ := ha
      refine ⟨by omega, a, b, ⟨a0, a1⟩, ⟨b0, b1⟩, ?_, ?_⟩
      · rw [← hb]
      · rw [← hb]; simp
    · rintro ⟨_, a, b, ⟨a0, a1⟩, ⟨b0, b1⟩, h1, h2⟩
      refine ⟨a, a0, a1, ?_⟩
      simp only [units_Exclusive_1, LET, Contains_iff]
      refine ⟨b, b0, b1, ?_⟩
      have e : (!(ix (ix l i).Guards a).Want) = (ix (ix l j).Guards b).Want := by
        cases h3 : (ix (ix l i).Guards a).Want <;> cases h4 : (ix (ix l j).Guards b).Want <;> simp_all
      rw [e, h1]
theorem rExcl_L2 (l : List api_Unit) (i j a : Int) (K : Unit → Bool) : ∀ (m : Nat) (b : Int), m = Int.toNat (((ix l j).Guards.length : Int) - b) → 0 ≤ b → (ref32_Exclusive_L2 l i j a K m b = true ↔ (∃ k : Int, b ≤ k ∧ k < (ix l j).Guards.length ∧ (ix (ix l i).Guards a).Unit = (ix (ix l j).Guards k).Unit ∧ (ix (ix l i).Guards a).Want ≠ (ix (ix l j).Guards k).Want) ∨ K () = true)
  | 0, b, hm, h0 => by
    rw [ref32_Exclusive_L2]
    constructor
    · intro h; exact .inr h
    · rintro (⟨k, h1, h2, _⟩ | h)
      · omega
      · exact h
  | m + 1, b, hm, h0 => by
    rw [ref32_Exclusive_L2]
    split
    · rename_i e
      simp only [Bool.and_eq_true, decide_eq_true_eq, Bool.not_eq_true', decide_eq_false_iff_not] at e
      exact ⟨fun _ => .inl ⟨b, by omega, by omega, e.1, e.2⟩, fun _ => rfl⟩
    · rename_i e
      simp only [Bool.and_eq_true, decide_eq_true_eq, Bool.not_eq_true', decide_eq_false_iff_not] at e
      rw [rExcl_L2 l i j a K m (b + 1) (by omega) (by omega)]
      constructor
      · rintro (⟨k, h1, h2, h3⟩ | h)
        · exact .inl ⟨k, by omega, h2, h3⟩
        · exact .inr h
      · rintro (⟨k, h1, h2, h3⟩ | h)
        · have : k ≠ b := fun e2 => by subst e2; exact e h3
          exact .inl ⟨k, by omega, h2, h3⟩
        · exact .inr h
theorem rExcl_L1 (l : List api_Unit) (i j : Int) : ∀ (m : Nat) (a : Int), m = Int.toNat (((ix l i).Guards.length : Int) - a) → 0 ≤ a → (ref32_Exclusive_L1 l i j (fun _ => false) m a = true ↔ ∃ a' b : Int, (a ≤ a' ∧ a' < (ix l i).Guards.length) ∧ (0 ≤ b ∧ b < (ix l j).Guards.length) ∧ (ix (ix l i).Guards a').Unit = (ix (ix l j).Guards b).Unit ∧ (ix (ix l i).Guards a').Want ≠ (ix (ix l j).Guards b).Want)
  | 0, a, hm, h0 => by
    rw [ref32_Exclusive_L1]
    constructor
    · intro h; cases h
    · rintro ⟨a', b, h1, _⟩; omega
  | m + 1, a, hm, h0 => by
    rw [ref32_Exclusive_L1, rExcl_L2 l i j a _ _ 0 (by omega) (by omega), rExcl_L1 l i j m (a + 1) (by omega) (by omega)]
    constructor
    · rintro (⟨k, h1, h2, h3⟩ | ⟨a', b, h1, h2, h3⟩)
      · exact ⟨a, k, by omega, ⟨h1, h2⟩, h3⟩
      · exact ⟨a', b, by omega, h2, h3⟩
    · rintro ⟨a', b, h1, h2, h3⟩
      by_cases e : a' = a
      · subst e; exact .inl ⟨b, h2.1, h2.2, h3⟩
      · exact .inr ⟨a', b, by omega, h2, h3⟩
theorem rExclusive_iff (l : List api_Unit) (i j : Int) : ref32_Exclusive l i j = true ↔ Clash l i j := by
  unfold ref32_Exclusive Clash
  simp only [Bool.or_eq_true, decide_eq_true_eq]
  split
  · rename_i h
    constructor
    · intro h; cases h
    · rintro ⟨h1, _⟩; omega
  · rename_i h
    rw [rExcl_L1 l i j _ 0 (by omega) (by omega)]
    exact ⟨fun ⟨a, b, h1, h2, h3⟩ => ⟨by omega, a, b, h1, h2, h3⟩, fun ⟨_, a, b, h1, h2, h3⟩ => ⟨a, b, h1, h2, h3⟩⟩
theorem UnitsGuard_law (l : List api_Unit) (b : List Bool) (at_ : List Int) : law32_UnitsGuard l b at_ = true := by
  have e1 : units_Exclusive l (ix at_ 0) (ix at_ 1) = ref32_Exclusive l (ix at_ 0) (ix at_ 1) := by rw [Bool.eq_iff_iff, Exclusive_iff, rExclusive_iff]
  have e2 : units_Exclusive l (ix at_ 0) (ix at_ 1) = units_Exclusive l (ix at_ 1) (ix at_ 0) := by rw [Bool.eq_iff_iff, Exclusive_iff, Exclusive_iff]; exact ⟨Clash.symm, Clash.symm⟩
  unfold law32_UnitsGuard
  simp only [LET, Executes_eq]
  split
  · rfl
  · rw [← e1, ← e2]; simp [law32_awake]
theorem Exec_L1 (l : List api_Unit) (b : List Bool) (i : Int) : ∀ (m : Nat) (j : Int), m = Int.toNat (((ix l i).Guards.length : Int) - j) → units_Executes_L1 l b i (fun _ => true) m j = true → ∀ k, j ≤ k → k < (ix l i).Guards.length → ((decide (0 ≤ (ix (ix l i).Guards k).Unit) && decide ((ix (ix l i).Guards k).Unit < (b.length : Int))) && ix b (ix (ix l i).Guards k).Unit) = (ix (ix l i).Guards k).Want
  | 0, j, hm, h, k, h1, h2 => by omega
  | m + 1, j, hm, h, k, h1, h2 => by
    rw [units_Executes_L1] at h
    split at h
    · cases h
    · rename_i e
      by_cases e2 : k = j
      · subst e2; simpa using e
      · exact Exec_L1 l b i m (j + 1) (by omega) h k (by omega) h2
theorem UnitsExclude_law (l : List api_Unit) (b : List Bool) (at_ : List Int) : law32_UnitsExclude l b at_ = true := by
  unfold law32_UnitsExclude
  simp only [LET]
  split
  · rfl
  · cases h : (units_Exclusive l (ix at_ 0) (ix at_ 1) && units_Executes l b (ix at_ 0) && units_Executes l b (ix at_ 1)) with
    | false => simp [law32_awake]
    | true =>
      exfalso
      simp only [Bool.and_eq_true] at h
      obtain ⟨⟨h1, h2⟩, h3⟩ := h
      obtain ⟨hr, x, y, hx, hy, e1, e2⟩ := (Exclusive_iff _ _ _).1 h1
      unfold units_Executes at h2 h3
      simp only [Bool.or_eq_true, decide_eq_true_eq] at h2 h3
      rw [if_neg (by omega)] at h2 h3
      have g1 := Exec_L1 l b _ _ 0 (by omega) h2 x hx.1 hx.2
      have g2 := Exec_L1 l b _ _ 0 (by omega) h3 y hy.1 hy.2
      rw [e1, g2] at g1
      exact e2 g1.symm
end Go.Proofs.Ytkgnjpoafilicaa
