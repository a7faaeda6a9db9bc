/-
  Plain library.
-/
import Derived.Test.YtpdimhpjehfjeaaPbEq
/-
  Plain library, part 32: facts on lists told by numbers, for the plain programs.
-/
set_option linter.unusedVariables false
set_option linter.unusedSimpArgs false
namespace Go.Pb
open Go

/-- The values of a function at i, i + 1, .. -/
def tabI {α : Type} (i : Int) (m : Nat) (f : Int → α) : List α := match m with
  | 0 => []
  | m + 1 => f i :: tabI (i + 1) m f
section
variable {α β : Type} {i : Int} {m : Nat} {f g : Int → α}
theorem tabI_length : ∀ {m : Nat} {i : Int}, (tabI i m f).length = m
  | 0, _ => rfl
  | m + 1, i => by simp [tabI, tabI_length (m := m)]
theorem tabI_get [Inhabited α] : ∀ {m : Nat} {i j : Int}, 0 ≤ j → j < m → ix (tabI i m f) j = f (i + j)
  | 0, i, j, h0, h1 => by omega
  | m + 1, i, j, h0, h1 => by
    by_cases h : j = 0
    · subst h; simp [tabI, ix]
    · have := tabI_get (m := m) (i := i + 1) (j := j - 1) (by omega) (by omega)
      have e : j.toNat = (j - 1).toNat + 1 := by omega
      simp only [ix] at this ⊢
      rw [e]
      simp only [tabI, List.getD_cons_succ]
      rw [this]
      congr 1; omega
theorem tabI_congr : ∀ {m : Nat} {i : Int}, (∀ j, i ≤ j → j < i + m → f j = g j) → tabI i m f = tabI i m g
  | 0, _, _ => rfl
  | m + 1, i, h => by
    simp only [tabI]
    rw [h i (by omega) (by omega), tabI_congr (m := m) fun j h1 h2 => h j (by omega) (by omega)]
theorem tabI_map {h : α → β} : ∀ {m : Nat} {i : Int}, (tabI i m f).map h = tabI i m fun j => h (f j)
  | 0, _ => rfl
  | m + 1, i => by simp only [tabI, List.map_cons, tabI_map (m := m)]
theorem tabI_ix [Inhabited α] (l : List α) : l = tabI 0 l.length fun j => ix l j := by
  have key : ∀ (l : List α) (k : List α), tabI (k.length : Int) l.length (fun j => ix (k ++ l) j) = l := by
    intro l
    induction l with
    | nil => intro k; rfl
    | cons a l ih =>
      intro k
      simp only [List.length_cons, tabI]
      have h1 : ix (k ++ a :: l) (k.length : Int) = a := by simp [ix]
      have h2 := ih (k ++ [a])
      simp only [List.append_assoc, List.singleton_append, List.length_append, List.length_cons, List.length_nil] at h2
      rw [h1]
      congr 1
  exact (key l []).symm
theorem ext_ix [Inhabited α] {l k : List α} (hl : l.length = k.length) (h : ∀ i : Int, 0 ≤ i → i < l.length → ix l i = ix k i) : l = k := by
  rw [tabI_ix l, tabI_ix k, hl]
  exact tabI_congr fun j h0 h1 => h j h0 (by omega)
theorem ix_mem [Inhabited α] {l : List α} {i : Int} (h0 : 0 ≤ i) (h1 : i < l.length) : ix l i ∈ l := by
  rw [ix_lt h0 h1]; exact List.getElem_mem _
theorem mem_ix [Inhabited α] {l : List α} {a : α} (h : a ∈ l) : ∃ i : Int, 0 ≤ i ∧ i < l.length ∧ ix l i = a := by
  obtain ⟨i, hi, rfl⟩ := List.getElem_of_mem h
  exact ⟨i, by omega, by omega, ix_nat hi⟩
theorem ix_out [Inhabited α] {l : List α} {i : Int} (h : (l.length : Int) ≤ i) : ix l i = default := by
  simp only [ix, List.getD_eq_getElem?_getD]
  rw [List.getElem?_eq_none (by omega)]; rfl
end
theorem toNat_sub_succ {n i : Int} {m : Nat} (h : m + 1 = Int.toNat (n - i)) : i < n ∧ m = Int.toNat (n - (i + 1)) := by omega
theorem toNat_sub_zero {n i : Int} (h : 0 = Int.toNat (n - i)) : n ≤ i := by omega

/-! Loops that compare two lists -/
section
variable {α : Type} [Inhabited α] [DecidableEq α] {l k : List α} {f : Nat → Int → Bool}
theorem eqLoop (h0 : ∀ i, f 0 i = true) (hs : ∀ m i, f (m + 1) i = if (!decide (ix l i = ix k i)) = true then false else f m (i + 1)) : ∀ (m : Nat) (i : Int), m = Int.toNat ((l.length : Int) - i) → 0 ≤ i → (f m i = true ↔ ∀ j, i ≤ j → j < (l.length : Int) → ix l j = ix k j)
  | 0, i, hm, hi => by
    rw [h0]; simp only [true_iff]
    intro j h1 h2; omega
  | m + 1, i, hm, hi => by
    rw [hs]
    by_cases h : ix l i = ix k i
    · simp only [h, decide_true, Bool.not_true, Bool.false_eq_true, if_false]
      rw [eqLoop h0 hs m (i + 1) (by omega) (by omega)]
      constructor
      · intro hh j h1 h2
        by_cases e : j = i
        · subst e; exact h
        · exact hh j (by omega) h2
      · intro hh j h1 h2; exact hh j (by omega) h2
    · simp only [h, decide_false, Bool.not_false, if_true, Bool.false_eq_true, false_iff]
      intro hh; exact h (hh i (by omega) (by omega))
theorem eqLoop_eq (h0 : ∀ i, f 0 i = true) (hs : ∀ m i, f (m + 1) i = if (!decide (ix l i = ix k i)) = true then false else f m (i + 1)) (hl : l.length = k.length) : f (Int.toNat ((l.length : Int) - 0)) 0 = decide (l = k) := by
  rw [Bool.eq_iff_iff, decide_eq_true_eq, eqLoop h0 hs _ 0 rfl (by omega)]
  exact ⟨fun hh => ext_ix hl fun i h1 h2 => hh i h1 h2, fun hh j _ _ => by rw [hh]⟩
end
/-! Maps -/
theorem mget_mput {α : Type} (l : List (Int × α)) (k j : Int) (v : α) : mget (mput l k v) j = if k = j then some v else mget l j := by
  induction l with
  | nil => simp [mput, mget]
  | cons p l ih =>
    simp only [mput]
    by_cases h : p.1 = k
    · simp only [h, if_true, mget]
      split
      · rfl
      · rename_i h2; simp [h2]
    · simp only [h, if_false, mget, ih]
      by_cases h2 : p.1 = j
      · have : ¬k = j := by omega
        simp [h2, this]
      · simp [h2]
theorem mget_nil {α : Type} (k : Int) : mget ([] : List (Int × α)) k = none := rfl
end Go.Pb
