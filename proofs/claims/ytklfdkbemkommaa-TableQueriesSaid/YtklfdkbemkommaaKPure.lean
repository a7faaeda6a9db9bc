/-
  What the plain programs of this seat give, as far as their own safety needs it.
-/
import Derived.Test.YtklfdkbemkommaaKDef
import Derived.Test.YtklfdkbemkommaaPbP
set_option linter.unusedVariables false
set_option linter.unusedSimpArgs false
namespace Go.Proofs.Ytklfdkbemkommaa
open Go Go.Pb Go.RowKit

theorem bitvec_valid_one (w : Int) : bitvec_valid [w] = decide (1 ≤ w ∧ w ≤ 32) := by
  have h : ix [w] 0 = w := rfl
  unfold bitvec_valid
  rw [show Int.toNat ((([w] : List Int).length : Int) - 0) = 0 + 1 from rfl, bitvec_valid_L1, h, bitvec_valid_L1]
  by_cases h1 : w < 1
  · have : ¬(1 ≤ w ∧ w ≤ 32) := by omega
    simp [h1, this]
  · by_cases h2 : 32 < w
    · have : ¬(1 ≤ w ∧ w ≤ 32) := by omega
      simp [h2, this]
    · have : (1 ≤ w ∧ w ≤ 32) := by omega
      simp [h1, h2, this]
theorem mask_sh {w : Int} {b : Bool} (h : bitvec_valid [w] = b) (h2 : b = true) : 0 ≤ wr (32 - w) := by
  rw [bitvec_valid_one, h2] at h
  have h := of_decide_eq_true h
  rw [wr_of (by omega) (by omega)]; omega

theorem tab_ok {p : api_Program} {t : Int} (h : (table_Check p t).2 = 0) : (0 ≤ t ∧ t < p.Tables.length) ∧ (ix p.Tables t).Keys.length ≤ 6 ∧ (ix p.Tables t).Actions.length ≤ 16 := by
  simp only [table_Check, LET] at h
  by_cases h1 : (decide (t < 0) || decide ((p.Tables.length : Int) ≤ t)) = true
  · rw [if_pos h1] at h; simp at h
  · rw [if_neg h1] at h
    split at h
    · simp at h
    · split at h
      · simp at h
      · rename_i h2
        simp only [Bool.or_eq_true, decide_eq_true_eq, not_or] at h1 h2
        omega
theorem tv {p : api_Program} {t : Int} {b : Bool} (h : table_valid p t = b) (hb : b = true) : (0 ≤ t ∧ t < p.Tables.length) ∧ (ix p.Tables t).Keys.length ≤ 6 ∧ (ix p.Tables t).Actions.length ≤ 16 := by
  subst hb
  exact tab_ok (by simpa [table_valid, LET] using h)

theorem el_ok {e : api_Env} {r : api_FieldRef} {y : List (BitVec 32) × Bool} (h : env_element e r = y) (hb : y.2 = true) : 0 ≤ r.Field ∧ r.Field < y.1.length := by
  subst h
  simp only [env_element, LET, env_in_uint32] at hb ⊢
  split
  · rename_i h; rw [if_pos h] at hb; simpa using hb
  · rename_i h; rw [if_neg h] at hb; simp only [Bool.and_eq_true, decide_eq_true_eq] at hb; exact hb.2
theorem table_Widths_L1_eq (p : api_Program) (t : Int) (K : List Int → List Int) : ∀ (m : Nat) (i : Int) (acc : List Int), table_Widths_L1 p t K m i acc = K (acc ++ tabI i m fun j => env_Width p (ix (ix p.Tables t).Keys j).Field)
  | 0, i, acc => by simp [table_Widths_L1, tabI]
  | m + 1, i, acc => by simp [table_Widths_L1, LET, table_Widths_L1_eq p t K m, tabI]
theorem table_Widths_eq (p : api_Program) (t : Int) : table_Widths p t = if table_valid p t = true then tabI 0 (ix p.Tables t).Keys.length fun j => env_Width p (ix (ix p.Tables t).Keys j).Field else [] := by
  simp only [table_Widths, LET, table_Widths_L1_eq, List.nil_append]
  cases table_valid p t <;> simp
theorem wd {p : api_Program} {t i : Int} {w : List Int} (h : table_Widths p t = w) (h0 : 0 ≤ i) (h1 : i < w.length) : (0 ≤ t ∧ t < p.Tables.length) ∧ i < (ix p.Tables t).Keys.length ∧ w.length ≤ 6 := by
  subst h
  rw [table_Widths_eq] at h1 ⊢
  split at h1
  · rename_i h
    have := tv h rfl
    rw [if_pos h]
    rw [tabI_length] at h1 ⊢
    omega
  · simp at h1; omega

theorem rv {w : Int} {b : Bool} (h : ref01_valid w = b) (hb : b = true) : 1 ≤ w ∧ w ≤ 32 := by
  subst hb
  simpa [ref01_valid] using h

theorem rtab_ok {p : api_Program} {t : Int} (h : (ref17_Check p t).2 = 0) : (0 ≤ t ∧ t < p.Tables.length) ∧ (ix p.Tables t).Keys.length ≤ 6 ∧ (ix p.Tables t).Actions.length ≤ 16 := by
  simp only [ref17_Check, LET] at h
  by_cases h1 : (decide (t < 0) || decide ((p.Tables.length : Int) ≤ t)) = true
  · rw [if_pos h1] at h; simp at h
  · rw [if_neg h1] at h
    split at h
    · simp at h
    · split at h
      · simp at h
      · rename_i h2
        simp only [Bool.or_eq_true, decide_eq_true_eq, not_or] at h1 h2
        omega
theorem rtv {p : api_Program} {t : Int} {b : Bool} (h : ref17_valid p t = b) (hb : b = true) : (0 ≤ t ∧ t < p.Tables.length) ∧ (ix p.Tables t).Keys.length ≤ 6 ∧ (ix p.Tables t).Actions.length ≤ 16 := by
  subst hb
  exact rtab_ok (by simpa [ref17_valid, LET] using h)
theorem ref17_Widths_L1_eq (p : api_Program) (t : Int) (K : List Int → List Int) : ∀ (m : Nat) (i : Int) (acc : List Int), ref17_Widths_L1 p t K m i acc = K (acc ++ tabI i m fun j => ref17_width p (ix (ix p.Tables t).Keys j).Field)
  | 0, i, acc => by simp [ref17_Widths_L1, tabI]
  | m + 1, i, acc => by simp [ref17_Widths_L1, LET, ref17_Widths_L1_eq p t K m, tabI]
theorem ref17_Widths_eq (p : api_Program) (t : Int) : ref17_Widths p t = if ref17_valid p t = true then tabI 0 (ix p.Tables t).Keys.length fun j => ref17_width p (ix (ix p.Tables t).Keys j).Field else [] := by
  simp only [ref17_Widths, LET, ref17_Widths_L1_eq, List.nil_append]
  cases ref17_valid p t <;> simp
theorem rwd {p : api_Program} {t i : Int} {w : List Int} (h : ref17_Widths p t = w) (h0 : 0 ≤ i) (h1 : i < w.length) : (0 ≤ t ∧ t < p.Tables.length) ∧ i < (ix p.Tables t).Keys.length ∧ w.length ≤ 6 := by
  subst h
  rw [ref17_Widths_eq] at h1 ⊢
  split at h1
  · rename_i h
    have := rtv h rfl
    rw [if_pos h]
    rw [tabI_length] at h1 ⊢
    omega
  · simp at h1; omega

theorem eck {p : api_Program} {t : Int} {y : Int × Int} {w : List Int} (h : table_Check p t = y) (h2 : y.2 = 0) (h3 : table_Widths p t = w) : (0 ≤ t ∧ t < p.Tables.length) ∧ w.length = (ix p.Tables t).Keys.length ∧ w.length ≤ 6 := by
  subst h h3
  have hv : table_valid p t = true := by simp [table_valid, LET, h2]
  have := tv hv rfl
  rw [table_Widths_eq, if_pos hv, tabI_length]
  omega
theorem reck {p : api_Program} {t : Int} {y : Int × Int} {w : List Int} (h : ref17_Check p t = y) (h2 : y.2 = 0) (h3 : ref17_Widths p t = w) : (0 ≤ t ∧ t < p.Tables.length) ∧ w.length = (ix p.Tables t).Keys.length ∧ w.length ≤ 6 := by
  subst h h3
  have hv : ref17_valid p t = true := by simp [ref17_valid, LET, h2]
  have := rtv hv rfl
  rw [ref17_Widths_eq, if_pos hv, tabI_length]
  omega

theorem rel_ok {e : api_Env} {r : api_FieldRef} {b : Bool} (h : ref12_element e r = b) (hb : b = true) : (r.Header = -1 → 0 ≤ r.Field ∧ r.Field < e.Metd.length) ∧ (r.Header ≠ -1 → (0 ≤ r.Header ∧ r.Header < e.Fields.length) ∧ 0 ≤ r.Field ∧ r.Field < (ix e.Fields r.Header).length) := by
  subst hb
  by_cases h1 : r.Header = -1
  · simp [ref12_element, h1] at h
    exact ⟨fun _ => h, fun h2 => absurd h1 h2⟩
  · simp [ref12_element, h1] at h
    exact ⟨fun h2 => absurd h2 h1, fun _ => by omega⟩

theorem law17_Small_L4_spec {p : api_Program} {K : Unit → Bool} : ∀ (m : Nat) (i : Int), m = Int.toNat ((p.Tables.length : Int) - i) → law17_Small_L4 p K m i = true → (∀ j, i ≤ j → j < p.Tables.length → (ix p.Tables j).Name.length ≤ 40 ∧ (ix p.Tables j).Keys.length ≤ 10 ∧ (ix p.Tables j).Actions.length ≤ 24 ∧ (ix p.Tables j).Default.Args.length ≤ 10) ∧ K () = true
  | 0, i, hm, h => ⟨fun j h0 h1 => by omega, by simpa [law17_Small_L4] using h⟩
  | m + 1, i, hm, h => by
    rw [law17_Small_L4] at h
    split at h
    · cases h
    · rename_i hc
      simp only [Bool.or_eq_true, decide_eq_true_eq, not_or] at hc
      obtain ⟨h1, h2⟩ := law17_Small_L4_spec m (i + 1) (by omega) h
      refine ⟨fun j h3 h4 => ?_, h2⟩
      by_cases e : j = i
      · subst e; omega
      · exact h1 j (by omega) h4
theorem sml {p : api_Program} {b : Bool} (h : law17_Small p = b) (hb : b = true) : p.Headers.length ≤ 12 ∧ p.Registers.length ≤ 8 ∧ p.Actions.length ≤ 20 ∧ p.Tables.length ≤ 16 ∧ p.States.length ≤ 16 ∧ p.Deparser.length ≤ 16 := by
  subst hb
  unfold law17_Small at h
  split at h
  · cases h
  · rename_i hc
    simp only [Bool.or_eq_true, decide_eq_true_eq, not_or] at hc
    omega

theorem mv {w : Int} {b : Bool} (h : bitvec_valid [w] = b) (h2 : b = true) : 1 ≤ w ∧ w ≤ 32 := by
  rw [bitvec_valid_one, h2] at h
  exact of_decide_eq_true h
theorem tck {p : api_Program} {t : Int} {y : Int × Int} (h : table_Check p t = y) (h2 : y.2 = 0) : (0 ≤ t ∧ t < p.Tables.length) ∧ (ix p.Tables t).Keys.length ≤ 6 ∧ (ix p.Tables t).Actions.length ≤ 16 := by
  subst h; exact tab_ok h2
theorem rtck {p : api_Program} {t : Int} {y : Int × Int} (h : ref17_Check p t = y) (h2 : y.2 = 0) : (0 ≤ t ∧ t < p.Tables.length) ∧ (ix p.Tables t).Keys.length ≤ 6 ∧ (ix p.Tables t).Actions.length ≤ 16 := by
  subst h; exact rtab_ok h2

theorem em_len {a : api_Entry} {k : List (BitVec 32)} {b : Bool} (h : entry_Matches a k = b) (hb : b = true) : k.length = a.Keys.length := by
  subst hb
  unfold entry_Matches at h
  split at h
  · cases h
  · rename_i hc
    simp only [Bool.not_eq_true', decide_eq_false_iff_not, Decidable.not_not] at hc
    omega
end Go.Proofs.Ytklfdkbemkommaa
