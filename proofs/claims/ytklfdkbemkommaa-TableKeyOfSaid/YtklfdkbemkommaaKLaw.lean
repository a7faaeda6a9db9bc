/-
  The laws of the plain programs.
-/
import Derived.Test.YtklfdkbemkommaaKEr
set_option linter.unusedVariables false
set_option linter.unusedSimpArgs false
namespace Go.Proofs.Ytklfdkbemkommaa
open Go Go.Pb

theorem TableChecks_law (p : api_Program) (t : Int) : law17_TableChecks p t = true := by
  simp [law17_TableChecks, LET, works17, Check_eq]
theorem TableQueries_law (p : api_Program) (t a : Int) : law17_TableQueries p t a = true := by
  simp [law17_TableQueries, LET, works17, Kind_eq, Widths_eq, Bits_eq, Allows_eq, EqualInts_eq]
theorem TableKeys_law (p : api_Program) (t : Int) (e : api_Env) : law17_TableKeys p t e = true := by
  simp [law17_TableKeys, LET, works17, Key_eq, EqualUint32s_eq]
theorem EntryChecks_law (p : api_Program) (t : Int) (x : api_Entry) : law23_EntryChecks p t x = true := by
  simp [law23_EntryChecks, LET, works23, eCheck_eq]
theorem EntryMatches_law (x : api_Entry) (k : List (BitVec 32)) : law23_EntryMatches x k = true := by
  simp [law23_EntryMatches, LET, works23, Matches_eq]
theorem EntryPrecedes_law (p : api_Program) (t : Int) (l : List api_Row) : law23_EntryPrecedes p t l = true := by
  simp [law23_EntryPrecedes, LET, works23, Precedes_eq]

theorem SameKey_spec (a b : api_Entry) : entry_SameKey a b = decide (a.Priority = b.Priority ∧ a.Keys = b.Keys) := by
  unfold entry_SameKey
  by_cases h1 : a.Priority = b.Priority
  · by_cases h2 : a.Keys.length = b.Keys.length
    · have h := eqLoop_eq (l := a.Keys) (k := b.Keys) (f := entry_SameKey_L1 a b fun _ => true) (fun _ => rfl) (fun _ _ => rfl) h2
      simp only [h1, h2, decide_true, Bool.not_true, Bool.or_self, Bool.false_eq_true, if_false, true_and]
      rw [← h2, h]
    · have h3 : ¬((a.Keys.length : Int) = b.Keys.length) := by omega
      have h4 : ¬a.Keys = b.Keys := fun e => h2 (by rw [e])
      simp [h1, h3, h4]
  · simp [h1]
theorem equalArgs_spec (a b : List (BitVec 32)) : entry_equal_uint32 a b = decide (a = b) := by
  unfold entry_equal_uint32
  by_cases h2 : a.length = b.length
  · have h := eqLoop_eq (l := a) (k := b) (f := entry_equal_uint32_L1 a b fun _ => true) (fun _ => rfl) (fun _ _ => rfl) h2
    simp only [h2, decide_true, Bool.not_true, Bool.false_eq_true, if_false]
    rw [← h2, h]
  · have h3 : ¬((a.length : Int) = b.length) := by omega
    have h4 : ¬a = b := fun e => h2 (by rw [e])
    simp [h3, h4]
theorem Equal_spec (a b : api_Entry) : entry_Equal a b = decide ((a.Priority = b.Priority ∧ a.Keys = b.Keys) ∧ a.Call.Action = b.Call.Action ∧ a.Call.Args = b.Call.Args) := by
  simp only [entry_Equal, LET, SameKey_spec, equalArgs_spec]
  rw [Bool.eq_iff_iff]
  simp only [Bool.and_eq_true, decide_eq_true_eq]
  exact ⟨fun ⟨⟨h1, h2⟩, h3⟩ => ⟨h1, h2, h3⟩, fun ⟨h1, h2, h3⟩ => ⟨⟨h1, h2⟩, h3⟩⟩
theorem EntryCompares_law (a b : api_Entry) : law23_EntryCompares a b = true := by
  have s1 : entry_SameKey b a = entry_SameKey a b := by rw [SameKey_spec, SameKey_spec]; simp [eq_comm]
  have s2 : entry_Equal b a = entry_Equal a b := by rw [Equal_spec, Equal_spec]; simp [eq_comm]
  have r1 : entry_SameKey a a = true := by rw [SameKey_spec]; simp
  have r2 : entry_Equal a a = true := by rw [Equal_spec]; simp
  simp [law23_EntryCompares, LET, works23, ← SameKey_eq, ← Equal_eq, s1, s2, r1, r2]

/-! The order of rows -/
def Bef (p : api_Program) (t : Int) (a b : api_Row) : Prop := b.Entry.Priority < a.Entry.Priority ∨ (a.Entry.Priority = b.Entry.Priority ∧ (entry_prefix p t b.Entry < entry_prefix p t a.Entry ∨ (entry_prefix p t a.Entry = entry_prefix p t b.Entry ∧ a.ID < b.ID)))
theorem Precedes_iff (p : api_Program) (t : Int) (a b : api_Row) : entry_Precedes p t a b = true ↔ Bef p t a b := by
  simp only [entry_Precedes, LET, Bef]
  by_cases h1 : a.Entry.Priority = b.Entry.Priority
  · by_cases h2 : entry_prefix p t a.Entry = entry_prefix p t b.Entry
    · simp [h1, h2]
    · simp [h1, h2]
  · simp [h1]
theorem EntryOrder_L2 (p : api_Program) (t : Int) (l : List api_Row) (K : Unit → Bool) : ∀ (m : Nat) (i : Int), law23_EntryOrder_L2 p t l K m i = K ()
  | 0, i => rfl
  | m + 1, i => by
    simp only [law23_EntryOrder_L2, LET]
    generalize ix l i = a
    generalize ix l (Int.tmod (wr (i + 1)) 3) = b
    generalize ix l (Int.tmod (wr (i + 2)) 3) = c
    have h1 : entry_Precedes p t a a = false := by
      cases h : entry_Precedes p t a a with
      | false => rfl
      | true => have := (Precedes_iff p t a a).1 h; unfold Bef at this; omega
    have h2 : a.ID ≠ b.ID → entry_Precedes p t a b ≠ entry_Precedes p t b a := by
      intro hne he
      cases h : entry_Precedes p t a b with
      | true =>
        have h3 := (Precedes_iff p t a b).1 h
        have h4 := (Precedes_iff p t b a).1 (by rw [← he, h])
        unfold Bef at h3 h4; omega
      | false =>
        have h3 : ¬Bef p t a b := fun hh => by rw [(Precedes_iff p t a b).2 hh] at h; cases h
        have h4 : ¬Bef p t b a := fun hh => by rw [he, (Precedes_iff p t b a).2 hh] at h; cases h
        unfold Bef at h3 h4; omega
    have h3 : entry_Precedes p t a b = true → entry_Precedes p t b c = true → entry_Precedes p t a c = true := by
      intro h3 h4
      have h3 := (Precedes_iff p t a b).1 h3
      have h4 := (Precedes_iff p t b c).1 h4
      refine (Precedes_iff p t a c).2 ?_
      unfold Bef at *; omega
    rw [h1]
    simp only [Bool.false_eq_true, if_false]
    rw [if_neg, if_neg, EntryOrder_L2 p t l K m]
    · intro h
      simp only [Bool.and_eq_true, Bool.not_eq_true'] at h
      obtain ⟨⟨h4, h5⟩, h6⟩ := h
      rw [h3 h4 h5] at h6; cases h6
    · intro h
      simp only [Bool.and_eq_true, Bool.not_eq_true', decide_eq_true_eq, decide_eq_false_iff_not] at h
      exact h2 h.1 h.2
theorem EntryOrder_L1 (l : List api_Row) (K : Unit → Bool) (hK : K () = true) : ∀ (m : Nat) (i : Int), law23_EntryOrder_L1 l K m i = true
  | 0, i => hK
  | m + 1, i => by
    simp only [law23_EntryOrder_L1, LET, EntryOrder_L1 l K hK m, works23]
    simp
theorem EntryOrder_law (p : api_Program) (t : Int) (l : List api_Row) : law23_EntryOrder p t l = true := by
  simp only [law23_EntryOrder, LET, works23]
  split
  · rfl
  · exact EntryOrder_L1 l _ (by rw [EntryOrder_L2]) _ _
end Go.Proofs.Ytklfdkbemkommaa
