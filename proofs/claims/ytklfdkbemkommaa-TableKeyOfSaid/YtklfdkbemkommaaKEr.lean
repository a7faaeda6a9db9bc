/-
  The plain programs of the code and of the references give the same: what is asked of tables, entries.
-/
import Derived.Test.YtklfdkbemkommaaKEq
set_option linter.unusedVariables false
set_option linter.unusedSimpArgs false
namespace Go.Proofs.Ytklfdkbemkommaa
open Go Go.Pb

theorem Bits_L1_eq (w : List Int) (K : Int → Int) : ∀ (m : Nat) (a i : Int), table_Bits_L1 w K m a i = ref17_Bits_L1 w K m a i
  | 0, a, i => rfl
  | m + 1, a, i => by simp only [table_Bits_L1, ref17_Bits_L1, Bits_L1_eq w K m]
theorem Bits_eq (p : api_Program) (t : Int) : table_Bits p t = ref17_Bits p t := by
  simp only [table_Bits, ref17_Bits, LET, Widths_eq, Bits_L1_eq]
theorem Kind_3 (p : api_Program) (t : Int) : ∀ (m : Nat) (i : Int), m = Int.toNat (((ix p.Tables t).Keys.length : Int) - i) → 0 ≤ i → (∀ j, i ≤ j → j < (ix p.Tables t).Keys.length → (ix (ix p.Tables t).Keys j).Kind ≤ 3) → ref17_Kind_L1 p t (fun x => x) m 3 i = 3
  | 0, i, _, _, _ => rfl
  | m + 1, i, hm, h0, h => by
    simp only [ref17_Kind_L1]
    have := h i (by omega) (by omega)
    rw [show max 3 (ix (ix p.Tables t).Keys i).Kind = 3 by omega]
    exact Kind_3 p t m (i + 1) (by omega) (by omega) fun j h1 h2 => h j (by omega) h2
theorem Kind_L1_eq (p : api_Program) (t : Int) : ∀ (m : Nat) (k i : Int), m = Int.toNat (((ix p.Tables t).Keys.length : Int) - i) → 0 ≤ i → (k = 1 ∨ k = 2) → (∀ j, i ≤ j → j < (ix p.Tables t).Keys.length → (ix (ix p.Tables t).Keys j).Kind = 1 ∨ (ix (ix p.Tables t).Keys j).Kind = 2 ∨ (ix (ix p.Tables t).Keys j).Kind = 3) →
    table_Kind_L1 p t (fun x => x) m k i = ref17_Kind_L1 p t (fun x => x) m k i
  | 0, k, i, _, _, _, _ => rfl
  | m + 1, k, i, hm, h0, hk, h => by
    simp only [table_Kind_L1, ref17_Kind_L1]
    have hi := h i (by omega) (by omega)
    have h' : ∀ j, i + 1 ≤ j → j < (ix p.Tables t).Keys.length → _ := fun j h1 h2 => h j (by omega) h2
    rcases hi with e | e | e
    · rw [if_neg (by simp [e]), if_neg (by simp [e]), e, show max k 1 = k by omega]
      exact Kind_L1_eq p t m k (i + 1) (by omega) (by omega) hk h'
    · rw [if_neg (by simp [e]), if_pos (by simp [e]), e, show max k 2 = 2 by omega]
      exact Kind_L1_eq p t m 2 (i + 1) (by omega) (by omega) (.inr rfl) h'
    · rw [if_pos (by simp [e]), e, show max k 3 = 3 by omega]
      exact (Kind_3 p t m (i + 1) (by omega) (by omega) fun j h1 h2 => by have := h' j h1 h2; omega).symm
theorem valid_kinds {p : api_Program} {t : Int} (h : ref17_valid p t = true) : ∀ j : Int, 0 ≤ j → j < (ix p.Tables t).Keys.length → ((ix (ix p.Tables t).Keys j).Kind = 1 ∨ (ix (ix p.Tables t).Keys j).Kind = 2 ∨ (ix (ix p.Tables t).Keys j).Kind = 3) ∧ ref17_width p (ix (ix p.Tables t).Keys j).Field ≠ 0 := by
  have h : (ref17_Check p t).2 = 0 := by simpa [ref17_valid, LET] using h
  simp only [ref17_Check, LET] at h
  split at h
  · simp at h
  · split at h
    · simp at h
    · split at h
      · simp at h
      · split at h
        · simp at h
        · by_cases hk : (ref17_keys p (ix p.Tables t)).2 = 0
          · exact (keys_kinds _ 0 0 0 rfl (by omega) hk).1
          · rw [if_pos (by simpa using hk)] at h
            exact absurd h hk
theorem Kind_eq (p : api_Program) (t : Int) : table_Kind p t = ref17_Kind p t := by
  simp only [table_Kind, ref17_Kind, LET, tvalid_eq]
  cases hv : ref17_valid p t with
  | false => rfl
  | true =>
    simp only [Bool.not_true, Bool.false_eq_true, if_false]
    exact Kind_L1_eq p t _ 1 0 rfl (by omega) (.inl rfl) fun j h1 h2 => (valid_kinds hv j h1 h2).1
theorem Allows_L1_spec (p : api_Program) (t a : Int) : ∀ (m : Nat) (i : Int), m = Int.toNat (((ix p.Tables t).Actions.length : Int) - i) → 0 ≤ i → (table_Allows_L1 p t a (fun _ => false) m i = true ↔ ∃ j : Int, i ≤ j ∧ j < (ix p.Tables t).Actions.length ∧ ix (ix p.Tables t).Actions j = a)
  | 0, i, hm, h0 => by
    simp only [table_Allows_L1, Bool.false_eq_true, false_iff]
    rintro ⟨j, h1, h2, _⟩; omega
  | m + 1, i, hm, h0 => by
    have ih := Allows_L1_spec p t a m (i + 1) (by omega) (by omega)
    simp only [table_Allows_L1]
    by_cases h : ix (ix p.Tables t).Actions i = a
    · rw [if_pos (by simpa using h)]
      exact ⟨fun _ => ⟨i, by omega, by omega, h⟩, fun _ => rfl⟩
    · rw [if_neg (by simpa using h), ih]
      constructor
      · rintro ⟨j, h1, h2, h3⟩; exact ⟨j, by omega, h2, h3⟩
      · rintro ⟨j, h1, h2, h3⟩
        have : j ≠ i := fun e => h (by rw [← e]; exact h3)
        exact ⟨j, by omega, h2, h3⟩
theorem Allows_iff (p : api_Program) (t a : Int) : table_Allows p t a = true ↔ table_valid p t = true ∧ ∃ j : Int, 0 ≤ j ∧ j < (ix p.Tables t).Actions.length ∧ ix (ix p.Tables t).Actions j = a := by
  simp only [table_Allows, LET]
  cases hv : table_valid p t with
  | false => simp
  | true =>
    simp only [Bool.not_true, Bool.false_eq_true, if_false, true_and]
    exact Allows_L1_spec p t a _ 0 rfl (by omega)
theorem Allows_eq (p : api_Program) (t a : Int) : table_Allows p t a = ref17_Allows p t a := by
  rw [Bool.eq_iff_iff, Allows_iff]
  simp only [ref17_Allows, LET, Bool.and_eq_true, decide_eq_true_eq, tvalid_eq]
  have := index_neg (ix p.Tables t).Actions a
  constructor
  · rintro ⟨h1, h2⟩
    refine ⟨h1, ?_⟩
    by_cases h3 : ref17_index (ix p.Tables t).Actions a < 0
    · exact absurd h2 (this.1 h3)
    · exact Int.not_lt.1 h3
  · rintro ⟨h1, h2⟩
    refine ⟨h1, ?_⟩
    by_cases h3 : ∃ j : Int, 0 ≤ j ∧ j < (ix p.Tables t).Actions.length ∧ ix (ix p.Tables t).Actions j = a
    · exact h3
    · exact absurd (this.2 h3) (Int.not_lt.2 h2)

/-! Keys -/
theorem Get_eq (e : api_Env) (r : api_FieldRef) : env_Get e r = ref12_Get e r := by
  obtain ⟨H, F⟩ := r
  simp only [env_Get, ref12_Get, LET, env_element, ref12_element, env_in_uint32, api_FieldRef.mk.injEq, and_true, decide_eq_true_eq]
  by_cases h : H = -1
  · simp [h]
  · simp only [h, if_false, env_at__uint32_, env_at_bool, ref12_Has, decide_false, Bool.false_eq_true]
    by_cases h1 : H < 0
    · have h2 : ¬(0 ≤ H) := by omega
      simp [h1, h2]
    · have h2 : 0 ≤ H := by omega
      by_cases h3 : (e.Fields.length : Int) ≤ H
      · have h4 : ¬(H < e.Fields.length) := by omega
        simp [h1, h3, h4]
        omega
      · have h4 : H < e.Fields.length := by omega
        by_cases h5 : (e.Valid.length : Int) ≤ H
        · have h6 : ¬(H < e.Valid.length) := by omega
          simp [h1, h2, h3, h4, h5, h6]
        · have h6 : H < e.Valid.length := by omega
          simp [h1, h2, h3, h4, h5, h6]
          cases ix e.Valid H <;> simp
theorem Key_L1_eq (p : api_Program) (t : Int) (e : api_Env) (w : List Int) (K : List (BitVec 32) → List (BitVec 32)) : ∀ (m : Nat) (i : Int) (z : List (BitVec 32)), table_Key_L1 p t e w K m i z = ref17_Key_L1 p t e w K m i z
  | 0, i, z => rfl
  | m + 1, i, z => by simp only [table_Key_L1, ref17_Key_L1, LET, Get_eq, mask_eq, Key_L1_eq p t e w K m]
theorem Key_eq (p : api_Program) (t : Int) (e : api_Env) : table_Key p t e = ref17_Key p t e := by
  simp only [table_Key, ref17_Key, LET, Widths_eq, Key_L1_eq]

/-! Entries -/
theorem Matches_L1_eq (x : api_Entry) (k : List (BitVec 32)) (K : Unit → Bool) : ∀ (m : Nat) (i : Int), entry_Matches_L1 x k K m i = ref23_Matches_L1 x k K m i
  | 0, i => rfl
  | m + 1, i => by simp only [entry_Matches_L1, ref23_Matches_L1, Matches_L1_eq x k K m]
theorem Matches_eq (x : api_Entry) (k : List (BitVec 32)) : entry_Matches x k = ref23_Matches x k := by
  simp only [entry_Matches, ref23_Matches, Matches_L1_eq]
  by_cases h : k.length = x.Keys.length
  · simp [h]
  · have h1 : ¬((k.length : Int) = x.Keys.length) := by omega
    have h2 : ¬((x.Keys.length : Int) = k.length) := by omega
    simp [h1, h2]
theorem SameKey_L1_eq (a b : api_Entry) (K : Unit → Bool) : ∀ (m : Nat) (i : Int), entry_SameKey_L1 a b K m i = ref23_SameKey_L1 a b K m i
  | 0, i => rfl
  | m + 1, i => by simp only [entry_SameKey_L1, ref23_SameKey_L1, SameKey_L1_eq a b K m]
theorem SameKey_eq (a b : api_Entry) : entry_SameKey a b = ref23_SameKey a b := by
  simp only [entry_SameKey, ref23_SameKey, SameKey_L1_eq, Bool.or_comm]
theorem EqualArgs_L1 (a b : api_ActionCall) (K : Unit → Bool) : ∀ (m : Nat) (i : Int), entry_equal_uint32_L1 a.Args b.Args K m i = ref23_EqualCalls_L1 a b K m i
  | 0, i => rfl
  | m + 1, i => by simp only [entry_equal_uint32_L1, ref23_EqualCalls_L1, EqualArgs_L1 a b K m]
theorem Equal_eq (a b : api_Entry) : entry_Equal a b = ref23_Equal a b := by
  simp only [entry_Equal, ref23_Equal, LET, SameKey_eq, entry_equal_uint32, ref23_EqualCalls, EqualArgs_L1]
  cases ref23_SameKey a b <;> by_cases h : a.Call.Action = b.Call.Action <;> simp [h]
theorem OnesCount_L1_eq (x : BitVec 32) (K : Int → Int) : ∀ (m : Nat) (y : BitVec 32) (n i : Int), 0 ≤ i → y = x >>> i.toNat → bitvec_OnesCount_L1 x K m n i = ref01_OnesCount_L1 K m y n i
  | 0, y, n, i, _, _ => rfl
  | m + 1, y, n, i, h0, hy => by
    simp only [bitvec_OnesCount_L1, ref01_OnesCount_L1]
    have e1 : (x >>> i.toNat &&& 1#32).toNat = (y % 2#32).toNat := by
      rw [hy, BitVec.toNat_and, BitVec.toNat_umod]
      exact Nat.and_one_is_mod _
    have e2 : y / 2#32 = x >>> (i + 1).toNat := by
      apply BitVec.eq_of_toNat_eq
      rw [hy, BitVec.toNat_udiv, BitVec.toNat_ushiftRight, BitVec.toNat_ushiftRight, show (i + 1).toNat = i.toNat + 1 by omega, Nat.shiftRight_succ]
      rfl
    rw [e1, OnesCount_L1_eq x K m (y / 2#32) _ (i + 1) (by omega) e2]
theorem OnesCount_eq (x : BitVec 32) : bitvec_OnesCount x = ref01_OnesCount x := by
  simp only [bitvec_OnesCount, ref01_OnesCount]
  exact OnesCount_L1_eq x _ _ x 0 0 (by omega) (by simp)
theorem prefix_L1_eq (p : api_Program) (t : Int) (x : api_Entry) (K : Unit → Int) : ∀ (m : Nat) (i : Int), entry_prefix_L1 p t x K m i = ref23_prefixBits_L1 p t x K m i
  | 0, i => rfl
  | m + 1, i => by
    simp only [entry_prefix_L1, ref23_prefixBits_L1, LET, OnesCount_eq, prefix_L1_eq p t x K m]
    split
    · by_cases h : i < x.Keys.length
      · have h2 : ¬((x.Keys.length : Int) ≤ i) := by omega
        simp [h, h2]
      · have h2 : (x.Keys.length : Int) ≤ i := by omega
        simp [h, h2]
    · rfl
theorem prefix_eq (p : api_Program) (t : Int) (x : api_Entry) : entry_prefix p t x = ref23_prefixBits p t x := by
  simp only [entry_prefix, ref23_prefixBits, prefix_L1_eq]
theorem Precedes_eq (p : api_Program) (t : Int) (a b : api_Row) : entry_Precedes p t a b = ref23_Precedes p t a b := by
  simp only [entry_Precedes, ref23_Precedes, LET, prefix_eq]
theorem prefixMask_tab : ∀ w : Fin 33, ∀ n : Fin 33, 1 ≤ w.val → n.val ≤ w.val → bitvec_PrefixMask (n.val : Int) (w.val : Int) = ref01_PrefixMask (n.val : Int) (w.val : Int) := by decide +kernel
theorem PrefixLen_L1_eq (x : BitVec 32) (w : Int) (hw : 1 ≤ w ∧ w ≤ 32) (K : Unit → Int × Bool) : ∀ (m : Nat) (i : Int), m = Int.toNat (w + 1 - i) → 0 ≤ i → bitvec_PrefixLen_L1 x w K m i = ref01_PrefixLen_L1 x w K m i
  | 0, i, _, _ => rfl
  | m + 1, i, hm, h0 => by
    simp only [bitvec_PrefixLen_L1, ref01_PrefixLen_L1, LET]
    have h1 : i ≤ w := by omega
    have e : bitvec_PrefixMask i w = ref01_PrefixMask i w := by
      have := prefixMask_tab ⟨w.toNat, by omega⟩ ⟨i.toNat, by omega⟩ (by simp only; omega) (by simp only; omega)
      simp only at this
      rwa [show ((w.toNat : Nat) : Int) = w by omega, show ((i.toNat : Nat) : Int) = i by omega] at this
    rw [e, PrefixLen_L1_eq x w hw K m (i + 1) (by omega) (by omega)]
    simp [h1, (valid_iff w).2 hw]
theorem PrefixLen_eq (x : BitVec 32) (w : Int) : bitvec_PrefixLen x w = ref01_PrefixLen x w := by
  simp only [bitvec_PrefixLen, ref01_PrefixLen, LET, valid_eq]
  by_cases h : 1 ≤ w ∧ w ≤ 32
  · rw [(valid_iff w).2 h, wr_of (by omega) (by omega)]
    simp only [Bool.not_true, Bool.false_eq_true, if_false, Int.sub_zero]
    exact PrefixLen_L1_eq x w h _ _ 0 (by simp) (by omega)
  · have hv : ref01_valid w = false := by
      cases hv : ref01_valid w with
      | false => rfl
      | true => exact absurd ((valid_iff w).1 hv) h
    rw [hv]
    simp only [Bool.not_false, if_true]
    generalize Int.toNat (w + 1 - 0) = m
    cases m with
    | zero => rfl
    | succ m => simp [ref01_PrefixLen_L1, hv]
theorem andNot_zero (a b : BitVec 32) : decide (a &&& ~~~b = 0#32) = decide (a &&& b = a) := by
  rw [Bool.eq_iff_iff, decide_eq_true_eq, decide_eq_true_eq]
  constructor
  · intro h
    apply BitVec.eq_of_getLsbD_eq
    intro i hi
    have := congrArg (fun v => v.getLsbD i) h
    simp [hi] at this ⊢
    exact this
  · intro h
    apply BitVec.eq_of_getLsbD_eq
    intro i hi
    have := congrArg (fun v => v.getLsbD i) h
    simp [hi] at this ⊢
    exact this
theorem checkKey_eq (m : api_KeyMatch) (k w : Int) : entry_checkKey m k w = ref23_checkKey m w k := by
  simp only [entry_checkKey, ref23_checkKey, LET, fits_eq, mask_eq, andNot_zero, PrefixLen_eq]
  split
  · rfl
  · split
    · rfl
    · by_cases h1 : k = 1
      · by_cases h : m.Mask = ref01_Mask w <;> simp [h1, h]
      · by_cases h2 : k = 2
        · cases h : (ref01_PrefixLen m.Mask w).2 <;> simp [h2, h]
        · simp [h1, h2]
theorem eCheck_L1_eq (p : api_Program) (t : Int) (x : api_Entry) (w : List Int) (K : Unit → Int) : ∀ (m : Nat) (i : Int), entry_Check_L1 p t x w K m i = ref23_Check_L1 p t x w K m i
  | 0, i => rfl
  | m + 1, i => by simp only [entry_Check_L1, ref23_Check_L1, LET, checkKey_eq, eCheck_L1_eq p t x w K m]
theorem eCheck_eq (p : api_Program) (t : Int) (x : api_Entry) : entry_Check p t x = ref23_Check p t x := by
  simp only [entry_Check, ref23_Check, LET, Check_eq, Widths_eq, Kind_eq, Allows_eq, CheckCall_eq, eCheck_L1_eq]
  by_cases hc : (ref17_Check p t).2 = 0
  · have hv : ref17_valid p t = true := by simp [ref17_valid, LET, hc]
    have hl : (ref17_Widths p t).length = (ix p.Tables t).Keys.length := by rw [ref17_Widths_eq, if_pos hv, tabI_length]
    simp only [hc, hl, decide_true, Bool.not_true, Bool.false_eq_true, if_false]
    split
    · rfl
    · rename_i hlen
      simp only [Bool.not_eq_true', decide_eq_false_iff_not, Decidable.not_not] at hlen
      rw [hlen]
      congr 1
      funext u
      split
      · rfl
      · rename_i hp
        simp only [Bool.or_eq_true, decide_eq_true_eq, not_or] at hp
        have e : (!decide (x.Priority = 0)) = decide (0 < x.Priority) := by
          rw [Bool.eq_iff_iff]; simp; omega
        rw [e]
  · simp only [hc, decide_false, Bool.not_false, if_true]
end Go.Proofs.Ytklfdkbemkommaa
