/-
  The plain programs of the code and of the references give the same: identifiers, widths, calls, tables.
-/
import Derived.Test.YtklfdkbemkommaaKPure
import Derived.KernelRfl
set_option linter.unusedVariables false
set_option linter.unusedSimpArgs false
namespace Go.Proofs.Ytklfdkbemkommaa
open Go Go.Pb

theorem works17 : law17_works = true := by kernel_rfl
theorem works23 : law23_works = true := by kernel_rfl

/-! Lists of numbers -/
theorem EqualInts_L1_spec {a b : List Int} : ∀ (m : Nat) (i : Int), m = Int.toNat ((a.length : Int) - i) → 0 ≤ i → (ref02_EqualInts_L1 a b (fun _ => true) m i = true ↔ ∀ j, i ≤ j → j < a.length → ix a j = ix b j)
  | 0, i, hm, h0 => by
    simp only [ref02_EqualInts_L1, true_iff]
    intro j h1 h2; omega
  | m + 1, i, hm, h0 => by
    simp only [ref02_EqualInts_L1]
    by_cases h : ix a i = ix b i
    · simp only [h, decide_true, Bool.not_true, Bool.false_eq_true, if_false]
      rw [EqualInts_L1_spec m (i + 1) (by omega) (by omega)]
      constructor
      · intro hh j h1 h2
        by_cases e : j = i
        · subst e; exact h
        · exact hh j (by omega) h2
      · intro hh j h1 h2; exact hh j (by omega) h2
    · simp only [h, decide_false, Bool.not_false, if_true, Bool.false_eq_true, false_iff]
      intro hh; exact h (hh i (by omega) (by omega))
theorem EqualInts_eq (a b : List Int) : ref02_EqualInts a b = decide (a = b) := by
  rw [Bool.eq_iff_iff, decide_eq_true_eq]
  unfold ref02_EqualInts
  by_cases h : a.length = b.length
  · simp only [h, decide_true, Bool.not_true, Bool.false_eq_true, if_false]
    rw [← h, EqualInts_L1_spec _ 0 rfl (by omega)]
    exact ⟨fun hh => ext_ix h fun i h0 h1 => hh i h0 h1, fun hh j _ _ => by rw [hh]⟩
  · have : ¬((a.length : Int) = b.length) := by omega
    simp only [this, decide_false, Bool.not_false, if_true, Bool.false_eq_true, false_iff]
    intro hh; exact h (by rw [hh])
theorem EqualUint32s_L1_spec {a b : List (BitVec 32)} : ∀ (m : Nat) (i : Int), m = Int.toNat ((a.length : Int) - i) → 0 ≤ i → (ref02_EqualUint32s_L1 a b (fun _ => true) m i = true ↔ ∀ j, i ≤ j → j < a.length → ix a j = ix b j)
  | 0, i, hm, h0 => by
    simp only [ref02_EqualUint32s_L1, true_iff]
    intro j h1 h2; omega
  | m + 1, i, hm, h0 => by
    simp only [ref02_EqualUint32s_L1]
    by_cases h : ix a i = ix b i
    · simp only [h, decide_true, Bool.not_true, Bool.false_eq_true, if_false]
      rw [EqualUint32s_L1_spec m (i + 1) (by omega) (by omega)]
      constructor
      · intro hh j h1 h2
        by_cases e : j = i
        · subst e; exact h
        · exact hh j (by omega) h2
      · intro hh j h1 h2; exact hh j (by omega) h2
    · simp only [h, decide_false, Bool.not_false, if_true, Bool.false_eq_true, false_iff]
      intro hh; exact h (hh i (by omega) (by omega))
theorem EqualUint32s_eq (a b : List (BitVec 32)) : ref02_EqualUint32s a b = decide (a = b) := by
  rw [Bool.eq_iff_iff, decide_eq_true_eq]
  unfold ref02_EqualUint32s
  by_cases h : a.length = b.length
  · simp only [h, decide_true, Bool.not_true, Bool.false_eq_true, if_false]
    rw [← h, EqualUint32s_L1_spec _ 0 rfl (by omega)]
    exact ⟨fun hh => ext_ix h fun i h0 h1 => hh i h0 h1, fun hh j _ _ => by rw [hh]⟩
  · have : ¬((a.length : Int) = b.length) := by omega
    simp only [this, decide_false, Bool.not_false, if_true, Bool.false_eq_true, false_iff]
    intro hh; exact h (by rw [hh])

/-! Numbers of bits -/
theorem valid_eq (w : Int) : bitvec_valid [w] = ref01_valid w := by
  rw [bitvec_valid_one]; simp [ref01_valid]
theorem valid_iff (w : Int) : ref01_valid w = true ↔ 1 ≤ w ∧ w ≤ 32 := by simp [ref01_valid]
theorem mask_tab : ∀ n : Fin 33, 1 ≤ n.val → bitvec_Mask (n.val : Int) = BitVec.ofNat 32 (2 ^ n.val - 1) ∧ ref01_Mask (n.val : Int) = BitVec.ofNat 32 (2 ^ n.val - 1) := by decide +kernel
theorem power_tab : ∀ n : Fin 64, ref01_power (n.val : Int) = BitVec.ofNat 64 (2 ^ n.val) := by decide +kernel
theorem mask_in {w : Int} (h : 1 ≤ w ∧ w ≤ 32) : bitvec_Mask w = BitVec.ofNat 32 (2 ^ w.toNat - 1) ∧ ref01_Mask w = BitVec.ofNat 32 (2 ^ w.toNat - 1) := by
  have := mask_tab ⟨w.toNat, by omega⟩ (by simp only; omega)
  simp only at this
  rwa [show ((w.toNat : Nat) : Int) = w by omega] at this
theorem power_in {w : Int} (h : 0 ≤ w ∧ w < 64) : ref01_power w = BitVec.ofNat 64 (2 ^ w.toNat) := by
  have := power_tab ⟨w.toNat, by omega⟩
  simp only at this
  rwa [show ((w.toNat : Nat) : Int) = w by omega] at this
theorem mask_out {w : Int} (h : ¬(1 ≤ w ∧ w ≤ 32)) : bitvec_Mask w = 0#32 ∧ ref01_Mask w = 0#32 := by
  have h1 : bitvec_valid [w] = false := by rw [bitvec_valid_one]; simpa using h
  have h2 : ref01_valid w = false := by rw [← valid_eq, h1]
  simp [bitvec_Mask, ref01_Mask, LET, h1, h2]
theorem mask_eq (w : Int) : bitvec_Mask w = ref01_Mask w := by
  by_cases h : 1 ≤ w ∧ w ≤ 32
  · rw [(mask_in h).1, (mask_in h).2]
  · rw [(mask_out h).1, (mask_out h).2]
theorem pow32 {n : Nat} (h : n ≤ 32) : 2 ^ n ≤ 4294967296 := Nat.pow_le_pow_right (n := 2) (by omega) h
theorem mask_toNat {w : Int} (h : 1 ≤ w ∧ w ≤ 32) : (bitvec_Mask w).toNat = 2 ^ w.toNat - 1 := by
  have h1 := pow32 (n := w.toNat) (by omega)
  have h2 : 0 < 2 ^ w.toNat := Nat.pow_pos (by omega)
  rw [(mask_in h).1, BitVec.toNat_ofNat, Nat.mod_eq_of_lt (by omega)]
theorem mask_zero (w : Int) : bitvec_Mask w = 0#32 ↔ ¬(1 ≤ w ∧ w ≤ 32) := by
  constructor
  · intro h hw
    have h1 := mask_toNat hw
    have h2 : 2 ^ 1 ≤ 2 ^ w.toNat := Nat.pow_le_pow_right (by omega) (by omega)
    rw [h] at h1
    simp at h1
    omega
  · exact fun h => (mask_out h).1
theorem fits_eq (v : BitVec 32) (w : Int) : bitvec_Fits v w = ref01_Fits v w := by
  simp only [bitvec_Fits, ref01_Fits, LET, valid_eq]
  by_cases h : 1 ≤ w ∧ w ≤ 32
  · rw [(valid_iff w).2 h, Bool.true_and, Bool.true_and, Bool.eq_iff_iff, decide_eq_true_eq, decide_eq_true_eq, BitVec.le_def, BitVec.lt_def, mask_toNat h, power_in ⟨by omega, by omega⟩]
    have h1 := pow32 (n := w.toNat) (by omega)
    have h2 : 0 < 2 ^ w.toNat := Nat.pow_pos (by omega)
    have h3 := v.isLt
    rw [BitVec.toNat_setWidth, BitVec.toNat_ofNat, Nat.mod_eq_of_lt (by omega), Nat.mod_eq_of_lt (by omega)]
    omega
  · have : ref01_valid w = false := by
      cases hv : ref01_valid w with
      | false => rfl
      | true => exact absurd ((valid_iff w).1 hv) h
    rw [this]; rfl

/-! Identifiers -/
theorem ident_L1 (s : List UInt8) : ∀ (m : Nat) (i : Int), m = Int.toNat ((s.length : Int) - i) → 0 ≤ i → i ≤ s.length → decide (lexer_extent_L1 s lexer_IsIdentifier_1 (fun x => x) m i = (s.length : Int)) = ref05_IsIdentifier_L1 s (fun _ => true) m i
  | 0, i, hm, h0, h1 => by
    show decide (i = (s.length : Int)) = true
    simp; omega
  | m + 1, i, hm, h0, h1 => by
    simp only [lexer_extent_L1, ref05_IsIdentifier_L1, LET]
    have hlt : i < s.length := by omega
    have e1 : ref05_letter = lexer_isLetter := rfl
    have e2 : ref05_digit = lexer_isDigit := rfl
    simp only [hlt, decide_true, Bool.true_and, lexer_IsIdentifier_1, LET, e1, e2]
    have ih := ident_L1 s m (i + 1) (by omega) (by omega) (by omega)
    cases lexer_isLetter (ix s i) <;> cases lexer_isDigit (ix s i) <;> by_cases h : ix s i = 95 <;> simp [h, ih] <;> omega
theorem ident_eq (s : List UInt8) : lexer_IsIdentifier s = ref05_IsIdentifier s := by
  have e1 : ref05_letter = lexer_isLetter := rfl
  have h0 : decide ((s.length : Int) = 0) = decide (s = []) := by
    rw [Bool.eq_iff_iff, decide_eq_true_eq, decide_eq_true_eq]; simp
  simp only [lexer_IsIdentifier, ref05_IsIdentifier, LET, e1, h0, lexer_extent]
  split
  · rfl
  · exact ident_L1 s _ 0 rfl (by omega) (by omega)

/-! Widths -/
theorem width_eq (p : api_Program) (r : api_FieldRef) : env_Width p r = ref17_width p r := by
  have key : ∀ (l : List api_Field), (if bitvec_Mask (env_at_api_Field l r.Field).Width = 0#32 then 0 else (env_at_api_Field l r.Field).Width) =
      if ((r.Field < 0 ∨ (l.length : Int) ≤ r.Field) ∨ (ix l r.Field).Width < 1) ∨ 32 < (ix l r.Field).Width then 0 else (ix l r.Field).Width := by
    intro l
    simp only [env_at_api_Field, mask_zero]
    by_cases h : r.Field < 0 ∨ (l.length : Int) ≤ r.Field
    · simp [h]
    · have h' : (decide (r.Field < 0) || decide ((l.length : Int) ≤ r.Field)) = false := by simpa using h
      rw [h']
      simp only [Bool.false_eq_true, if_false, h, false_or]
      by_cases h2 : 1 ≤ (ix l r.Field).Width ∧ (ix l r.Field).Width ≤ 32
      · rw [if_neg (by simpa using h2), if_neg (by omega)]
      · rw [if_pos h2, if_pos (by omega)]
  simp only [env_Width, ref17_width, LET, env_fields, decide_eq_true_eq, Bool.or_eq_true]
  rw [key]
  by_cases h1 : r.Header = -1
  · have h2 : ¬(0 ≤ r.Header) := by omega
    have h3 : ¬(r.Header < -1) := by omega
    simp only [h1, if_true, if_false, Int.reduceNeg, Int.reduceLE, Int.reduceLT, false_or]
  · simp only [h1, if_false]
    by_cases h2 : 0 ≤ r.Header
    · have h3 : ¬(r.Header < -1) := by omega
      by_cases h4 : (p.Headers.length : Int) ≤ r.Header
      · have h6 : (env_at_api_Header p.Headers r.Header).Fields = [] := by simp [env_at_api_Header, h4]
        rw [h6]
        simp only [h2, h4, if_true, List.length_nil]
        rw [if_pos]
        omega
      · have h5 : ¬(r.Header < 0) := by omega
        have h6 : (env_at_api_Header p.Headers r.Header) = ix p.Headers r.Header := by simp [env_at_api_Header, h4, h5]
        rw [h6]
        simp only [h2, h3, h4, if_true, if_false, false_or]
    · have h3 : r.Header < -1 := by omega
      have h5 : r.Header < 0 := by omega
      have h6 : (env_at_api_Header p.Headers r.Header).Fields = [] := by simp [env_at_api_Header, h5]
      rw [h6]
      simp only [h2, h3, if_true, if_false, true_or, List.length_nil]
      rw [if_pos]
      omega

/-! Calls -/
theorem CheckCall_L1_eq (p : api_Program) (c : api_ActionCall) (K : Unit → Int) : ∀ (m : Nat) (i : Int), action_CheckCall_L1 p c K m i = ref16_CheckCall_L1 p c K m i
  | 0, i => rfl
  | m + 1, i => by simp only [action_CheckCall_L1, ref16_CheckCall_L1, LET, fits_eq, CheckCall_L1_eq p c K m]
theorem CheckCall_eq (p : api_Program) (c : api_ActionCall) : action_CheckCall p c = ref16_CheckCall p c := by
  simp only [action_CheckCall, ref16_CheckCall, CheckCall_L1_eq]
  split
  · rfl
  · split
    · rfl
    · rename_i h
      simp only [Bool.not_eq_true', decide_eq_false_iff_not, Decidable.not_not] at h
      rw [h]

/-! Keys of a table -/
theorem checkKeys_L1_eq (p : api_Program) (x : api_Table) (K : Int → Int → Int × Int) : ∀ (m : Nat) (a b i : Int), table_checkKeys_L1 p x K m a b i = ref17_keys_L1 p x (fun b a => K a b) m b a i
  | 0, a, b, i => rfl
  | m + 1, a, b, i => by
    simp only [table_checkKeys_L1, ref17_keys_L1, LET, width_eq, checkKeys_L1_eq p x K m]
    by_cases h1 : (ix x.Keys i).Kind = 1
    · simp [h1]
    · by_cases h2 : (ix x.Keys i).Kind = 2
      · simp [h2]
      · by_cases h3 : (ix x.Keys i).Kind = 3
        · simp [h3]
        · simp [h1, h2, h3]
theorem checkKeys_eq (p : api_Program) (x : api_Table) : table_checkKeys p x = ref17_keys p x := by
  simp only [table_checkKeys, ref17_keys, checkKeys_L1_eq]
theorem keys_kinds {p : api_Program} {x : api_Table} {K : Int → Int → Int × Int} : ∀ (m : Nat) (a b i : Int), m = Int.toNat ((x.Keys.length : Int) - i) → 0 ≤ i → (ref17_keys_L1 p x K m a b i).2 = 0 →
    (∀ j, i ≤ j → j < x.Keys.length → ((ix x.Keys j).Kind = 1 ∨ (ix x.Keys j).Kind = 2 ∨ (ix x.Keys j).Kind = 3) ∧ ref17_width p (ix x.Keys j).Field ≠ 0) ∧ ∃ a' b', (K a' b').2 = 0
  | 0, a, b, i, hm, h0, h => ⟨fun j h1 h2 => by omega, a, b, h⟩
  | m + 1, a, b, i, hm, h0, h => by
    simp only [ref17_keys_L1, LET] at h
    by_cases hw : ref17_width p (ix x.Keys i).Field = 0
    · simp [hw] at h
    · rw [if_neg (by simpa using hw)] at h
      split at h
      · simp at h
      · rename_i hk
        have hk' : (ix x.Keys i).Kind = 1 ∨ (ix x.Keys i).Kind = 2 ∨ (ix x.Keys i).Kind = 3 := by
          simp at hk; omega
        split at h
        all_goals
          obtain ⟨h1, h2⟩ := keys_kinds m _ _ (i + 1) (by omega) (by omega) h
          refine ⟨fun j h3 h4 => ?_, h2⟩
          by_cases e : j = i
          · subst e; exact ⟨hk', hw⟩
          · exact h1 j (by omega) h4

/-! Actions of a table -/
theorem index_L1_spec (l : List Int) (a : Int) : ∀ (m : Nat) (i : Int), m = Int.toNat ((l.length : Int) - i) → 0 ≤ i → (ref17_index_L1 l a (fun _ => -1) m i = -1 ∧ ∀ j, i ≤ j → j < l.length → ix l j ≠ a) ∨
    (i ≤ ref17_index_L1 l a (fun _ => -1) m i ∧ ref17_index_L1 l a (fun _ => -1) m i < l.length ∧ ix l (ref17_index_L1 l a (fun _ => -1) m i) = a ∧ ∀ j, i ≤ j → j < ref17_index_L1 l a (fun _ => -1) m i → ix l j ≠ a)
  | 0, i, hm, h0 => .inl ⟨rfl, fun j h1 h2 => by omega⟩
  | m + 1, i, hm, h0 => by
    simp only [ref17_index_L1]
    by_cases h : ix l i = a
    · rw [if_pos (by simpa using h)]
      exact .inr ⟨by omega, by omega, h, fun j h1 h2 => by omega⟩
    · rw [if_neg (by simpa using h)]
      rcases index_L1_spec l a m (i + 1) (by omega) (by omega) with ⟨h1, h2⟩ | ⟨h1, h2, h3, h4⟩
      · refine .inl ⟨h1, fun j h5 h6 => ?_⟩
        by_cases e : j = i
        · subst e; exact h
        · exact h2 j (by omega) h6
      · refine .inr ⟨by omega, h2, h3, fun j h5 h6 => ?_⟩
        by_cases e : j = i
        · subst e; exact h
        · exact h4 j (by omega) h6
theorem index_spec (l : List Int) (a : Int) : (ref17_index l a = -1 ∧ ∀ j : Int, 0 ≤ j → j < l.length → ix l j ≠ a) ∨ (0 ≤ ref17_index l a ∧ ref17_index l a < l.length ∧ ix l (ref17_index l a) = a ∧ ∀ j, 0 ≤ j → j < ref17_index l a → ix l j ≠ a) :=
  index_L1_spec l a _ 0 rfl (by omega)
theorem index_lt (l : List Int) (a i : Int) (h0 : 0 ≤ i) (h1 : i < l.length) (h : ix l i = a) : ref17_index l a < i ↔ ∃ j, 0 ≤ j ∧ j < i ∧ ix l j = a := by
  rcases index_spec l a with ⟨h2, h3⟩ | ⟨h2, h3, h4, h5⟩
  · exact absurd h (h3 i h0 h1)
  · constructor
    · intro hlt; exact ⟨_, h2, hlt, h4⟩
    · rintro ⟨j, h6, h7, h8⟩
      by_cases h9 : j < ref17_index l a
      · exact absurd h8 (h5 j h6 h9)
      · omega
theorem index_neg (l : List Int) (a : Int) : ref17_index l a < 0 ↔ ¬∃ j, 0 ≤ j ∧ j < (l.length : Int) ∧ ix l j = a := by
  rcases index_spec l a with ⟨h2, h3⟩ | ⟨h2, h3, h4, h5⟩
  · rw [h2]
    exact ⟨fun _ ⟨j, h6, h7, h8⟩ => h3 j h6 h7 h8, fun _ => by omega⟩
  · exact ⟨fun h => by omega, fun h => absurd ⟨_, h2, h3, h4⟩ h⟩
/-- The map holds what came before. -/
def Seen (l : List Int) (i : Int) (z : List (Int × Bool)) : Prop := ∀ a, (mget z a).getD false = true ↔ ∃ j, 0 ≤ j ∧ j < i ∧ ix l j = a
theorem Seen.step {l : List Int} {i : Int} {z : List (Int × Bool)} (h : Seen l i z) (h0 : 0 ≤ i) : Seen l (i + 1) (mput z (ix l i) true) := fun a => by
  rw [mget_mput]
  by_cases e : ix l i = a
  · simp only [e, if_true, Option.getD_some, true_iff]
    exact ⟨i, h0, by omega, e⟩
  · simp only [e, if_false]
    rw [h a]
    constructor
    · rintro ⟨j, h1, h2, h3⟩; exact ⟨j, h1, by omega, h3⟩
    · rintro ⟨j, h1, h2, h3⟩
      have : j ≠ i := fun hj => e (by rw [← hj]; exact h3)
      exact ⟨j, h1, by omega, h3⟩
theorem checkActions_L1_eq (p : api_Program) (x : api_Table) {K : List (Int × Bool) → Int} {K' : Unit → Int} (hK : ∀ z, Seen x.Actions x.Actions.length z → K z = K' ()) : ∀ (m : Nat) (i : Int) (z : List (Int × Bool)), m = Int.toNat ((x.Actions.length : Int) - i) → 0 ≤ i → i ≤ x.Actions.length → Seen x.Actions i z → table_checkActions_L1 p x K m i z = ref17_actions_L1 p x K' m i
  | 0, i, z, hm, h0, h1, hz => by
    have : i = x.Actions.length := by omega
    subst this
    simp only [table_checkActions_L1, ref17_actions_L1]
    exact hK z hz
  | m + 1, i, z, hm, h0, h1, hz => by
    have ih := checkActions_L1_eq p x hK m (i + 1) _ (by omega) (by omega) (by omega) (hz.step h0)
    simp only [table_checkActions_L1, ref17_actions_L1, LET]
    split
    · rfl
    · have hs := hz (ix x.Actions i)
      have hi := index_lt x.Actions _ i h0 (by omega) rfl
      have e : ((mget z (ix x.Actions i)).getD false) = decide (ref17_index x.Actions (ix x.Actions i) < i) := by
        rw [Bool.eq_iff_iff, decide_eq_true_eq, hs, hi]
      rw [e, ih]
theorem checkActions_eq (p : api_Program) (x : api_Table) : table_checkActions p x = ref17_actions p x := by
  unfold table_checkActions ref17_actions
  refine checkActions_L1_eq p x (fun z hz => ?_) _ 0 [] rfl (by omega) (by omega) (fun a => by simp [mget_nil]; omega)
  have e : (!((mget z x.Default.Action).getD false)) = decide (ref17_index x.Actions x.Default.Action < 0) := by
    rw [Bool.eq_iff_iff, decide_eq_true_eq, index_neg, ← hz]; simp
  simp only [LET, e, CheckCall_eq]

theorem Check_eq (p : api_Program) (t : Int) : table_Check p t = ref17_Check p t := by
  simp only [table_Check, ref17_Check, LET, ident_eq, checkKeys_eq, checkActions_eq]
theorem tvalid_eq (p : api_Program) (t : Int) : table_valid p t = ref17_valid p t := by
  simp only [table_valid, ref17_valid, Check_eq]
theorem Widths_eq (p : api_Program) (t : Int) : table_Widths p t = ref17_Widths p t := by
  rw [table_Widths_eq, ref17_Widths_eq, tvalid_eq]
  simp only [width_eq]
end Go.Proofs.Ytklfdkbemkommaa
