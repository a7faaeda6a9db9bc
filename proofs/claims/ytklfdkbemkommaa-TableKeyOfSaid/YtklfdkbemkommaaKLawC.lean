/-
  The laws of the plain programs: a table's answers agree.
-/
import Derived.Test.YtklfdkbemkommaaKLaw
set_option linter.unusedVariables false
set_option linter.unusedSimpArgs false
namespace Go.Proofs.Ytklfdkbemkommaa
open Go Go.Pb

theorem check_parts {p : api_Program} {t : Int} (h : (ref17_Check p t).2 = 0) : (ref17_keys p (ix p.Tables t)).2 = 0 ∧ ref17_actions p (ix p.Tables t) = 0 := by
  simp only [ref17_Check, LET] at h
  split at h
  · simp at h
  · split at h
    · simp at h
    · split at h
      · simp at h
      · split at h
        · simp at h
        · by_cases hk : (ref17_keys p (ix p.Tables t)).2 = 0
          · rw [if_neg (by simpa using hk)] at h
            by_cases ha : ref17_actions p (ix p.Tables t) = 0
            · exact ⟨hk, ha⟩
            · rw [if_pos (by simpa using ha)] at h
              exact absurd h ha
          · rw [if_pos (by simpa using hk)] at h
            exact absurd h hk
theorem keys_sum {p : api_Program} {x : api_Table} {W : List Int} {K : Int → Int → Int × Int} : ∀ (m : Nat) (a b i : Int), m = Int.toNat ((x.Keys.length : Int) - i) → 0 ≤ i → (∀ j, i ≤ j → j < x.Keys.length → ix W j = ref17_width p (ix x.Keys j).Field) → (ref17_keys_L1 p x K m a b i).2 = 0 →
    ∃ b', (K (table_Bits_L1 W (fun x => x) m a i) b').2 = 0
  | 0, a, b, i, hm, h0, hw, h => ⟨b, h⟩
  | m + 1, a, b, i, hm, h0, hw, h => by
    have hi := hw i (by omega) (by omega)
    have hw' : ∀ j, i + 1 ≤ j → j < x.Keys.length → ix W j = ref17_width p (ix x.Keys j).Field := fun j h1 h2 => hw j (by omega) h2
    simp only [ref17_keys_L1, LET] at h
    simp only [table_Bits_L1]
    rw [hi]
    by_cases hz : ref17_width p (ix x.Keys i).Field = 0
    · simp [hz] at h
    · rw [if_neg (by simpa using hz)] at h
      split at h
      · simp at h
      · split at h
        · exact keys_sum m _ _ (i + 1) (by omega) (by omega) hw' h
        · exact keys_sum m _ _ (i + 1) (by omega) (by omega) hw' h
theorem actions_end {p : api_Program} {x : api_Table} {K : Unit → Int} : ∀ (m : Nat) (i : Int), ref17_actions_L1 p x K m i = 0 → K () = 0
  | 0, i, h => h
  | m + 1, i, h => by
    simp only [ref17_actions_L1, LET] at h
    split at h
    · cases h
    · split at h
      · cases h
      · exact actions_end m (i + 1) h
theorem width_range (p : api_Program) (r : api_FieldRef) (h : ref17_width p r ≠ 0) : 1 ≤ ref17_width p r ∧ ref17_width p r ≤ 32 := by
  have key : ∀ l : List api_Field, (if (((((decide (r.Header < (-1))) || (decide (r.Field < 0))) || (decide ((l.length : Int) ≤ r.Field))) || (decide (((ix l r.Field).Width) < 1))) || (decide (32 < ((ix l r.Field).Width)))) = true then (0 : Int) else (ix l r.Field).Width) ≠ 0 →
      1 ≤ (if (((((decide (r.Header < (-1))) || (decide (r.Field < 0))) || (decide ((l.length : Int) ≤ r.Field))) || (decide (((ix l r.Field).Width) < 1))) || (decide (32 < ((ix l r.Field).Width)))) = true then (0 : Int) else (ix l r.Field).Width) ∧
      (if (((((decide (r.Header < (-1))) || (decide (r.Field < 0))) || (decide ((l.length : Int) ≤ r.Field))) || (decide (((ix l r.Field).Width) < 1))) || (decide (32 < ((ix l r.Field).Width)))) = true then (0 : Int) else (ix l r.Field).Width) ≤ 32 := by
    intro l hne
    split at hne
    · exact absurd rfl hne
    · rename_i hc
      rw [if_neg hc]
      simp only [Bool.or_eq_true, decide_eq_true_eq, not_or] at hc
      omega
  revert h
  simp only [ref17_width, LET]
  split
  · split
    · intro h; exact absurd rfl h
    · exact key _
  · exact key _
theorem Key_L1_tab (p : api_Program) (t : Int) (e : api_Env) (w : List Int) (K : List (BitVec 32) → List (BitVec 32)) : ∀ (m : Nat) (i : Int) (acc : List (BitVec 32)), table_Key_L1 p t e w K m i acc = K (acc ++ tabI i m fun j => env_Get e (ix (ix p.Tables t).Keys j).Field &&& bitvec_Mask (ix w j))
  | 0, i, acc => by simp [table_Key_L1, tabI]
  | m + 1, i, acc => by simp [table_Key_L1, LET, Key_L1_tab p t e w K m, tabI]
theorem Key_tab (p : api_Program) (t : Int) (e : api_Env) : table_Key p t e = tabI 0 (table_Widths p t).length fun j => env_Get e (ix (ix p.Tables t).Keys j).Field &&& bitvec_Mask (ix (table_Widths p t) j) := by
  simp only [table_Key, LET, Key_L1_tab, List.nil_append, Int.sub_zero, Int.toNat_natCast]
theorem masked_small (v : BitVec 32) {w : Int} (h : 1 ≤ w ∧ w ≤ 32) : ¬(1#32 < (v &&& bitvec_Mask w) >>> (wr (w - 1)).toNat) := by
  rw [wr_of (by omega) (by omega)]
  have e : (w - 1).toNat = w.toNat - 1 := by omega
  have h1 : (v &&& bitvec_Mask w).toNat < 2 ^ w.toNat := by
    rw [BitVec.toNat_and, mask_toNat h]
    have h2 : 0 < 2 ^ w.toNat := Nat.pow_pos (by omega)
    have := Nat.and_le_right (n := v.toNat) (m := 2 ^ w.toNat - 1)
    omega
  have e2 : 2 ^ w.toNat = 2 * 2 ^ (w.toNat - 1) := by
    rw [Nat.mul_comm, ← Nat.pow_succ, show (w.toNat - 1).succ = w.toNat by omega]
  intro h3
  rw [BitVec.lt_def, BitVec.toNat_ushiftRight, e, Nat.shiftRight_eq_div_pow] at h3
  have : (v &&& bitvec_Mask w).toNat / 2 ^ (w.toNat - 1) < 2 := by
    apply Nat.div_lt_of_lt_mul
    omega
  have e1 : (1#32).toNat = 1 := rfl
  omega
theorem Cons_L1 (W : List Int) (k : List (BitVec 32)) (K : Int → Bool) (hw : ∀ j : Int, 0 ≤ j → j < W.length → (1 ≤ ix W j ∧ ix W j ≤ 32) ∧ ¬(1#32 < (ix k j) >>> (wr (ix W j - 1)).toNat)) : ∀ (m : Nat) (s i : Int), m = Int.toNat ((W.length : Int) - i) → 0 ≤ i → law17_TableConsistent_L1 W k K m s i = K (table_Bits_L1 W (fun x => x) m s i)
  | 0, s, i, _, _ => rfl
  | m + 1, s, i, hm, h0 => by
    obtain ⟨h1, h2⟩ := hw i h0 (by omega)
    simp only [law17_TableConsistent_L1, table_Bits_L1]
    rw [if_neg, Cons_L1 W k K hw m _ (i + 1) (by omega) (by omega)]
    simp only [Bool.or_eq_true, decide_eq_true_eq, not_or]
    exact ⟨⟨by omega, by omega⟩, h2⟩
theorem Cons_L3 (p : api_Program) (t a : Int) (K : Bool → Bool) : ∀ (m : Nat) (b : Bool) (i : Int), law17_TableConsistent_L3 p t a K m b i = K (b || table_Allows_L1 p t a (fun _ => false) m i)
  | 0, b, i => by simp [law17_TableConsistent_L3, table_Allows_L1]
  | m + 1, b, i => by
    simp only [law17_TableConsistent_L3, table_Allows_L1]
    rw [Cons_L3 p t a K m]
    by_cases h : ix (ix p.Tables t).Actions i = a <;> simp [h]
theorem Cons_L2 (p : api_Program) (t : Int) (hv : table_valid p t = true) (K : Unit → Bool) : ∀ (m : Nat) (a : Int), law17_TableConsistent_L2 p t K m a = K ()
  | 0, a => rfl
  | m + 1, a => by
    simp only [law17_TableConsistent_L2, LET]
    rw [Cons_L3, Cons_L2 p t hv K m]
    simp only [table_Allows, LET, hv, Bool.not_true, Bool.false_eq_true, if_false, Bool.false_or]
    rw [if_neg (by simp)]
theorem TableConsistent_law (p : api_Program) (t : Int) (e : api_Env) : law17_TableConsistent p t e = true := by
  simp only [law17_TableConsistent, LET]
  split
  · exact works17
  · by_cases hc : (table_Check p t).2 = 0
    · have hv : table_valid p t = true := by simp [table_valid, LET, hc]
      have hv' : ref17_valid p t = true := by rw [← tvalid_eq, hv]
      have hc' : (ref17_Check p t).2 = 0 := by rw [← Check_eq, hc]
      have hW : table_Widths p t = tabI 0 (ix p.Tables t).Keys.length fun j => ref17_width p (ix (ix p.Tables t).Keys j).Field := by rw [Widths_eq, ref17_Widths_eq, if_pos hv']
      have hl : (table_Widths p t).length = (ix p.Tables t).Keys.length := by rw [hW, tabI_length]
      have hk : (table_Key p t e).length = (ix p.Tables t).Keys.length := by rw [Key_tab, tabI_length, hl]
      have hix : ∀ j : Int, 0 ≤ j → j < (ix p.Tables t).Keys.length → ix (table_Widths p t) j = ref17_width p (ix (ix p.Tables t).Keys j).Field := fun j h0 h1 => by rw [hW, tabI_get h0 h1, Int.zero_add]
      obtain ⟨h1, h2⟩ := check_parts hc'
      obtain ⟨b', h3⟩ := keys_sum _ 0 0 0 rfl (by omega) hix h1
      rw [if_neg (by simpa using hc), if_neg (by simp [hl, hk]), Cons_L1 _ _ _ (fun j h0 hj => ?_) _ 0 0 rfl (by omega), Cons_L2 p t hv]
      · have hb : table_Bits p t = table_Bits_L1 (table_Widths p t) (fun x => x) (((table_Widths p t).length : Int) - 0).toNat 0 0 := rfl
        have hs : table_Bits_L1 (table_Widths p t) (fun x => x) (((table_Widths p t).length : Int) - 0).toNat 0 0 ≤ 64 := by
          rw [hl]
          split at h3
          · simp at h3
          · split at h3
            · simp at h3
            · rename_i h4; simpa using h4
        have hd : table_Allows p t (ix p.Tables t).Default.Action = true := by
          have h5 := actions_end _ _ h2
          simp only [LET] at h5
          split at h5
          · cases h5
          · rename_i h6
            refine (Allows_iff p t _).2 ⟨hv, ?_⟩
            have h7 := index_neg (ix p.Tables t).Actions (ix p.Tables t).Default.Action
            by_cases h8 : ∃ j : Int, 0 ≤ j ∧ j < (ix p.Tables t).Actions.length ∧ ix (ix p.Tables t).Actions j = (ix p.Tables t).Default.Action
            · exact h8
            · exact absurd (h7.2 h8) (by simpa using h6)
        rw [hb, hd, works17]
        simp only [decide_eq_true hs, decide_true, Bool.and_self]
      · have hj' : j < (ix p.Tables t).Keys.length := by omega
        have hr := width_range p _ (valid_kinds hv' j h0 hj').2
        rw [← hix j h0 hj'] at hr
        refine ⟨hr, ?_⟩
        rw [Key_tab, tabI_get h0 hj]
        rw [Int.zero_add]
        exact masked_small _ hr
    · have hv : table_valid p t = false := by simp [table_valid, LET, hc]
      have hW : table_Widths p t = [] := by rw [table_Widths_eq, hv]; rfl
      rw [if_pos (by simpa using hc)]
      have hb : table_Bits p t = 0 := by simp [table_Bits, LET, hW, table_Bits_L1]
      have hk : table_Kind p t = 0 := by simp [table_Kind, LET, hv]
      have hK : table_Key p t e = [] := by rw [Key_tab, hW]; rfl
      simp [hb, hk, hK, hW, works17]
end Go.Proofs.Ytklfdkbemkommaa
