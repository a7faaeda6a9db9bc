/-
  The laws of the plain programs: exact matches.
-/
import Derived.Test.YtklfdkbemkommaaKLaw
set_option linter.unusedVariables false
set_option linter.unusedSimpArgs false
namespace Go.Proofs.Ytklfdkbemkommaa
open Go Go.Pb

def Hit (x : api_Entry) (k : List (BitVec 32)) (j : Int) : Prop := ((ix k j ^^^ (ix x.Keys j).Value) &&& (ix x.Keys j).Mask) = 0#32
theorem Matches_L1_iff (x : api_Entry) (k : List (BitVec 32)) : ∀ (m : Nat) (i : Int), m = Int.toNat ((k.length : Int) - i) → (ref23_Matches_L1 x k (fun _ => true) m i = true ↔ ∀ j, i ≤ j → j < k.length → Hit x k j)
  | 0, i, hm => ⟨fun _ j h1 h2 => by omega, fun _ => rfl⟩
  | m + 1, i, hm => by
    have ih := Matches_L1_iff x k m (i + 1) (by omega)
    simp only [ref23_Matches_L1]
    by_cases h : Hit x k i
    · rw [if_neg (by simpa [Hit] using h), ih]
      constructor
      · intro hh j h1 h2
        by_cases e : j = i
        · subst e; exact h
        · exact hh j (by omega) h2
      · intro hh j h1 h2; exact hh j (by omega) h2
    · rw [if_pos (by simpa [Hit] using h)]
      constructor
      · intro hh; cases hh
      · intro hh; exact absurd (hh i (by omega) (by omega)) h
theorem Matches_iff (x : api_Entry) (k : List (BitVec 32)) : entry_Matches x k = true ↔ x.Keys.length = k.length ∧ ∀ j : Int, 0 ≤ j → j < k.length → Hit x k j := by
  rw [Matches_eq]
  unfold ref23_Matches
  by_cases h : x.Keys.length = k.length
  · rw [if_neg (by simp [h]), Matches_L1_iff x k _ 0 rfl]
    simp [h]
  · have h1 : ¬((x.Keys.length : Int) = k.length) := by omega
    rw [if_pos (by simp [h1])]
    simp [h]
theorem flip_bit (a v m : BitVec 32) (j : Nat) (hj : j < 32) (h : (a ^^^ v) &&& m = 0#32) : ((a ^^^ (1#32 <<< j)) ^^^ v) &&& m = 0#32 ↔ (m >>> j) % 2#32 = 0#32 := by
  have e1 : ((a ^^^ (1#32 <<< j)) ^^^ v) &&& m = ((a ^^^ v) &&& m) ^^^ (m &&& (1#32 <<< j)) := by
    apply BitVec.eq_of_getLsbD_eq
    intro i hi
    simp only [BitVec.getLsbD_and, BitVec.getLsbD_xor]
    cases a.getLsbD i <;> cases v.getLsbD i <;> cases m.getLsbD i <;> cases (1#32 <<< j).getLsbD i <;> rfl
  rw [e1, h, BitVec.zero_xor, ← BitVec.twoPow_eq, BitVec.and_twoPow]
  have e2 : (m >>> j) % 2#32 = 0#32 ↔ m.getLsbD j = false := by
    rw [← BitVec.toNat_inj, BitVec.toNat_umod, BitVec.toNat_ushiftRight, BitVec.getLsbD, Nat.testBit_eq_decide_div_mod_eq, Nat.shiftRight_eq_div_pow]
    simp
  rw [e2]
  cases hb : m.getLsbD j with
  | false => simp
  | true =>
    simp only [if_true, Bool.true_eq_false, iff_false]
    intro h3
    have := congrArg BitVec.toNat h3
    rw [BitVec.toNat_twoPow_of_lt hj] at this
    have : 0 < 2 ^ j := Nat.pow_pos (by omega)
    simp_all
theorem ix_set {α : Type} [Inhabited α] (l : List α) (i j : Int) (a : α) (h0 : 0 ≤ i) (h1 : i < l.length) (h2 : 0 ≤ j) : ix (l.set i.toNat a) j = if j = i then a else ix l j := by
  unfold ix
  by_cases e : j = i
  · subst e
    have : j.toNat < l.length := by omega
    simp [List.getD, this]
  · have : i.toNat ≠ j.toNat := by omega
    simp [List.getD, List.getElem?_set_ne this, e]
theorem flip_match (x : api_Entry) (k : List (BitVec 32)) (i j : Int) (h : entry_Matches x k = true) (h0 : 0 ≤ i) (h1 : i < k.length) (h2 : 0 ≤ j) (h3 : j < 32) :
    entry_Matches x (k.set i.toNat (ix k i ^^^ (1#32 <<< j.toNat))) = decide (((ix x.Keys i).Mask >>> j.toNat) % 2#32 = 0#32) := by
  obtain ⟨hl, hh⟩ := (Matches_iff x k).1 h
  have hf := flip_bit (ix k i) (ix x.Keys i).Value (ix x.Keys i).Mask j.toNat (by omega) (hh i h0 h1)
  rw [Bool.eq_iff_iff, decide_eq_true_eq, Matches_iff, ← hf, List.length_set]
  constructor
  · rintro ⟨_, h5⟩
    have := h5 i h0 h1
    rwa [Hit, ix_set _ _ _ _ h0 h1 h0, if_pos rfl] at this
  · intro h5
    refine ⟨hl, fun n h6 h7 => ?_⟩
    rw [Hit, ix_set _ _ _ _ h0 h1 h6]
    by_cases e : n = i
    · subst e; rw [if_pos rfl]; exact h5
    · rw [if_neg e]; exact hh n h6 h7
theorem Exact_L3 (x : law23_Pair) (i : Int) (K : Unit → Bool) (h : entry_Matches x.A x.Key = true) (h0 : 0 ≤ i) (h1 : i < x.Key.length) : ∀ (m : Nat) (j : Int), m = Int.toNat (32 - j) → 0 ≤ j → law23_EntryExact_L3 x i K m j = K ()
  | 0, j, _, _ => rfl
  | m + 1, j, hm, hj => by
    simp only [law23_EntryExact_L3, LET]
    rw [flip_match x.A x.Key i j h h0 h1 hj (by omega), if_neg (by simp), Exact_L3 x i K h h0 h1 m (j + 1) (by omega) (by omega)]
theorem Exact_L2 (x : law23_Pair) (K : Unit → Bool) (h : entry_Matches x.A x.Key = true) : ∀ (m : Nat) (i : Int), m = Int.toNat ((x.Key.length : Int) - i) → 0 ≤ i → law23_EntryExact_L2 x K m i = K ()
  | 0, i, _, _ => rfl
  | m + 1, i, hm, h0 => by
    simp only [law23_EntryExact_L2]
    rw [Exact_L3 x i _ h h0 (by omega) _ 0 rfl (by omega), Exact_L2 x K h m (i + 1) (by omega) (by omega)]
theorem Check_L1_zero (p : api_Program) (t : Int) (x : api_Entry) (w : List Int) (K : Unit → Int) : ∀ (m : Nat) (i : Int), m = Int.toNat ((w.length : Int) - i) → ref23_Check_L1 p t x w K m i = 0 →
    (∀ j, i ≤ j → j < w.length → ref23_checkKey (ix x.Keys j) (ix w j) (ix (ix p.Tables t).Keys j).Kind = 0) ∧ K () = 0
  | 0, i, hm, h => ⟨fun j h1 h2 => by omega, h⟩
  | m + 1, i, hm, h => by
    simp only [ref23_Check_L1, LET] at h
    by_cases hk : ref23_checkKey (ix x.Keys i) (ix w i) (ix (ix p.Tables t).Keys i).Kind = 0
    · rw [if_neg (by simpa using hk)] at h
      obtain ⟨h1, h2⟩ := Check_L1_zero p t x w K m (i + 1) (by omega) h
      refine ⟨fun j h3 h4 => ?_, h2⟩
      by_cases e : j = i
      · subst e; exact hk
      · exact h1 j (by omega) h4
    · rw [if_pos (by simpa using hk)] at h
      exact absurd h hk
theorem eCheck_zero {p : api_Program} {t : Int} {x : api_Entry} (h : entry_Check p t x = 0) : ref17_valid p t = true ∧ x.Keys.length = (ix p.Tables t).Keys.length ∧ (ref17_Widths p t).length = (ix p.Tables t).Keys.length ∧
    (∀ j : Int, 0 ≤ j → j < x.Keys.length → ref23_checkKey (ix x.Keys j) (ix (ref17_Widths p t) j) (ix (ix p.Tables t).Keys j).Kind = 0) ∧ 0 ≤ x.Priority ∧ (0 < x.Priority → ref17_Kind p t = 3) := by
  rw [eCheck_eq] at h
  simp only [ref23_Check, LET] at h
  by_cases hc : (ref17_Check p t).2 = 0
  · have hv : ref17_valid p t = true := by simp [ref17_valid, LET, hc]
    have hl : (ref17_Widths p t).length = (ix p.Tables t).Keys.length := by rw [ref17_Widths_eq, if_pos hv, tabI_length]
    rw [if_neg (by simpa using hc)] at h
    by_cases hn : (x.Keys.length : Int) = (ref17_Widths p t).length
    · rw [if_neg (by simpa using hn)] at h
      obtain ⟨h1, h2⟩ := Check_L1_zero p t x _ _ _ 0 rfl h
      refine ⟨hv, by omega, hl, fun j h3 h4 => h1 j h3 (by omega), ?_⟩
      by_cases hp : x.Priority < 0 ∨ 255 < x.Priority
      · rw [if_pos (by simpa using hp)] at h2
        cases h2
      · rw [if_neg (by simpa using hp)] at h2
        refine ⟨by omega, fun hpos => ?_⟩
        by_cases hk : ref17_Kind p t = 3
        · exact hk
        · rw [if_pos (by simpa using ⟨hpos, hk⟩)] at h2
          cases h2
    · rw [if_pos (by simpa using hn)] at h
      cases h
  · rw [if_pos (by simpa using hc)] at h
    exact absurd h hc
theorem Kind_one (p : api_Program) (t : Int) : ∀ (m : Nat) (i : Int), m = Int.toNat (((ix p.Tables t).Keys.length : Int) - i) → (∀ j, i ≤ j → j < (ix p.Tables t).Keys.length → (ix (ix p.Tables t).Keys j).Kind = 1) → ref17_Kind_L1 p t (fun x => x) m 1 i = 1
  | 0, i, _, _ => rfl
  | m + 1, i, hm, h => by
    simp only [ref17_Kind_L1]
    rw [h i (by omega) (by omega)]
    exact Kind_one p t m (i + 1) (by omega) fun j h1 h2 => h j (by omega) h2
theorem exact_key {a : api_KeyMatch} {w : Int} {k : BitVec 32} (h : ref23_checkKey a w 1 = 0) (hk : (k ^^^ a.Value) &&& a.Mask = 0#32) : a.Mask = ref01_Mask w ∧ a.Value = k &&& ref01_Mask w := by
  simp only [ref23_checkKey, LET] at h
  split at h
  · cases h
  · split at h
    · cases h
    · rename_i hv
      split at h
      · cases h
      · rename_i hm
        simp only [decide_true, Bool.true_and, Bool.or_eq_true, not_or, Bool.not_eq_true', decide_eq_false_iff_not, Decidable.not_not] at hm hv
        have e := hm.1
        refine ⟨e, ?_⟩
        rw [← e]
        conv => lhs; rw [← hv]
        apply BitVec.eq_of_getLsbD_eq
        intro i hi
        have := congrArg (fun b => b.getLsbD i) hk
        simp only [BitVec.getLsbD_and, BitVec.getLsbD_xor, BitVec.getLsbD_zero] at this ⊢
        cases h1 : k.getLsbD i <;> cases h2 : a.Value.getLsbD i <;> cases h3 : a.Mask.getLsbD i <;> simp_all
theorem exact_same {p : api_Program} {t : Int} {a b : api_Entry} {k : List (BitVec 32)} (ha : entry_Check p t a = 0) (hb : entry_Check p t b = 0) (hk : ∀ j : Int, 0 ≤ j → j < (ix p.Tables t).Keys.length → (ix (ix p.Tables t).Keys j).Kind = 1)
    (h1 : entry_Matches a k = true) (h2 : entry_Matches b k = true) : entry_SameKey a b = true := by
  obtain ⟨v1, l1, lw, c1, p1, q1⟩ := eCheck_zero ha
  obtain ⟨v2, l2, _, c2, p2, q2⟩ := eCheck_zero hb
  obtain ⟨m1, m2⟩ := (Matches_iff a k).1 h1
  obtain ⟨m3, m4⟩ := (Matches_iff b k).1 h2
  have hK : ref17_Kind p t = 1 := by
    simp only [ref17_Kind, LET, v1, Bool.not_true, Bool.false_eq_true, if_false]
    exact Kind_one p t _ 0 rfl hk
  rw [SameKey_spec, decide_eq_true_eq]
  constructor
  · have e1 : ¬0 < a.Priority := fun h => by have := q1 h; omega
    have e2 : ¬0 < b.Priority := fun h => by have := q2 h; omega
    omega
  · refine ext_ix (by omega) fun i h0 hi => ?_
    have k1 := hk i h0 (by omega)
    have e1 := c1 i h0 (by omega)
    have e2 := c2 i h0 (by omega)
    rw [k1] at e1 e2
    obtain ⟨f1, f2⟩ := exact_key e1 (m2 i h0 (by omega))
    obtain ⟨f3, f4⟩ := exact_key e2 (m4 i h0 (by omega))
    have g1 : (ix a.Keys i).Mask = (ix b.Keys i).Mask := by rw [f1, f3]
    have g2 : (ix a.Keys i).Value = (ix b.Keys i).Value := by rw [f2, f4]
    revert g1 g2
    generalize ix a.Keys i = u
    generalize ix b.Keys i = v
    intro g1 g2
    cases u; cases v
    simp only at g1 g2
    rw [g1, g2]
theorem Exact_L1 (p : api_Program) (t : Int) (K : Unit → Bool) : ∀ (m : Nat) (i : Int), m = Int.toNat (((ix p.Tables t).Keys.length : Int) - i) → ((∀ j, i ≤ j → j < (ix p.Tables t).Keys.length → (ix (ix p.Tables t).Keys j).Kind = 1) → K () = true) → law23_EntryExact_L1 p t K m i = true
  | 0, i, hm, h => h fun j h1 h2 => by omega
  | m + 1, i, hm, h => by
    simp only [law23_EntryExact_L1, LET]
    by_cases hk : (ix (ix p.Tables t).Keys i).Kind = 1
    · rw [if_neg (by simpa using hk)]
      refine Exact_L1 p t K m (i + 1) (by omega) fun hh => h fun j h1 h2 => ?_
      by_cases e : j = i
      · subst e; exact hk
      · exact hh j (by omega) h2
    · rw [if_pos (by simpa using hk)]
      exact works23
theorem EntryExact_law (p : api_Program) (t : Int) (x : law23_Pair) : law23_EntryExact p t x = true := by
  simp only [law23_EntryExact, LET]
  split
  · exact works23
  · rw [if_neg]
    · have hk : (if (decide (t < 0) || decide ((p.Tables.length : Int) ≤ t) || !decide (entry_Check p t x.A = 0) || !decide (entry_Check p t x.B = 0)) = true then law23_works
          else law23_EntryExact_L1 p t (fun _ => if (entry_Matches x.A x.Key && entry_Matches x.B x.Key && !entry_SameKey x.A x.B) = true then false else law23_works) (((ix p.Tables t).Keys.length : Int) - 0).toNat 0) = true := by
        split
        · exact works23
        · rename_i hc
          simp only [Bool.or_eq_true, not_or, Bool.not_eq_true', decide_eq_false_iff_not, Decidable.not_not] at hc
          refine Exact_L1 p t _ _ 0 rfl fun hh => ?_
          rw [if_neg, works23]
          intro hm
          simp only [Bool.and_eq_true, Bool.not_eq_true'] at hm
          rw [exact_same hc.1.2 hc.2 hh hm.1.1 hm.1.2] at hm
          cases hm.2
      split
      · rename_i hm
        rw [Exact_L2 x _ hm _ 0 rfl (by omega)]
        exact hk
      · exact hk
    · intro h
      simp only [Bool.and_eq_true, Bool.not_eq_true', decide_eq_false_iff_not] at h
      have := ((Matches_iff x.A x.Key).1 h.1).1
      omega
end Go.Proofs.Ytklfdkbemkommaa
