/-
  The laws of the plain programs: a key follows its metadata.
-/
import Derived.Test.YtklfdkbemkommaaKLawB
import Derived.Test.YtklfdkbemkommaaKLawC
set_option linter.unusedVariables false
set_option linter.unusedSimpArgs false
namespace Go.Proofs.Ytklfdkbemkommaa
open Go Go.Pb

theorem Get_set_other (e : api_Env) (i : Int) (v : BitVec 32) (r : api_FieldRef) (h0 : 0 ≤ i) (h1 : i < e.Metd.length) (hr : r ≠ { Header := -1, Field := i }) :
    env_Get { Valid := e.Valid, Fields := e.Fields, Metd := e.Metd.set i.toNat v, Payload := e.Payload } r = env_Get e r := by
  obtain ⟨H, F⟩ := r
  rw [Get_eq, Get_eq]
  simp only [ref12_Get, LET, ref12_element, List.length_set, ref12_Has]
  by_cases h : H = -1
  · subst h
    have hF : F ≠ i := fun e => hr (by rw [e])
    by_cases h2 : 0 ≤ F ∧ F < e.Metd.length
    · simp [h2, ix_set _ _ _ _ h0 h1 h2.1, hF]
    · have h3 : (decide (0 ≤ F) && decide (F < (e.Metd.length : Int))) = false := by simpa using fun h => Int.not_lt.1 fun h' => h2 ⟨h, h'⟩
      simp [h3]
  · simp [h]
theorem Get_set_same (e : api_Env) (i : Int) (v : BitVec 32) (h0 : 0 ≤ i) (h1 : i < e.Metd.length) :
    env_Get { Valid := e.Valid, Fields := e.Fields, Metd := e.Metd.set i.toNat v, Payload := e.Payload } { Header := -1, Field := i } = v := by
  rw [Get_eq]
  simp [ref12_Get, LET, ref12_element, h0, h1, ix_set _ _ _ _ h0 h1 h0]
theorem KeyOf_L1 (p : api_Program) (x2 : List (BitVec 32)) (a b : List (BitVec 32)) (K : Unit → Bool) (h : ∀ j : Int, 0 ≤ j → j < b.length → ix b j = if (ix (ix p.Tables ((ix x2 0 % 16#32).toNat : Int)).Keys j).Field = { Header := -1, Field := ((ix x2 1 % 16#32).toNat : Int) } then (ix x2 2) &&& ref01_Mask (ix p.Metadata ((ix x2 1 % 16#32).toNat : Int)).Width else ix a j) :
    ∀ (m : Nat) (j : Int), m = Int.toNat ((b.length : Int) - j) → 0 ≤ j → law17_TableKeyOf_L1 p x2 a b K m j = K ()
  | 0, j, _, _ => rfl
  | m + 1, j, hm, h0 => by
    have hj := h j h0 (by omega)
    simp only [law17_TableKeyOf_L1, LET]
    rw [KeyOf_L1 p x2 a b K h m (j + 1) (by omega) (by omega)]
    split
    · rename_i hc
      rw [if_pos (by simpa using hc)] at hj
      simp [hj]
    · rename_i hc
      rw [if_neg (by simpa using hc)] at hj
      simp [hj]
theorem width_meta (p : api_Program) (i : Int) (h : ref17_width p { Header := -1, Field := i } ≠ 0) : ref17_width p { Header := -1, Field := i } = (ix p.Metadata i).Width := by
  simp only [ref17_width, LET] at h ⊢
  split at h
  · rename_i h1; simp at h1
  · rename_i h1
    rw [if_neg h1]
    split at h
    · exact absurd rfl h
    · rename_i h2
      rw [if_neg h2]
theorem TableKeyOf_law (p : api_Program) (e : api_Env) (x2 : List (BitVec 32)) : law17_TableKeyOf p e x2 = true := by
  simp only [law17_TableKeyOf, LET]
  split
  · exact works17
  · rename_i hc
    simp only [Bool.or_eq_true, not_or, decide_eq_true_eq, Bool.not_eq_true', Bool.not_eq_false] at hc
    have hm := hc.1.2
    have h0 : (0 : Int) ≤ ((ix x2 1 % 16#32).toNat : Int) := Int.natCast_nonneg _
    have h1 : ((ix x2 1 % 16#32).toNat : Int) < e.Metd.length := by omega
    have hl : ∀ e, (table_Key p ((ix x2 0 % 16#32).toNat : Int) e).length = (table_Widths p ((ix x2 0 % 16#32).toNat : Int)).length := fun e => by rw [Key_tab, tabI_length]
    rw [if_neg, KeyOf_L1 p x2 _ _ _ (fun j hj0 hj1 => ?_) _ 0 rfl (by omega)]
    · exact works17
    · rw [hl] at hj1
      rw [Key_tab, tabI_get hj0 hj1, Key_tab, tabI_get hj0 hj1, Int.zero_add]
      by_cases hv : table_valid p ((ix x2 0 % 16#32).toNat : Int) = true
      · have hv' : ref17_valid p ((ix x2 0 % 16#32).toNat : Int) = true := by rw [← tvalid_eq, hv]
        have hW : table_Widths p ((ix x2 0 % 16#32).toNat : Int) = tabI 0 (ix p.Tables ((ix x2 0 % 16#32).toNat : Int)).Keys.length fun j => ref17_width p (ix (ix p.Tables ((ix x2 0 % 16#32).toNat : Int)).Keys j).Field := by rw [Widths_eq, ref17_Widths_eq, if_pos hv']
        have hj2 : j < (ix p.Tables ((ix x2 0 % 16#32).toNat : Int)).Keys.length := by rw [hW, tabI_length] at hj1; exact hj1
        have hw := (valid_kinds hv' j hj0 hj2).2
        split
        · rename_i hf
          rw [hf, Get_set_same e _ _ h0 h1, hW, tabI_get hj0 hj2, Int.zero_add, hf]
          rw [hf] at hw
          rw [width_meta p _ hw, mask_eq]
        · rename_i hf
          rw [Get_set_other e _ _ _ h0 h1 hf]
      · rw [table_Widths_eq, if_neg hv] at hj1
        simp at hj1
        omega
    · rw [hl, hl]
      simp only [decide_true, Bool.not_true, Bool.false_or, Bool.and_eq_true, decide_eq_true_eq, Bool.not_eq_true', decide_eq_false_iff_not, not_and, Decidable.not_not]
      intro hpos
      by_cases hv : table_valid p ((ix x2 0 % 16#32).toNat : Int) = true
      · rw [table_Widths_eq, if_pos hv, tabI_length]
      · rw [table_Widths_eq, if_neg hv] at hpos
        simp at hpos
end Go.Proofs.Ytklfdkbemkommaa
