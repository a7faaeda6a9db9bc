/-
  The plain law of AccessCells.
-/
import Derived.Test.YtepkgeppmjmkjaaGreatKCells
set_option linter.unusedVariables false
set_option linter.unusedSimpArgs false
set_option maxRecDepth 100000
namespace Go.Proofs.YtepkgeppmjmkjaaGreat
open Go Go.Pb Go.RowKit
theorem mask_tab : ∀ n : Fin 33, 1 ≤ n.val → bitvec_Mask (n.val : Int) ≠ 0#32 := by decide +kernel
theorem mask_zero (w : Int) : bitvec_Mask w = 0#32 ↔ ¬(1 ≤ w ∧ w ≤ 32) := by
  constructor
  · intro h hw
    have := mask_tab ⟨w.toNat, by omega⟩ (by simp only; omega)
    simp only at this
    rw [show ((w.toNat : Nat) : Int) = w by omega] at this
    exact this h
  · intro h
    have h1 : bitvec_valid [w] = false := by rw [bitvec_valid_one]; simpa using h
    simp [bitvec_Mask, LET, h1]
theorem width_eq (p : api_Program) (r : api_FieldRef) : env_Width p r = ref12_Width p r := by
  have key : ∀ l : List api_Field, (if bitvec_Mask (env_at_api_Field l r.Field).Width = 0#32 then 0 else (env_at_api_Field l r.Field).Width) = if r.Field < 0 ∨ (l.length : Int) ≤ r.Field ∨ (ix l r.Field).Width < 1 ∨ 32 < (ix l r.Field).Width then 0 else (ix l r.Field).Width := by
    intro l
    unfold env_at_api_Field
    simp only [Bool.or_eq_true, decide_eq_true_eq]
    have m0 : bitvec_Mask 0 = 0#32 := (mask_zero 0).2 (by omega)
    by_cases h : r.Field < 0 ∨ (l.length : Int) ≤ r.Field
    · rw [if_pos h]
      simp only [m0, if_true]
      rw [if_pos (by omega)]
    · rw [if_neg h]
      simp only [not_or] at h
      by_cases hw : 1 ≤ (ix l r.Field).Width ∧ (ix l r.Field).Width ≤ 32
      · rw [if_neg (by rw [mask_zero]; simpa using hw), if_neg (by omega)]
      · rw [if_pos (by rw [mask_zero]; exact hw), if_pos (by omega)]
  unfold env_Width ref12_Width env_fields
  simp only [LET, decide_eq_true_eq, Bool.or_eq_true]
  by_cases hm : r.Header = -1
  · simp only [if_pos hm, key]
    repeat' split
    all_goals first | rfl | omega
  · simp only [if_neg hm, key]
    by_cases h : r.Header < 0 ∨ (p.Headers.length : Int) ≤ r.Header
    · have eh : env_at_api_Header p.Headers r.Header = { Name := [], Fields := [] } := by
        unfold env_at_api_Header
        simp only [Bool.or_eq_true, decide_eq_true_eq]
        exact if_pos h
      rw [eh]
      simp only [List.length_nil]
      repeat' split
      all_goals first | rfl | omega
    · have eh : env_at_api_Header p.Headers r.Header = ix p.Headers r.Header := by
        unfold env_at_api_Header
        simp only [Bool.or_eq_true, decide_eq_true_eq]
        exact if_neg h
      rw [eh]
      repeat' split
      all_goals first | rfl | omega
section
variable {p : api_Program} (T : Fit p)
include T
theorem fields_L1 (K : Int → Int) (h : Int) (h1 : h ≤ p.Headers.length) : ∀ (m : Nat) (i : Int), m = Int.toNat (h - i) → 0 ≤ i → i ≤ h → ref31_fields_L1 p K m (nfs p i.toNat) i = K (nfs p h.toNat)
  | 0, i, hm, h2, h3 => by
    have : i = h := by omega
    subst this
    rw [ref31_fields_L1]
  | m + 1, i, hm, h2, h3 => by
    rw [ref31_fields_L1]
    have b := nfs_b T i.toNat (by omega)
    have h4 := T.hf i h2 (by omega)
    have h5 := hf_0 p i
    have hh := T.hh
    have e : wr (nfs p i.toNat + ((ix p.Headers i).Fields.length : Int)) = nfs p (i + 1).toNat := by
      have e1 : (i + 1).toNat = i.toNat + 1 := by omega
      show wr (nfs p i.toNat + hf p i) = _
      rw [wr_of (by omega) (by omega), e1]
      simp only [nfs]
      rw [show ((i.toNat : Nat) : Int) = i by omega]
    rw [e]
    exact fields_L1 K h h1 m (i + 1) (by omega) (by omega) (by omega)
theorem fields_eq (h : Int) (h0 : 0 ≤ h) (h1 : h ≤ p.Headers.length) : ref31_fields p h = nfs p h.toNat := by
  unfold ref31_fields
  have := fields_L1 T (fun x => x) h h1 (Int.toNat (h - 0)) 0 rfl (by omega) h0
  simpa [nfs] using this
theorem fields_all : ref31_fields p (p.Headers.length : Int) = nf p := by
  rw [fields_eq T _ (by omega) (by omega)]
  rfl
theorem rvalid_eq (h : Int) : ref31_ValidCell p h = if h < 0 ∨ (p.Headers.length : Int) ≤ h then -1 else nf p + h := by
  unfold ref31_ValidCell
  simp only [LET, fields_all T, Bool.or_eq_true, decide_eq_true_eq]
  have := nf_b T
  have := T.hh
  split
  · rfl
  · exact wr_of (by omega) (by omega)
theorem rreg_eq (r : Int) : ref31_RegisterCell p r = if r < 0 ∨ (p.Registers.length : Int) ≤ r then -1 else nf p + p.Headers.length + p.Metadata.length + r := by
  unfold ref31_RegisterCell
  simp only [LET, fields_all T, Bool.or_eq_true, decide_eq_true_eq]
  have := nf_b T
  have := T.hh
  have := T.hm
  have := T.hr
  split
  · rfl
  · rw [wr_of (n := nf p + p.Headers.length) (by omega) (by omega), wr_of (n := nf p + p.Headers.length + p.Metadata.length) (by omega) (by omega)]
    exact wr_of (by omega) (by omega)
theorem rcells_eq : ref31_Cells p = nf p + p.Headers.length + p.Metadata.length + p.Registers.length := by
  unfold ref31_Cells
  simp only [LET, fields_all T]
  have := nf_b T
  have := T.hh
  have := T.hm
  have := T.hr
  rw [wr_of (n := nf p + p.Headers.length) (by omega) (by omega), wr_of (n := nf p + p.Headers.length + p.Metadata.length) (by omega) (by omega)]
  exact wr_of (by omega) (by omega)
theorem rfield_eq (r : api_FieldRef) : ref31_FieldCell p r = access_FieldCell p r := by
  rw [field_eq T]
  unfold ref31_FieldCell
  simp only [LET, fields_all T, Bool.or_eq_true, Bool.and_eq_true, decide_eq_true_eq]
  have b := nf_b T
  have := T.hh
  have := T.hm
  by_cases hm : r.Header = -1
  · rw [if_pos hm]
    by_cases hf : 0 ≤ r.Field ∧ r.Field < (p.Metadata.length : Int)
    · rw [if_pos ⟨⟨hm, hf.1⟩, hf.2⟩, if_neg (by omega), wr_of (n := nf p + p.Headers.length) (by omega) (by omega)]
      exact wr_of (by omega) (by omega)
    · rw [if_neg (fun h => hf ⟨h.1.2, h.2⟩), if_pos (.inl (.inl (.inl (by omega)))), if_pos (by omega)]
  · rw [if_neg (fun h => hm h.1.1), if_neg hm]
    by_cases hc : r.Header < 0 ∨ (p.Headers.length : Int) ≤ r.Header ∨ r.Field < 0 ∨ hf p r.Header ≤ r.Field
    · rw [if_pos hc, if_pos (by simp only [hf] at hc; omega)]
    · rw [if_neg hc, if_neg (by simp only [hf] at hc; omega)]
      simp only [not_or, Int.not_lt, Int.not_le] at hc
      rw [fields_eq T _ (by omega) (by omega)]
      have b2 := nfs_b T r.Header.toNat (by omega)
      have b3 := T.hf r.Header (by omega) (by omega)
      rw [wr_of (by omega) (by omega)]
      omega
-- the width of a cell
omit T in
theorem below (j : Int) (h0 : 0 ≤ j) (h1 : j < p.Headers.length) : nfs p (j + 1).toNat = nfs p j.toNat + hf p j ∧ nfs p (j + 1).toNat ≤ nf p := by
  have e1 : (j + 1).toNat = j.toNat + 1 := by omega
  have e2 : ((j.toNat : Nat) : Int) = j := by omega
  refine ⟨by rw [e1]; simp only [nfs]; rw [e2], ?_⟩
  exact nfs_le (p := p) _ (by omega)
theorem inner_none (c j : Int) (K : Unit → Int) (h0 : 0 ≤ j) (h1 : j < p.Headers.length) : ∀ (m : Nat) (f : Int), m = Int.toNat (hf p j - f) → 0 ≤ f → (c < nfs p j.toNat + f ∨ nfs p j.toNat + hf p j ≤ c) → ref31_CellWidth_L2 p c j K m f = K ()
  | 0, f, hm, h2, h3 => by rw [ref31_CellWidth_L2]
  | m + 1, f, hm, h2, h3 => by
    rw [ref31_CellWidth_L2]
    simp only [LET, rfield_eq T, field_eq T, decide_eq_true_eq]
    rw [if_neg (show ¬(j = -1) by omega), if_neg (show ¬(j < 0 ∨ (p.Headers.length : Int) ≤ j ∨ f < 0 ∨ hf p j ≤ f) by omega), if_neg (by omega)]
    exact inner_none c j K h0 h1 m (f + 1) (by omega) (by omega) (by omega)
theorem inner_hit (c j : Int) (K : Unit → Int) (h0 : 0 ≤ j) (h1 : j < p.Headers.length) (h4 : c < nfs p j.toNat + hf p j) : ∀ (m : Nat) (f : Int), m = Int.toNat (hf p j - f) → 0 ≤ f → nfs p j.toNat + f ≤ c → ref31_CellWidth_L2 p c j K m f = ref12_Width p ⟨j, c - nfs p j.toNat⟩
  | 0, f, hm, h2, h3 => by omega
  | m + 1, f, hm, h2, h3 => by
    rw [ref31_CellWidth_L2]
    simp only [LET, rfield_eq T, field_eq T, decide_eq_true_eq]
    rw [if_neg (show ¬(j = -1) by omega), if_neg (show ¬(j < 0 ∨ (p.Headers.length : Int) ≤ j ∨ f < 0 ∨ hf p j ≤ f) by omega)]
    split
    · rename_i e
      rw [show c - nfs p j.toNat = f by omega]
    · exact inner_hit c j K h0 h1 h4 m (f + 1) (by omega) (by omega) (by omega)
theorem outer_valid (c : Int) (K : Unit → Int) (hc : nf p ≤ c ∧ c < nf p + p.Headers.length) : ∀ (m : Nat) (j : Int), m = Int.toNat ((p.Headers.length : Int) - j) → 0 ≤ j → nf p + j ≤ c → ref31_CellWidth_L1 p c K m j = 1
  | 0, j, hm, h0, h1 => by omega
  | m + 1, j, hm, h0, h1 => by
    rw [ref31_CellWidth_L1]
    simp only [LET, rvalid_eq T, decide_eq_true_eq]
    rw [if_neg (show ¬(j < 0 ∨ (p.Headers.length : Int) ≤ j) by omega)]
    split
    · rfl
    · have b := below (p := p) j h0 (by omega)
      rw [inner_none T c j _ h0 (by omega) _ 0 (by simp [hf]) (by omega) (by omega)]
      exact outer_valid c K hc m (j + 1) (by omega) (by omega) (by omega)
theorem outer_none (c : Int) (K : Unit → Int) (hc : c < 0 ∨ nf p + p.Headers.length ≤ c) : ∀ (m : Nat) (j : Int), m = Int.toNat ((p.Headers.length : Int) - j) → 0 ≤ j → ref31_CellWidth_L1 p c K m j = K ()
  | 0, j, hm, h0 => by rw [ref31_CellWidth_L1]
  | m + 1, j, hm, h0 => by
    rw [ref31_CellWidth_L1]
    simp only [LET, rvalid_eq T, decide_eq_true_eq]
    have nb := nf_b T
    rw [if_neg (show ¬(j < 0 ∨ (p.Headers.length : Int) ≤ j) by omega), if_neg (by omega)]
    have b := below (p := p) j h0 (by omega)
    have b2 := nfs_b T j.toNat (by omega)
    rw [inner_none T c j _ h0 (by omega) _ 0 (by simp [hf]) (by omega) (by omega)]
    exact outer_none c K hc m (j + 1) (by omega) (by omega)
theorem outer_field (c : Int) (K K' : Unit → Int) (hc : c < nf p) : ∀ (m : Nat) (j : Int), m = Int.toNat ((p.Headers.length : Int) - j) → 0 ≤ j → j ≤ p.Headers.length → nfs p j.toNat ≤ c → ref31_CellWidth_L1 p c K m j = access_CellWidth_L1 p K' m (c - nfs p j.toNat) j
  | 0, j, hm, h0, h1, h2 => by
    have : j.toNat = p.Headers.length := by omega
    rw [this] at h2
    have : nf p = nfs p p.Headers.length := rfl
    omega
  | m + 1, j, hm, h0, h1, h2 => by
    rw [ref31_CellWidth_L1, access_CellWidth_L1]
    have b := below (p := p) j h0 (by omega)
    have b2 := nfs_b T j.toNat (by omega)
    have b3 := T.hf j h0 (by omega)
    have b4 := hf_0 p j
    have b5 := nf_b T
    have hh := T.hh
    simp only [LET, rvalid_eq T, decide_eq_true_eq]
    rw [if_neg (show ¬(j < 0 ∨ (p.Headers.length : Int) ≤ j) by omega), if_neg (show ¬(c = nf p + j) by omega)]
    by_cases h3 : c - nfs p j.toNat < ((ix p.Headers j).Fields.length : Int)
    · have h3' : c - nfs p j.toNat < hf p j := h3
      rw [if_pos h3, inner_hit T c j _ h0 (by omega) (by omega) _ 0 (by simp [hf]) (by omega) (by omega), width_eq]
    · have h3' : ¬ c - nfs p j.toNat < hf p j := h3
      rw [if_neg h3, inner_none T c j _ h0 (by omega) _ 0 (by simp [hf]) (by omega) (by omega)]
      have e : wr (c - nfs p j.toNat - ((ix p.Headers j).Fields.length : Int)) = c - nfs p (j + 1).toNat := by
        show wr (c - nfs p j.toNat - hf p j) = _
        rw [wr_of (by omega) (by omega)]; omega
      rw [e]
      exact outer_field c K K' hc m (j + 1) (by omega) (by omega) (by omega) (by omega)
theorem meta_hit (c : Int) (K : Unit → Int) (hc : c < nf p + p.Headers.length + p.Metadata.length) : ∀ (m : Nat) (f : Int), m = Int.toNat ((p.Metadata.length : Int) - f) → 0 ≤ f → nf p + p.Headers.length + f ≤ c → ref31_CellWidth_L3 p c K m f = ref12_Width p ⟨-1, c - (nf p + p.Headers.length)⟩
  | 0, f, hm, h0, h1 => by omega
  | m + 1, f, hm, h0, h1 => by
    rw [ref31_CellWidth_L3]
    simp only [LET, rfield_eq T, field_eq T, decide_eq_true_eq]
    rw [if_pos trivial, if_neg (show ¬(f < 0 ∨ (p.Metadata.length : Int) ≤ f) by omega)]
    split
    · rw [show c - (nf p + p.Headers.length) = f by omega]
    · exact meta_hit c K hc m (f + 1) (by omega) (by omega) (by omega)
theorem meta_none (c : Int) (K : Unit → Int) (hc : c < 0 ∨ nf p + p.Headers.length + p.Metadata.length ≤ c) : ∀ (m : Nat) (f : Int), m = Int.toNat ((p.Metadata.length : Int) - f) → 0 ≤ f → ref31_CellWidth_L3 p c K m f = K ()
  | 0, f, hm, h0 => by rw [ref31_CellWidth_L3]
  | m + 1, f, hm, h0 => by
    rw [ref31_CellWidth_L3]
    simp only [LET, rfield_eq T, field_eq T, decide_eq_true_eq]
    have b := nf_b T
    rw [if_pos trivial, if_neg (show ¬(f < 0 ∨ (p.Metadata.length : Int) ≤ f) by omega), if_neg (by omega)]
    exact meta_none c K hc m (f + 1) (by omega) (by omega)
theorem cwidth_eq (c : Int) : access_CellWidth p c = ref31_CellWidth p c := by
  have b := nf_b T
  have hh := T.hh
  have hm := T.hm
  unfold access_CellWidth ref31_CellWidth
  simp only [LET, first_eq T 3 (by omega), first_eq T 2 (by omega), first_eq T 1 (by omega), Bool.or_eq_true, decide_eq_true_eq]
  simp only [show ¬((3 : Int) = 0) by omega, show ¬((3 : Int) = 1) by omega, show ¬((3 : Int) = 2) by omega, show ¬((2 : Int) = 0) by omega, show ¬((2 : Int) = 1) by omega, show ¬((1 : Int) = 0) by omega, if_true, if_false]
  by_cases h1 : c < 0 ∨ nf p + p.Headers.length + p.Metadata.length ≤ c
  · rw [if_pos h1, outer_none T c _ (by omega) _ 0 (by omega) (by omega), meta_none T c _ h1 _ 0 (by omega) (by omega)]
  · rw [if_neg h1]
    simp only [not_or] at h1
    by_cases h2 : nf p + p.Headers.length ≤ c
    · rw [if_pos h2, outer_none T c _ (by omega) _ 0 (by omega) (by omega), meta_hit T c _ (by omega) _ 0 (by omega) (by omega) (by omega), width_eq, wr_of (by omega) (by omega)]
    · rw [if_neg h2]
      by_cases h3 : nf p ≤ c
      · rw [if_pos h3, outer_valid T c _ ⟨h3, by omega⟩ _ 0 (by omega) (by omega) (by omega)]
      · rw [if_neg h3]
        have := outer_field T c (fun _ => ref31_CellWidth_L3 p c (fun _ => 0) (Int.toNat ((p.Metadata.length : Int) - 0)) 0) (fun _ => 0) (by omega) (Int.toNat ((p.Headers.length : Int) - 0)) 0 rfl (by omega) (by omega) (by simp [nfs]; omega)
        rw [this]
        simp [nfs]
end
theorem AccessCells_law (p : api_Program) (q : law31_Query) : law31_AccessCells p q = true := by
  unfold law31_AccessCells
  simp only [LET]
  cases ht : law21_TooLarge p with
  | true => rfl
  | false =>
    have T := fit_of ht
    simp [cells_eq T, rcells_eq T, rfield_eq T, valid_eq T, rvalid_eq T, reg_eq T, rreg_eq T, cwidth_eq T, law31_works]
end Go.Proofs.YtepkgeppmjmkjaaGreat
