/-
  The numbers of the cells, by the plain programs.
-/
import Derived.Test.YtepkgeppmjmkjaaKPure
set_option linter.unusedVariables false
set_option linter.unusedSimpArgs false
set_option maxRecDepth 100000
namespace Go.Proofs.Ytepkgeppmjmkjaa
open Go Go.Pb Go.RowKit
def hf (p : api_Program) (j : Int) : Int := ((ix p.Headers j).Fields.length : Int)
def nfs (p : api_Program) : Nat → Int
  | 0 => 0
  | n + 1 => nfs p n + hf p n
structure Fit (p : api_Program) : Prop where
  hh : p.Headers.length ≤ 16
  hm : p.Metadata.length ≤ 20
  hr : p.Registers.length ≤ 8
  hf : ∀ j : Int, 0 ≤ j → j < p.Headers.length → hf p j ≤ 20
theorem hf_0 (p : api_Program) (j : Int) : 0 ≤ hf p j := Int.natCast_nonneg _
theorem fit_of {p : api_Program} (h : law21_TooLarge p = false) : Fit p := by
  have k := tl h rfl
  exact ⟨k.1.1, k.1.2.1, k.1.2.2, fun j h0 h1 => by have := k.2 j h0 h1; simp only [hf]; omega⟩
section
variable {p : api_Program} (T : Fit p)
include T
theorem nfs_b : ∀ n : Nat, n ≤ p.Headers.length → 0 ≤ nfs p n ∧ nfs p n ≤ 20 * n
  | 0, _ => by simp [nfs]
  | n + 1, h => by
    have ih := nfs_b n (by omega)
    have h1 := T.hf n (by omega) (by omega)
    have h2 := hf_0 p n
    simp only [nfs]
    omega
omit T in
theorem nfs_le {m : Nat} : ∀ n : Nat, m ≤ n → nfs p m ≤ nfs p n
  | 0, h => by have : m = 0 := by omega
               subst this; exact Int.le_refl _
  | n + 1, h => by
    by_cases e : m = n + 1
    · subst e; exact Int.le_refl _
    · have ih := nfs_le n (show m ≤ n by omega)
      have h2 := hf_0 p n
      simp only [nfs]
      omega
omit T in
theorem wrs {x : Int} (h0 : -1000 ≤ x) (h1 : x ≤ 1000) : wr x = x := wr_of (by omega) (by omega)
def nf (p : api_Program) : Int := nfs p p.Headers.length
theorem nf_b : 0 ≤ nf p ∧ nf p ≤ 320 := by
  have := nfs_b T p.Headers.length (Nat.le_refl _)
  have h := T.hh
  simp only [nf]
  omega
theorem counts_L1 (K : List Int → List Int) (a b c : Int) : ∀ (m : Nat) (i : Int), m = Int.toNat ((p.Headers.length : Int) - i) → 0 ≤ i → i ≤ p.Headers.length → access_counts_L1 p K m i [nfs p i.toNat, a, b, c] = K [nf p, a, b, c]
  | 0, i, hm, h0, h1 => by
    have : i.toNat = p.Headers.length := by omega
    rw [access_counts_L1, this]; rfl
  | m + 1, i, hm, h0, h1 => by
    rw [access_counts_L1]
    have h2 := nfs_b T i.toNat (by omega)
    have h3 := T.hf i h0 (by omega)
    have h4 := hf_0 p i
    have hh := T.hh
    have e : ([nfs p i.toNat, a, b, c] : List Int).set (0 : Int).toNat (wr (ix ([nfs p i.toNat, a, b, c] : List Int) 0 + ((ix p.Headers i).Fields.length : Int))) = [nfs p (i + 1).toNat, a, b, c] := by
      have e1 : (i + 1).toNat = i.toNat + 1 := by omega
      have e2 : ix ([nfs p i.toNat, a, b, c] : List Int) 0 = nfs p i.toNat := rfl
      rw [e1, e2]
      show wr (nfs p i.toNat + hf p i) :: _ = _
      rw [wr_of (by omega) (by omega)]
      simp only [nfs]
      rw [show ((i.toNat : Nat) : Int) = i by omega]
    rw [e]
    exact counts_L1 K a b c m (i + 1) (by omega) (by omega) (by omega)
theorem counts_eq : access_counts p = [nf p, (p.Headers.length : Int), (p.Metadata.length : Int), (p.Registers.length : Int)] := by
  unfold access_counts
  exact counts_L1 T _ _ _ _ _ 0 rfl (by omega) (by omega)
theorem first_eq (k : Int) (hk : 0 ≤ k ∧ k ≤ 4) : access_first p k = if k = 0 then 0 else if k = 1 then nf p else if k = 2 then nf p + p.Headers.length else if k = 3 then nf p + p.Headers.length + p.Metadata.length else nf p + p.Headers.length + p.Metadata.length + p.Registers.length := by
  have hb := nf_b T
  have h1 := T.hh
  have h2 := T.hm
  have h3 := T.hr
  have key : ∀ a b c d : Int, (0 ≤ a ∧ a ≤ 320) → (0 ≤ b ∧ b ≤ 16) → (0 ≤ c ∧ c ≤ 20) → (0 ≤ d ∧ d ≤ 8) → access_first_L1 k [a, b, c, d] (fun x => x) 4 0 0 = if k = 0 then 0 else if k = 1 then a else if k = 2 then a + b else if k = 3 then a + b + c else a + b + c + d := by
    intro a b c d ha hb hc hd
    have hx : ix ([a, b, c, d] : List Int) 0 = a ∧ ix ([a, b, c, d] : List Int) 1 = b ∧ ix ([a, b, c, d] : List Int) 2 = c ∧ ix ([a, b, c, d] : List Int) 3 = d := ⟨rfl, rfl, rfl, rfl⟩
    have w1 : wr (0 + a) = a := by rw [wr_of (by omega) (by omega)]; omega
    have w2 : wr (a + b) = a + b := wr_of (by omega) (by omega)
    have w3 : wr (a + b + c) = a + b + c := wr_of (by omega) (by omega)
    have w4 : wr (a + b + c + d) = a + b + c + d := wr_of (by omega) (by omega)
    have : k = 0 ∨ k = 1 ∨ k = 2 ∨ k = 3 ∨ k = 4 := by omega
    rcases this with rfl | rfl | rfl | rfl | rfl <;> simp [access_first_L1, hx.1, hx.2.1, hx.2.2.1, hx.2.2.2, w1, w2, w3, w4, wr_of (n := a) (by omega) (by omega)]
  unfold access_first
  simp only [LET, counts_eq T]
  exact key _ _ _ _ hb (by omega) (by omega) (by omega)
theorem cell_eq (k i : Int) (hk : 0 ≤ k ∧ k ≤ 3) : access_cell p k i = if i < 0 ∨ ix [nf p, (p.Headers.length : Int), (p.Metadata.length : Int), (p.Registers.length : Int)] k ≤ i then -1 else access_first p k + i := by
  unfold access_cell
  simp only [LET, counts_eq T, Bool.or_eq_true, decide_eq_true_eq]
  split
  · rfl
  · rename_i hc
    simp only [not_or] at hc
    have hb := nf_b T
    have h1 := T.hh
    have h2 := T.hm
    have h3 := T.hr
    have hx : ix [nf p, (p.Headers.length : Int), (p.Metadata.length : Int), (p.Registers.length : Int)] k ≤ 320 := by
      have : k = 0 ∨ k = 1 ∨ k = 2 ∨ k = 3 := by omega
      rcases this with rfl | rfl | rfl | rfl
      · show nf p ≤ 320; omega
      · show (p.Headers.length : Int) ≤ 320; omega
      · show (p.Metadata.length : Int) ≤ 320; omega
      · show (p.Registers.length : Int) ≤ 320; omega
    have hf : 0 ≤ access_first p k ∧ access_first p k ≤ 400 := by
      rw [first_eq T k (by omega)]
      split
      · omega
      · split
        · omega
        · split
          · omega
          · split <;> omega
    exact wr_of (by omega) (by omega)
theorem valid_eq (h : Int) : access_ValidCell p h = if h < 0 ∨ (p.Headers.length : Int) ≤ h then -1 else nf p + h := by
  unfold access_ValidCell
  simp only [LET, cell_eq T 1 h (by omega), first_eq T 1 (by omega)]
  rfl
theorem reg_eq (r : Int) : access_RegisterCell p r = if r < 0 ∨ (p.Registers.length : Int) ≤ r then -1 else nf p + p.Headers.length + p.Metadata.length + r := by
  unfold access_RegisterCell
  simp only [LET, cell_eq T 3 r (by omega), first_eq T 3 (by omega)]
  rfl
theorem cells_eq : access_Cells p = nf p + p.Headers.length + p.Metadata.length + p.Registers.length := by
  unfold access_Cells
  simp only [LET, first_eq T 4 (by omega)]
  simp
omit T in
theorem ix_sub {α : Type} [Inhabited α] (l : List α) (b i : Int) (h0 : 0 ≤ i) (h1 : i < b) : ix (sub l 0 b) i = ix l i := by
  simp only [ix, sub, Int.toNat_zero, List.drop_zero, Nat.sub_zero, List.getD_eq_getElem?_getD]
  rw [List.getElem?_take_of_lt (by omega)]
theorem field_L1 (r : api_FieldRef) (K : Int → Int) (h0 : 0 ≤ r.Header) (h1 : r.Header < p.Headers.length) (f0 : 0 ≤ r.Field) (f1 : r.Field < hf p r.Header) : ∀ (m : Nat) (i : Int), m = Int.toNat (r.Header - i) → 0 ≤ i → i ≤ r.Header → access_FieldCell_L1 p r K m (r.Field + nfs p i.toNat) i = K (r.Field + nfs p r.Header.toNat)
  | 0, i, hm, h2, h3 => by
    have : i = r.Header := by omega
    subst this
    rw [access_FieldCell_L1]
  | m + 1, i, hm, h2, h3 => by
    rw [access_FieldCell_L1, ix_sub p.Headers r.Header i h2 (by omega)]
    have b := nfs_b T i.toNat (by omega)
    have h4 := T.hf i h2 (by omega)
    have h5 := hf_0 p i
    have h6 := T.hf r.Header h0 h1
    have hh := T.hh
    have e : wr (r.Field + nfs p i.toNat + ((ix p.Headers i).Fields.length : Int)) = r.Field + nfs p (i + 1).toNat := by
      have e1 : (i + 1).toNat = i.toNat + 1 := by omega
      show wr (r.Field + nfs p i.toNat + hf p i) = _
      rw [wr_of (by omega) (by omega), e1]
      simp only [nfs]
      rw [show ((i.toNat : Nat) : Int) = i by omega]
      omega
    rw [e]
    exact field_L1 r K h0 h1 f0 f1 m (i + 1) (by omega) (by omega) (by omega)
theorem field_eq (r : api_FieldRef) : access_FieldCell p r = if r.Header = -1 then (if r.Field < 0 ∨ (p.Metadata.length : Int) ≤ r.Field then -1 else nf p + p.Headers.length + r.Field) else if r.Header < 0 ∨ (p.Headers.length : Int) ≤ r.Header ∨ r.Field < 0 ∨ hf p r.Header ≤ r.Field then -1 else r.Field + nfs p r.Header.toNat := by
  unfold access_FieldCell
  simp only [LET, decide_eq_true_eq, Bool.or_eq_true, cell_eq T 2 r.Field (by omega), first_eq T 2 (by omega)]
  split
  · rfl
  · split
    · rename_i h
      rw [if_pos]
      simp only [hf]
      rcases h with ((h | h) | h) | h <;> omega
    · rename_i h
      have h' : ¬(r.Header < 0 ∨ (p.Headers.length : Int) ≤ r.Header ∨ r.Field < 0 ∨ hf p r.Header ≤ r.Field) := by
        simp only [hf]; omega
      rw [if_neg h']
      simp only [not_or, Int.not_lt, Int.not_le] at h'
      have hl := sub_len (l := p.Headers) (a := 0) (b := r.Header) (by omega) (by omega) (by omega)
      have := field_L1 T r (fun x => x) (by omega) (by omega) (by omega) (by omega) (Int.toNat (((sub p.Headers 0 r.Header).length : Int) - 0)) 0 (by omega) (by omega) (by omega)
      simpa [nfs] using this
end
end Go.Proofs.Ytepkgeppmjmkjaa
