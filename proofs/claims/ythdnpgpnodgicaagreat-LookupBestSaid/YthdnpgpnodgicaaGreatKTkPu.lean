/-
  Hand-written texts in one.
-/
import Derived.Test.YthdnpgpnodgicaaGreatKDef
import Derived.Test.YthdnpgpnodgicaaGreatPbP
import Derived.KernelRfl
set_option linter.unusedVariables false
set_option linter.unusedSimpArgs false
set_option maxRecDepth 100000
namespace Go.Proofs.YthdnpgpnodgicaaGreat
open Go Go.Pb Go.RowKit
def SR (r : api_Row) : Prop := r.Entry.Keys.length ≤ 20 ∧ r.Entry.Call.Args.length ≤ 20
theorem tl_L1 {x : law24_Case} : ∀ (m : Nat) (i : Int), m = Int.toNat ((x.Rows.length : Int) - i) → law24_tooLarge_L1 x (fun _ => false) m i = false → ∀ j : Int, i ≤ j → j < x.Rows.length → SR (ix x.Rows j)
  | 0, i, hm, h, j, h1, h2 => by omega
  | m + 1, i, hm, h, j, h1, h2 => by
    rw [law24_tooLarge_L1] at h
    split at h
    · cases h
    · rename_i hc
      simp only [Bool.or_eq_true, decide_eq_true_eq, not_or] at hc
      by_cases e : j = i
      · subst e; exact ⟨by omega, by omega⟩
      · exact tl_L1 m (i + 1) (by omega) h j (by omega) h2
theorem tl {x : law24_Case} {y : Bool} (h : law24_tooLarge x = y) (hy : y = false) : ∀ r ∈ x.Rows, SR r := by
  subst hy
  unfold law24_tooLarge at h
  simp only [LET] at h
  split at h
  · cases h
  · intro r hr
    obtain ⟨k, hk, rfl⟩ := List.getElem_of_mem hr
    have := tl_L1 _ 0 rfl h (k : Int) (by omega) (by omega)
    rwa [ix_lt (by omega) (by omega)] at this

theorem em_len {a : api_Entry} {k : List (BitVec 32)} {b : Bool} (h : entry_Matches a k = b) (hb : b = true) : k.length = a.Keys.length := by
  subst hb
  unfold entry_Matches at h
  split at h
  · cases h
  · rename_i hc
    simp only [Bool.not_eq_true', decide_eq_false_iff_not, Decidable.not_not] at hc
    omega

/-- The map holds what came before. -/
def Seen (l : List Int) (i : Int) (z : List (Int × Bool)) : Prop := ∀ a, (mget z a).getD false = true ↔ ∃ j, 0 ≤ j ∧ j < i ∧ ix l j = a
theorem Seen.step {l : List Int} {i : Int} {z : List (Int × Bool)} (h : Seen l i z) (h0 : 0 ≤ i) : Seen l (i + 1) (mput z (ix l i) true) := fun a => by
  rw [mget_mput]
  by_cases e : ix l i = a
  · simp only [e, if_true, Option.getD_some, true_iff]
    exact ⟨i, h0, by omega, e⟩
  · simp only [e, if_false]
    rw [h a]
    constructor
    · rintro ⟨j, h1, h2, h3⟩; exact ⟨j, h1, by omega, h3⟩
    · rintro ⟨j, h1, h2, h3⟩
      have : j ≠ i := fun hj => e (by rw [← hj]; exact h3)
      exact ⟨j, h1, by omega, h3⟩

theorem Matches_L1_eq (x : api_Entry) (k : List (BitVec 32)) (K : Unit → Bool) : ∀ (m : Nat) (i : Int), entry_Matches_L1 x k K m i = ref23_Matches_L1 x k K m i
  | 0, i => rfl
  | m + 1, i => by simp only [entry_Matches_L1, ref23_Matches_L1, Matches_L1_eq x k K m]
theorem Matches_eq (x : api_Entry) (k : List (BitVec 32)) : entry_Matches x k = ref23_Matches x k := by
  simp only [entry_Matches, ref23_Matches, Matches_L1_eq]
  by_cases h : k.length = x.Keys.length
  · simp [h]
  · have h1 : ¬((k.length : Int) = x.Keys.length) := by omega
    have h2 : ¬((x.Keys.length : Int) = k.length) := by omega
    simp [h1, h2]
theorem OnesCount_L1_eq (x : BitVec 32) (K : Int → Int) : ∀ (m : Nat) (y : BitVec 32) (n i : Int), 0 ≤ i → y = x >>> i.toNat → bitvec_OnesCount_L1 x K m n i = ref01_OnesCount_L1 K m y n i
  | 0, y, n, i, _, _ => rfl
  | m + 1, y, n, i, h0, hy => by
    simp only [bitvec_OnesCount_L1, ref01_OnesCount_L1]
    have e1 : (x >>> i.toNat &&& 1#32).toNat = (y % 2#32).toNat := by
      rw [hy, BitVec.toNat_and, BitVec.toNat_umod]
      exact Nat.and_one_is_mod _
    have e2 : y / 2#32 = x >>> (i + 1).toNat := by
      apply BitVec.eq_of_toNat_eq
      rw [hy, BitVec.toNat_udiv, BitVec.toNat_ushiftRight, BitVec.toNat_ushiftRight, show (i + 1).toNat = i.toNat + 1 by omega, Nat.shiftRight_succ]
      rfl
    rw [e1, OnesCount_L1_eq x K m (y / 2#32) _ (i + 1) (by omega) e2]
theorem OnesCount_eq (x : BitVec 32) : bitvec_OnesCount x = ref01_OnesCount x := by
  simp only [bitvec_OnesCount, ref01_OnesCount]
  exact OnesCount_L1_eq x _ _ x 0 0 (by omega) (by simp)
theorem prefix_L1_eq (p : api_Program) (t : Int) (x : api_Entry) (K : Unit → Int) : ∀ (m : Nat) (i : Int), entry_prefix_L1 p t x K m i = ref23_prefixBits_L1 p t x K m i
  | 0, i => rfl
  | m + 1, i => by
    simp only [entry_prefix_L1, ref23_prefixBits_L1, LET, OnesCount_eq, prefix_L1_eq p t x K m]
    split
    · by_cases h : i < x.Keys.length
      · have h2 : ¬((x.Keys.length : Int) ≤ i) := by omega
        simp [h, h2]
      · have h2 : (x.Keys.length : Int) ≤ i := by omega
        simp [h, h2]
    · rfl
theorem prefix_eq (p : api_Program) (t : Int) (x : api_Entry) : entry_prefix p t x = ref23_prefixBits p t x := by
  simp only [entry_prefix, ref23_prefixBits, prefix_L1_eq]
theorem Precedes_eq (p : api_Program) (t : Int) (a b : api_Row) : entry_Precedes p t a b = ref23_Precedes p t a b := by
  simp only [entry_Precedes, ref23_Precedes, LET, prefix_eq]
end Go.Proofs.YthdnpgpnodgicaaGreat
