/-
  Facts of the plain programs that the walks need.
-/
import Derived.Test.YtepkgeppmjmkjaaGreatKDef
import Derived.Test.YtepkgeppmjmkjaaGreatPbP
set_option linter.unusedVariables false
set_option linter.unusedSimpArgs false
set_option maxRecDepth 100000
namespace Go.Proofs.YtepkgeppmjmkjaaGreat
open Go Go.Pb Go.RowKit
theorem bitvec_valid_one (w : Int) : bitvec_valid [w] = decide (1 ≤ w ∧ w ≤ 32) := by
  have h : ix [w] 0 = w := rfl
  unfold bitvec_valid
  rw [show Int.toNat ((([w] : List Int).length : Int) - 0) = 0 + 1 from rfl, bitvec_valid_L1, h, bitvec_valid_L1]
  by_cases h1 : w < 1
  · have : ¬(1 ≤ w ∧ w ≤ 32) := by omega
    simp [h1, this]
  · by_cases h2 : 32 < w
    · have : ¬(1 ≤ w ∧ w ≤ 32) := by omega
      simp [h2, this]
    · have : (1 ≤ w ∧ w ≤ 32) := by omega
      simp [h1, h2, this]
theorem mask_sh {w : Int} {b : Bool} (h : bitvec_valid [w] = b) (h2 : b = true) : 0 ≤ wr (32 - w) := by
  rw [bitvec_valid_one, h2] at h
  have h := of_decide_eq_true h
  rw [wr_of (by omega) (by omega)]; omega

theorem small_hdr {h : api_Header} (e : ref11_Small h = true) : h.Fields.length ≤ 20 := by
  unfold ref11_Small at e
  split at e
  · cases e
  · rename_i hc
    simp only [Bool.or_eq_true, decide_eq_true_eq, not_or] at hc
    omega
theorem tl_L1 {p : api_Program} {K : Unit → Bool} : ∀ (m : Nat) (i : Int), m = Int.toNat ((p.Headers.length : Int) - i) → law21_TooLarge_L1 p K m i = false → ∀ j, i ≤ j → j < p.Headers.length → (ix p.Headers j).Fields.length ≤ 20
  | 0, i, hm, _, j, h1, h2 => by omega
  | m + 1, i, hm, h, j, h1, h2 => by
    rw [law21_TooLarge_L1] at h
    simp only [LET] at h
    split at h
    · cases h
    · rename_i hc
      by_cases e : j = i
      · subst e; exact small_hdr (by simpa using hc)
      · exact tl_L1 m (i + 1) (by omega) h j (by omega) h2
theorem tl {p : api_Program} {b : Bool} (h : law21_TooLarge p = b) (hb : b = false) : (p.Headers.length ≤ 16 ∧ p.Metadata.length ≤ 20 ∧ p.Registers.length ≤ 8) ∧ ∀ j : Int, 0 ≤ j → j < p.Headers.length → (ix p.Headers j).Fields.length ≤ 20 := by
  subst hb
  unfold law21_TooLarge at h
  split at h
  · cases h
  · rename_i hc
    simp only [Bool.or_eq_true, decide_eq_true_eq, not_or] at hc
    exact ⟨by omega, fun j h0 h1 => tl_L1 _ 0 rfl h j h0 h1⟩
end Go.Proofs.YtepkgeppmjmkjaaGreat
