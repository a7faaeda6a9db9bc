/-
  Facts of the plain programs that the walks need.
-/
import Derived.Test.YtepkgeppmjmkjaaKDef
import Derived.Test.YtepkgeppmjmkjaaPbP
set_option linter.unusedVariables false
set_option linter.unusedSimpArgs false
set_option maxRecDepth 100000
namespace Go.Proofs.Ytepkgeppmjmkjaa
open Go Go.Pb Go.RowKit
theorem small_hdr {h : api_Header} (e : ref11_Small h = true) : h.Fields.length ≤ 20 := by
  unfold ref11_Small at e
  split at e
  · cases e
  · rename_i hc
    simp only [Bool.or_eq_true, decide_eq_true_eq, not_or] at hc
    omega
theorem tl_L1 {p : api_Program} {K : Unit → Bool} : ∀ (m : Nat) (i : Int), m = Int.toNat ((p.Headers.length : Int) - i) → law21_TooLarge_L1 p K m i = false → ∀ j, i ≤ j → j < p.Headers.length → (ix p.Headers j).Fields.length ≤ 20
  | 0, i, hm, _, j, h1, h2 => by omega
  | m + 1, i, hm, h, j, h1, h2 => by
    rw [law21_TooLarge_L1] at h
    simp only [LET] at h
    split at h
    · cases h
    · rename_i hc
      by_cases e : j = i
      · subst e; exact small_hdr (by simpa using hc)
      · exact tl_L1 m (i + 1) (by omega) h j (by omega) h2
theorem tl {p : api_Program} {b : Bool} (h : law21_TooLarge p = b) (hb : b = false) : (p.Headers.length ≤ 16 ∧ p.Metadata.length ≤ 20 ∧ p.Registers.length ≤ 8) ∧ ∀ j : Int, 0 ≤ j → j < p.Headers.length → (ix p.Headers j).Fields.length ≤ 20 := by
  subst hb
  unfold law21_TooLarge at h
  split at h
  · cases h
  · rename_i hc
    simp only [Bool.or_eq_true, decide_eq_true_eq, not_or] at hc
    exact ⟨by omega, fun j h0 h1 => tl_L1 _ 0 rfl h j h0 h1⟩
end Go.Proofs.Ytepkgeppmjmkjaa
