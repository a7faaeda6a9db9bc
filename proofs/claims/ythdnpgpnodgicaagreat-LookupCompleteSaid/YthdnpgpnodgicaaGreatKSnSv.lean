import Derived.Test.YthdnpgpnodgicaaGreatKFzSp
import Derived.Test.YthdnpgpnodgicaaGreatKSqSr
import Derived.Test.YthdnpgpnodgicaaGreatKSh
set_option linter.unusedVariables false
set_option linter.unusedSimpArgs false
set_option maxRecDepth 100000
namespace Go.Proofs.YthdnpgpnodgicaaGreat
open Go Go.Pb Go.RowKit
theorem ck7 : ∀ (m n : Nat) (K : BitVec 64 → Bool), sk K m (BitVec.ofNat 64 (2 ^ n)) (n : Int) = K (BitVec.ofNat 64 (2 ^ (n + m)))
 | 0, n, K => rfl
 | m + 1, n, K => by
   rw [sk]
   have e : 2#64 * BitVec.ofNat 64 (2 ^ n) = BitVec.ofNat 64 (2 ^ (n + 1)) := by
    apply BitVec.eq_of_toNat_eq
    simp only [BitVec.toNat_mul, BitVec.toNat_ofNat, Nat.pow_succ]
    rw [← Nat.mul_mod]
    congr 1
    omega
   rw [e, show ((n : Int) + 1) = ((n + 1 : Nat) : Int) by omega, ck7 m (n + 1) K, show n + 1 + m = n + (m + 1) by omega]
theorem de2 {v : BitVec 32} {w : Int} (h : 1 ≤ w ∧ w ≤ 32) : ww v w = decide (v.toNat < 2 ^ w.toNat) := by
 unfold ww
 have := ck7 (Int.toNat (w - 0)) 0 (fun x => decide ((BitVec.setWidth 64 v) < x))
 rw [show BitVec.ofNat 64 (2 ^ 0) = 1#64 by rfl, show ((0 : Nat) : Int) = 0 by rfl] at this
 rw [this, decide_eq_decide]
 have e : Int.toNat (w - 0) = w.toNat := by omega
 rw [Nat.zero_add, e]
 have hp : 2 ^ w.toNat ≤ 2 ^ 32 := Nat.pow_le_pow_right (by decide) (by omega)
 show (BitVec.setWidth 64 v).toNat < (BitVec.ofNat 64 (2 ^ w.toNat)).toNat ↔ _
 rw [BitVec.toNat_setWidth, BitVec.toNat_ofNat, Nat.mod_eq_of_lt (by have := v.isLt; omega), Nat.mod_eq_of_lt (by omega)]
theorem f0 {v : BitVec 32} {w : Int} {b : Bool} (e : ww v w = b) (h : 1 ≤ w ∧ w ≤ 32) (hv : (v.toNat : Int) ≤ 0) : b = true := by
 rw [← e, de2 h, decide_eq_true_eq]
 have := Nat.two_pow_pos w.toNat
 omega
theorem bl9 {p : aa} {t : Int} {l : List am} (h : (dn p t l).2 = 0) : GoodR p t l := by
 refine (xz p t l).1 ?_
 unfold dn at h
 simp only [LET] at h
 apply Decidable.byContradiction
 intro hc
 rw [if_pos (by simp [hc])] at h
 exact hc h
theorem tl2 {x : bm} {y b : Bool} (h : gc x = y) (hy : (y || b) = false) : ∀ r ∈ x.Rows, SR r := tl h (by simp only [Bool.or_eq_false_iff] at hy; exact hy.1)
theorem bt7 {x : bm} {y b : Bool} (h : gc x = y) (hy : (y || b) = false) : x.Program.Tables.length ≤ 16 ∧ x.Rows.length ≤ 30 ∧ x.Key.length ≤ 20 := tlb h (by simp only [Bool.or_eq_false_iff] at hy; exact hy.1)
theorem lcC {p : aa} {t : Int} {l : List am} {w : List Int} {b : Int} {y : List Int × Int} (h1 : br p t = w) (h2 : fx p t = b) (h3 : dn p t l = y) (hc : ((((!decide (y.2 = 0)) || (decide ((w.length : Int) = 0))) || (decide (2 < (w.length : Int)))) || (decide (8 < b))) = false) : (0 ≤ b ∧ b ≤ 8 ∧ shlI 1 b ≤ 256) ∧ (y.2 = 0 ∧ 1 ≤ w.length ∧ w.length ≤ 2) ∧ ∀ j : Int, 0 ≤ j → j < w.length → 1 ≤ ix w j ∧ ix w j ≤ 32 := by
 simp only [Bool.or_eq_false_iff, Bool.not_eq_false', decide_eq_true_eq, decide_eq_false_iff_not] at hc
 have G : GoodR p t l := bl9 (by rw [h3]; exact hc.1.1.1)
 have hb := bw6 G
 rw [h2] at hb
 refine ⟨⟨by omega, by omega, ?_⟩, ⟨hc.1.1.1, by omega, by omega⟩, ?_⟩
 ·rw [as3 (by omega) (by omega)]
  have h : (2 : Int) ^ b.toNat ≤ 2 ^ 8 := by exact_mod_cast Nat.pow_le_pow_right (n := 2) (by decide) (by omega)
  omega
 ·rw [← h1]
  exact fun j j0 j1 => as8 G j0 j1
theorem do1 {w : Int} (h : 1 ≤ w ∧ w ≤ 32) : shlI 1 w ≠ 0 := by
 rw [as3 (by omega) (by omega)]
 have h2 : (0 : Int) < 2 ^ w.toNat := Int.pow_pos (by decide)
 omega
end Go.Proofs.YthdnpgpnodgicaaGreat
