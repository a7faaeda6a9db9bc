import Derived.Test.YthdnpgpnodgicaaGreatPbT
import Derived.Test.YthdnpgpnodgicaaGreatKFzSp
import Derived.Test.YthdnpgpnodgicaaGreatKSqSr
set_option linter.all false
set_option maxRecDepth 100000
namespace Go.Proofs.YthdnpgpnodgicaaGreat
open Go Go.Pb Go.RowKit
def shlI (a b : Int) : Int := wr (a * 2 ^ min b.toNat 64)
def shrI (a b : Int) : Int := Int.fdiv a (2 ^ min b.toNat 64)
theorem bx3 : ∀ (m n : Nat) (K : BitVec 64 → Bool), nl K m (BitVec.ofNat 64 (2 ^ n)) (n : Int) = K (BitVec.ofNat 64 (2 ^ (n + m)))
 | 0, n, K => rfl
 | m + 1, n, K => by
   rw [nl]
   have e : 2#64 * BitVec.ofNat 64 (2 ^ n) = BitVec.ofNat 64 (2 ^ (n + 1)) := by
    apply BitVec.eq_of_toNat_eq
    simp only [BitVec.toNat_mul, BitVec.toNat_ofNat, Nat.pow_succ]
    rw [← Nat.mul_mod]
    congr 1
    omega
   rw [e, show ((n : Int) + 1) = ((n + 1 : Nat) : Int) by omega, bx3 m (n + 1) K, show n + 1 + m = n + (m + 1) by omega]
theorem ax2 {v : BitVec 32} {w : Int} (h : 1 ≤ w ∧ w ≤ 32) : nq v w = decide (v.toNat < 2 ^ w.toNat) := by
 unfold nq
 have := bx3 (Int.toNat (w - 0)) 0 (fun x => decide ((BitVec.setWidth 64 v) < x))
 rw [show BitVec.ofNat 64 (2 ^ 0) = 1#64 by rfl, show ((0 : Nat) : Int) = 0 by rfl] at this
 rw [this, decide_eq_decide]
 have e : Int.toNat (w - 0) = w.toNat := by omega
 rw [Nat.zero_add, e]
 have hp : 2 ^ w.toNat ≤ 2 ^ 32 := Nat.pow_le_pow_right (by decide) (by omega)
 show (BitVec.setWidth 64 v).toNat < (BitVec.ofNat 64 (2 ^ w.toNat)).toNat ↔ _
 rw [BitVec.toNat_setWidth, BitVec.toNat_ofNat, Nat.mod_eq_of_lt (by have := v.isLt; omega), Nat.mod_eq_of_lt (by omega)]
theorem fh {v : BitVec 32} {w : Int} {b : Bool} (e : nq v w = b) (h : 1 ≤ w ∧ w ≤ 32) (hf : b = false) : (v / 2#32).toNat < v.toNat := by
 rw [← e, ax2 h, decide_eq_false_iff_not] at hf
 have := Nat.two_pow_pos w.toNat
 rw [BitVec.toNat_udiv]
 show v.toNat / 2 < v.toNat
 omega
theorem f0 {v : BitVec 32} {w : Int} {b : Bool} (e : nq v w = b) (h : 1 ≤ w ∧ w ≤ 32) (hv : (v.toNat : Int) ≤ 0) : b = true := by
 rw [← e, ax2 h, decide_eq_true_eq]
 have := Nat.two_pow_pos w.toNat
 omega
theorem av5 {p : aa} {t : Int} {l : List ak} (h : (fj p t l).2 = 0) : GoodR p t l := by
 refine (ad5 p t l).1 ?_
 unfold fj at h
 simp only [LET] at h
 apply Decidable.byContradiction
 intro hc
 rw [if_pos (by simp [hc])] at h
 exact hc h
theorem nvW {p : aa} {t : Int} {l : List ak} {y : List Int × Int} (h : fj p t l = y) (h2 : y.2 = 0) (j : Int) (j0 : 0 ≤ j) (j1 : j < (bp p t).length) : 1 ≤ ix (bp p t) j ∧ ix (bp p t) j ≤ 32 := by
 subst h
 exact bh5 (av5 h2) j0 j1
theorem nvL {p : aa} {t : Int} {l : List ak} {y : List Int × Int} (h : fj p t l = y) (h2 : y.2 = 0) : (bp p t).length ≤ 6 := by
 subst h
 have G := av5 h2
 have h6 := g_n G
 have := g_w G
 omega
theorem f0n {v : BitVec 32} {w : Int} {b : Bool} (e : nq v w = b) (h : 1 ≤ w ∧ w ≤ 32) (hv : (v.toNat : Int) ≤ 0) (hf : b = false) : False := by
 have := f0 e h hv
 rw [hf] at this
 cases this
theorem srA {z : List ak} {a : ak} (h : ∀ r ∈ z, SR r) (h2 : SR a) : ∀ r ∈ z ++ [a], SR r := by
 intro r hr
 rcases List.mem_append.1 hr with hr | hr
 ·exact h r hr
 ·rw [List.mem_singleton.1 hr]; exact h2
end Go.Proofs.YthdnpgpnodgicaaGreat
