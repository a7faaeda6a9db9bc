import Derived.Test.YthdnpgpnodgicaaGreatKFoOr
import Derived.Test.YthdnpgpnodgicaaGreatKFzSp
set_option linter.all false
set_option maxRecDepth 100000
namespace Go.Proofs.YthdnpgpnodgicaaGreat
open Go Go.Pb Go.RowKit
theorem ar7 (a b : ae) : ky a b = ga a b := by
 unfold ky ga
 rw [Bool.eq_iff_iff]
 simp only [Bool.and_eq_true, decide_eq_true_eq]
 have e1 : b.Mask &&& ~~~a.Mask = 0#64 ↔ a.Mask &&& b.Mask = b.Mask := by
  constructor
  ·intro h
   apply BitVec.eq_of_getLsbD_eq
   intro i hi
   have := congrArg (fun v => v.getLsbD i) h
   simp [hi] at this ⊢
   exact this
  ·intro h
   apply BitVec.eq_of_getLsbD_eq
   intro i hi
   have := congrArg (fun v => v.getLsbD i) h
   simp [hi] at this ⊢
   exact this
 have e2 : (a.Value ^^^ b.Value) &&& b.Mask = 0#64 ↔ a.Value &&& b.Mask = b.Value &&& b.Mask := by
  constructor
  ·intro h
   apply BitVec.eq_of_getLsbD_eq
   intro i hi
   have := congrArg (fun v => v.getLsbD i) h
   simp only [BitVec.getLsbD_and, BitVec.getLsbD_xor, BitVec.getLsbD_zero] at this ⊢
   cases ha : a.Value.getLsbD i <;> cases hb : b.Value.getLsbD i <;> cases hm : b.Mask.getLsbD i <;> simp_all
  ·intro h
   apply BitVec.eq_of_getLsbD_eq
   intro i hi
   have := congrArg (fun v => v.getLsbD i) h
   simp only [BitVec.getLsbD_and, BitVec.getLsbD_xor, BitVec.getLsbD_zero] at this ⊢
   cases ha : a.Value.getLsbD i <;> cases hb : b.Value.getLsbD i <;> cases hm : b.Mask.getLsbD i <;> simp_all
 rw [e1, e2]
theorem ad1 (l : List ae) (i : Int) (K : Unit → Bool) : ∀ (m : Nat) (j : Int), gq l i K m j = kt l i K m j
 | 0, j => rfl
 | m + 1, j => by
   have ih := ad1 l i K m (j + 1)
   rw [gq, kt, ih]
   simp only [LET, ar7]
   cases decide (j = i) <;> cases ga (ix l i) (ix l j) <;> cases ga (ix l j) (ix l i) <;> cases decide (j < i) <;> rfl
theorem bl2 (l : List ae) (K : List ae → List ae) : ∀ (m : Nat) (i : Int) (z : List ae), gx l K m i z = jn l K m i z
 | 0, i, z => rfl
 | m + 1, i, z => by
   rw [gx, jn]
   simp only [LET, bl2 l K m]
   rw [show po l i = my l i from ad1 l i _ _ _]
theorem dc7 (l : List ae) : nu l = sd l := bl2 l _ _ 0 []
theorem dk2 (l : List ae) : fi l = uh l := by
 unfold fi uh
 simp only [LET, dc7]
theorem dc0 {w : Int} (h : 1 ≤ w ∧ w ≤ 64) {i : Nat} (hi : i < 64) : (dz w).getLsbD i = decide ((i : Int) < w) := by
 unfold dz
 have e : wr (64 - w) = 64 - w := du (by omega) (by omega)
 rw [e, BitVec.getLsbD_ushiftRight]
 have h2 : (18446744073709551615#64 : BitVec 64) = BitVec.allOnes 64 := by decide
 rw [h2, BitVec.getLsbD_allOnes, decide_eq_decide]
 omega
theorem ch1 : ∀ (m n : Nat) (K : BitVec 64 → BitVec 64), ud K m (BitVec.ofNat 64 (2 ^ n - 1)) (n : Int) = K (BitVec.ofNat 64 (2 ^ (n + m) - 1))
 | 0, n, K => rfl
 | m + 1, n, K => by
   rw [ud]
   have e : (2#64 * BitVec.ofNat 64 (2 ^ n - 1)) + 1#64 = BitVec.ofNat 64 (2 ^ (n + 1) - 1) := by
    apply BitVec.eq_of_toNat_eq
    have := Nat.two_pow_pos n
    have h2 : 2 ^ (n + 1) = 2 * 2 ^ n := by rw [Nat.pow_succ]; omega
    simp only [BitVec.toNat_add, BitVec.toNat_mul, BitVec.toNat_ofNat]
    rw [h2]
    omega
   rw [e, show ((n : Int) + 1) = ((n + 1 : Nat) : Int) by omega, ch1 m (n + 1) K, show n + 1 + m = n + (m + 1) by omega]
theorem ak8 {w : Int} (h : 1 ≤ w ∧ w ≤ 64) {i : Nat} (hi : i < 64) : (wg w).getLsbD i = decide ((i : Int) < w) := by
 unfold wg
 have := ch1 (Int.toNat (w - 0)) 0 (fun x => x)
 rw [show BitVec.ofNat 64 (2 ^ 0 - 1) = 0#64 by rfl] at this
 rw [show ((0 : Nat) : Int) = 0 by rfl] at this
 rw [this, BitVec.getLsbD_ofNat, Nat.testBit_two_pow_sub_one]
 simp only [hi, decide_true, Bool.true_and, decide_eq_decide]
 omega
theorem ck4 {w : Int} (h : 1 ≤ w ∧ w ≤ 64) : dz w = wg w := by
 apply BitVec.eq_of_getLsbD_eq
 intro i hi
 rw [dc0 h hi, ak8 h hi]
theorem dx0 (c : ae) {w : Int} (h : 1 ≤ w ∧ w ≤ 64) : fc ({ Value := c.Value, Mask := c.Mask &&& dz w } : ae) = iv c w := by
 unfold fc iv
 simp only [LET]
 rw [ck4 h]
theorem bk7 (a b : ae) : (ig a b).2 = (mw a b).2 := by
 have e : ((a.Value ^^^ b.Value) &&& a.Mask) &&& b.Mask = 0#64 ↔ a.Value &&& (a.Mask &&& b.Mask) = b.Value &&& (a.Mask &&& b.Mask) := by
  constructor
  ·intro h
   apply BitVec.eq_of_getLsbD_eq
   intro i hi
   have := congrArg (fun v => v.getLsbD i) h
   simp only [BitVec.getLsbD_and, BitVec.getLsbD_xor, BitVec.getLsbD_zero] at this ⊢
   cases ha : a.Value.getLsbD i <;> cases hb : b.Value.getLsbD i <;> cases hm : a.Mask.getLsbD i <;> cases hn : b.Mask.getLsbD i <;> simp_all
  ·intro h
   apply BitVec.eq_of_getLsbD_eq
   intro i hi
   have := congrArg (fun v => v.getLsbD i) h
   simp only [BitVec.getLsbD_and, BitVec.getLsbD_xor, BitVec.getLsbD_zero] at this ⊢
   cases ha : a.Value.getLsbD i <;> cases hb : b.Value.getLsbD i <;> cases hm : a.Mask.getLsbD i <;> cases hn : b.Mask.getLsbD i <;> simp_all
 unfold ig mw
 by_cases h : ((a.Value ^^^ b.Value) &&& a.Mask) &&& b.Mask = 0#64
 ·rw [if_neg (by simp [h]), if_neg (by simp [e.1 h])]
 ·rw [if_pos (by simp [h]), if_pos (by simpa using fun q => h (e.2 q))]
theorem dg7 {i : Int} (h0 : 0 ≤ i) (h1 : i ≤ 63) : (BitVec.ofInt 64 i).toNat = i.toNat := by
 rw [BitVec.toNat_ofInt]
 omega
theorem vn (a : BitVec 64) (k : Nat) (hk : k < 64) : a &&& (1#64 <<< k) = 0#64 ↔ a.getLsbD k = false := by
 constructor
 ·intro h
  have := congrArg (fun v => v.getLsbD k) h
  simp only [BitVec.getLsbD_and, BitVec.getLsbD_shiftLeft, BitVec.getLsbD_zero] at this
  simpa [hk] using this
 ·intro h
  apply BitVec.eq_of_getLsbD_eq
  intro i hi
  simp only [BitVec.getLsbD_and, BitVec.getLsbD_shiftLeft, BitVec.getLsbD_zero, BitVec.getLsbD_one]
  by_cases hik : i = k
  ·subst hik; rw [h]; rfl
  ·by_cases hlt : i < k
   ·simp [hlt]
   ·have : i - k ≠ 0 := by omega
    simp [this]
theorem dm1 {a : BitVec 64} {k : Nat} (hk : k < 64) (h1 : a.getLsbD k = true) (h2 : ∀ j, k < j → a.getLsbD j = false) : cj a = (k : Int) + 1 := by
 have hne : a ≠ 0#64 := fun e => by rw [e] at h1; simp at h1
 have h0 : a.toNat ≠ 0 := fun h => hne (BitVec.eq_of_toNat_eq (by simpa using h))
 unfold cj
 rw [if_neg hne]
 have hlt : a.toNat < 2 ^ (k + 1) := by
  apply Nat.lt_pow_two_of_testBit
  intro i hi
  rw [BitVec.testBit_toNat]
  exact h2 i (by omega)
 have hge : 2 ^ k ≤ a.toNat := by
  apply Decidable.byContradiction
  intro hc
  have := Nat.testBit_lt_two_pow (x := a.toNat) (i := k) (by omega)
  rw [BitVec.testBit_toNat, h1] at this
  cases this
 have b1 : a.toNat.log2 < k + 1 := (Nat.log2_lt h0).2 hlt
 have b2 : k ≤ a.toNat.log2 := (Nat.le_log2 h0).2 hge
 omega
theorem bh9 (y : ae) : ∀ (m : Nat) (i : Int) (z : List ae) (rest : ae) (left : BitVec 64) (fuel : Nat), m = Int.toNat (i + 1) → -1 ≤ i → i ≤ 63 → m ≤ fuel →
 (∀ j : Nat, j < 64 → left.getLsbD j = (decide ((j : Int) ≤ i) && (y.Mask.getLsbD j && !rest.Mask.getLsbD j))) →
 ii y (fun z _ => z) m i z rest = z ++ eg y fuel left rest
 | 0, i, z, rest, left, fuel, hm, h0, h1, hf, hl => by
   have hz : left = 0#64 := by
    apply BitVec.eq_of_getLsbD_eq
    intro j hj
    rw [hl j hj, BitVec.getLsbD_zero, decide_eq_false (by omega)]; rfl
   rw [ii]
   cases fuel with
   | zero => rw [eg, List.append_nil]
   | succ f => rw [eg, if_pos hz, List.append_nil]
 | m + 1, i, z, rest, left, fuel, hm, h0, h1, hf, hl => by
   have hi0 : 0 ≤ i := by omega
   have e : wr (i - 1) = i - 1 := du (by omega) (by omega)
   have hi64 : i.toNat < 64 := by omega
   have hli := hl i.toNat hi64
   rw [decide_eq_true (by omega), Bool.true_and] at hli
   rw [ii, if_pos (by simpa using hi0), dg7 hi0 h1, e]
   by_cases hc : y.Mask.getLsbD i.toNat = true ∧ rest.Mask.getLsbD i.toNat = false
   ·rw [if_pos (by
     simp only [Bool.and_eq_true, Bool.not_eq_true', decide_eq_false_iff_not, decide_eq_true_eq]
     exact ⟨(fun h => absurd ((vn _ _ hi64).1 h) (by rw [hc.1]; simp)), (vn _ _ hi64).2 hc.2⟩)]
    rw [hc.1, hc.2] at hli
    have hli : left.getLsbD i.toNat = true := hli
    have hne : left ≠ 0#64 := fun e => by rw [e] at hli; simp at hli
    have hlen := dm1 hi64 hli (fun j hj => by
     by_cases hj64 : j < 64
     ·rw [hl j hj64, decide_eq_false (by omega)]; rfl
     ·exact BitVec.getLsbD_of_ge _ _ (by omega))
    obtain ⟨f, rfl⟩ : ∃ f, fuel = f + 1 := ⟨fuel - 1, by omega⟩
    rw [eg, if_neg hne, hlen, show ((i.toNat : Int) + 1 - 1).toNat = i.toNat by omega]
    have hv : (y.Value &&& (1#64 <<< i.toNat)) ^^^ (1#64 <<< i.toNat) = ~~~y.Value &&& (1#64 <<< i.toNat) := by
     apply BitVec.eq_of_getLsbD_eq
     intro j hj
     simp only [BitVec.getLsbD_and, BitVec.getLsbD_xor, BitVec.getLsbD_not, hj, decide_true, Bool.true_and]
     cases y.Value.getLsbD j <;> cases (1#64 <<< i.toNat).getLsbD j <;> rfl
    rw [hv, bh9 y m (i - 1) _ _ (left &&& ~~~(1#64 <<< i.toNat)) f (by omega) (by omega) (by omega) (by omega) ?_, List.append_assoc]
    ·rfl
    ·intro j hj
     simp only [BitVec.getLsbD_and, BitVec.getLsbD_or, BitVec.getLsbD_not, hj, decide_true, Bool.true_and, hl j hj, BitVec.getLsbD_shiftLeft, BitVec.getLsbD_one]
     by_cases hji : j = i.toNat
     ·rw [hji, decide_eq_false (show ¬((i.toNat : Nat) : Int) ≤ i - 1 by omega)]
      simp [hi64]
     ·by_cases hlt : j < i.toNat
      ·simp only [hlt, decide_true, Bool.not_true, Bool.false_and, Bool.not_false, Bool.and_true, Bool.or_false]
       rw [decide_eq_true (show (j : Int) ≤ i by omega), decide_eq_true (show (j : Int) ≤ i - 1 by omega)]
      ·rw [decide_eq_false (show ¬(j : Int) ≤ i by omega), decide_eq_false (show ¬(j : Int) ≤ i - 1 by omega)]
       simp
   ·rw [if_neg (by
     simp only [Bool.and_eq_true, Bool.not_eq_true', decide_eq_false_iff_not, decide_eq_true_eq]
     rintro ⟨a, b⟩
     refine hc ⟨?_, (vn _ _ hi64).1 b⟩
     cases hq : y.Mask.getLsbD i.toNat
     ·exact absurd ((vn _ _ hi64).2 hq) a
     ·rfl)]
    refine bh9 y m (i - 1) z rest left fuel (by omega) (by omega) (by omega) (by omega) fun j hj => ?_
    rw [hl j hj]
    by_cases hji : j = i.toNat
    ·subst hji
     rw [decide_eq_true (by omega), decide_eq_false (by omega), Bool.true_and, Bool.false_and]
     cases hq : y.Mask.getLsbD i.toNat
     ·rfl
     ·cases hr : rest.Mask.getLsbD i.toNat
      ·exact absurd ⟨hq, hr⟩ hc
      ·rfl
    ·congr 1
     rw [decide_eq_decide]
     omega
theorem dj4 (a b : ae) {w : Int} (h : 1 ≤ w ∧ w ≤ 64) : co a b w = rn a b w := by
 unfold co rn
 rw [if_neg (by unfold qq; simp; omega), if_neg (by simp; omega)]
 simp only [LET, dx0 _ h]
 have hb : ∀ j : Nat, j < 64 → w ≤ (j : Int) → (iv b w).Mask.getLsbD j = false := by
  intro j hj hw
  unfold iv
  simp only [LET, BitVec.getLsbD_and, ak8 h hj]
  rw [decide_eq_false (by omega), Bool.and_false]
 generalize iv a w = x at *
 generalize iv b w = y at *
 rw [bk7]
 have e : wr (w - 1) = w - 1 := du (by omega) (by omega)
 have main := bh9 y (Int.toNat (w - 1 + 1)) (w - 1) [] x (y.Mask &&& ~~~x.Mask) 64 rfl (by omega) (by omega) (by omega) (fun j hj => by
  simp only [BitVec.getLsbD_and, BitVec.getLsbD_not, hj, decide_true, Bool.true_and]
  by_cases hw : (j : Int) ≤ w - 1
  ·rw [decide_eq_true hw, Bool.true_and]
  ·rw [decide_eq_false hw, hb j hj (by omega)]; rfl)
 rw [e, main, List.nil_append]
 by_cases hs : ga x y = true
 ·rw [if_pos hs]
  have hs2 := hs
  rw [← ar7] at hs2
  unfold ky at hs2
  simp only [Bool.and_eq_true, decide_eq_true_eq] at hs2
  have hm : (mw x y).2 = true := by
   rw [← bk7]
   unfold ig
   rw [if_neg]
   rw [BitVec.and_assoc, BitVec.and_comm x.Mask, ← BitVec.and_assoc, hs2.2]
   simp
  rw [hm, if_neg (by simp), hs2.1, eg, if_pos rfl]
 ·rw [if_neg hs]
theorem bn4 (W : List Int) (hW : ∀ j : Int, 0 ≤ j → j < W.length → 1 ≤ ix W j ∧ ix W j ≤ 32) (hl : W.length ≤ 6) : ∀ (m : Nat) (i a : Int), m = Int.toNat ((W.length : Int) - i) → 0 ≤ i → 0 ≤ a → a ≤ 32 * i → a + m ≤ gc W (fun x => x) m a i ∧ gc W (fun x => x) m a i ≤ a + 32 * m
 | 0, i, a, hm, h0, ha, hb => by
   have e : gc W (fun x => x) 0 a i = a := rfl
   rw [e]; omega
 | m + 1, i, a, hm, h0, ha, hb => by
   rw [gc]
   have h1 := hW i h0 (by omega)
   have e : wr (a + ix W i) = a + ix W i := du (by omega) (by omega)
   rw [e]
   have := bn4 W hW hl m (i + 1) (a + ix W i) (by omega) (by omega) (by omega) (by omega)
   omega
section
variable {p : aa} {t : Int} {l : List ak} (G : GoodR p t l)
include G
theorem bh5 {k : Int} (k0 : 0 ≤ k) (k1 : k < (bp p t).length) : 1 ≤ ix (bp p t) k ∧ ix (bp p t) k ≤ 32 := by
 have h1 := rwp (p := p) (t := t) rfl k0 k1
 have hv : fu p t = true := by simp [fu, LET, G.tc]
 have h2 := (ag1 hv k k0 (by rw [← g_w G]; exact k1)).2
 have h3 : ix (bp p t) k = iq p (ix (ix p.Tables t).Keys k).Field := by
  rw [pf, if_pos hv, am6 k0 (by rw [← g_w G]; exact k1)]
  simp
 rw [h3] at h1 ⊢
 omega
end
end Go.Proofs.YthdnpgpnodgicaaGreat
