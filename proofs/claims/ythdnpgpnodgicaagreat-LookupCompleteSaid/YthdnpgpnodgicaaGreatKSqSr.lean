import Derived.Test.YthdnpgpnodgicaaGreatKFmFnFoOr
import Derived.Test.YthdnpgpnodgicaaGreatKFzSp
set_option linter.unusedVariables false
set_option linter.unusedSimpArgs false
set_option maxRecDepth 100000
namespace Go.Proofs.YthdnpgpnodgicaaGreat
open Go Go.Pb Go.RowKit
theorem ar5 (a b : ae) : lc a b = gm a b := by
 unfold lc gm
 rw [Bool.eq_iff_iff]
 simp only [Bool.and_eq_true, decide_eq_true_eq]
 have e1 : b.Mask &&& ~~~a.Mask = 0#64 ↔ a.Mask &&& b.Mask = b.Mask := by
  constructor
  ·intro h
   apply BitVec.eq_of_getLsbD_eq
   intro i hi
   have := congrArg (fun v => v.getLsbD i) h
   simp [hi] at this ⊢
   exact this
  ·intro h
   apply BitVec.eq_of_getLsbD_eq
   intro i hi
   have := congrArg (fun v => v.getLsbD i) h
   simp [hi] at this ⊢
   exact this
 have e2 : (a.Value ^^^ b.Value) &&& b.Mask = 0#64 ↔ a.Value &&& b.Mask = b.Value &&& b.Mask := by
  constructor
  ·intro h
   apply BitVec.eq_of_getLsbD_eq
   intro i hi
   have := congrArg (fun v => v.getLsbD i) h
   simp only [BitVec.getLsbD_and, BitVec.getLsbD_xor, BitVec.getLsbD_zero] at this ⊢
   cases ha : a.Value.getLsbD i <;> cases hb : b.Value.getLsbD i <;> cases hm : b.Mask.getLsbD i <;> simp_all
  ·intro h
   apply BitVec.eq_of_getLsbD_eq
   intro i hi
   have := congrArg (fun v => v.getLsbD i) h
   simp only [BitVec.getLsbD_and, BitVec.getLsbD_xor, BitVec.getLsbD_zero] at this ⊢
   cases ha : a.Value.getLsbD i <;> cases hb : b.Value.getLsbD i <;> cases hm : b.Mask.getLsbD i <;> simp_all
 rw [e1, e2]
theorem aa5 (l : List ae) (i : Int) (K : Unit → Bool) : ∀ (m : Nat) (j : Int), gy l i K m j = kp l i K m j
 | 0, j => rfl
 | m + 1, j => by
   have ih := aa5 l i K m (j + 1)
   rw [gy, kp, ih]
   simp only [LET, ar5]
   cases decide (j = i) <;> cases gm (ix l i) (ix l j) <;> cases gm (ix l j) (ix l i) <;> cases decide (j < i) <;> rfl
theorem bp6 (l : List ae) (K : List ae → List ae) : ∀ (m : Nat) (i : Int) (z : List ae), il l K m i z = jm l K m i z
 | 0, i, z => rfl
 | m + 1, i, z => by
   rw [il, jm]
   simp only [LET, bp6 l K m]
   rw [show pd l i = ml l i from aa5 l i _ _ _]
theorem da7 (l : List ae) : nl l = rb l := bp6 l _ _ 0 []
theorem do0 (l : List ae) : fi l = uk l := by
 unfold fi uk
 simp only [LET, da7]
theorem cq1 {w : Int} (h : 1 ≤ w ∧ w ≤ 64) {i : Nat} (hi : i < 64) : (dy w).getLsbD i = decide ((i : Int) < w) := by
 unfold dy
 have e : wr (64 - w) = 64 - w := dm (by omega) (by omega)
 rw [e, BitVec.getLsbD_ushiftRight]
 have h2 : (18446744073709551615#64 : BitVec 64) = BitVec.allOnes 64 := by decide
 rw [h2, BitVec.getLsbD_allOnes, decide_eq_decide]
 omega
theorem bw5 : ∀ (m n : Nat) (K : BitVec 64 → BitVec 64), tn K m (BitVec.ofNat 64 (2 ^ n - 1)) (n : Int) = K (BitVec.ofNat 64 (2 ^ (n + m) - 1))
 | 0, n, K => rfl
 | m + 1, n, K => by
   rw [tn]
   have e : (2#64 * BitVec.ofNat 64 (2 ^ n - 1)) + 1#64 = BitVec.ofNat 64 (2 ^ (n + 1) - 1) := by
    apply BitVec.eq_of_toNat_eq
    have := Nat.two_pow_pos n
    have h2 : 2 ^ (n + 1) = 2 * 2 ^ n := by rw [Nat.pow_succ]; omega
    simp only [BitVec.toNat_add, BitVec.toNat_mul, BitVec.toNat_ofNat]
    rw [h2]
    omega
   rw [e, show ((n : Int) + 1) = ((n + 1 : Nat) : Int) by omega, bw5 m (n + 1) K, show n + 1 + m = n + (m + 1) by omega]
theorem aj2 {w : Int} (h : 1 ≤ w ∧ w ≤ 64) {i : Nat} (hi : i < 64) : (wl w).getLsbD i = decide ((i : Int) < w) := by
 unfold wl
 have := bw5 (Int.toNat (w - 0)) 0 (fun x => x)
 rw [show BitVec.ofNat 64 (2 ^ 0 - 1) = 0#64 by rfl] at this
 rw [show ((0 : Nat) : Int) = 0 by rfl] at this
 rw [this, BitVec.getLsbD_ofNat, Nat.testBit_two_pow_sub_one]
 simp only [hi, decide_true, Bool.true_and, decide_eq_decide]
 omega
theorem ch4 {w : Int} (h : 1 ≤ w ∧ w ≤ 64) : dy w = wl w := by
 apply BitVec.eq_of_getLsbD_eq
 intro i hi
 rw [cq1 h hi, aj2 h hi]
theorem ds4 (c : ae) {w : Int} (h : 1 ≤ w ∧ w ≤ 64) : fd ({ Value := c.Value, Mask := c.Mask &&& dy w } : ae) = jd c w := by
 unfold fd jd
 simp only [LET]
 rw [ch4 h]
theorem bq7 (a b : ae) : (io a b).2 = (mm a b).2 := by
 have e : ((a.Value ^^^ b.Value) &&& a.Mask) &&& b.Mask = 0#64 ↔ a.Value &&& (a.Mask &&& b.Mask) = b.Value &&& (a.Mask &&& b.Mask) := by
  constructor
  ·intro h
   apply BitVec.eq_of_getLsbD_eq
   intro i hi
   have := congrArg (fun v => v.getLsbD i) h
   simp only [BitVec.getLsbD_and, BitVec.getLsbD_xor, BitVec.getLsbD_zero] at this ⊢
   cases ha : a.Value.getLsbD i <;> cases hb : b.Value.getLsbD i <;> cases hm : a.Mask.getLsbD i <;> cases hn : b.Mask.getLsbD i <;> simp_all
  ·intro h
   apply BitVec.eq_of_getLsbD_eq
   intro i hi
   have := congrArg (fun v => v.getLsbD i) h
   simp only [BitVec.getLsbD_and, BitVec.getLsbD_xor, BitVec.getLsbD_zero] at this ⊢
   cases ha : a.Value.getLsbD i <;> cases hb : b.Value.getLsbD i <;> cases hm : a.Mask.getLsbD i <;> cases hn : b.Mask.getLsbD i <;> simp_all
 unfold io mm
 by_cases h : ((a.Value ^^^ b.Value) &&& a.Mask) &&& b.Mask = 0#64
 ·rw [if_neg (by simp [h]), if_neg (by simp [e.1 h])]
 ·rw [if_pos (by simp [h]), if_pos (by simpa using fun q => h (e.2 q))]
theorem dg0 {i : Int} (h0 : 0 ≤ i) (h1 : i ≤ 63) : (BitVec.ofInt 64 i).toNat = i.toNat := by
 rw [BitVec.toNat_ofInt]
 omega
theorem uy (a : BitVec 64) (k : Nat) (hk : k < 64) : a &&& (1#64 <<< k) = 0#64 ↔ a.getLsbD k = false := by
 constructor
 ·intro h
  have := congrArg (fun v => v.getLsbD k) h
  simp only [BitVec.getLsbD_and, BitVec.getLsbD_shiftLeft, BitVec.getLsbD_zero] at this
  simpa [hk] using this
 ·intro h
  apply BitVec.eq_of_getLsbD_eq
  intro i hi
  simp only [BitVec.getLsbD_and, BitVec.getLsbD_shiftLeft, BitVec.getLsbD_zero, BitVec.getLsbD_one]
  by_cases hik : i = k
  ·subst hik; rw [h]; rfl
  ·by_cases hlt : i < k
   ·simp [hlt]
   ·have : i - k ≠ 0 := by omega
    simp [this]
theorem dj9 {a : BitVec 64} {k : Nat} (hk : k < 64) (h1 : a.getLsbD k = true) (h2 : ∀ j, k < j → a.getLsbD j = false) : cd a = (k : Int) + 1 := by
 have hne : a ≠ 0#64 := fun e => by rw [e] at h1; simp at h1
 have h0 : a.toNat ≠ 0 := fun h => hne (BitVec.eq_of_toNat_eq (by simpa using h))
 unfold cd
 rw [if_neg hne]
 have hlt : a.toNat < 2 ^ (k + 1) := by
  apply Nat.lt_pow_two_of_testBit
  intro i hi
  rw [BitVec.testBit_toNat]
  exact h2 i (by omega)
 have hge : 2 ^ k ≤ a.toNat := by
  apply Decidable.byContradiction
  intro hc
  have := Nat.testBit_lt_two_pow (x := a.toNat) (i := k) (by omega)
  rw [BitVec.testBit_toNat, h1] at this
  cases this
 have b1 : a.toNat.log2 < k + 1 := (Nat.log2_lt h0).2 hlt
 have b2 : k ≤ a.toNat.log2 := (Nat.le_log2 h0).2 hge
 omega
theorem be2 (y : ae) : ∀ (m : Nat) (i : Int) (z : List ae) (rest : ae) (left : BitVec 64) (fuel : Nat), m = Int.toNat (i + 1) → -1 ≤ i → i ≤ 63 → m ≤ fuel →
 (∀ j : Nat, j < 64 → left.getLsbD j = (decide ((j : Int) ≤ i) && (y.Mask.getLsbD j && !rest.Mask.getLsbD j))) →
 ip y (fun z _ => z) m i z rest = z ++ eg y fuel left rest
 | 0, i, z, rest, left, fuel, hm, h0, h1, hf, hl => by
   have hz : left = 0#64 := by
    apply BitVec.eq_of_getLsbD_eq
    intro j hj
    rw [hl j hj, BitVec.getLsbD_zero, decide_eq_false (by omega)]; rfl
   rw [ip]
   cases fuel with
   | zero => rw [eg, List.append_nil]
   | succ f => rw [eg, if_pos hz, List.append_nil]
 | m + 1, i, z, rest, left, fuel, hm, h0, h1, hf, hl => by
   have hi0 : 0 ≤ i := by omega
   have e : wr (i - 1) = i - 1 := dm (by omega) (by omega)
   have hi64 : i.toNat < 64 := by omega
   have hli := hl i.toNat hi64
   rw [decide_eq_true (by omega), Bool.true_and] at hli
   rw [ip, if_pos (by simpa using hi0), dg0 hi0 h1, e]
   by_cases hc : y.Mask.getLsbD i.toNat = true ∧ rest.Mask.getLsbD i.toNat = false
   ·rw [if_pos (by
     simp only [Bool.and_eq_true, Bool.not_eq_true', decide_eq_false_iff_not, decide_eq_true_eq]
     exact ⟨(fun h => absurd ((uy _ _ hi64).1 h) (by rw [hc.1]; simp)), (uy _ _ hi64).2 hc.2⟩)]
    rw [hc.1, hc.2] at hli
    have hli : left.getLsbD i.toNat = true := hli
    have hne : left ≠ 0#64 := fun e => by rw [e] at hli; simp at hli
    have hlen := dj9 hi64 hli (fun j hj => by
     by_cases hj64 : j < 64
     ·rw [hl j hj64, decide_eq_false (by omega)]; rfl
     ·exact BitVec.getLsbD_of_ge _ _ (by omega))
    obtain ⟨f, rfl⟩ : ∃ f, fuel = f + 1 := ⟨fuel - 1, by omega⟩
    rw [eg, if_neg hne, hlen, show ((i.toNat : Int) + 1 - 1).toNat = i.toNat by omega]
    have hv : (y.Value &&& (1#64 <<< i.toNat)) ^^^ (1#64 <<< i.toNat) = ~~~y.Value &&& (1#64 <<< i.toNat) := by
     apply BitVec.eq_of_getLsbD_eq
     intro j hj
     simp only [BitVec.getLsbD_and, BitVec.getLsbD_xor, BitVec.getLsbD_not, hj, decide_true, Bool.true_and]
     cases y.Value.getLsbD j <;> cases (1#64 <<< i.toNat).getLsbD j <;> rfl
    rw [hv, be2 y m (i - 1) _ _ (left &&& ~~~(1#64 <<< i.toNat)) f (by omega) (by omega) (by omega) (by omega) ?_, List.append_assoc]
    ·rfl
    ·intro j hj
     simp only [BitVec.getLsbD_and, BitVec.getLsbD_or, BitVec.getLsbD_not, hj, decide_true, Bool.true_and, hl j hj, BitVec.getLsbD_shiftLeft, BitVec.getLsbD_one]
     by_cases hji : j = i.toNat
     ·rw [hji, decide_eq_false (show ¬((i.toNat : Nat) : Int) ≤ i - 1 by omega)]
      simp [hi64]
     ·by_cases hlt : j < i.toNat
      ·simp only [hlt, decide_true, Bool.not_true, Bool.false_and, Bool.not_false, Bool.and_true, Bool.or_false]
       rw [decide_eq_true (show (j : Int) ≤ i by omega), decide_eq_true (show (j : Int) ≤ i - 1 by omega)]
      ·rw [decide_eq_false (show ¬(j : Int) ≤ i by omega), decide_eq_false (show ¬(j : Int) ≤ i - 1 by omega)]
       simp
   ·rw [if_neg (by
     simp only [Bool.and_eq_true, Bool.not_eq_true', decide_eq_false_iff_not, decide_eq_true_eq]
     rintro ⟨a, b⟩
     refine hc ⟨?_, (uy _ _ hi64).1 b⟩
     cases hq : y.Mask.getLsbD i.toNat
     ·exact absurd ((uy _ _ hi64).2 hq) a
     ·rfl)]
    refine be2 y m (i - 1) z rest left fuel (by omega) (by omega) (by omega) (by omega) fun j hj => ?_
    rw [hl j hj]
    by_cases hji : j = i.toNat
    ·subst hji
     rw [decide_eq_true (by omega), decide_eq_false (by omega), Bool.true_and, Bool.false_and]
     cases hq : y.Mask.getLsbD i.toNat
     ·rfl
     ·cases hr : rest.Mask.getLsbD i.toNat
      ·exact absurd ⟨hq, hr⟩ hc
      ·rfl
    ·congr 1
     rw [decide_eq_decide]
     omega
theorem dp3 (a b : ae) {w : Int} (h : 1 ≤ w ∧ w ≤ 64) : cn a b w = rh a b w := by
 unfold cn rh
 rw [if_neg (by unfold qi; simp; omega), if_neg (by simp; omega)]
 simp only [LET, ds4 _ h]
 have hb : ∀ j : Nat, j < 64 → w ≤ (j : Int) → (jd b w).Mask.getLsbD j = false := by
  intro j hj hw
  unfold jd
  simp only [LET, BitVec.getLsbD_and, aj2 h hj]
  rw [decide_eq_false (by omega), Bool.and_false]
 generalize jd a w = x at *
 generalize jd b w = y at *
 rw [bq7]
 have e : wr (w - 1) = w - 1 := dm (by omega) (by omega)
 have main := be2 y (Int.toNat (w - 1 + 1)) (w - 1) [] x (y.Mask &&& ~~~x.Mask) 64 rfl (by omega) (by omega) (by omega) (fun j hj => by
  simp only [BitVec.getLsbD_and, BitVec.getLsbD_not, hj, decide_true, Bool.true_and]
  by_cases hw : (j : Int) ≤ w - 1
  ·rw [decide_eq_true hw, Bool.true_and]
  ·rw [decide_eq_false hw, hb j hj (by omega)]; rfl)
 rw [e, main, List.nil_append]
 by_cases hs : gm x y = true
 ·rw [if_pos hs]
  have hs2 := hs
  rw [← ar5] at hs2
  unfold lc at hs2
  simp only [Bool.and_eq_true, decide_eq_true_eq] at hs2
  have hm : (mm x y).2 = true := by
   rw [← bq7]
   unfold io
   rw [if_neg]
   rw [BitVec.and_assoc, BitVec.and_comm x.Mask, ← BitVec.and_assoc, hs2.2]
   simp
  rw [hm, if_neg (by simp), hs2.1, eg, if_pos rfl]
 ·rw [if_neg hs]
theorem aw4 (W : List Int) (hW : ∀ j : Int, 0 ≤ j → j < W.length → 1 ≤ ix W j ∧ ix W j ≤ 32) (hl : W.length ≤ 6) : ∀ (m : Nat) (i a : Int), m = Int.toNat ((W.length : Int) - i) → 0 ≤ i → 0 ≤ a → a ≤ 32 * i → a + m ≤ fe W (fun x => x) m a i ∧ fe W (fun x => x) m a i ≤ a + 32 * m
 | 0, i, a, hm, h0, ha, hb => by
   have e : fe W (fun x => x) 0 a i = a := rfl
   rw [e]; omega
 | m + 1, i, a, hm, h0, ha, hb => by
   rw [fe]
   have h1 := hW i h0 (by omega)
   have e : wr (a + ix W i) = a + ix W i := dm (by omega) (by omega)
   rw [e]
   have := aw4 W hW hl m (i + 1) (a + ix W i) (by omega) (by omega) (by omega) (by omega)
   omega
section
variable {p : aa} {t : Int} {l : List am} (G : GoodR p t l)
include G
theorem as8 {k : Int} (k0 : 0 ≤ k) (k1 : k < (br p t).length) : 1 ≤ ix (br p t) k ∧ ix (br p t) k ≤ 32 := by
 have h1 := rwp (p := p) (t := t) rfl k0 k1
 have hv : gb p t = true := by simp [gb, LET, G.tc]
 have h2 := (af8 hv k k0 (by rw [← g_w G]; exact k1)).2
 have h3 : ix (br p t) k = iv p (ix (ix p.Tables t).Keys k).Field := by
  rw [ol, if_pos hv, am8 k0 (by rw [← g_w G]; exact k1)]
  simp
 rw [h3] at h1 ⊢
 omega
theorem bw6 : (ix p.Tables t).Keys.length ≤ fx p t ∧ fx p t ≤ 32 * (ix p.Tables t).Keys.length := by
 have h6 := g_n G
 have hw := g_w G
 have := aw4 (br p t) (fun j j0 j1 => as8 G j0 j1) (by omega) (Int.toNat (((br p t).length : Int) - 0)) 0 0 rfl (by omega) (by omega) (by omega)
 unfold fx
 simp only [LET]
 omega
end
end Go.Proofs.YthdnpgpnodgicaaGreat
