import Derived.Test.YthdnpgpnodgicaaGreatKFoOr
import Derived.Test.YthdnpgpnodgicaaGreatKFzSp
set_option linter.unusedVariables false
set_option linter.unusedSimpArgs false
set_option maxRecDepth 100000
namespace Go.Proofs.YthdnpgpnodgicaaGreat
open Go Go.Pb Go.RowKit
theorem aq3 (a b : aa) : lr a b = fq a b := by
 unfold lr fq
 rw [Bool.eq_iff_iff]
 simp only [Bool.and_eq_true, decide_eq_true_eq]
 have e1 : b.Mask &&& ~~~a.Mask = 0#64 ↔ a.Mask &&& b.Mask = b.Mask := by
  constructor
  ·intro h
   apply BitVec.eq_of_getLsbD_eq
   intro i hi
   have := congrArg (fun v => v.getLsbD i) h
   simp [hi] at this ⊢
   exact this
  ·intro h
   apply BitVec.eq_of_getLsbD_eq
   intro i hi
   have := congrArg (fun v => v.getLsbD i) h
   simp [hi] at this ⊢
   exact this
 have e2 : (a.Value ^^^ b.Value) &&& b.Mask = 0#64 ↔ a.Value &&& b.Mask = b.Value &&& b.Mask := by
  constructor
  ·intro h
   apply BitVec.eq_of_getLsbD_eq
   intro i hi
   have := congrArg (fun v => v.getLsbD i) h
   simp only [BitVec.getLsbD_and, BitVec.getLsbD_xor, BitVec.getLsbD_zero] at this ⊢
   cases ha : a.Value.getLsbD i <;> cases hb : b.Value.getLsbD i <;> cases hm : b.Mask.getLsbD i <;> simp_all
  ·intro h
   apply BitVec.eq_of_getLsbD_eq
   intro i hi
   have := congrArg (fun v => v.getLsbD i) h
   simp only [BitVec.getLsbD_and, BitVec.getLsbD_xor, BitVec.getLsbD_zero] at this ⊢
   cases ha : a.Value.getLsbD i <;> cases hb : b.Value.getLsbD i <;> cases hm : b.Mask.getLsbD i <;> simp_all
 rw [e1, e2]
theorem aa7 (l : List aa) (i : Int) (K : Unit → Bool) : ∀ (m : Nat) (j : Int), gm l i K m j = gq l i K m j
 | 0, j => rfl
 | m + 1, j => by
   have ih := aa7 l i K m (j + 1)
   rw [gm, gq, ih]
   simp only [LET, aq3]
   cases decide (j = i) <;> cases fq (ix l i) (ix l j) <;> cases fq (ix l j) (ix l i) <;> cases decide (j < i) <;> rfl
theorem bl0 (l : List aa) (K : List aa → List aa) : ∀ (m : Nat) (i : Int) (z : List aa), gy l K m i z = gj l K m i z
 | 0, i, z => rfl
 | m + 1, i, z => by
   rw [gy, gj]
   simp only [LET, bl0 l K m]
   rw [show qd l i = nr l i from aa7 l i _ _ _]
theorem df8 (l : List aa) : pg l = na l := bl0 l _ _ 0 []
theorem cd1 (l : List aa) : fw l = ki l := by
 unfold fw ki
 simp only [LET, df8]
theorem dh9 {w : Int} (h : 1 ≤ w ∧ w ≤ 64) {i : Nat} (hi : i < 64) : (dy w).getLsbD i = decide ((i : Int) < w) := by
 unfold dy
 have e : wr (64 - w) = 64 - w := dg (by omega) (by omega)
 rw [e, BitVec.getLsbD_ushiftRight]
 have h2 : (18446744073709551615#64 : BitVec 64) = BitVec.allOnes 64 := by decide
 rw [h2, BitVec.getLsbD_allOnes, decide_eq_decide]
 omega
theorem by3 : ∀ (m n : Nat) (K : BitVec 64 → BitVec 64), pn K m (BitVec.ofNat 64 (2 ^ n - 1)) (n : Int) = K (BitVec.ofNat 64 (2 ^ (n + m) - 1))
 | 0, n, K => rfl
 | m + 1, n, K => by
   rw [pn]
   have e : (2#64 * BitVec.ofNat 64 (2 ^ n - 1)) + 1#64 = BitVec.ofNat 64 (2 ^ (n + 1) - 1) := by
    apply BitVec.eq_of_toNat_eq
    have := Nat.two_pow_pos n
    have h2 : 2 ^ (n + 1) = 2 * 2 ^ n := by rw [Nat.pow_succ]; omega
    simp only [BitVec.toNat_add, BitVec.toNat_mul, BitVec.toNat_ofNat]
    rw [h2]
    omega
   rw [e, show ((n : Int) + 1) = ((n + 1 : Nat) : Int) by omega, by3 m (n + 1) K, show n + 1 + m = n + (m + 1) by omega]
theorem ax3 {w : Int} (h : 1 ≤ w ∧ w ≤ 64) {i : Nat} (hi : i < 64) : (ug w).getLsbD i = decide ((i : Int) < w) := by
 unfold ug
 have := by3 (Int.toNat (w - 0)) 0 (fun x => x)
 rw [show BitVec.ofNat 64 (2 ^ 0 - 1) = 0#64 by rfl] at this
 rw [show ((0 : Nat) : Int) = 0 by rfl] at this
 rw [this, BitVec.getLsbD_ofNat, Nat.testBit_two_pow_sub_one]
 simp only [hi, decide_true, Bool.true_and, decide_eq_decide]
 omega
theorem dt4 {w : Int} (h : 1 ≤ w ∧ w ≤ 64) : dy w = ug w := by
 apply BitVec.eq_of_getLsbD_eq
 intro i hi
 rw [dh9 h hi, ax3 h hi]
theorem ay9 : ∀ w : Fin 65, 1 ≤ w.val → dy (w.val : Int) = py (w.val : Int) := by decide +kernel
theorem bf0 {w : Int} (h : 1 ≤ w ∧ w ≤ 64) : dy w = py w := by
 have := ay9 ⟨w.toNat, by omega⟩ (by show 1 ≤ w.toNat; omega)
 simp only [Int.toNat_of_nonneg (show 0 ≤ w by omega)] at this
 exact this
theorem dr4 (c : aa) {w : Int} (h : 1 ≤ w ∧ w ≤ 64) : en ({ Value := c.Value, Mask := c.Mask &&& dy w } : aa) = me c w := by
 unfold en me
 simp only [LET]
 rw [dt4 h]
theorem bo1 (a b : aa) : (ii a b).2 = (jo a b).2 := by
 have e : ((a.Value ^^^ b.Value) &&& a.Mask) &&& b.Mask = 0#64 ↔ a.Value &&& (a.Mask &&& b.Mask) = b.Value &&& (a.Mask &&& b.Mask) := by
  constructor
  ·intro h
   apply BitVec.eq_of_getLsbD_eq
   intro i hi
   have := congrArg (fun v => v.getLsbD i) h
   simp only [BitVec.getLsbD_and, BitVec.getLsbD_xor, BitVec.getLsbD_zero] at this ⊢
   cases ha : a.Value.getLsbD i <;> cases hb : b.Value.getLsbD i <;> cases hm : a.Mask.getLsbD i <;> cases hn : b.Mask.getLsbD i <;> simp_all
  ·intro h
   apply BitVec.eq_of_getLsbD_eq
   intro i hi
   have := congrArg (fun v => v.getLsbD i) h
   simp only [BitVec.getLsbD_and, BitVec.getLsbD_xor, BitVec.getLsbD_zero] at this ⊢
   cases ha : a.Value.getLsbD i <;> cases hb : b.Value.getLsbD i <;> cases hm : a.Mask.getLsbD i <;> cases hn : b.Mask.getLsbD i <;> simp_all
 unfold ii jo
 by_cases h : ((a.Value ^^^ b.Value) &&& a.Mask) &&& b.Mask = 0#64
 ·rw [if_neg (by simp [h]), if_neg (by simp [e.1 h])]
 ·rw [if_pos (by simp [h]), if_pos (by simpa using fun q => h (e.2 q))]
theorem ef5 {i : Int} (h0 : 0 ≤ i) (h1 : i ≤ 63) : (BitVec.ofInt 64 i).toNat = i.toNat := by
 rw [BitVec.toNat_ofInt]
 omega
theorem ai3 (a : BitVec 64) (k : Nat) (hk : k < 64) : a &&& (1#64 <<< k) = 0#64 ↔ a.getLsbD k = false := by
 constructor
 ·intro h
  have := congrArg (fun v => v.getLsbD k) h
  simp only [BitVec.getLsbD_and, BitVec.getLsbD_shiftLeft, BitVec.getLsbD_zero] at this
  simpa [hk] using this
 ·intro h
  apply BitVec.eq_of_getLsbD_eq
  intro i hi
  simp only [BitVec.getLsbD_and, BitVec.getLsbD_shiftLeft, BitVec.getLsbD_zero, BitVec.getLsbD_one]
  by_cases hik : i = k
  ·subst hik; rw [h]; rfl
  ·by_cases hlt : i < k
   ·simp [hlt]
   ·have : i - k ≠ 0 := by omega
    simp [this]
theorem dm8 {a : BitVec 64} {k : Nat} (hk : k < 64) (h1 : a.getLsbD k = true) (h2 : ∀ j, k < j → a.getLsbD j = false) : cn a = (k : Int) + 1 := by
 have hne : a ≠ 0#64 := fun e => by rw [e] at h1; simp at h1
 have h0 : a.toNat ≠ 0 := fun h => hne (BitVec.eq_of_toNat_eq (by simpa using h))
 unfold cn
 rw [if_neg hne]
 have hlt : a.toNat < 2 ^ (k + 1) := by
  apply Nat.lt_pow_two_of_testBit
  intro i hi
  rw [BitVec.testBit_toNat]
  exact h2 i (by omega)
 have hge : 2 ^ k ≤ a.toNat := by
  apply Decidable.byContradiction
  intro hc
  have := Nat.testBit_lt_two_pow (x := a.toNat) (i := k) (by omega)
  rw [BitVec.testBit_toNat, h1] at this
  cases this
 have b1 : a.toNat.log2 < k + 1 := (Nat.log2_lt h0).2 hlt
 have b2 : k ≤ a.toNat.log2 := (Nat.le_log2 h0).2 hge
 omega
theorem bh4 (y : aa) : ∀ (m : Nat) (i : Int) (z : List aa) (rest : aa) (left : BitVec 64) (fuel : Nat), m = Int.toNat (i + 1) → -1 ≤ i → i ≤ 63 → m ≤ fuel →
 (∀ j : Nat, j < 64 → left.getLsbD j = (decide ((j : Int) ≤ i) && (y.Mask.getLsbD j && !rest.Mask.getLsbD j))) →
 fx y (fun z _ => z) m i z rest = z ++ dz y fuel left rest
 | 0, i, z, rest, left, fuel, hm, h0, h1, hf, hl => by
   have hz : left = 0#64 := by
    apply BitVec.eq_of_getLsbD_eq
    intro j hj
    rw [hl j hj, BitVec.getLsbD_zero, decide_eq_false (by omega)]; rfl
   rw [fx]
   cases fuel with
   | zero => rw [dz, List.append_nil]
   | succ f => rw [dz, if_pos hz, List.append_nil]
 | m + 1, i, z, rest, left, fuel, hm, h0, h1, hf, hl => by
   have hi0 : 0 ≤ i := by omega
   have e : wr (i - 1) = i - 1 := dg (by omega) (by omega)
   have hi64 : i.toNat < 64 := by omega
   have hli := hl i.toNat hi64
   rw [decide_eq_true (by omega), Bool.true_and] at hli
   rw [fx, if_pos (by simpa using hi0), ef5 hi0 h1, e]
   by_cases hc : y.Mask.getLsbD i.toNat = true ∧ rest.Mask.getLsbD i.toNat = false
   ·rw [if_pos (by
     simp only [Bool.and_eq_true, Bool.not_eq_true', decide_eq_false_iff_not, decide_eq_true_eq]
     exact ⟨(fun h => absurd ((ai3 _ _ hi64).1 h) (by rw [hc.1]; simp)), (ai3 _ _ hi64).2 hc.2⟩)]
    rw [hc.1, hc.2] at hli
    have hli : left.getLsbD i.toNat = true := hli
    have hne : left ≠ 0#64 := fun e => by rw [e] at hli; simp at hli
    have hlen := dm8 hi64 hli (fun j hj => by
     by_cases hj64 : j < 64
     ·rw [hl j hj64, decide_eq_false (by omega)]; rfl
     ·exact BitVec.getLsbD_of_ge _ _ (by omega))
    obtain ⟨f, rfl⟩ : ∃ f, fuel = f + 1 := ⟨fuel - 1, by omega⟩
    rw [dz, if_neg hne, hlen, show ((i.toNat : Int) + 1 - 1).toNat = i.toNat by omega]
    have hv : (y.Value &&& (1#64 <<< i.toNat)) ^^^ (1#64 <<< i.toNat) = ~~~y.Value &&& (1#64 <<< i.toNat) := by
     apply BitVec.eq_of_getLsbD_eq
     intro j hj
     simp only [BitVec.getLsbD_and, BitVec.getLsbD_xor, BitVec.getLsbD_not, hj, decide_true, Bool.true_and]
     cases y.Value.getLsbD j <;> cases (1#64 <<< i.toNat).getLsbD j <;> rfl
    rw [hv, bh4 y m (i - 1) _ _ (left &&& ~~~(1#64 <<< i.toNat)) f (by omega) (by omega) (by omega) (by omega) ?_, List.append_assoc]
    ·rfl
    ·intro j hj
     simp only [BitVec.getLsbD_and, BitVec.getLsbD_or, BitVec.getLsbD_not, hj, decide_true, Bool.true_and, hl j hj, BitVec.getLsbD_shiftLeft, BitVec.getLsbD_one]
     by_cases hji : j = i.toNat
     ·rw [hji, decide_eq_false (show ¬((i.toNat : Nat) : Int) ≤ i - 1 by omega)]
      simp [hi64]
     ·by_cases hlt : j < i.toNat
      ·simp only [hlt, decide_true, Bool.not_true, Bool.false_and, Bool.not_false, Bool.and_true, Bool.or_false]
       rw [decide_eq_true (show (j : Int) ≤ i by omega), decide_eq_true (show (j : Int) ≤ i - 1 by omega)]
      ·rw [decide_eq_false (show ¬(j : Int) ≤ i by omega), decide_eq_false (show ¬(j : Int) ≤ i - 1 by omega)]
       simp
   ·rw [if_neg (by
     simp only [Bool.and_eq_true, Bool.not_eq_true', decide_eq_false_iff_not, decide_eq_true_eq]
     rintro ⟨a, b⟩
     refine hc ⟨?_, (ai3 _ _ hi64).1 b⟩
     cases hq : y.Mask.getLsbD i.toNat
     ·exact absurd ((ai3 _ _ hi64).2 hq) a
     ·rfl)]
    refine bh4 y m (i - 1) z rest left fuel (by omega) (by omega) (by omega) (by omega) fun j hj => ?_
    rw [hl j hj]
    by_cases hji : j = i.toNat
    ·subst hji
     rw [decide_eq_true (by omega), decide_eq_false (by omega), Bool.true_and, Bool.false_and]
     cases hq : y.Mask.getLsbD i.toNat
     ·rfl
     ·cases hr : rest.Mask.getLsbD i.toNat
      ·exact absurd ⟨hq, hr⟩ hc
      ·rfl
    ·congr 1
     rw [decide_eq_decide]
     omega
theorem dn9 (a b : aa) {w : Int} (h : 1 ≤ w ∧ w ≤ 64) : cx a b w = ni a b w := by
 unfold cx ni
 rw [if_neg (by unfold ri; simp; omega), if_neg (by simp; omega)]
 simp only [LET, dr4 _ h]
 have hb : ∀ j : Nat, j < 64 → w ≤ (j : Int) → (me b w).Mask.getLsbD j = false := by
  intro j hj hw
  unfold me
  simp only [LET, BitVec.getLsbD_and, ax3 h hj]
  rw [decide_eq_false (by omega), Bool.and_false]
 generalize me a w = x at *
 generalize me b w = y at *
 rw [bo1]
 have e : wr (w - 1) = w - 1 := dg (by omega) (by omega)
 have main := bh4 y (Int.toNat (w - 1 + 1)) (w - 1) [] x (y.Mask &&& ~~~x.Mask) 64 rfl (by omega) (by omega) (by omega) (fun j hj => by
  simp only [BitVec.getLsbD_and, BitVec.getLsbD_not, hj, decide_true, Bool.true_and]
  by_cases hw : (j : Int) ≤ w - 1
  ·rw [decide_eq_true hw, Bool.true_and]
  ·rw [decide_eq_false hw, hb j hj (by omega)]; rfl)
 rw [e, main, List.nil_append]
 by_cases hs : fq x y = true
 ·rw [if_pos hs]
  have hs2 := hs
  rw [← aq3] at hs2
  unfold lr at hs2
  simp only [Bool.and_eq_true, decide_eq_true_eq] at hs2
  have hm : (jo x y).2 = true := by
   rw [← bo1]
   unfold ii
   rw [if_neg]
   rw [BitVec.and_assoc, BitVec.and_comm x.Mask, ← BitVec.and_assoc, hs2.2]
   simp
  rw [hm, if_neg (by simp), hs2.1, dz, if_pos rfl]
 ·rw [if_neg hs]
theorem br7 (x1 : List aa) (w : Int) (hw : 1 ≤ w ∧ w ≤ 64) (x8 : List aa) (x11 : Int) (K : List aa → List aa × Int) : ∀ (m : Nat) (i : Int) (z : List aa), m = Int.toNat ((x8.length : Int) - i) → 0 ≤ i → jh x1 w x8 x11 K m i z = K (z ++ (x8.drop i.toNat).flatMap fun c => cx c (ix x1 x11) w)
 | 0, i, z, hm, h0 => by
   rw [jh, List.drop_of_length_le (by omega)]
   simp
 | m + 1, i, z, hm, h0 => by
   have hlt : i.toNat < x8.length := by omega
   rw [jh]
   simp only [LET]
   rw [br7 x1 w hw x8 x11 K m (i + 1) _ (by omega) (by omega), List.drop_eq_getElem_cons hlt, List.flatMap_cons, ← dn9 _ _ hw, rx h0 (by omega), show (i + 1).toNat = i.toNat + 1 by omega, List.append_assoc]
theorem bj7 (x1 : List aa) (w : Int) (hw : 1 ≤ w ∧ w ≤ 64) : ∀ (m : Nat) (out : List aa) (e i : Int), m = Int.toNat ((x1.length : Int) - i) → 0 ≤ i →
 jk x1 w (fun a b => if (!decide (b = 0)) = true then ([], b) else (a, 0)) m out e i = if (!decide (e = 0)) = true then ([], e) else js w (x1.drop i.toNat) out
 | 0, out, e, i, hm, h0 => by
   rw [jk, List.drop_of_length_le (by omega), js]
 | m + 1, out, e, i, hm, h0 => by
   have hlt : i.toNat < x1.length := by omega
   rw [jk]
   by_cases he : e = 0
   ·subst he
    rw [if_pos (by simp; omega), if_neg (by simp), br7 x1 w hw out i _ _ 0 [] rfl (by omega), List.nil_append, show Int.toNat 0 = 0 from rfl, List.drop_zero]
    simp only [LET]
    rw [bj7 x1 w hw m _ _ (i + 1) (by omega) (by omega), List.drop_eq_getElem_cons hlt, js, ← cd1, show (i + 1).toNat = i.toNat + 1 by omega, ← rx h0 (by omega)]
    rfl
   ·rw [if_neg (by simp [he]), if_pos (by simp [he])]
    simp [he]
theorem bz4 (c : aa) : na [c] = [{ Value := c.Value &&& c.Mask, Mask := c.Mask }] := by
 unfold na
 show gj [c] _ 1 0 [] = _
 rw [gj]
 have h : nr [c] 0 = false := by
  unfold nr
  show gq [c] 0 _ 1 0 = false
  rw [gq, if_neg (by simp)]
  rfl
 simp only [LET, h]
 rfl
theorem cf2 (c : aa) : ki [c] = ([{ Value := c.Value &&& c.Mask, Mask := c.Mask }], 0) := by
 unfold ki
 simp only [LET, bz4]
 rfl
theorem cu4 (c : aa) (b : List aa) (w : Int) : jb [c] b w = nh [c] b w := by
 unfold jb nh
 by_cases hc : (decide (w < 1) || decide (64 < w)) = true
 ·rw [if_pos hc, if_pos hc]
 ·rw [if_neg hc, if_neg hc]
  have hw : 1 ≤ w ∧ w ≤ 64 := by
   simp only [Bool.or_eq_true, decide_eq_true_eq, not_or] at hc
   omega
  have e1 : lf [c] w = [{ Value := c.Value &&& (c.Mask &&& dy w), Mask := c.Mask &&& dy w }] := rfl
  rw [show ∀ K, mc [c] w K (Int.toNat ((([c] : List aa).length : Int) - 0)) 0 [] = K [{ Value := c.Value, Mask := c.Mask &&& py w }] from fun K => rfl]
  simp only [LET, e1, cd1, cf2]
  rw [bj7 b w hw _ _ 0 0 rfl (by omega), if_neg (by simp), show Int.toNat 0 = 0 from rfl, List.drop_zero, ← bf0 hw]
  rw [BitVec.and_assoc, BitVec.and_self]
  simp
theorem bl7 (p : ab) (t : Int) (x : au) (W : List Int) (K : aa → aa) (hl : x.Keys.length = W.length) : ∀ (m : Nat) (i : Int) (c : aa), m = Int.toNat ((x.Keys.length : Int) - i) → 0 ≤ i → oo x W K m i c = my x W K m i c
 | 0, i, c, hm, h0 => rfl
 | m + 1, i, c, hm, h0 => by
   rw [oo, my, if_pos (by simp; omega), bl7 p t x W K hl m (i + 1) _ (by omega) (by omega)]
theorem br9 (p : ab) (t : Int) (x : au) (hl : x.Keys.length = (du p t).length) : su p t x = ji x (dj p t) := by
 unfold su ji
 rw [Widths_eq]
 simp only [LET]
 rw [show (((du p t).length : Int) - 0).toNat = ((x.Keys.length : Int) - 0).toNat by omega]
 exact bl7 p t x _ _ hl _ 0 _ rfl (by omega)
theorem bs2 (W : List Int) (hW : ∀ j : Int, 0 ≤ j → j < W.length → 1 ≤ ix W j ∧ ix W j ≤ 32) (hl : W.length ≤ 6) : ∀ (m : Nat) (i a : Int), m = Int.toNat ((W.length : Int) - i) → 0 ≤ i → 0 ≤ a → a ≤ 32 * i → a + m ≤ jl W (fun x => x) m a i ∧ jl W (fun x => x) m a i ≤ a + 32 * m
 | 0, i, a, hm, h0, ha, hb => by
   have e : jl W (fun x => x) 0 a i = a := rfl
   rw [e]; omega
 | m + 1, i, a, hm, h0, ha, hb => by
   rw [jl]
   have h1 := hW i h0 (by omega)
   have e : wr (a + ix W i) = a + ix W i := dg (by omega) (by omega)
   rw [e]
   have := bs2 W hW hl m (i + 1) (a + ix W i) (by omega) (by omega) (by omega) (by omega)
   omega
section
variable {p : ab} {t : Int} {l : List av} (G : GoodR p t l)
include G
theorem dr7 {k : Int} (k0 : 0 ≤ k) (k1 : k < (du p t).length) : 1 ≤ ix (du p t) k ∧ ix (du p t) k ≤ 32 := by
 have h1 := rwp (p := p) (t := t) rfl k0 k1
 have hv : fi p t = true := by simp [fi, LET, G.tc]
 have h2 := (ah0 hv k k0 (by rw [← g_w G]; exact k1)).2
 have h3 : ix (du p t) k = iv p (ix (ix p.Tables t).Keys k).Field := by
  rw [pw, if_pos hv, ak6 k0 (by rw [← g_w G]; exact k1)]
  simp
 rw [h3] at h1 ⊢
 omega
theorem dv4 : (ix p.Tables t).Keys.length ≤ qp p t ∧ qp p t ≤ 32 * (ix p.Tables t).Keys.length := by
 have h6 := g_n G
 have hw := g_w G
 have := bs2 (du p t) (fun j j0 j1 => dr7 G j0 j1) (by omega) (Int.toNat (((du p t).length : Int) - 0)) 0 0 rfl (by omega) (by omega) (by omega)
 unfold qp
 simp only [LET]
 omega
theorem aw7 (i : Int) (K : List aa → List Int × Int) : ∀ (m : Nat) (j : Int) (z : List aa), m = Int.toNat ((l.length : Int) - j) → 0 ≤ j → ij p t l i K m j z = K (z ++ ((l.drop j.toNat).filter fun x => gi p t x (ix l i)).map fun x => ji x.Entry (dj p t))
 | 0, j, z, hm, h0 => by
   rw [ij, List.drop_of_length_le (by omega)]
   simp
 | m + 1, j, z, hm, h0 => by
   have hlt : j.toNat < l.length := by omega
   have hj : ix l j = l[j.toNat] := rx h0 (by omega)
   rw [ij, List.drop_eq_getElem_cons hlt, List.filter_cons, ← Precedes_eq, hj]
   simp only [LET]
   have e : (j + 1).toNat = j.toNat + 1 := by omega
   cases hp : gi p t l[j.toNat] (ix l i)
   ·rw [if_neg (by simp), if_neg (by simp), aw7 i K m (j + 1) z (by omega) (by omega), e]
   ·have hk := (ak4 G h0 (by omega)).n
    rw [hj] at hk
    rw [if_pos rfl, if_pos rfl, aw7 i K m (j + 1) _ (by omega) (by omega), e, br9 p t _ (by rw [hk, g_w G]), List.map_cons, List.append_assoc]
    rfl
omit G in
theorem cc6 (s : List Int) (n : Int) : (nu s n).Perm (n :: s) := by
 obtain ⟨j, h1, h2, _⟩ := bi4 s n
 rw [h2]
 refine .trans List.perm_middle (.cons _ ?_)
 rw [List.take_append_drop]
omit G in
theorem bh9 (s : List Int) (n : Int) (hs : s.Pairwise (· ≤ ·)) : (nu s n).Pairwise (· ≤ ·) := by
 obtain ⟨j, h1, h2, h3, h4⟩ := bi4 s n
 rw [h2]
 have hs' := hs
 rw [← List.take_append_drop j s, List.pairwise_append] at hs'
 obtain ⟨s1, s2, s3⟩ := hs'
 have hd : ∀ b ∈ s.drop j, n ≤ b := by
  intro b hb
  by_cases hj : j < s.length
  ·have h5 := h4 (by omega)
   rw [bi5 hj] at h5
   rw [List.drop_eq_getElem_cons hj] at hb s2
   rcases List.mem_cons.1 hb with rfl | hb
   ·exact h5
   ·exact Int.le_trans h5 ((List.pairwise_cons.1 s2).1 b hb)
  ·rw [List.drop_of_length_le (by omega)] at hb
   cases hb
 rw [List.pairwise_append, List.pairwise_cons]
 refine ⟨s1, ⟨hd, s2⟩, fun a ha b hb => ?_⟩
 obtain ⟨k, hk, rfl⟩ := List.mem_take_iff_getElem.1 ha
 have h5 := h3 (k : Int) (by omega) (by omega)
 rw [bi5 (by omega)] at h5
 rcases List.mem_cons.1 hb with rfl | hb
 ·omega
 ·have := hd b hb; omega
omit G in
theorem bw7 {a b : List Int} (h : a.Perm b) (hs : a.Pairwise (· ≤ ·)) : (b.mergeSort fun x y => decide (x ≤ y)) = a := by
 have h1 : (b.mergeSort fun x y => decide (x ≤ y)).Perm a := (List.mergeSort_perm b _).trans h.symm
 have h2 : (b.mergeSort fun x y => decide (x ≤ y)).Pairwise (fun x y => decide (x ≤ y) = true) := List.pairwise_mergeSort (le := fun x y : Int => decide (x ≤ y)) (fun a b c h k => by simp only [decide_eq_true_eq] at *; omega) (fun a b => by simp only [Bool.or_eq_true, decide_eq_true_eq]; omega) b
 refine List.Perm.eq_of_pairwise (le := fun x y : Int => x ≤ y) (fun a b _ _ h k => Int.le_antisymm h k) (h2.imp fun h => by simpa using h) hs h1
theorem at3 : ∀ (m : Nat) (i : Int) (s out : List Int), m = Int.toNat ((l.length : Int) - i) → 0 ≤ i → s.Perm out → s.Pairwise (· ≤ ·) → il p t l (fun a => (a, 0)) m s i = kn p t (dj p t) (ld p t) l (l.drop i.toNat) out
 | 0, i, s, out, hm, h0, hp, hs => by
   rw [il, List.drop_of_length_le (by omega), kn, bw7 hp hs]
 | m + 1, i, s, out, hm, h0, hp, hs => by
   have hlt : i.toNat < l.length := by omega
   have hi : ix l i = l[i.toNat] := rx h0 (by omega)
   have hk := (ak4 G h0 (by omega)).n
   have e : (i + 1).toNat = i.toNat + 1 := by omega
   rw [il, aw7 G i _ _ 0 [] rfl (by omega), List.nil_append, show Int.toNat 0 = 0 from rfl, List.drop_zero]
   simp only [LET]
   rw [br9 p t _ (by rw [hk, g_w G]), ← cu4, ← Bits_eq, List.drop_eq_getElem_cons hlt, kn]
   simp only [LET]
   rw [← hi, show ot p t (dj p t) l (ix l i) = (l.filter fun x => gi p t x (ix l i)).map fun x => ji x.Entry (dj p t) from rfl]
   generalize jb [ji (ix l i).Entry (dj p t)] ((l.filter fun x => gi p t x (ix l i)).map fun x => ji x.Entry (dj p t)) (ld p t) = q
   by_cases h1 : (!decide (q.2 = 0)) = true
   ·rw [if_pos h1, if_pos h1]
   ·rw [if_neg h1, if_neg h1]
    by_cases h2 : decide ((q.1.length : Int) = 0) = true
    ·rw [if_pos h2, if_pos h2, at3 m (i + 1) _ (out ++ [(ix l i).ID]) (by omega) (by omega) (.trans (cc6 s _) (.trans (.cons _ hp) (by simpa using (List.perm_append_comm (l₁ := [(ix l i).ID]) (l₂ := out))))) (bh9 s _ hs), e]
    ·rw [if_neg h2, if_neg h2, at3 m (i + 1) s out (by omega) (by omega) hp hs, e]
end
theorem dd4 (p : ab) (t : Int) (l : List av) : kr p t l = nj p t l := by
 unfold kr nj
 simp only [LET]
 by_cases he : gz p t l = 0
 ·have hne : (!decide (gz p t l = 0)) = false := by simp [he]
  simp only [hne, Bool.false_eq_true, if_false]
  have G := (an2 p t l).1 he
  have hb := dv4 G
  rw [at3 G _ 0 [] [] rfl (by omega) (.refl _) .nil, show Int.toNat 0 = 0 from rfl, List.drop_zero]
  by_cases hz : (ix p.Tables t).Keys.length = 0
  ·have h1 : decide (ld p t = 0) = true := by rw [Bits_eq, decide_eq_true_eq]; omega
   have h2 : decide (((ix p.Tables t).Keys.length : Int) = 0) = true := by rw [decide_eq_true_eq]; omega
   rw [if_pos h1, if_pos h2]
  ·have h1 : decide (ld p t = 0) = false := by rw [Bits_eq, decide_eq_false_iff_not]; omega
   have h2 : decide (((ix p.Tables t).Keys.length : Int) = 0) = false := by rw [decide_eq_false_iff_not]; omega
   simp only [h1, h2, Bool.false_eq_true, if_false]
 ·have hne : (!decide (gz p t l = 0)) = true := by simp [he]
  simp only [hne, if_true]
theorem cc8 (a : List Int) : ∀ (m : Nat) (i : Int), ju a a (fun _ => true) m i = true
 | 0, i => rfl
 | m + 1, i => by rw [ju, if_neg (by simp), cc8 a m]
theorem eqi (a : List Int) : pv a a = true := by
 unfold pv
 rw [if_neg (by simp), cc8]
theorem LookupShadowed_law (x0 : co) : lq x0 = true := by
 unfold lq
 simp only [LET]
 split
 ·rfl
 ·rw [dd4, eqi]
  simp [pm]
end Go.Proofs.YthdnpgpnodgicaaGreat
