import Derived.Test.YthdnpgpnodgicaaGreatKFpLcFl
set_option linter.unusedVariables false
set_option linter.unusedSimpArgs false
set_option maxRecDepth 100000
namespace Go.Proofs.YthdnpgpnodgicaaGreat
open Go Go.Pb Go.RowKit
theorem bi0 (p : aa) (t : Int) : ∀ (m : Nat) (k i : Int), m = Int.toNat (((ix p.Tables t).Keys.length : Int) - i) → 0 ≤ i → k ≤ fq p t (fun x => x) m k i ∧ ∀ j : Int, i ≤ j → j < (ix p.Tables t).Keys.length → (ix (ix p.Tables t).Keys j).Kind ≤ fq p t (fun x => x) m k i
 | 0, k, i, hm, h0 => ⟨Int.le_refl k, fun j h1 h2 => by omega⟩
 | m + 1, k, i, hm, h0 => by
   rw [fq]
   obtain ⟨h1, h2⟩ := bi0 p t m (max k (ix (ix p.Tables t).Keys i).Kind) (i + 1) (by omega) (by omega)
   refine ⟨by omega, fun j h3 h4 => ?_⟩
   by_cases hj : j = i
   ·subst hj; omega
   ·exact h2 j (by omega) h4
theorem bw0 {p : aa} {t : Int} (hc : (fc p t).2 = 0) (hk : lc p t ≠ 3) : ∀ j : Int, 0 ≤ j → j < (ix p.Tables t).Keys.length → (ix (ix p.Tables t).Keys j).Kind = 1 ∨ (ix (ix p.Tables t).Keys j).Kind = 2 := by
 have hv : fe p t = true := by simp [fe, LET, hc]
 intro j h0 h1
 rcases (uj hv j h0 h1).1 with h | h | h
 ·exact .inl h
 ·exact .inr h
 ·exfalso
  apply hk
  unfold lc
  simp only [LET, hv, Bool.not_true, Bool.false_eq_true, if_false]
  obtain ⟨h2, h3⟩ := bi0 p t _ 1 0 rfl (by omega)
  have h4 := h3 j h0 h1
  have h5 : fq p t (fun x => x) (Int.toNat (((ix p.Tables t).Keys.length : Int) - 0)) 1 0 ≤ 3 := by
   have key : ∀ (m : Nat) (k i : Int), m = Int.toNat (((ix p.Tables t).Keys.length : Int) - i) → 0 ≤ i → k ≤ 3 → fq p t (fun x => x) m k i ≤ 3 := by
    intro m
    induction m with
    | zero => intro k i hm hi hk; exact hk
    | succ m ih =>
      intro k i hm hi hk
      rw [fq]
      have := (uj hv i hi (by omega)).1
      exact ih _ _ (by omega) (by omega) (by omega)
   exact key _ 1 0 rfl (by omega) (by omega)
  omega
theorem ae0 {p : aa} {x : ax} {K : Int → Int → Int × Int} (hK : ∀ a b, (K a b).2 = 0 → b ≤ 1) (hn : x.Keys.length ≤ 1000) : ∀ (m : Nat) (a b i : Int), m = Int.toNat ((x.Keys.length : Int) - i) → 0 ≤ i → 0 ≤ b → b ≤ i → i ≤ x.Keys.length → (ie p x K m a b i).2 = 0 →
 b ≤ 1 ∧ (1 ≤ b → ∀ j : Int, i ≤ j → j < x.Keys.length → (ix x.Keys j).Kind ≠ 2) ∧ ∀ j k : Int, i ≤ j → j < k → k < x.Keys.length → ¬((ix x.Keys j).Kind = 2 ∧ (ix x.Keys k).Kind = 2)
 | 0, a, b, i, hm, h0, hb, hbi, hi, h => ⟨hK a b h, fun _ j h1 h2 => by omega, fun j k h1 h2 h3 => by omega⟩
 | m + 1, a, b, i, hm, h0, hb, hbi, hi, h => by
   rw [ie] at h
   simp only [LET] at h
   split at h
   ·exact absurd h (by show (8 : Int) ≠ 0; decide)
   ·split at h
    ·exact absurd h (by show (11 : Int) ≠ 0; decide)
    ·split at h
     ·rename_i hk
      simp only [decide_eq_true_eq] at hk
      have e : wr (b + 1) = b + 1 := dw (by omega) (by omega)
      rw [e] at h
      obtain ⟨h1, h2, h3⟩ := ae0 hK hn m _ (b + 1) (i + 1) (by omega) (by omega) (by omega) (by omega) (by omega) h
      have h2 := h2 (by omega)
      refine ⟨by omega, fun hb1 => by omega, fun j k h4 h5 h6 hh => ?_⟩
      by_cases hj : j = i
      ·exact h2 k (by omega) h6 hh.2
      ·exact h3 j k (by omega) h5 h6 hh
     ·rename_i hk
      simp only [decide_eq_true_eq] at hk
      obtain ⟨h1, h2, h3⟩ := ae0 hK hn m _ b (i + 1) (by omega) (by omega) (by omega) (by omega) (by omega) h
      refine ⟨h1, fun hb1 j h4 h5 => ?_, fun j k h4 h5 h6 hh => ?_⟩
      ·by_cases hj : j = i
       ·subst hj; exact hk
       ·exact h2 hb1 j (by omega) h5
      ·by_cases hj : j = i
       ·subst hj; exact hk hh.1
       ·exact h3 j k (by omega) h5 h6 hh
theorem bi9 {p : aa} {t : Int} (hc : (fc p t).2 = 0) : ∀ j k : Int, 0 ≤ j → j < k → k < (ix p.Tables t).Keys.length → ¬((ix (ix p.Tables t).Keys j).Kind = 2 ∧ (ix (ix p.Tables t).Keys k).Kind = 2) := by
 have hl := (yd hc).2.1
 have h := hc
 simp only [fc, LET] at h
 split at h
 ·simp at h
 ·split at h
  ·simp at h
  ·split at h
   ·simp at h
   ·split at h
    ·simp at h
    ·by_cases hk : (nd p (ix p.Tables t)).2 = 0
     ·refine (ae0 ?_ (by omega) _ 0 0 0 rfl (by omega) (by omega) (by omega) (by omega) hk).2.2
      intro a b hab
      split at hab
      ·exact absurd hab (by show (7 : Int) ≠ 0; decide)
      ·rename_i hq; simp only [decide_eq_true_eq] at hq; omega
     ·rw [if_pos (by simpa using hk)] at h
      exact absurd h hk
theorem ak9 (ks : List bh) (q : bh → Bool) : ∀ (m : Nat) (i : Int), m = Int.toNat ((ks.length : Int) - i) → 0 ≤ i → (bp ks q (fun _ => -1) m i = -1 ∧ ∀ j : Int, i ≤ j → j < ks.length → q (ix ks j) = false) ∨
 (i ≤ bp ks q (fun _ => -1) m i ∧ bp ks q (fun _ => -1) m i < ks.length ∧ q (ix ks (bp ks q (fun _ => -1) m i)) = true ∧ ∀ j : Int, i ≤ j → j < bp ks q (fun _ => -1) m i → q (ix ks j) = false)
 | 0, i, hm, h0 => .inl ⟨rfl, fun j h1 h2 => by omega⟩
 | m + 1, i, hm, h0 => by
   rw [bp]
   cases hq : q (ix ks i)
   ·rw [if_neg (by simp)]
    rcases ak9 ks q m (i + 1) (by omega) (by omega) with ⟨h1, h2⟩ | ⟨h1, h2, h3, h4⟩
    ·refine .inl ⟨h1, fun j h3 h4 => ?_⟩
     by_cases hj : j = i
     ·subst hj; exact hq
     ·exact h2 j (by omega) h4
    ·refine .inr ⟨by omega, h2, h3, fun j h5 h6 => ?_⟩
     by_cases hj : j = i
     ·subst hj; exact hq
     ·exact h4 j (by omega) h6
   ·rw [if_pos rfl]
    exact .inr ⟨by omega, by omega, hq, fun j h1 h2 => by omega⟩
theorem sq (ks : List bh) : (lpX ks = -1 ∧ ∀ j : Int, 0 ≤ j → j < ks.length → (ix ks j).Kind ≠ 2) ∨ (0 ≤ lpX ks ∧ lpX ks < ks.length ∧ (ix ks (lpX ks)).Kind = 2 ∧ ∀ j : Int, 0 ≤ j → j < lpX ks → (ix ks j).Kind ≠ 2) := by
 rcases ak9 ks (fun k => decide (k.Kind = 2)) _ 0 rfl (by omega) with ⟨h1, h2⟩ | ⟨h1, h2, h3, h4⟩
 ·exact .inl ⟨h1, fun j h3 h4 => by simpa using h2 j h3 h4⟩
 ·exact .inr ⟨h1, h2, of_decide_eq_true h3, fun j h5 h6 => by simpa using h4 j h5 h6⟩
theorem ag6 (v : BitVec 32) (w : Int) : ku v w = true ↔ (1 ≤ w ∧ w ≤ 32) ∧ v &&& dq w = v := by
 rw [← vw]
 unfold gz
 simp only [LET, ju, Bool.and_eq_true, decide_eq_true_eq]
 constructor
 ·rintro ⟨h1, h2⟩
  refine ⟨h1, ?_⟩
  have h3 := wx h1
  have h4 : v.toNat ≤ (dq w).toNat := h2
  apply BitVec.eq_of_toNat_eq
  rw [BitVec.toNat_and, h3, Nat.and_two_pow_sub_one_eq_mod, Nat.mod_eq_of_lt]
  have := Nat.two_pow_pos w.toNat
  omega
 ·rintro ⟨h1, h2⟩
  refine ⟨h1, ?_⟩
  show v.toNat ≤ (dq w).toNat
  have := congrArg BitVec.toNat h2
  rw [BitVec.toNat_and] at this
  rw [← this]
  exact Nat.and_le_right
theorem at5 {a b m : BitVec 32} (ha : a &&& m = a) (hb : b &&& m = b) (h : (a ^^^ b) &&& m = 0#32) : a = b := by
 have h1 : a ^^^ b = 0#32 := by
  rw [← h]
  apply BitVec.eq_of_getLsbD_eq
  intro i hi
  have e1 := congrArg (fun v => v.getLsbD i) ha
  have e2 := congrArg (fun v => v.getLsbD i) hb
  simp only [BitVec.getLsbD_and, BitVec.getLsbD_xor] at e1 e2 ⊢
  cases hx : a.getLsbD i <;> cases hy : b.getLsbD i <;> simp_all
 apply BitVec.eq_of_getLsbD_eq
 intro i hi
 have e := congrArg (fun v => v.getLsbD i) h1
 simp only [BitVec.getLsbD_xor, BitVec.getLsbD_zero] at e
 cases hx : a.getLsbD i <;> cases hy : b.getLsbD i <;> simp_all
theorem av1 {w : Int} (h : 1 ≤ w ∧ w ≤ 32) {i : Nat} (hi : i < 32) : (dq w).getLsbD i = decide ((i : Int) < w) := by
 rw [(ab3 h).1, BitVec.getLsbD_ofNat, Nat.testBit_two_pow_sub_one]
 simp only [hi, decide_true, Bool.true_and, decide_eq_decide]
 omega
theorem ak7 {w n : Int} (h : 1 ≤ w ∧ w ≤ 32) (h0 : 0 ≤ n) (h1 : n ≤ w) {i : Nat} (hi : i < 32) : (fh n w).getLsbD i = (decide (w - n ≤ (i : Int)) && decide ((i : Int) < w)) := by
 unfold fh
 simp only [LET, ju]
 rw [if_neg (by simp [h])]
 have e : (min (max n 0) w).toNat = n.toNat := by omega
 rw [e, BitVec.getLsbD_and, av1 h hi, BitVec.getLsbD_not, BitVec.getLsbD_ushiftRight]
 simp only [hi, decide_true, Bool.true_and]
 by_cases h2 : n.toNat + i < 32
 ·rw [av1 h h2]
  rw [Bool.eq_iff_iff]
  simp only [Bool.and_eq_true, Bool.not_eq_true', decide_eq_true_eq, decide_eq_false_iff_not]
  omega
 ·rw [BitVec.getLsbD_of_ge _ _ (by omega), decide_eq_true (show w - n ≤ (i : Int) by omega)]
  simp
theorem as8 {w d : Int} (x y : BitVec 32) (h : w ≤ 32) (h0 : 0 ≤ d) (h1 : d < w) : bitT w x d = bitT w y d ↔ x.getLsbD (w - 1 - d).toNat = y.getLsbD (w - 1 - d).toNat := by
 have key : ∀ z : BitVec 32, bitT w z d = if z.getLsbD (w - 1 - d).toNat then 1#32 else 0#32 := by
  intro z
  unfold bitT
  generalize (w - 1 - d).toNat = k
  apply BitVec.eq_of_getLsbD_eq
  intro i hi
  rw [BitVec.getLsbD_and, BitVec.getLsbD_ushiftRight]
  cases hz : z.getLsbD k
  ·rw [if_neg (by simp)]
   simp only [BitVec.getLsbD_zero, BitVec.getLsbD_one]
   by_cases hi0 : i = 0
   ·subst hi0; simp [hz]
   ·simp [hi0]
  ·rw [if_pos rfl]
   simp only [BitVec.getLsbD_one]
   by_cases hi0 : i = 0
   ·subst hi0; simp [hz]
   ·simp [hi0]
 rw [key, key]
 cases x.getLsbD (w - 1 - d).toNat <;> cases y.getLsbD (w - 1 - d).toNat <;> simp
def Agree (w n : Int) (x y : BitVec 32) : Prop := ∀ d : Int, 0 ≤ d → d < n → bitT w x d = bitT w y d
theorem ak2 {w n : Int} (x y : BitVec 32) (h : 1 ≤ w ∧ w ≤ 32) (h0 : 0 ≤ n) (h1 : n ≤ w) : (x ^^^ y) &&& fh n w = 0#32 ↔ Agree w n x y := by
 constructor
 ·intro hx d h2 h3
  rw [as8 x y h.2 h2 (by omega)]
  have e := congrArg (fun v => v.getLsbD (w - 1 - d).toNat) hx
  simp only [BitVec.getLsbD_and, BitVec.getLsbD_xor, BitVec.getLsbD_zero] at e
  rw [ak7 h h0 h1 (by omega)] at e
  have e2 : (decide (w - n ≤ ((w - 1 - d).toNat : Int)) && decide (((w - 1 - d).toNat : Int) < w)) = true := by simp only [Bool.and_eq_true, decide_eq_true_eq]; omega
  rw [e2] at e
  cases hx : x.getLsbD (w - 1 - d).toNat <;> cases hy : y.getLsbD (w - 1 - d).toNat <;> simp_all
 ·intro hA
  apply BitVec.eq_of_getLsbD_eq
  intro i hi
  rw [BitVec.getLsbD_and, BitVec.getLsbD_xor, ak7 h h0 h1 hi, BitVec.getLsbD_zero]
  by_cases hc : w - n ≤ (i : Int) ∧ (i : Int) < w
  ·have := (as8 x y h.2 (d := w - 1 - i) (by omega) (by omega)).1 (hA _ (by omega) (by omega))
   rw [show (w - 1 - (w - 1 - (i : Int))).toNat = i by omega] at this
   rw [this]; simp
  ·have : (decide (w - n ≤ (i : Int)) && decide ((i : Int) < w)) = false := by
    rw [Bool.eq_false_iff]; simp only [ne_eq, Bool.and_eq_true, decide_eq_true_eq]; exact hc
   rw [this]; simp
theorem bh5 (x : BitVec 32) (w : Int) : ∀ (m : Nat) (i : Int), m = Int.toNat (w + 1 - i) → 0 ≤ i → (ej x w (fun _ => (0, false)) m i).2 = true → i ≤ (ej x w (fun _ => (0, false)) m i).1 ∧ (ej x w (fun _ => (0, false)) m i).1 ≤ w ∧ fh (ej x w (fun _ => (0, false)) m i).1 w = x
 | 0, i, hm, h0, h => by cases h
 | m + 1, i, hm, h0, h => by
   rw [ej] at h ⊢
   simp only [LET] at h ⊢
   by_cases hc : fh i w = x
   ·rw [if_pos (by simpa using hc)]
    exact ⟨by simp, by simp; omega, hc⟩
   ·rw [if_neg (by simpa using hc)] at h ⊢
    obtain ⟨h1, h2, h3⟩ := bh5 x w m (i + 1) (by omega) (by omega) h
    exact ⟨by omega, h2, h3⟩
theorem sa {x : BitVec 32} {w : Int} (h : (dk x w).2 = true) : (1 ≤ w ∧ w ≤ 32) ∧ 0 ≤ (dk x w).1 ∧ (dk x w).1 ≤ w ∧ fh (dk x w).1 w = x := by
 unfold dk at h ⊢
 simp only [LET, ju] at h ⊢
 by_cases hw : 1 ≤ w ∧ w ≤ 32
 ·rw [if_neg (by simp [hw])] at h ⊢
  have e : wr (w + 1) = w + 1 := dw (by omega) (by omega)
  rw [e] at h ⊢
  obtain ⟨h1, h2, h3⟩ := bh5 x w _ 0 rfl (by omega) h
  exact ⟨hw, h1, h2, h3⟩
 ·rw [if_pos (by simp; omega)] at h; cases h
theorem bt2 : ∀ w : Fin 33, ∀ n : Fin 33, 1 ≤ w.val → n.val ≤ w.val → iy (fh (n.val : Int) (w.val : Int)) = (n.val : Int) := by decide +kernel
theorem bl8 {x : BitVec 32} {w : Int} (h : (dk x w).2 = true) : iy x = (dk x w).1 := by
 obtain ⟨hw, h0, h1, e⟩ := sa h
 generalize (dk x w).1 = n at *
 have := bt2 ⟨w.toNat, by omega⟩ ⟨n.toNat, by omega⟩ (by show 1 ≤ w.toNat; omega) (by show n.toNat ≤ w.toNat; omega)
 simp only at this
 rw [Int.toNat_of_nonneg (by omega), Int.toNat_of_nonneg (by omega), e] at this
 exact this
def ci (wo k : Int) : Int := if 0 ≤ wo ∧ wo < k then k - 1 else k
theorem at1 {l : List (BitVec 32)} {wo : Int} (hn : l.length ≤ 6) : ∀ (m : Nat) (i : Int) (st : Ex), m = Int.toNat ((l.length : Int) - i) → 0 ≤ i → i ≤ l.length → ExB st → st.n = ci wo i → (∀ k : Int, 0 ≤ k → k < i → k ≠ wo → ix st.v (ci wo k) = ix l k) → ∀ k : Int, 0 ≤ k → k < l.length → k ≠ wo → ix (pkL l wo m i st).v (ci wo k) = ix l k
 | 0, i, st, hm, h0, h1, hB, hc, hv => fun k h2 h3 h4 => hv k h2 (by omega) h4
 | m + 1, i, st, hm, h0, h1, hB, hc, hv => by
   rw [pkL]
   refine at1 hn m (i + 1) _ (by omega) (by omega) (by omega) hB.step ?_ ?_
   ·unfold pkS
    by_cases hi : i = wo
    ·rw [if_neg (by simp [hi]), hc]
     unfold ci
     rw [if_neg (by omega), if_pos (by omega)]; omega
    ·have hlt : st.n < 6 := by rw [hc]; unfold ci; split <;> omega
     rw [if_pos (by simp [hi, hlt])]
     show st.n + 1 = _
     rw [hc]
     unfold ci
     split <;> split <;> omega
   ·intro k h2 h3 h4
    unfold pkS
    by_cases hi : i = wo
    ·rw [if_neg (by simp [hi])]
     exact hv k h2 (by omega) h4
    ·have hlt : st.n < 6 := by rw [hc]; unfold ci; split <;> omega
     rw [if_pos (by simp [hi, hlt])]
     have hlo := hB.lo
     have hln := hB.ln
     show ix (st.v.set st.n.toNat (ix l i)) (ci wo k) = ix l k
     have hck : 0 ≤ ci wo k ∧ ci wo k ≤ k := by unfold ci; split <;> omega
     rw [oe hck.1 (by rw [List.length_set]; omega), List.getElem_set]
     by_cases hk : k = i
     ·subst hk
      rw [if_pos (by rw [hc])]
     ·have hne : ci wo k < st.n := by rw [hc]; unfold ci; split <;> split <;> omega
      rw [if_neg (by omega), ← hv k h2 (by omega) h4, oe hck.1 (by omega)]
theorem bc9 {l : List (BitVec 32)} {wo : Int} (hn : l.length ≤ 6) {k : Int} (h0 : 0 ≤ k) (h1 : k < l.length) (h2 : k ≠ wo) : ix (pk l wo).v (ci wo k) = ix l k :=
 at1 hn l.length 0 ⟨0, List.replicate 6 0#32⟩ (by omega) (by omega) (by omega) ⟨by decide, by decide, rfl⟩ (by show (0 : Int) = _; unfold ci; split <;> omega) (fun k h3 h4 => by omega) k h0 h1 h2
theorem aj6 {a b : List (BitVec 32)} {wo : Int} (hl : a.length = b.length) (h : ∀ k : Int, 0 ≤ k → k < a.length → k ≠ wo → ix a k = ix b k) : ∀ (m : Nat) (i : Int) (st : Ex), m = Int.toNat ((a.length : Int) - i) → 0 ≤ i → pkL a wo m i st = pkL b wo m i st
 | 0, i, st, hm, h0 => rfl
 | m + 1, i, st, hm, h0 => by
   rw [pkL, pkL]
   have e : pkS wo st i (ix a i) = pkS wo st i (ix b i) := by
    by_cases hi : i = wo
    ·unfold pkS
     rw [if_neg (by simp [hi]), if_neg (by simp [hi])]
    ·rw [h i h0 (by omega) hi]
   rw [e]
   exact aj6 hl h m (i + 1) _ (by omega) (by omega)
theorem bx1 {a b : List (BitVec 32)} {wo : Int} (hl : a.length = b.length) (hn : a.length ≤ 6) : pk a wo = pk b wo ↔ ∀ k : Int, 0 ≤ k → k < a.length → k ≠ wo → ix a k = ix b k := by
 constructor
 ·intro h k h0 h1 h2
  rw [← bc9 hn h0 h1 h2, ← bc9 (by omega) h0 (by omega) h2, h]
 ·intro h
  unfold pk
  rw [← hl]
  exact aj6 hl h _ 0 _ (by omega) (by omega)
def gv (w : Int) (x : BitVec 32) : Nat → Int → Tr → Option Int
 | _, _, .nil => none
 | 0, _, .node _ _ s v => if s = true then some v else none
 | m + 1, d, .node l r _ _ => if bitT w x d = 0#32 then gv w x m (d + 1) l else gv w x m (d + 1) r
theorem ao9 (w : Int) (x : BitVec 32) (m : Nat) (d : Int) : gv w x m d .nil = none := by cases m <;> rfl
theorem be2 (w : Int) (x : BitVec 32) : ∀ (m : Nat) (d : Int) (t : Tr), gv w x m d (mk t) = gv w x m d t
 | 0, d, .nil => rfl
 | m + 1, d, .nil => by
   show (if _ then _ else _) = _
   rw [ao9, ao9]; simp
 | m, d, .node _ _ _ _ => rfl
theorem cv5 (t : Tr) : mk t ≠ .nil := by cases t <;> simp [mk]
open Classical in
theorem az0 (w : Int) (x y : BitVec 32) (i : Int) : ∀ (n : Nat) (d : Int) (t : Tr) (m : Nat), t ≠ .nil → gv w y m d (ins w x i n d t) = if m = n ∧ (∀ k : Int, d ≤ k → k < d + n → bitT w y k = bitT w x k) then some ((gv w x n d t).getD i) else gv w y m d t
 | _, d, .nil, m, h => absurd rfl h
 | 0, d, .node l r s v, m, _ => by
   cases m with
   | zero =>
     rw [if_pos ⟨rfl, fun k h1 h2 => by omega⟩]
     cases s <;> rfl
   | succ m =>
     rw [if_neg (by omega)]
     cases s <;> rfl
 | n + 1, d, .node l r s v, m, _ => by
   cases m with
   | zero =>
     rw [if_neg (by omega)]
     unfold ins
     split <;> rfl
   | succ m =>
     have hspl : (∀ k : Int, d ≤ k → k < d + (n + 1 : Nat) → bitT w y k = bitT w x k) ↔ bitT w y d = bitT w x d ∧ ∀ k : Int, d + 1 ≤ k → k < d + 1 + n → bitT w y k = bitT w x k := by
      constructor
      ·intro h; exact ⟨h d (by omega) (by omega), fun k h1 h2 => h k (by omega) (by omega)⟩
      ·rintro ⟨h1, h2⟩ k h3 h4
       by_cases hk : k = d
       ·subst hk; exact h1
       ·exact h2 k (by omega) (by omega)
     simp only [hspl]
     by_cases hx : bitT w x d = 0#32
     ·by_cases hy : bitT w y d = 0#32
      ·rw [ins, if_pos hx, gv, if_pos hy, az0 w x y i n (d + 1) (mk l) m (cv5 l), be2, be2, gv, if_pos hx, gv, if_pos hy, hx, hy]
       simp only [Nat.add_right_cancel_iff, true_and]
      ·have hB : ∀ q, gv w y (m + 1) d (.node q r s v) = gv w y m (d + 1) r := fun q => by rw [gv, if_neg hy]
       rw [ins, if_pos hx, hB, hB]
       exact (if_neg fun h => hy (h.2.1.trans hx)).symm
     ·by_cases hy : bitT w y d = 0#32
      ·have hB : ∀ q, gv w y (m + 1) d (.node l q s v) = gv w y m (d + 1) l := fun q => by rw [gv, if_pos hy]
       rw [ins, if_neg hx, hB, hB]
       exact (if_neg fun h => hx (h.2.1.symm.trans hy)).symm
      ·rw [ins, if_neg hx, gv, if_neg hy, az0 w x y i n (d + 1) (mk r) m (cv5 r), be2, be2, gv, if_neg hx, gv, if_neg hy]
       have e : bitT w y d = bitT w x d := by
        rcases ad0 w x d with h1 | h1
        ·exact absurd h1 hx
        ·rcases ad0 w y d with h2 | h2
         ·exact absurd h2 hy
         ·rw [h1, h2]
       simp only [Nat.add_right_cancel_iff, e, true_and]
theorem yq (w : Int) (x : BitVec 32) : ∀ (t : Tr) (d : Int) (a : Int × Int × Bool), d ≤ w → (lkT w x t d a = a ∧ ∀ m : Nat, d + m ≤ w → gv w x m d t = none) ∨ ∃ (m : Nat) (v : Int), d + m ≤ w ∧ lkT w x t d a = (v, d + m, true) ∧ gv w x m d t = some v ∧ ∀ k : Nat, m < k → d + k ≤ w → gv w x k d t = none
 | .nil, d, a, h => .inl ⟨rfl, fun m _ => ao9 w x m d⟩
 | .node l r s v, d, a, h => by
   rw [lkT]
   by_cases hd : d = w
   ·rw [if_pos hd]
    cases s with
    | false =>
      refine .inl ⟨if_neg (by simp), fun m hm => ?_⟩
      have : m = 0 := by omega
      subst this; rfl
    | true => exact .inr ⟨0, v, by omega, by rw [if_pos rfl]; simp, rfl, fun k hk h2 => by omega⟩
   ·rw [if_neg hd]
    have step : ∀ (c : Tr) (hc : ∀ m : Nat, gv w x (m + 1) d (.node l r s v) = gv w x m (d + 1) c) (IH : ∀ a', (lkT w x c (d + 1) a' = a' ∧ ∀ m : Nat, d + 1 + m ≤ w → gv w x m (d + 1) c = none) ∨ ∃ (m : Nat) (v : Int), d + 1 + m ≤ w ∧ lkT w x c (d + 1) a' = (v, d + 1 + m, true) ∧ gv w x m (d + 1) c = some v ∧ ∀ k : Nat, m < k → d + 1 + k ≤ w → gv w x k (d + 1) c = none),
     (lkT w x c (d + 1) (if s = true then (v, d, true) else a) = a ∧ ∀ m : Nat, d + m ≤ w → gv w x m d (.node l r s v) = none) ∨ ∃ (m : Nat) (v' : Int), d + m ≤ w ∧ lkT w x c (d + 1) (if s = true then (v, d, true) else a) = (v', d + m, true) ∧ gv w x m d (.node l r s v) = some v' ∧ ∀ k : Nat, m < k → d + k ≤ w → gv w x k d (.node l r s v) = none := by
     intro c hc IH
     rcases IH (if s = true then (v, d, true) else a) with ⟨h1, h2⟩ | ⟨m, v', h1, h2, h3, h4⟩
     ·cases s with
      | false =>
        refine .inl ⟨by rw [h1]; rfl, fun m hm => ?_⟩
        cases m with
        | zero => rfl
        | succ m => rw [hc]; exact h2 m (by omega)
      | true =>
        refine .inr ⟨0, v, by omega, by rw [h1]; simp, rfl, fun k hk hk2 => ?_⟩
        cases k with
        | zero => omega
        | succ k => rw [hc]; exact h2 k (by omega)
     ·refine .inr ⟨m + 1, v', by omega, by rw [h2]; congr 2; omega, by rw [hc]; exact h3, fun k hk hk2 => ?_⟩
      cases k with
      | zero => omega
      | succ k => rw [hc]; exact h4 k (by omega) (by omega)
    by_cases hx : bitT w x d = 0#32
    ·rw [if_pos hx]
     exact step l (fun m => by rw [gv, if_pos hx]) fun a' => yq w x l (d + 1) a' (by omega)
    ·rw [if_neg hx]
     exact step r (fun m => by rw [gv, if_neg hx]) fun a' => yq w x r (d + 1) a' (by omega)
theorem bL_M {w lp : Int} (hlp : lp < 0) {l : List aj} : ∀ (m : Nat) (i : Int) (st : IxS), m = Int.toNat ((l.length : Int) - i) → 0 ≤ i → ∀ e, (∃ j : Int, wget (bL w lp l m i st).1 e = some j ∧ i ≤ j ∧ j < l.length ∧ bE lp (ix l j) = e) ∨ (wget (bL w lp l m i st).1 e = wget st.1 e ∧ ∀ j : Int, i ≤ j → j < l.length → bE lp (ix l j) ≠ e)
 | 0, i, st, hm, h0, e => .inr ⟨rfl, fun j h1 h2 => by omega⟩
 | m + 1, i, st, hm, h0, e => by
   rw [bL]
   rcases bL_M hlp (l := l) m (i + 1) (bS w lp (ix l i) i st) (by omega) (by omega) e with ⟨j, h1, h2, h3, h4⟩ | ⟨h1, h2⟩
   ·exact .inl ⟨j, h1, by omega, h3, h4⟩
   ·unfold bS at h1
    rw [if_pos hlp] at h1
    simp only [yt] at h1
    unfold bS
    rw [if_pos hlp]
    by_cases hc : bE lp (ix l i) = e
    ·rw [if_pos hc] at h1
     exact .inl ⟨i, h1, by omega, by omega, hc⟩
    ·rw [if_neg hc] at h1
     refine .inr ⟨h1, fun j h3 h4 => ?_⟩
     by_cases hj : j = i
     ·subst hj; exact hc
     ·exact h2 j (by omega) h4
def plen (w lp : Int) (r : aj) : Int := (dk (ix r.Entry.Keys lp).Mask w).1
def TI (w lp : Int) (l : List aj) (i : Int) (ts : List (Ex × Tr)) : Prop := ∀ e, match wget ts e with
 | none => ∀ j : Int, 0 ≤ j → j < i → bE lp (ix l j) ≠ e
 | some tr => tr ≠ .nil ∧ ∀ (x : BitVec 32) (n : Nat) (v : Int), (n : Int) ≤ w → (gv w x n 0 tr = some v ↔ (0 ≤ v ∧ v < i ∧ bE lp (ix l v) = e ∧ plen w lp (ix l v) = n ∧ Agree w n x (ix (ix l v).Entry.Keys lp).Value))
theorem dw6 (w : Int) (x : BitVec 32) (n : Nat) : gv w x n 0 t0 = none := by
 unfold t0
 cases n with
 | zero => rfl
 | succ n => rw [gv, ao9]; simp
theorem TI.step {w lp : Int} {l : List aj} {i : Int} {ts : List (Ex × Tr)} (H : TI w lp l i ts) (h0 : 0 ≤ i) (hp : (dk (ix (ix l i).Entry.Keys lp).Mask w).2 = true) (hf : gz (ix (ix l i).Entry.Keys lp).Value w = true)
 (hu : ∀ j : Int, 0 ≤ j → j < i → bE lp (ix l j) = bE lp (ix l i) → plen w lp (ix l j) = plen w lp (ix l i) → Agree w (plen w lp (ix l i)) (ix (ix l j).Entry.Keys lp).Value (ix (ix l i).Entry.Keys lp).Value → False) :
 TI w lp l (i + 1) (wput ts (bE lp (ix l i)) (bT w lp (ix l i) i ((wget ts (bE lp (ix l i))).getD t0))) := by
 obtain ⟨hw, n0, n1, _⟩ := sa hp
 have hG : ∃ tr, (wget ts (bE lp (ix l i))).getD t0 = tr ∧ tr ≠ .nil ∧ ∀ (x : BitVec 32) (n : Nat) (v : Int), (n : Int) ≤ w → (gv w x n 0 tr = some v ↔ (0 ≤ v ∧ v < i ∧ bE lp (ix l v) = bE lp (ix l i) ∧ plen w lp (ix l v) = n ∧ Agree w n x (ix (ix l v).Entry.Keys lp).Value)) := by
  have := H (bE lp (ix l i))
  cases hg : wget ts (bE lp (ix l i)) with
  | none =>
    rw [hg] at this
    refine ⟨t0, rfl, by simp [t0], fun x n v hn => ?_⟩
    rw [dw6]
    exact ⟨fun h => (by cases h), fun h => absurd h.2.2.1 (this v h.1 h.2.1)⟩
  | some tr =>
    rw [hg] at this
    exact ⟨tr, rfl, this⟩
 obtain ⟨tr, e1, h1, h2⟩ := hG
 intro e
 rw [e1, yt]
 by_cases hc : bE lp (ix l i) = e
 ·rw [if_pos hc]
  subst hc
  have hT : bT w lp (ix l i) i tr = ins w (ix (ix l i).Entry.Keys lp).Value i (plen w lp (ix l i)).toNat 0 tr := by
   unfold bT insT pfx plen
   rw [if_pos (by simp [n0, n1, hf])]
  refine ⟨by rw [hT]; exact br9 h1, fun x n v hn => ?_⟩
  have hN : (((plen w lp (ix l i)).toNat : Nat) : Int) = plen w lp (ix l i) := Int.toNat_of_nonneg n0
  rw [hT, az0 _ _ _ _ _ _ _ _ h1]
  have hA : (n = (plen w lp (ix l i)).toNat ∧ ∀ k : Int, 0 ≤ k → k < 0 + ((plen w lp (ix l i)).toNat : Nat) → bitT w x k = bitT w (ix (ix l i).Entry.Keys lp).Value k) ↔ (plen w lp (ix l i) = n ∧ Agree w n x (ix (ix l i).Entry.Keys lp).Value) := by
   constructor
   ·rintro ⟨a, b⟩
    exact ⟨by omega, fun d h3 h4 => b d h3 (by omega)⟩
   ·rintro ⟨a, b⟩
    exact ⟨by omega, fun d h3 h4 => b d h3 (by omega)⟩
  have hnone : gv w (ix (ix l i).Entry.Keys lp).Value (plen w lp (ix l i)).toNat 0 tr = none := by
   cases hq : gv w (ix (ix l i).Entry.Keys lp).Value (plen w lp (ix l i)).toNat 0 tr with
   | none => rfl
   | some j =>
     exfalso
     obtain ⟨a, b, c, d, f⟩ := (h2 _ _ j (by rw [hN]; exact n1)).1 hq
     rw [hN] at d f
     exact hu j a b c d fun k h3 h4 => (f k h3 h4).symm
  rw [hnone]
  by_cases hq : plen w lp (ix l i) = n ∧ Agree w n x (ix (ix l i).Entry.Keys lp).Value
  ·rw [if_pos (hA.2 hq)]
   simp only [Option.getD_none, Option.some.injEq]
   constructor
   ·rintro rfl
    exact ⟨h0, by omega, rfl, hq.1, hq.2⟩
   ·rintro ⟨a, b, c, d, f⟩
    by_cases hv : v = i
    ·exact hv.symm
    ·exfalso
     refine hu v a (by omega) c (by rw [d, hq.1]) fun k h3 h4 => ?_
     rw [hq.1] at h4
     rw [← f k h3 h4, hq.2 k h3 h4]
  ·rw [if_neg (fun h => hq (hA.1 h)), h2 x n v hn]
   constructor
   ·rintro ⟨a, b, c⟩; exact ⟨a, by omega, c⟩
   ·rintro ⟨a, b, c, d, f⟩
    by_cases hv : v = i
    ·subst hv; exact absurd ⟨d, f⟩ hq
    ·exact ⟨a, by omega, c, d, f⟩
 ·rw [if_neg hc]
  have := H e
  cases hg : wget ts e with
  | none =>
    rw [hg] at this
    intro j h3 h4
    by_cases hj : j = i
    ·subst hj; exact hc
    ·exact this j h3 (by omega)
  | some tr' =>
    rw [hg] at this
    refine ⟨this.1, fun x n v hn => ?_⟩
    rw [this.2 x n v hn]
    constructor
    ·rintro ⟨a, b, c⟩; exact ⟨a, by omega, c⟩
    ·rintro ⟨a, b, c, d⟩
     by_cases hv : v = i
     ·subst hv; exact absurd c hc
     ·exact ⟨a, by omega, c, d⟩
theorem bL_T {w lp : Int} (hlp : ¬lp < 0) {l : List aj} (hs : ∀ i : Int, 0 ≤ i → i < l.length → ∀ ts, TI w lp l i ts → TI w lp l (i + 1) (wput ts (bE lp (ix l i)) (bT w lp (ix l i) i ((wget ts (bE lp (ix l i))).getD t0)))) : ∀ (m : Nat) (i : Int) (st : IxS), m = Int.toNat ((l.length : Int) - i) → 0 ≤ i → i ≤ l.length → TI w lp l i st.2 → TI w lp l l.length (bL w lp l m i st).2
 | 0, i, st, hm, h0, h1, H => by
   have : i = l.length := by omega
   subst this; exact H
 | m + 1, i, st, hm, h0, h1, H => by
   rw [bL]
   refine bL_T hlp hs m (i + 1) _ (by omega) (by omega) (by omega) ?_
   unfold bS
   rw [if_neg hlp]
   exact hs i h0 (by omega) _ H
theorem zl {p : aa} {t : Int} {l : List aj} {k : List (BitVec 32)} {b : aj} (ht : 0 ≤ t ∧ t < p.Tables.length) (hb : b ∈ l) (hm : cn b.Entry k = true) (hu : ∀ x ∈ l, cn x.Entry k = true → x = b ∨ Bf p t b x) : iv p t l k = (b, true) := by
 rw [aq7 p t k l ht]
 have H := xy p t k l [] (false, zrow) (.inl ⟨rfl, fun r hr => by simp at hr⟩)
 rw [List.nil_append] at H
 rcases H with ⟨e, hall⟩ | ⟨pre, c, post, e, hl, hc, h1, h2⟩
 ·exact absurd hm (by rw [hall b hb]; simp)
 ·rw [e]
  have hcl : c ∈ l := by rw [hl]; simp
  rcases hu c hcl hc with rfl | hB
  ·rfl
  ·exfalso
   rw [hl] at hb
   rcases List.mem_append.1 hb with hb | hb
   ·have := h1 b hb hm
    unfold Bf at *; omega
   ·rcases List.mem_cons.1 hb with rfl | hb
    ·unfold Bf at hB; omega
    ·exact h2 b hb hm hB
theorem vm {p : aa} {t : Int} {l : List aj} {k : List (BitVec 32)} (ht : 0 ≤ t ∧ t < p.Tables.length) (hu : ∀ x ∈ l, cn x.Entry k = false) : iv p t l k = (zrow, false) := by
 rw [aq7 p t k l ht]
 have H := xy p t k l [] (false, zrow) (.inl ⟨rfl, fun r hr => by simp at hr⟩)
 rw [List.nil_append] at H
 rcases H with ⟨e, hall⟩ | ⟨pre, c, post, e, hl, hc, h1, h2⟩
 ·rw [e]
 ·exfalso
  rw [hu c (by rw [hl]; simp)] at hc; cases hc
theorem bg0 (p q : aa) (t : Int) (x : au) (K : Unit → Int) (h : (ix q.Tables t).Keys = (ix p.Tables t).Keys) : ∀ (m : Nat) (i : Int), fj q t x K m i = fj p t x K m i
 | 0, i => rfl
 | m + 1, i => by rw [fj, fj, bg0 p q t x K h m, h]
theorem av2 (p : aa) (t : Int) (ht : 0 ≤ t ∧ t < p.Tables.length) (x : au) : fk (ownP p t) t x = fk p t x := by
 have h1 := xh p t ht.1
 unfold fk
 rw [if_neg (by simp; omega), if_neg (by simp; omega), su p t ht.1, bg0 p (ownP p t) t x _ (su p t ht.1)]
theorem bp2 (p : aa) (t : Int) (ht : 0 ≤ t ∧ t < p.Tables.length) (a b : aj) : di (ownP p t) t a b = di p t a b := by
 unfold di
 rw [av2 p t ht, av2 p t ht]
theorem cc2 (p : aa) (t : Int) (ht : 0 ≤ t ∧ t < p.Tables.length) (l : List aj) (k : List (BitVec 32)) : jc (ownP p t) t l k = iv p t l k := by
 rw [← cq0 p t k l ht]
 unfold jc
 have h1 := xh p t ht.1
 rw [if_neg (by simp; omega), if_neg (by simp; omega)]
 simp only [bp2 p t ht]
end Go.Proofs.YthdnpgpnodgicaaGreat
