import Derived.Test.YthdnpgpnodgicaaGreatKFpLcFl
set_option linter.all false
set_option maxRecDepth 100000
namespace Go.Proofs.YthdnpgpnodgicaaGreat
open Go Go.Pb Go.RowKit
theorem ap6 (ks : List bh) (q : bh → Bool) : ∀ (m : Nat) (i : Int), m = Int.toNat ((ks.length : Int) - i) → 0 ≤ i → (bw ks q (fun _ => -1) m i = -1 ∧ ∀ j : Int, i ≤ j → j < ks.length → q (ix ks j) = false) ∨
 (i ≤ bw ks q (fun _ => -1) m i ∧ bw ks q (fun _ => -1) m i < ks.length ∧ q (ix ks (bw ks q (fun _ => -1) m i)) = true ∧ ∀ j : Int, i ≤ j → j < bw ks q (fun _ => -1) m i → q (ix ks j) = false)
 | 0, i, hm, h0 => .inl ⟨rfl, fun j h1 h2 => by omega⟩
 | m + 1, i, hm, h0 => by
   rw [bw]
   cases hq : q (ix ks i)
   ·rw [if_neg (by simp)]
    rcases ap6 ks q m (i + 1) (by omega) (by omega) with ⟨h1, h2⟩ | ⟨h1, h2, h3, h4⟩
    ·refine .inl ⟨h1, fun j h3 h4 => ?_⟩
     by_cases hj : j = i
     ·subst hj; exact hq
     ·exact h2 j (by omega) h4
    ·refine .inr ⟨by omega, h2, h3, fun j h5 h6 => ?_⟩
     by_cases hj : j = i
     ·subst hj; exact hq
     ·exact h4 j (by omega) h6
   ·rw [if_pos rfl]
    exact .inr ⟨by omega, by omega, hq, fun j h1 h2 => by omega⟩
theorem ce6 (ks : List bh) : (lpX ks = -1 ∧ ∀ j : Int, 0 ≤ j → j < ks.length → (ix ks j).Kind ≠ 2) ∨ (0 ≤ lpX ks ∧ lpX ks < ks.length ∧ (ix ks (lpX ks)).Kind = 2 ∧ ∀ j : Int, 0 ≤ j → j < lpX ks → (ix ks j).Kind ≠ 2) := by
 rcases ap6 ks (fun k => decide (k.Kind = 2)) _ 0 rfl (by omega) with ⟨h1, h2⟩ | ⟨h1, h2, h3, h4⟩
 ·exact .inl ⟨h1, fun j h3 h4 => by simpa using h2 j h3 h4⟩
 ·exact .inr ⟨h1, h2, of_decide_eq_true h3, fun j h5 h6 => by simpa using h4 j h5 h6⟩
theorem ci7 (v : BitVec 32) (w : Int) : mh v w = true ↔ (1 ≤ w ∧ w ≤ 32) ∧ v &&& fa w = v := by
 rw [← aw7]
 unfold kh
 simp only [LET, me, Bool.and_eq_true, decide_eq_true_eq]
 constructor
 ·rintro ⟨h1, h2⟩
  refine ⟨h1, ?_⟩
  have h3 := aa6 h1
  have h4 : v.toNat ≤ (fa w).toNat := h2
  apply BitVec.eq_of_toNat_eq
  rw [BitVec.toNat_and, h3, Nat.and_two_pow_sub_one_eq_mod, Nat.mod_eq_of_lt]
  have := Nat.two_pow_pos w.toNat
  omega
 ·rintro ⟨h1, h2⟩
  refine ⟨h1, ?_⟩
  show v.toNat ≤ (fa w).toNat
  have := congrArg BitVec.toNat h2
  rw [BitVec.toNat_and] at this
  rw [← this]
  exact Nat.and_le_right
theorem cj4 {w : Int} (h : 1 ≤ w ∧ w ≤ 32) {i : Nat} (hi : i < 32) : (fa w).getLsbD i = decide ((i : Int) < w) := by
 rw [(ai5 h).1, BitVec.getLsbD_ofNat, Nat.testBit_two_pow_sub_one]
 simp only [hi, decide_true, Bool.true_and, decide_eq_decide]
 omega
def Agree (w n : Int) (x y : BitVec 32) : Prop := ∀ d : Int, 0 ≤ d → d < n → bitT w x d = bitT w y d
theorem bn1 (x : BitVec 32) (w : Int) : ∀ (m : Nat) (i : Int), m = Int.toNat (w + 1 - i) → 0 ≤ i → (fk x w (fun _ => (0, false)) m i).2 = true → i ≤ (fk x w (fun _ => (0, false)) m i).1 ∧ (fk x w (fun _ => (0, false)) m i).1 ≤ w ∧ jo (fk x w (fun _ => (0, false)) m i).1 w = x
 | 0, i, hm, h0, h => by cases h
 | m + 1, i, hm, h0, h => by
   rw [fk] at h ⊢
   simp only [LET] at h ⊢
   by_cases hc : jo i w = x
   ·rw [if_pos (by simpa using hc)]
    exact ⟨by simp, by simp; omega, hc⟩
   ·rw [if_neg (by simpa using hc)] at h ⊢
    obtain ⟨h1, h2, h3⟩ := bn1 x w m (i + 1) (by omega) (by omega) h
    exact ⟨by omega, h2, h3⟩
theorem bl8 {x : BitVec 32} {w : Int} (h : (ej x w).2 = true) : (1 ≤ w ∧ w ≤ 32) ∧ 0 ≤ (ej x w).1 ∧ (ej x w).1 ≤ w ∧ jo (ej x w).1 w = x := by
 unfold ej at h ⊢
 simp only [LET, me] at h ⊢
 by_cases hw : 1 ≤ w ∧ w ≤ 32
 ·rw [if_neg (by simp [hw])] at h ⊢
  have e : wr (w + 1) = w + 1 := du (by omega) (by omega)
  rw [e] at h ⊢
  obtain ⟨h1, h2, h3⟩ := bn1 x w _ 0 rfl (by omega) h
  exact ⟨hw, h1, h2, h3⟩
 ·rw [if_pos (by simp; omega)] at h; cases h
def ci (wo k : Int) : Int := if 0 ≤ wo ∧ wo < k then k - 1 else k
def gv (w : Int) (x : BitVec 32) : Nat → Int → Tr → Option Int
 | _, _, .nil => none
 | 0, _, .node _ _ s v => if s = true then some v else none
 | m + 1, d, .node l r _ _ => if bitT w x d = 0#32 then gv w x m (d + 1) l else gv w x m (d + 1) r
theorem bh4 (w : Int) (x : BitVec 32) (m : Nat) (d : Int) : gv w x m d .nil = none := by cases m <;> rfl
theorem bp7 (w : Int) (x : BitVec 32) : ∀ (m : Nat) (d : Int) (t : Tr), gv w x m d (mk t) = gv w x m d t
 | 0, d, .nil => rfl
 | m + 1, d, .nil => by
   show (if _ then _ else _) = _
   rw [bh4, bh4]; simp
 | m, d, .node _ _ _ _ => rfl
theorem di6 (t : Tr) : mk t ≠ .nil := by cases t <;> simp [mk]
open Classical in
theorem bg4 (w : Int) (x y : BitVec 32) (i : Int) : ∀ (n : Nat) (d : Int) (t : Tr) (m : Nat), t ≠ .nil → gv w y m d (ins w x i n d t) = if m = n ∧ (∀ k : Int, d ≤ k → k < d + n → bitT w y k = bitT w x k) then some ((gv w x n d t).getD i) else gv w y m d t
 | _, d, .nil, m, h => absurd rfl h
 | 0, d, .node l r s v, m, _ => by
   cases m with
   | zero =>
     rw [if_pos ⟨rfl, fun k h1 h2 => by omega⟩]
     cases s <;> rfl
   | succ m =>
     rw [if_neg (by omega)]
     cases s <;> rfl
 | n + 1, d, .node l r s v, m, _ => by
   cases m with
   | zero =>
     rw [if_neg (by omega)]
     unfold ins
     split <;> rfl
   | succ m =>
     have hspl : (∀ k : Int, d ≤ k → k < d + (n + 1 : Nat) → bitT w y k = bitT w x k) ↔ bitT w y d = bitT w x d ∧ ∀ k : Int, d + 1 ≤ k → k < d + 1 + n → bitT w y k = bitT w x k := by
      constructor
      ·intro h; exact ⟨h d (by omega) (by omega), fun k h1 h2 => h k (by omega) (by omega)⟩
      ·rintro ⟨h1, h2⟩ k h3 h4
       by_cases hk : k = d
       ·subst hk; exact h1
       ·exact h2 k (by omega) (by omega)
     simp only [hspl]
     by_cases hx : bitT w x d = 0#32
     ·by_cases hy : bitT w y d = 0#32
      ·rw [ins, if_pos hx, gv, if_pos hy, bg4 w x y i n (d + 1) (mk l) m (di6 l), bp7, bp7, gv, if_pos hx, gv, if_pos hy, hx, hy]
       simp only [Nat.add_right_cancel_iff, true_and]
      ·have hB : ∀ q, gv w y (m + 1) d (.node q r s v) = gv w y m (d + 1) r := fun q => by rw [gv, if_neg hy]
       rw [ins, if_pos hx, hB, hB]
       exact (if_neg fun h => hy (h.2.1.trans hx)).symm
     ·by_cases hy : bitT w y d = 0#32
      ·have hB : ∀ q, gv w y (m + 1) d (.node l q s v) = gv w y m (d + 1) l := fun q => by rw [gv, if_pos hy]
       rw [ins, if_neg hx, hB, hB]
       exact (if_neg fun h => hx (h.2.1.symm.trans hy)).symm
      ·rw [ins, if_neg hx, gv, if_neg hy, bg4 w x y i n (d + 1) (mk r) m (di6 r), bp7, bp7, gv, if_neg hx, gv, if_neg hy]
       have e : bitT w y d = bitT w x d := by
        rcases aw8 w x d with h1 | h1
        ·exact absurd h1 hx
        ·rcases aw8 w y d with h2 | h2
         ·exact absurd h2 hy
         ·rw [h1, h2]
       simp only [Nat.add_right_cancel_iff, e, true_and]
def plen (w lp : Int) (r : ak) : Int := (ej (ix r.Entry.Keys lp).Mask w).1
def TI (w lp : Int) (l : List ak) (i : Int) (ts : List (Ex × Tr)) : Prop := ∀ e, match wget ts e with
 | none => ∀ j : Int, 0 ≤ j → j < i → bE lp (ix l j) ≠ e
 | some tr => tr ≠ .nil ∧ ∀ (x : BitVec 32) (n : Nat) (v : Int), (n : Int) ≤ w → (gv w x n 0 tr = some v ↔ (0 ≤ v ∧ v < i ∧ bE lp (ix l v) = e ∧ plen w lp (ix l v) = n ∧ Agree w n x (ix (ix l v).Entry.Keys lp).Value))
theorem ek2 (w : Int) (x : BitVec 32) (n : Nat) : gv w x n 0 t0 = none := by
 unfold t0
 cases n with
 | zero => rfl
 | succ n => rw [gv, bh4]; simp
theorem TI.step {w lp : Int} {l : List ak} {i : Int} {ts : List (Ex × Tr)} (H : TI w lp l i ts) (h0 : 0 ≤ i) (hp : (ej (ix (ix l i).Entry.Keys lp).Mask w).2 = true) (hf : kh (ix (ix l i).Entry.Keys lp).Value w = true)
 (hu : ∀ j : Int, 0 ≤ j → j < i → bE lp (ix l j) = bE lp (ix l i) → plen w lp (ix l j) = plen w lp (ix l i) → Agree w (plen w lp (ix l i)) (ix (ix l j).Entry.Keys lp).Value (ix (ix l i).Entry.Keys lp).Value → False) :
 TI w lp l (i + 1) (wput ts (bE lp (ix l i)) (bT w lp (ix l i) i ((wget ts (bE lp (ix l i))).getD t0))) := by
 obtain ⟨hw, n0, n1, _⟩ := bl8 hp
 have hG : ∃ tr, (wget ts (bE lp (ix l i))).getD t0 = tr ∧ tr ≠ .nil ∧ ∀ (x : BitVec 32) (n : Nat) (v : Int), (n : Int) ≤ w → (gv w x n 0 tr = some v ↔ (0 ≤ v ∧ v < i ∧ bE lp (ix l v) = bE lp (ix l i) ∧ plen w lp (ix l v) = n ∧ Agree w n x (ix (ix l v).Entry.Keys lp).Value)) := by
  have := H (bE lp (ix l i))
  cases hg : wget ts (bE lp (ix l i)) with
  | none =>
    rw [hg] at this
    refine ⟨t0, rfl, by simp [t0], fun x n v hn => ?_⟩
    rw [ek2]
    exact ⟨fun h => (by cases h), fun h => absurd h.2.2.1 (this v h.1 h.2.1)⟩
  | some tr =>
    rw [hg] at this
    exact ⟨tr, rfl, this⟩
 obtain ⟨tr, e1, h1, h2⟩ := hG
 intro e
 rw [e1, am5]
 by_cases hc : bE lp (ix l i) = e
 ·rw [if_pos hc]
  subst hc
  have hT : bT w lp (ix l i) i tr = ins w (ix (ix l i).Entry.Keys lp).Value i (plen w lp (ix l i)).toNat 0 tr := by
   unfold bT insT pfx plen
   rw [if_pos (by simp [n0, n1, hf])]
  refine ⟨by rw [hT]; exact ce7 h1, fun x n v hn => ?_⟩
  have hN : (((plen w lp (ix l i)).toNat : Nat) : Int) = plen w lp (ix l i) := Int.toNat_of_nonneg n0
  rw [hT, bg4 _ _ _ _ _ _ _ _ h1]
  have hA : (n = (plen w lp (ix l i)).toNat ∧ ∀ k : Int, 0 ≤ k → k < 0 + ((plen w lp (ix l i)).toNat : Nat) → bitT w x k = bitT w (ix (ix l i).Entry.Keys lp).Value k) ↔ (plen w lp (ix l i) = n ∧ Agree w n x (ix (ix l i).Entry.Keys lp).Value) := by
   constructor
   ·rintro ⟨a, b⟩
    exact ⟨by omega, fun d h3 h4 => b d h3 (by omega)⟩
   ·rintro ⟨a, b⟩
    exact ⟨by omega, fun d h3 h4 => b d h3 (by omega)⟩
  have hnone : gv w (ix (ix l i).Entry.Keys lp).Value (plen w lp (ix l i)).toNat 0 tr = none := by
   cases hq : gv w (ix (ix l i).Entry.Keys lp).Value (plen w lp (ix l i)).toNat 0 tr with
   | none => rfl
   | some j =>
     exfalso
     obtain ⟨a, b, c, d, f⟩ := (h2 _ _ j (by rw [hN]; exact n1)).1 hq
     rw [hN] at d f
     exact hu j a b c d fun k h3 h4 => (f k h3 h4).symm
  rw [hnone]
  by_cases hq : plen w lp (ix l i) = n ∧ Agree w n x (ix (ix l i).Entry.Keys lp).Value
  ·rw [if_pos (hA.2 hq)]
   simp only [Option.getD_none, Option.some.injEq]
   constructor
   ·rintro rfl
    exact ⟨h0, by omega, rfl, hq.1, hq.2⟩
   ·rintro ⟨a, b, c, d, f⟩
    by_cases hv : v = i
    ·exact hv.symm
    ·exfalso
     refine hu v a (by omega) c (by rw [d, hq.1]) fun k h3 h4 => ?_
     rw [hq.1] at h4
     rw [← f k h3 h4, hq.2 k h3 h4]
  ·rw [if_neg (fun h => hq (hA.1 h)), h2 x n v hn]
   constructor
   ·rintro ⟨a, b, c⟩; exact ⟨a, by omega, c⟩
   ·rintro ⟨a, b, c, d, f⟩
    by_cases hv : v = i
    ·subst hv; exact absurd ⟨d, f⟩ hq
    ·exact ⟨a, by omega, c, d, f⟩
 ·rw [if_neg hc]
  have := H e
  cases hg : wget ts e with
  | none =>
    rw [hg] at this
    intro j h3 h4
    by_cases hj : j = i
    ·subst hj; exact hc
    ·exact this j h3 (by omega)
  | some tr' =>
    rw [hg] at this
    refine ⟨this.1, fun x n v hn => ?_⟩
    rw [this.2 x n v hn]
    constructor
    ·rintro ⟨a, b, c⟩; exact ⟨a, by omega, c⟩
    ·rintro ⟨a, b, c, d⟩
     by_cases hv : v = i
     ·subst hv; exact absurd c hc
     ·exact ⟨a, by omega, c, d⟩
theorem bt2 {p : aa} {t : Int} {l : List ak} {k : List (BitVec 32)} {b : ak} (ht : 0 ≤ t ∧ t < p.Tables.length) (hb : b ∈ l) (hm : cq b.Entry k = true) (hu : ∀ x ∈ l, cq x.Entry k = true → x = b ∨ Bf p t b x) : qh p t l k = (b, true) := by
 rw [ax1 p t k l ht]
 have H := ab6 p t k l [] (false, zrow) (.inl ⟨rfl, fun r hr => by simp at hr⟩)
 rw [List.nil_append] at H
 rcases H with ⟨e, hall⟩ | ⟨pre, c, post, e, hl, hc, h1, h2⟩
 ·exact absurd hm (by rw [hall b hb]; simp)
 ·rw [e]
  have hcl : c ∈ l := by rw [hl]; simp
  rcases hu c hcl hc with rfl | hB
  ·rfl
  ·exfalso
   rw [hl] at hb
   rcases List.mem_append.1 hb with hb | hb
   ·have := h1 b hb hm
    unfold Bf at *; omega
   ·rcases List.mem_cons.1 hb with rfl | hb
    ·unfold Bf at hB; omega
    ·exact h2 b hb hm hB
theorem bv3 {p : aa} {t : Int} {l : List ak} {k : List (BitVec 32)} (ht : 0 ≤ t ∧ t < p.Tables.length) (hu : ∀ x ∈ l, cq x.Entry k = false) : qh p t l k = (zrow, false) := by
 rw [ax1 p t k l ht]
 have H := ab6 p t k l [] (false, zrow) (.inl ⟨rfl, fun r hr => by simp at hr⟩)
 rw [List.nil_append] at H
 rcases H with ⟨e, hall⟩ | ⟨pre, c, post, e, hl, hc, h1, h2⟩
 ·rw [e]
 ·exfalso
  rw [hu c (by rw [hl]; simp)] at hc; cases hc
end Go.Proofs.YthdnpgpnodgicaaGreat
