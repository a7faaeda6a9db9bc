import Derived.Test.YtmonnlkagniolaaGreatKDef
import Derived.Test.YtmonnlkagniolaaGreatPbP
set_option linter.unusedVariables false
set_option linter.unusedSimpArgs false
set_option maxRecDepth 100000
namespace Go.Proofs.YtmonnlkagniolaaGreat
open Go Go.Pb Go.RowKit
theorem od (w : Int) : li [w] = decide (1 ≤ w ∧ w ≤ 32) := by
 unfold li
 have e : (Int.toNat (((([w] : List Int)).length : Int) - 0)) = 1 := by simp
 rw [e, jz, jz]
 have hx : ix ([w] : List Int) 0 = w := rfl
 rw [hx]
 by_cases h : 1 ≤ w ∧ w ≤ 32
 ·rw [if_neg (by simp; omega)]; simp [h]
 ·rw [if_pos (by simp; omega)]; simp [h]
theorem bz5 {w : Int} {b : Bool} (h : li [w] = b) (h2 : b = true) : 0 ≤ wr (32 - w) := by
 rw [od] at h
 subst h2
 simp only [decide_eq_true_eq] at h
 rw [de (by omega) (by omega)]
 omega
theorem vq (op : Int) : dh op ≤ 3 ∧ -1 ≤ dh op := by
 unfold dh
 simp only [LET]
 repeat' split
 all_goals omega
theorem ar {op y : Int} (h : dh op = y) : y ≤ 3 ∧ -1 ≤ y := by rw [← h]; exact vq op
theorem ti (s : au) (n : List ab) (rec_ : au → List ab → Int → Int × Int × Int) (a : Int) (ha : 0 ≤ a) (K : Int → List Int → Int × Int × Int) (hr : ∀ z : Int, 0 ≤ z → (rec_ s n z).2.2 = 0 → z < (rec_ s n z).2.1) (hK : ∀ x z, a < x → (K x z).2.2 = 0 → a < (K x z).2.1) :
 ∀ (m : Nat) (x i : Int) (z : List Int), a < x → (cd s n rec_ K m x i z).2.2 = 0 → a < (cd s n rec_ K m x i z).2.1
 | 0, x, i, z, hx, h => by rw [cd] at h ⊢; exact hK x z hx h
 | m + 1, x, i, z, hx, h => by
   rw [cd] at h ⊢
   simp only [LET] at h ⊢
   split at h
   ·rename_i hc
    simp only [Bool.not_eq_true', decide_eq_false_iff_not] at hc
    exact absurd h hc
   ·rename_i hc
    rw [if_neg hc]
    simp only [Bool.not_eq_true', decide_eq_false_iff_not, Decidable.not_not] at hc
    have := hr x (by omega) hc
    exact ti s n rec_ a ha K hr hK m _ _ _ (by omega) h
theorem oa : ∀ (k : Nat) (s : au) (n : List ab) (a : Int), 0 ≤ a → n.length ≤ 1000000 → (ci k s n a).2.2 = 0 → a < (ci k s n a).2.1
 | 0, s, n, a, ha, hn, h => by rw [ci] at h; cases h
 | k + 1, s, n, a, ha, hn, h => by
   rw [ci] at h ⊢
   unfold da at h ⊢
   simp only [LET] at h ⊢
   split at h
   ·cases h
   ·rename_i h1
    rw [if_neg h1]
    simp only [decide_eq_true_eq, Int.not_le] at h1
    have ew : wr (a + 1) = a + 1 := de (by omega) (by omega)
    split at h
    ·cases h
    ·rename_i h2
     rw [if_neg h2]
     split at h
     ·rename_i h3
      rw [if_pos h3]
      show a < wr (a + 1)
      omega
     ·rename_i h3
      rw [if_neg h3]
      exact ti s n _ a ha _ (fun z hz hz2 => oa k s n z hz hn hz2) (fun x z hx _ => hx) _ _ _ _ (by omega) h
theorem qj (s : au) (n : List ab) (r1 r2 : au → List ab → Int → Int × Int × Int) (a : Int) (ha : 0 ≤ a) (K : Int → List Int → Int × Int × Int) (hr : ∀ z : Int, a < z → r1 s n z = r2 s n z) (hn : ∀ z : Int, 0 ≤ z → (r1 s n z).2.2 = 0 → z < (r1 s n z).2.1) :
 ∀ (m : Nat) (x i : Int) (z : List Int), a < x → cd s n r1 K m x i z = cd s n r2 K m x i z
 | 0, x, i, z, hx => by rw [cd, cd]
 | m + 1, x, i, z, hx => by
   rw [cd, cd]
   simp only [LET, ← hr x hx]
   split
   ·rfl
   ·rename_i hc
    simp only [Bool.not_eq_true', decide_eq_false_iff_not, Decidable.not_not] at hc
    have := hn x (by omega) hc
    exact qj s n r1 r2 a ha K hr hn m _ _ _ (by omega)
theorem ya : ∀ (k k' : Nat) (s : au) (n : List ab) (a : Int), 0 ≤ a → n.length ≤ 1000000 → n.length - a.toNat < k → n.length - a.toNat < k' → ci k s n a = ci k' s n a
 | 0, k', s, n, a, ha, hn, h1, h2 => by omega
 | k + 1, 0, s, n, a, ha, hn, h1, h2 => by omega
 | k + 1, k' + 1, s, n, a, ha, hn, h1, h2 => by
   rw [ci, ci]
   unfold da
   simp only [LET]
   split
   ·rfl
   ·rename_i h3
    simp only [decide_eq_true_eq, Int.not_le] at h3
    have ew : wr (a + 1) = a + 1 := de (by omega) (by omega)
    split
    ·rfl
    ·split
     ·rfl
     ·exact qj s n _ _ a ha _ (fun z hz => ya k k' s n z (by omega) hn (by omega) (by omega)) (fun z hz h => oa k s n z hz hn h) _ _ _ _ (by omega)
theorem aj4 (s : au) (n : List ab) (a : Int) (ha : 0 ≤ a) (hn : n.length ≤ 1000000) : bz s n a = da bz s n a := by
 have e : bz s n a = da (ci (n.length - a.toNat)) s n a := by
  unfold bz
  rw [ci]
 rw [e]
 unfold da
 simp only [LET]
 split
 ·rfl
 ·rename_i h3
  simp only [decide_eq_true_eq, Int.not_le] at h3
  have ew : wr (a + 1) = a + 1 := de (by omega) (by omega)
  split
  ·rfl
  ·split
   ·rfl
   ·exact qj s n _ _ a ha _ (fun z hz => ya (n.length - a.toNat) (n.length - z.toNat + 1) s n z (by omega) hn (by omega) (by omega)) (fun z hz h => oa _ s n z hz hn h) _ _ _ _ (by omega)
theorem cnext {s : au} {n : List ab} {a : Int} (ha : 0 ≤ a) (hn : n.length ≤ 1000000) (h : (bz s n a).2.2 = 0) : a < (bz s n a).2.1 := oa _ s n a ha hn h
structure Ok (s : au) (n : List ab) (a : Int) : Prop where
 lo : 0 ≤ a
 len : n.length ≤ 1000000
 ok : (bz s n a).2.2 = 0
def nx (s : au) (n : List ab) (a : Int) : Int := (bz s n a).2.1
def wd (s : au) (n : List ab) (a : Int) : Int := (bz s n a).1
theorem Ok.lt {s : au} {n : List ab} {a : Int} (h : Ok s n a) : a < n.length := by
 have := h.ok
 rw [aj4 s n a h.lo h.len] at this
 unfold da at this
 by_cases hc : (n.length : Int) ≤ a
 ·rw [if_pos (by simpa using hc)] at this; cases this
 ·omega
theorem Ok.wr1 {s : au} {n : List ab} {a : Int} (h : Ok s n a) : wr (a + 1) = a + 1 := by
 have := h.lt
 have := h.len
 have := h.lo
 exact de (by omega) (by omega)
theorem Ok.step {s : au} {n : List ab} {a : Int} (h : Ok s n a) :
 (dh (ix n a).Op = 0 ∧ (fm s (ix n a)).2 = 0 ∧ wd s n a = (fm s (ix n a)).1 ∧ nx s n a = a + 1) ∨
 (dh (ix n a).Op = 1 ∧ Ok s n (a + 1) ∧ (fc (ix n a) [wd s n (a + 1), 0, 0]).2 = 0 ∧ wd s n a = (fc (ix n a) [wd s n (a + 1), 0, 0]).1 ∧ nx s n a = nx s n (a + 1)) ∨
 (dh (ix n a).Op = 2 ∧ Ok s n (a + 1) ∧ Ok s n (nx s n (a + 1)) ∧ (fc (ix n a) [wd s n (a + 1), wd s n (nx s n (a + 1)), 0]).2 = 0 ∧ wd s n a = (fc (ix n a) [wd s n (a + 1), wd s n (nx s n (a + 1)), 0]).1 ∧ nx s n a = nx s n (nx s n (a + 1))) ∨
 (dh (ix n a).Op = 3 ∧ Ok s n (a + 1) ∧ Ok s n (nx s n (a + 1)) ∧ Ok s n (nx s n (nx s n (a + 1))) ∧ (fc (ix n a) [wd s n (a + 1), wd s n (nx s n (a + 1)), wd s n (nx s n (nx s n (a + 1)))]).2 = 0 ∧ wd s n a = (fc (ix n a) [wd s n (a + 1), wd s n (nx s n (a + 1)), wd s n (nx s n (nx s n (a + 1)))]).1 ∧ nx s n a = nx s n (nx s n (nx s n (a + 1)))) := by
 have hlt := h.lt
 have hw := h.wr1
 have hok := h.ok
 have hlo := h.lo
 have har := vq (ix n a).Op
 have e : bz s n a = da bz s n a := aj4 s n a h.lo h.len
 have mk : ∀ z : Int, 0 ≤ z → (bz s n z).2.2 = 0 → Ok s n z := fun z h0 h1 => ⟨h0, h.len, h1⟩
 simp only [wd, nx]
 rw [e] at hok ⊢
 unfold da at hok ⊢
 simp only [LET, hw] at hok ⊢
 rw [if_neg (show ¬(decide ((n.length : Int) ≤ a) = true) by simpa using hlt)] at hok ⊢
 by_cases hn : dh (ix n a).Op < 0
 ·rw [if_pos (by simpa using hn)] at hok; cases hok
 rw [if_neg (show ¬(decide (dh (ix n a).Op < 0) = true) by simpa using hn)] at hok ⊢
 by_cases h0 : dh (ix n a).Op = 0
 ·rw [if_pos (by simpa using h0)] at hok ⊢
  exact .inl ⟨h0, hok, rfl, rfl⟩
 rw [if_neg (show ¬(decide (dh (ix n a).Op = 0) = true) by simpa using h0)] at hok ⊢
 right
 have hcase : dh (ix n a).Op = 1 ∨ dh (ix n a).Op = 2 ∨ dh (ix n a).Op = 3 := by omega
 rcases hcase with ha | ha | ha
 ·left
  rw [ha] at hok ⊢
  rw [show Int.toNat (1 - 0) = 1 from rfl] at hok ⊢
  simp only [cd, LET] at hok ⊢
  by_cases c1 : (bz s n (a + 1)).2.2 = 0
  ·rw [if_neg (by simp [c1])] at hok ⊢
   exact ⟨trivial, mk _ (by omega) c1, hok, rfl, rfl⟩
  ·rw [if_pos (by simp [c1])] at hok; exact absurd hok c1
 ·right; left
  rw [ha] at hok ⊢
  rw [show Int.toNat (2 - 0) = 2 from rfl] at hok ⊢
  simp only [cd, LET] at hok ⊢
  by_cases c1 : (bz s n (a + 1)).2.2 = 0
  ·rw [if_neg (by simp [c1])] at hok ⊢
   have n1 := cnext (s := s) (n := n) (a := a + 1) (by omega) h.len c1
   by_cases c2 : (bz s n (bz s n (a + 1)).2.1).2.2 = 0
   ·rw [if_neg (by simp [c2])] at hok ⊢
    exact ⟨trivial, mk _ (by omega) c1, mk _ (by omega) c2, hok, rfl, rfl⟩
   ·rw [if_pos (by simp [c2])] at hok; exact absurd hok c2
  ·rw [if_pos (by simp [c1])] at hok; exact absurd hok c1
 ·right; right
  rw [ha] at hok ⊢
  rw [show Int.toNat (3 - 0) = 3 from rfl] at hok ⊢
  simp only [cd, LET] at hok ⊢
  by_cases c1 : (bz s n (a + 1)).2.2 = 0
  ·rw [if_neg (by simp [c1])] at hok ⊢
   have n1 := cnext (s := s) (n := n) (a := a + 1) (by omega) h.len c1
   by_cases c2 : (bz s n (bz s n (a + 1)).2.1).2.2 = 0
   ·rw [if_neg (by simp [c2])] at hok ⊢
    have n2 := cnext (s := s) (n := n) (by omega) h.len c2
    by_cases c3 : (bz s n (bz s n (bz s n (a + 1)).2.1).2.1).2.2 = 0
    ·rw [if_neg (by simp [c3])] at hok ⊢
     exact ⟨trivial, mk _ (by omega) c1, mk _ (by omega) c2, mk _ (by omega) c3, hok, rfl, rfl⟩
    ·rw [if_pos (by simp [c3])] at hok; exact absurd hok c3
   ·rw [if_pos (by simp [c2])] at hok; exact absurd hok c2
  ·rw [if_pos (by simp [c1])] at hok; exact absurd hok c1
theorem vy (op : Int) : dh op = if 1 ≤ op ∧ op ≤ 4 then 0 else if 5 ≤ op ∧ op ≤ 8 then 1 else if 9 ≤ op ∧ op ≤ 16 then 2 else if op = 17 then 3 else -1 := by
 by_cases h : 1 ≤ op ∧ op ≤ 17
 ·have : op = 1 ∨ op = 2 ∨ op = 3 ∨ op = 4 ∨ op = 5 ∨ op = 6 ∨ op = 7 ∨ op = 8 ∨ op = 9 ∨ op = 10 ∨ op = 11 ∨ op = 12 ∨ op = 13 ∨ op = 14 ∨ op = 15 ∨ op = 16 ∨ op = 17 := by omega
  rcases this with rfl | rfl | rfl | rfl | rfl | rfl | rfl | rfl | rfl | rfl | rfl | rfl | rfl | rfl | rfl | rfl | rfl <;> rfl
 ·rw [if_neg (by omega), if_neg (by omega), if_neg (by omega), if_neg (by omega)]
  have e : ∀ k : Int, 1 ≤ k → k ≤ 17 → decide (op = k) = false := fun k h1 h2 => by simp; omega
  unfold dh
  simp only [LET, e 1 (by omega) (by omega), e 2 (by omega) (by omega), e 3 (by omega) (by omega), e 4 (by omega) (by omega), e 5 (by omega) (by omega), e 6 (by omega) (by omega), e 7 (by omega) (by omega), e 8 (by omega) (by omega), e 9 (by omega) (by omega), e 10 (by omega) (by omega), e 11 (by omega) (by omega), e 12 (by omega) (by omega), e 13 (by omega) (by omega), e 14 (by omega) (by omega), e 15 (by omega) (by omega), e 16 (by omega) (by omega), e 17 (by omega) (by omega), Bool.false_eq_true, if_false]
theorem tp (x : ab) (u v w : Int) (ho : 5 ≤ x.Op ∧ x.Op ≤ 17) : fc x [u, v, w] =
 if x.Op = 5 then (u, 0) else if x.Op = 6 ∨ x.Op = 7 then (if x.N < 0 ∨ 31 < x.N then (0, 9) else (u, 0)) else
 if x.Op = 8 then (if x.N < 0 then (0, 9) else if ¬(lc x.W).2 = 0 ∨ wr (u - x.W) < x.N then (0, 10) else (x.W, 0)) else
 if x.Op = 14 then lc (wr (u + v)) else if x.Op = 17 then (if ¬u = 1 ∨ ¬v = w then (0, 10) else (v, 0)) else
 if ¬u = v then (0, 10) else if x.Op = 15 ∨ x.Op = 16 then (1, 0) else (u, 0) := by
 have e0 : ix [u, v, w] 0 = u := rfl
 have e1 : ix [u, v, w] 1 = v := rfl
 have e2 : ix [u, v, w] 2 = w := rfl
 have : x.Op = 5 ∨ x.Op = 6 ∨ x.Op = 7 ∨ x.Op = 8 ∨ x.Op = 9 ∨ x.Op = 10 ∨ x.Op = 11 ∨ x.Op = 12 ∨ x.Op = 13 ∨ x.Op = 14 ∨ x.Op = 15 ∨ x.Op = 16 ∨ x.Op = 17 := by omega
 unfold fc
 simp only [LET, e0, e1, e2]
 rcases this with h | h | h | h | h | h | h | h | h | h | h | h | h <;> simp [h, vy]
theorem sk (op : Int) : jt op = dh op := by
 rw [vy]
 unfold jt
 simp only [Bool.and_eq_true, decide_eq_true_eq]
theorem di9 (op : Int) : jt op ≤ 3 ∧ -1 ≤ jt op := by rw [sk]; exact vq op
theorem rar {op y : Int} (h : jt op = y) : y ≤ 3 ∧ -1 ≤ y := by rw [← h]; exact di9 op
theorem opl {x : Int} {op : Int} (h : x = jt op) : (5 ≤ op ∧ op ≤ 8 → x = 1) ∧ (9 ≤ op ∧ op ≤ 16 → x = 2) ∧ (op = 17 → x = 3) ∧ (op ≤ 4 → x ≤ 0) ∧ (18 ≤ op → x ≤ 0) := by
 rw [sk, vy] at h
 subst h
 split
 ·omega
 ·split
  ·omega
  ·split
   ·omega
   ·split <;> omega
theorem rval {w : Int} {y : Bool} (h : im w = y) (h2 : y = true) : 1 ≤ w ∧ w ≤ 32 := by
 rw [h2] at h
 unfold im at h
 simpa using h
theorem jor {p q : Prop} [Decidable p] [Decidable q] {x : Bool} (h : x = (if decide p = true then decide p else decide q)) (hx : x = false) : ¬p ∧ ¬q := by
 subst hx
 by_cases hp : p
 ·simp [hp] at h
 ·simp [hp] at h
  exact ⟨hp, h⟩
theorem ai1 (w : Int) : mj w = lc w := rfl
theorem bh1 (w : Int) : ma w = gv w := by
 by_cases h : 1 ≤ w ∧ w ≤ 32
 ·have : ∃ k : Fin 33, w = (k.val : Int) := ⟨⟨w.toNat, by omega⟩, by simp; omega⟩
  obtain ⟨k, rfl⟩ := this
  revert h
  revert k
  decide +kernel
 ·unfold ma gv im
  simp only [LET, od]
  rw [if_pos (by simp; omega), if_pos (by simp; omega)]
theorem ca3 (x : ab) (s : au) : oi x s = fm s x := by
 unfold oi fm
 simp only [LET, bh1, ai1]
 unfold ks jo
 simp only [LET]
 by_cases h1 : x.Op = 1
 ·simp only [h1, decide_true, if_true]
  try rfl
 ·simp only [h1, decide_false, if_false, Bool.false_eq_true]
  by_cases h2 : x.Op = 2
  ·simp only [h2, decide_true, if_true]
   by_cases h3 : x.N = -1
   ·simp only [h3, decide_true, Bool.not_true, if_false, Bool.false_eq_true]
    by_cases h4 : (decide (x.W < 0) || decide ((s.Program.Metadata.length : Int) ≤ x.W)) = true
    ·simp only [h4, if_true, Bool.not_false]
    ·simp only [h4, if_false, Bool.not_true, Bool.false_eq_true]
   ·simp only [h3, decide_false, Bool.not_false, if_true]
    by_cases h5 : (decide (x.N < 0) || decide ((s.Program.Headers.length : Int) ≤ x.N)) = true
    ·simp only [h5, if_true, Bool.not_false]
    ·simp only [h5, if_false, Bool.false_eq_true]
     by_cases h4 : (decide (x.W < 0) || decide (((ix s.Program.Headers x.N).Fields.length : Int) ≤ x.W)) = true
     ·simp only [h4, if_true, Bool.not_false]
     ·simp only [h4, if_false, Bool.not_true, Bool.false_eq_true]
  ·simp only [h2, decide_false, if_false, Bool.false_eq_true]
theorem ak6 (x : ab) : (∀ u, 5 ≤ x.Op ∧ x.Op ≤ 8 → fy x [u] = fc x [u, 0, 0]) ∧ (∀ u v, 9 ≤ x.Op ∧ x.Op ≤ 16 → fy x [u, v] = fc x [u, v, 0]) ∧ (∀ u v w, x.Op = 17 → fy x [u, v, w] = fc x [u, v, w]) := by
 refine ⟨fun u h => ?_, fun u v h => ?_, fun u v w h => ?_⟩
 ·have e0 : ix [u] 0 = u := rfl
  rw [tp _ _ _ _ (by omega)]
  unfold fy
  simp only [LET, e0]
  have : x.Op = 5 ∨ x.Op = 6 ∨ x.Op = 7 ∨ x.Op = 8 := by omega
  rcases this with h | h | h | h
  ·simp [h]
  ·simp [h]
  ·simp [h]
  ·simp only [h]
   by_cases h1 : x.N < 0
   ·simp [h1]
   ·unfold lc
    by_cases h2 : x.W < 1 ∨ 32 < x.W
    ·simp [h1, h2]
    ·have h3 : ¬x.W < 1 := by omega
     have h4 : ¬32 < x.W := by omega
     simp [h1, h3, h4]
 ·have e0 : ix [u, v] 0 = u := rfl
  have e1 : ix [u, v] 1 = v := rfl
  rw [tp _ _ _ _ (by omega)]
  unfold fy
  simp only [LET, e0, e1]
  have : x.Op = 9 ∨ x.Op = 10 ∨ x.Op = 11 ∨ x.Op = 12 ∨ x.Op = 13 ∨ x.Op = 14 ∨ x.Op = 15 ∨ x.Op = 16 := by omega
  rcases this with h | h | h | h | h | h | h | h <;> simp [h, ai1]
 ·have e0 : ix [u, v, w] 0 = u := rfl
  have e1 : ix [u, v, w] 1 = v := rfl
  have e2 : ix [u, v, w] 2 = w := rfl
  rw [tp _ _ _ _ (by omega)]
  unfold fy
  simp only [LET, e0, e1, e2]
  simp [h]
def REL (r c : Int × Int × Int) : Prop := r.2.2 = c.2.2 ∧ (c.2.2 = 0 → r.1 = c.1 ∧ r.2.1 = c.2.1)
theorem REL.of_eq {r c : Int × Int × Int} (h : r = c) : REL r c := by subst h; exact ⟨rfl, fun _ => ⟨rfl, rfl⟩⟩
theorem bo7 (s : au) (n : List ab) (r1 : List ab → Int → au → Int × Int × Int) (r2 : au → List ab → Int → Int × Int × Int) (hr : ∀ z, REL (r1 n z s) (r2 s n z)) (K1 K2 : Int → List Int → Int × Int × Int) (j k : Nat) (hK : ∀ x (z : List Int), z.length = k → K1 x z = K2 x (z ++ List.replicate j 0)) :
 ∀ (m : Nat) (x i : Int) (z : List Int), (z.length : Int) = i → z.length + m = k → REL (ju n s r1 K1 m x i z) (cd s n r2 K2 m x i (z ++ List.replicate (m + j) 0))
 | 0, x, i, z, hi, hk => by
   rw [ju, cd, hK x z (by omega), Nat.zero_add]
   exact .of_eq rfl
 | m + 1, x, i, z, hi, hk => by
   rw [ju, cd]
   simp only [LET]
   obtain ⟨e1, e2⟩ := hr x
   by_cases hc : (r2 s n x).2.2 = 0
   ·have hd : (r1 n x s).2.2 = 0 := e1.trans hc
    rw [if_neg (show ¬(!decide ((r1 n x s).2.2 = 0)) = true by simp [hd]), if_neg (show ¬(!decide ((r2 s n x).2.2 = 0)) = true by simp [hc])]
    obtain ⟨e3, e4⟩ := e2 hc
    rw [e3, e4, show (z ++ List.replicate (m + 1 + j) (0 : Int)).set i.toNat (r2 s n x).1 = (z ++ [(r2 s n x).1]) ++ List.replicate (m + j) 0 by
     rw [show m + 1 + j = (m + j) + 1 by omega, List.replicate_succ, show i.toNat = z.length by omega]
     simp]
    exact bo7 s n r1 r2 hr K1 K2 j k hK m _ _ _ (by simp; omega) (by simp; omega)
   ·have hd : ¬(r1 n x s).2.2 = 0 := fun h => hc (e1.symm.trans h)
    rw [if_pos (show (!decide ((r1 n x s).2.2 = 0)) = true by simp [hd]), if_pos (show (!decide ((r2 s n x).2.2 = 0)) = true by simp [hc])]
    exact ⟨e1, fun h => absurd h hc⟩
theorem bn8 : ∀ (k : Nat) (s : au) (n : List ab) (a : Int), REL (gg k n a s) (ci k s n a)
 | 0, s, n, a => .of_eq rfl
 | k + 1, s, n, a => by
   rw [gg, ci]
   unfold ll da
   simp only [LET, sk, ca3]
   split
   ·exact ⟨rfl, fun h => absurd h (by decide)⟩
   split
   ·exact ⟨rfl, fun h => absurd h (by decide)⟩
   split
   ·exact .of_eq rfl
   rename_i h1 h2 h3
   simp only [decide_eq_true_eq] at h2 h3
   have hb := vq (ix n a).Op
   have ho := opl (sk (ix n a).Op).symm
   have hz := vy (ix n a).Op
   obtain ⟨o1, o2, o3⟩ := ak6 (ix n a)
   have main := bo7 s n (gg k) (ci k) (bn8 k s n) (fun x z => ((fy (ix n a) z).1, x, (fy (ix n a) z).2)) (fun x z => ((fc (ix n a) z).1, x, (fc (ix n a) z).2)) (3 - (dh (ix n a).Op).toNat) (dh (ix n a).Op).toNat ?_ (Int.toNat (dh (ix n a).Op - 0)) (wr (a + 1)) 0 [] rfl (by simp)
   ·rw [List.nil_append, show (dh (ix n a).Op - 0).toNat + (3 - (dh (ix n a).Op).toNat) = 3 by omega] at main
    exact main
   ·intro x z hz
    have hc : dh (ix n a).Op = 1 ∨ dh (ix n a).Op = 2 ∨ dh (ix n a).Op = 3 := by omega
    rcases hc with hc | hc | hc
    ·rw [hc] at hz ⊢
     have hl : z.length = 1 := hz
     match z, hl with
     | [u], _ => rw [show [u] ++ List.replicate (3 - Int.toNat 1) (0 : Int) = [u, 0, 0] from rfl, o1 u (by omega)]
    ·rw [hc] at hz ⊢
     have hl : z.length = 2 := hz
     match z, hl with
     | [u, v], _ => rw [show [u, v] ++ List.replicate (3 - Int.toNat 2) (0 : Int) = [u, v, 0] from rfl, o2 u v (by omega)]
    ·rw [hc] at hz ⊢
     have hl : z.length = 3 := hz
     match z, hl with
     | [u, v, w], _ => rw [show [u, v, w] ++ List.replicate (3 - Int.toNat 3) (0 : Int) = [u, v, w] from rfl, o3 u v w (by omega)]
theorem rel (s : au) (n : List ab) (a : Int) : REL (oz n a s) (bz s n a) := bn8 _ s n a
theorem ah5 (k : Nat) (n : List ab) (a : Int) (s : au) (ha : 0 ≤ a) (hn : n.length ≤ 1000000) (h : (gg k n a s).2.2 = 0) : a < (gg k n a s).2.1 := by
 obtain ⟨e1, e2⟩ := bn8 k s n a
 have h' := h
 rw [e1] at h'
 rw [(e2 h').2]
 exact oa k s n a ha hn h'
theorem ac2 (n : List ab) (s : au) : lu n s = lk n s := by
 unfold lu lk
 simp only [LET]
 obtain ⟨e1, e2⟩ := rel s n 0
 split
 ·rfl
 ·rw [e1]
  by_cases hc : (bz s n 0).2.2 = 0
  ·rw [(e2 hc).1, (e2 hc).2]
  ·have hd : (!decide ((bz s n 0).2.2 = 0)) = true := by simp [hc]
   simp only [hd, if_true]
end Go.Proofs.YtmonnlkagniolaaGreat
