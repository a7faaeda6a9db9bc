import Derived.Test.YthdnpgpnodgicaaGreatKSqSr
import Derived.Test.YthdnpgpnodgicaaGreatKSnSv
import Derived.Test.YthdnpgpnodgicaaGreatKSh
set_option linter.unusedVariables false
set_option linter.unusedSimpArgs false
set_option maxRecDepth 100000
namespace Go.Proofs.YthdnpgpnodgicaaGreat
open Go Go.Pb Go.RowKit
def inC (w : Int) (c : ae) (n : BitVec 64) : Prop := ∀ j : Nat, (j : Int) < w → c.Mask.getLsbD j = true → n.getLsbD j = c.Value.getLsbD j
theorem oh {k : Nat} (hk : k < 64) (j : Nat) : (1#64 <<< k).getLsbD j = decide (j = k) := by
 rw [BitVec.getLsbD_shiftLeft, BitVec.getLsbD_one]
 by_cases h : j = k
 ·subst h; simp [hk]
 ·by_cases h2 : j < k
  ·simp [h, h2]
  ·have : j - k ≠ 0 := by omega
   simp [h, h2, this]
theorem subL (y : ae) (w : Int) (hw : w ≤ 64) (n : BitVec 64) : ∀ (m : Nat) (i : Int) (z : List ae) (rest : ae), m = Int.toNat (i + 1) → -1 ≤ i → i < w →
 (∀ j : Nat, rest.Mask.getLsbD j = false → rest.Value.getLsbD j = false) →
 (∀ j : Nat, rest.Mask.getLsbD j = true → y.Mask.getLsbD j = true → rest.Value.getLsbD j = y.Value.getLsbD j) →
 ((∃ q ∈ ip y (fun z _ => z) m i z rest, inC w q n) ↔ (∃ q ∈ z, inC w q n) ∨ (inC w rest n ∧ ∃ j : Nat, (j : Int) ≤ i ∧ y.Mask.getLsbD j = true ∧ n.getLsbD j ≠ y.Value.getLsbD j))
 | 0, i, z, rest, hm, h0, h1, hc, ha => by
   rw [ip]
   constructor
   ·exact .inl
   ·rintro (h | ⟨_, j, hj, _⟩)
    ·exact h
    ·omega
 | m + 1, i, z, rest, hm, h0, h1, hc, ha => by
   have hi0 : 0 ≤ i := by omega
   have e : wr (i - 1) = i - 1 := dm (by omega) (by omega)
   have hi64 : i.toNat < 64 := by omega
   rw [ip, if_pos (by simpa using hi0), dg0 hi0 (by omega), e]
   by_cases hcc : y.Mask.getLsbD i.toNat = true ∧ rest.Mask.getLsbD i.toNat = false
   ·have hv := hc _ hcc.2
    rw [if_pos (by
     simp only [Bool.and_eq_true, Bool.not_eq_true', decide_eq_false_iff_not, decide_eq_true_eq]
     exact ⟨(fun h => absurd ((uy _ _ hi64).1 h) (by rw [hcc.1]; simp)), (uy _ _ hi64).2 hcc.2⟩)]
    rw [subL y w hw n m (i - 1) _ _ (by omega) (by omega) (by omega) ?_ ?_]
    ·have p1 : inC w ({ Value := (rest.Value ||| ((y.Value &&& (1#64 <<< i.toNat)) ^^^ (1#64 <<< i.toNat))), Mask := (rest.Mask ||| (1#64 <<< i.toNat)) } : ae) n ↔ inC w rest n ∧ n.getLsbD i.toNat ≠ y.Value.getLsbD i.toNat := by
      constructor
      ·intro h
       refine ⟨fun j j1 j2 => ?_, ?_⟩
       ·have := h j j1 (by simp only [BitVec.getLsbD_or, j2, Bool.true_or])
        have hne : j ≠ i.toNat := fun e => by rw [e, hcc.2] at j2; cases j2
        simpa only [BitVec.getLsbD_or, BitVec.getLsbD_xor, BitVec.getLsbD_and, oh hi64, hne, decide_false, Bool.and_false, Bool.xor_false, Bool.or_false] using this
       ·have := h i.toNat (by omega) (by simp only [BitVec.getLsbD_or, oh hi64, decide_true, Bool.or_true])
        simp only [BitVec.getLsbD_or, BitVec.getLsbD_xor, BitVec.getLsbD_and, oh hi64, decide_true, Bool.and_true, hv, Bool.false_or] at this
        rw [this]
        cases y.Value.getLsbD i.toNat <;> decide
      ·rintro ⟨h, h2⟩ j j1 j2
       by_cases hne : j = i.toNat
       ·subst hne
        simp only [BitVec.getLsbD_or, BitVec.getLsbD_xor, BitVec.getLsbD_and, oh hi64, decide_true, Bool.and_true, hv, Bool.false_or]
        revert h2
        cases y.Value.getLsbD i.toNat <;> cases n.getLsbD i.toNat <;> decide
       ·simp only [BitVec.getLsbD_or, oh hi64, hne, decide_false, Bool.or_false] at j2
        simp only [BitVec.getLsbD_or, BitVec.getLsbD_xor, BitVec.getLsbD_and, oh hi64, hne, decide_false, Bool.and_false, Bool.xor_false, Bool.or_false]
        exact h j j1 j2
     have p2 : inC w ({ Value := (rest.Value ||| (y.Value &&& (1#64 <<< i.toNat))), Mask := (rest.Mask ||| (1#64 <<< i.toNat)) } : ae) n ↔ inC w rest n ∧ n.getLsbD i.toNat = y.Value.getLsbD i.toNat := by
      constructor
      ·intro h
       refine ⟨fun j j1 j2 => ?_, ?_⟩
       ·have := h j j1 (by simp only [BitVec.getLsbD_or, j2, Bool.true_or])
        have hne : j ≠ i.toNat := fun e => by rw [e, hcc.2] at j2; cases j2
        simpa only [BitVec.getLsbD_or, BitVec.getLsbD_and, oh hi64, hne, decide_false, Bool.and_false, Bool.or_false] using this
       ·have := h i.toNat (by omega) (by simp only [BitVec.getLsbD_or, oh hi64, decide_true, Bool.or_true])
        simpa only [BitVec.getLsbD_or, BitVec.getLsbD_and, oh hi64, decide_true, Bool.and_true, hv, Bool.false_or] using this
      ·rintro ⟨h, h2⟩ j j1 j2
       by_cases hne : j = i.toNat
       ·subst hne
        simp only [BitVec.getLsbD_or, BitVec.getLsbD_and, oh hi64, decide_true, Bool.and_true, hv, Bool.false_or]
        exact h2
       ·simp only [BitVec.getLsbD_or, oh hi64, hne, decide_false, Bool.or_false] at j2
        simp only [BitVec.getLsbD_or, BitVec.getLsbD_and, oh hi64, hne, decide_false, Bool.and_false, Bool.or_false]
        exact h j j1 j2
     rw [p2]
     constructor
     ·rintro (⟨q, hq, hn⟩ | ⟨⟨h2, _⟩, j, j1, j2, j3⟩)
      ·rcases List.mem_append.1 hq with hq | hq
       ·exact .inl ⟨q, hq, hn⟩
       ·rw [List.mem_singleton.1 hq, p1] at hn
        exact .inr ⟨hn.1, i.toNat, by omega, hcc.1, hn.2⟩
      ·exact .inr ⟨h2, j, by omega, j2, j3⟩
     ·rintro (⟨q, hq, hn⟩ | ⟨h2, j, j1, j2, j3⟩)
      ·exact .inl ⟨q, List.mem_append_left _ hq, hn⟩
      ·by_cases hk : n.getLsbD i.toNat = y.Value.getLsbD i.toNat
       ·have hne : j ≠ i.toNat := fun e => by rw [e] at j3; exact j3 hk
        exact .inr ⟨⟨h2, hk⟩, j, by omega, j2, j3⟩
       ·exact .inl ⟨_, List.mem_append_right _ (List.mem_singleton.2 rfl), p1.2 ⟨h2, hk⟩⟩
    ·intro j hj
     simp only [BitVec.getLsbD_or, BitVec.getLsbD_and, Bool.or_eq_false_iff] at hj ⊢
     exact ⟨hc j hj.1, by rw [hj.2, Bool.and_false]⟩
    ·intro j hj hy
     by_cases hne : j = i.toNat
     ·subst hne
      simp only [BitVec.getLsbD_or, BitVec.getLsbD_and, oh hi64, decide_true, Bool.and_true, hv, Bool.false_or]
     ·simp only [BitVec.getLsbD_or, oh hi64, hne, decide_false, Bool.or_false] at hj
      simp only [BitVec.getLsbD_or, BitVec.getLsbD_and, oh hi64, hne, decide_false, Bool.and_false, Bool.or_false]
      exact ha j hj hy
   ·rw [if_neg (by
     simp only [Bool.and_eq_true, Bool.not_eq_true', decide_eq_false_iff_not, decide_eq_true_eq]
     rintro ⟨a, b⟩
     refine hcc ⟨?_, (uy _ _ hi64).1 b⟩
     cases hq : y.Mask.getLsbD i.toNat
     ·exact absurd ((uy _ _ hi64).2 hq) a
     ·rfl)]
    rw [subL y w hw n m (i - 1) z rest (by omega) (by omega) (by omega) hc ha]
    constructor
    ·rintro (h | ⟨h2, j, j1, j2, j3⟩)
     ·exact .inl h
     ·exact .inr ⟨h2, j, by omega, j2, j3⟩
    ·rintro (h | ⟨h2, j, j1, j2, j3⟩)
     ·exact .inl h
     ·refine .inr ⟨h2, j, ?_, j2, j3⟩
      have hne : j ≠ i.toNat := by
       intro e
       rw [e] at j2 j3
       have hr : rest.Mask.getLsbD i.toNat = true := by
        cases hr : rest.Mask.getLsbD i.toNat
        ·exact absurd ⟨j2, hr⟩ hcc
        ·rfl
       exact j3 ((h2 _ (by omega) hr).trans (ha _ hr j2))
      omega
theorem cj7 {w : Int} (h : 1 ≤ w ∧ w ≤ 64) (i : Nat) : (wl w).getLsbD i = decide ((i : Int) < w) := by
 by_cases hi : i < 64
 ·exact aj2 h hi
 ·rw [BitVec.getLsbD_of_ge _ _ (by omega), decide_eq_false (by omega)]
theorem bg1 {w : Int} (h : 1 ≤ w ∧ w ≤ 64) (c : ae) (n : BitVec 64) : inC w (jd c w) n ↔ inC w c n := by
 unfold inC jd
 simp only [LET, BitVec.getLsbD_and, cj7 h]
 constructor
 ·intro k j j1 j2
  have := k j j1 (by rw [j2, decide_eq_true j1]; rfl)
  rw [this, j2, decide_eq_true j1]; simp
 ·intro k j j1 j2
  rw [decide_eq_true j1, Bool.and_true] at j2
  rw [k j j1 j2, j2, decide_eq_true j1]; simp
theorem cx9 {a b : ae} (h : gm a b = true) (j : Nat) (hj : b.Mask.getLsbD j = true) : a.Mask.getLsbD j = true ∧ a.Value.getLsbD j = b.Value.getLsbD j := by
 unfold gm at h
 simp only [Bool.and_eq_true, decide_eq_true_eq] at h
 have h1 := congrArg (fun v => v.getLsbD j) h.1
 have h2 := congrArg (fun v => v.getLsbD j) h.2
 simp only [BitVec.getLsbD_and, hj, Bool.and_true] at h1 h2
 exact ⟨h1, h2⟩
theorem cg2 {a b : ae} (h : gm a b = true) {w : Int} {n : BitVec 64} (hn : inC w a n) : inC w b n := fun j j1 j2 => by
 have := cx9 h j j2
 rw [← this.2]
 exact hn j j1 this.1
theorem af7 (a b : ae) {w : Int} (h : 1 ≤ w ∧ w ≤ 64) (n : BitVec 64) : (∃ q ∈ cn a b w, inC w q n) ↔ inC w a n ∧ ¬inC w b n := by
 rw [dp3 a b h, ← bg1 h a, ← bg1 h b]
 have hmask : ∀ c : ae, ∀ j : Nat, (jd c w).Mask.getLsbD j = true → (j : Int) < w := by
  intro c j hj
  unfold jd at hj
  simp only [LET, BitVec.getLsbD_and, cj7 h, Bool.and_eq_true, decide_eq_true_eq] at hj
  exact hj.2
 have hcan : ∀ c : ae, ∀ j : Nat, (jd c w).Mask.getLsbD j = false → (jd c w).Value.getLsbD j = false := by
  intro c j hj
  unfold jd at hj ⊢
  simp only [LET, BitVec.getLsbD_and] at hj ⊢
  rw [hj, Bool.and_false]
 unfold rh
 rw [if_neg (by simp; omega)]
 simp only [LET]
 have hc := hcan a
 have hmy := hmask b
 generalize jd a w = x at *
 generalize jd b w = y at *
 by_cases hs : gm x y = true
 ·rw [if_pos hs]
  constructor
  ·rintro ⟨q, hq, _⟩; cases hq
  ·rintro ⟨h1, h2⟩; exact absurd (cg2 hs h1) h2
 ·rw [if_neg hs]
  have hI : (mm x y).2 = decide (x.Value &&& (x.Mask &&& y.Mask) = y.Value &&& (x.Mask &&& y.Mask)) := by
   unfold mm
   split
   ·rename_i hh
    simp only [Bool.not_eq_true', decide_eq_false_iff_not] at hh
    exact (decide_eq_false hh).symm
   ·rename_i hh
    simp only [Bool.not_eq_true', decide_eq_false_iff_not, Decidable.not_not] at hh
    exact (decide_eq_true hh).symm
  rw [hI]
  by_cases hm : x.Value &&& (x.Mask &&& y.Mask) = y.Value &&& (x.Mask &&& y.Mask)
  ·rw [if_neg (by simp [hm])]
   have e : wr (w - 1) = w - 1 := dm (by omega) (by omega)
   rw [e, subL y w h.2 n _ (w - 1) [] x rfl (by omega) (by omega) hc ?_]
   ·constructor
    ·rintro (⟨q, hq, _⟩ | ⟨h1, j, j1, j2, j3⟩)
     ·cases hq
     ·exact ⟨h1, fun hy => j3 (hy j (by omega) j2)⟩
    ·rintro ⟨h1, h2⟩
     refine .inr ⟨h1, ?_⟩
     apply Classical.byContradiction
     intro hno
     refine h2 fun j j1 j2 => ?_
     apply Classical.byContradiction
     intro h3
     exact hno ⟨j, by omega, j2, h3⟩
   ·intro j hj hy
    have := congrArg (fun v => v.getLsbD j) hm
    simpa only [BitVec.getLsbD_and, hj, hy, Bool.and_true] using this
  ·rw [if_pos (by simp [hm])]
   constructor
   ·rintro ⟨q, hq, hn⟩
    rw [List.mem_singleton.1 hq] at hn
    refine ⟨hn, fun hy => hm ?_⟩
    apply BitVec.eq_of_getLsbD_eq
    intro j hj
    simp only [BitVec.getLsbD_and]
    cases hx : x.Mask.getLsbD j
    ·simp
    ·cases hz : y.Mask.getLsbD j
     ·simp
     ·rw [← hn j (hmy j hz) hx, ← hy j (hmy j hz) hz]
   ·rintro ⟨h1, h2⟩
    exact ⟨x, List.mem_singleton.2 rfl, h1⟩
theorem ck2 {a b : ae} (h : gm a b = true) : b.Mask.toNat ≤ a.Mask.toNat ∧ (b.Mask.toNat = a.Mask.toNat → gm b a = true) := by
 unfold gm at h ⊢
 simp only [Bool.and_eq_true, decide_eq_true_eq] at h ⊢
 constructor
 ·rw [← h.1, BitVec.toNat_and]
  exact Nat.and_le_left
 ·intro he
  have e := BitVec.eq_of_toNat_eq he
  rw [e] at h ⊢
  exact ⟨BitVec.and_self, h.2.symm⟩
theorem cc4 (l : List ae) (i : Int) : ∀ (m : Nat) (j : Int), m = Int.toNat ((l.length : Int) - j) → 0 ≤ j → kp l i (fun _ => false) m j = true → ∃ k : Int, j ≤ k ∧ k < l.length ∧ k ≠ i ∧ gm (ix l i) (ix l k) = true ∧ (k < i ∨ gm (ix l k) (ix l i) = false)
 | 0, j, hm, h0, h => by cases h
 | m + 1, j, hm, h0, h => by
   rw [kp] at h
   split at h
   ·rename_i hc
    simp only [Bool.and_eq_true, Bool.or_eq_true, Bool.not_eq_true', decide_eq_false_iff_not, decide_eq_true_eq] at hc
    exact ⟨j, Int.le_refl j, by omega, hc.1.1, hc.1.2, hc.2⟩
   ·obtain ⟨k, h1, h2⟩ := cc4 l i m (j + 1) (by omega) (by omega) h
    exact ⟨k, by omega, h2⟩
theorem kept (l : List ae) (w : Int) (n : BitVec 64) : ∀ (M : Nat) (i : Int), 0 ≤ i → i < l.length → (ix l i).Mask.toNat * l.length + i.toNat = M → inC w (ix l i) n → ∃ j : Int, 0 ≤ j ∧ j < l.length ∧ ml l j = false ∧ inC w (ix l j) n := by
 intro M
 induction M using Nat.strongRecOn with
 | ind M ih =>
   intro i h0 h1 hM hn
   cases hr : ml l i
   ·exact ⟨i, h0, h1, hr, hn⟩
   ·obtain ⟨k, k0, k1, k2, k3, k4⟩ := cc4 l i _ 0 rfl (by omega) hr
    have hs := ck2 k3
    refine ih _ ?_ k k0 k1 rfl (cg2 k3 hn)
    by_cases he : (ix l k).Mask.toNat = (ix l i).Mask.toNat
    ·rw [hs.2 he] at k4
     have : k < i := by simpa using k4
     rw [he]; omega
    ·have h3 : (ix l k).Mask.toNat + 1 ≤ (ix l i).Mask.toNat := by omega
     have h4 := Nat.mul_le_mul_right l.length h3
     rw [Nat.add_mul] at h4
     omega
theorem as6 (l : List ae) : ∀ (m : Nat) (i : Int) (z : List ae), m = Int.toNat ((l.length : Int) - i) → 0 ≤ i → ∀ q, q ∈ jm l (fun z => z) m i z ↔ q ∈ z ∨ ∃ j : Int, i ≤ j ∧ j < l.length ∧ ml l j = false ∧ q = { Value := (ix l j).Value &&& (ix l j).Mask, Mask := (ix l j).Mask }
 | 0, i, z, hm, h0, q => by
   rw [jm]
   constructor
   ·exact .inl
   ·rintro (h | ⟨j, j0, j1, _⟩)
    ·exact h
    ·omega
 | m + 1, i, z, hm, h0, q => by
   rw [jm]
   simp only [LET]
   cases hr : ml l i
   ·rw [if_pos (by simp), as6 l m (i + 1) _ (by omega) (by omega)]
    constructor
    ·rintro (h | ⟨j, j0, j1⟩)
     ·rcases List.mem_append.1 h with h | h
      ·exact .inl h
      ·exact .inr ⟨i, Int.le_refl i, by omega, hr, List.mem_singleton.1 h⟩
     ·exact .inr ⟨j, by omega, j1⟩
    ·rintro (h | ⟨j, j0, j1⟩)
     ·exact .inl (List.mem_append_left _ h)
     ·by_cases hj : j = i
      ·subst hj
       exact .inl (List.mem_append_right _ (List.mem_singleton.2 j1.2.2))
      ·exact .inr ⟨j, by omega, j1⟩
   ·rw [if_neg (by simp), as6 l m (i + 1) _ (by omega) (by omega)]
    constructor
    ·rintro (h | ⟨j, j0, j1⟩)
     ·exact .inl h
     ·exact .inr ⟨j, by omega, j1⟩
    ·rintro (h | ⟨j, j0, j1⟩)
     ·exact .inl h
     ·by_cases hj : j = i
      ·subst hj
       rw [hr] at j1; cases j1.2.1
      ·exact .inr ⟨j, by omega, j1⟩
theorem bb3 (c : ae) (w : Int) (n : BitVec 64) : inC w { Value := c.Value &&& c.Mask, Mask := c.Mask } n ↔ inC w c n := by
 unfold inC
 constructor
 ·intro h j j1 j2
  have := h j j1 j2
  simpa only [BitVec.getLsbD_and, j2, Bool.and_true] using this
 ·intro h j j1 j2
  have := h j j1 j2
  simpa only [BitVec.getLsbD_and, (show c.Mask.getLsbD j = true from j2), Bool.and_true] using this
theorem df1 (l : List ae) (w : Int) (n : BitVec 64) : (∃ q ∈ rb l, inC w q n) ↔ ∃ q ∈ l, inC w q n := by
 unfold rb
 constructor
 ·rintro ⟨q, hq, hn⟩
  rcases (as6 l _ 0 [] rfl (by omega) q).1 hq with h | ⟨j, j0, j1, j2, rfl⟩
  ·cases h
  ·exact ⟨ix l j, yr.2 ⟨j, j0, j1, rfl⟩, (bb3 _ _ _).1 hn⟩
 ·rintro ⟨q, hq, hn⟩
  obtain ⟨i, i0, i1, rfl⟩ := yr.1 hq
  obtain ⟨j, j0, j1, j2, j3⟩ := kept l w n _ i i0 i1 rfl hn
  exact ⟨_, (as6 l _ 0 [] rfl (by omega) _).2 (.inr ⟨j, j0, j1, j2, rfl⟩), (bb3 _ _ _).2 j3⟩
theorem bz6 {l : List ae} (h : (fi l).2 = 0) (w : Int) (n : BitVec 64) : (∃ q ∈ (fi l).1, inC w q n) ↔ ∃ q ∈ l, inC w q n := by
 rw [do0] at h ⊢
 unfold uk at h ⊢
 simp only [LET] at h ⊢
 split at h
 ·cases h
 ·rename_i hc
  rw [if_neg hc]
  exact df1 l w n
theorem cf7 {w : Int} (hw : 1 ≤ w ∧ w ≤ 64) (n : BitVec 64) : ∀ (b out : List ae), (iy w b out).2 = 0 → ((∃ q ∈ (iy w b out).1, inC w q n) ↔ (∃ q ∈ out, inC w q n) ∧ ∀ x ∈ b, ¬inC w x n)
 | [], out, h => by
   rw [iy]
   constructor
   ·intro h; exact ⟨h, fun x hx => by cases hx⟩
   ·exact fun h => h.1
 | x :: b, out, h => by
   rw [iy] at h ⊢
   simp only [LET] at h ⊢
   by_cases he : (fi (out.flatMap fun c => cn c x w)).2 = 0
   ·rw [if_neg (by simp [he])] at h ⊢
    rw [cf7 hw n b _ h, bz6 he]
    constructor
    ·rintro ⟨⟨q, hq, hn⟩, h2⟩
     obtain ⟨c, hc, hq⟩ := List.mem_flatMap.1 hq
     have := (af7 c x hw n).1 ⟨q, hq, hn⟩
     refine ⟨⟨c, hc, this.1⟩, fun y hy => ?_⟩
     rcases List.mem_cons.1 hy with rfl | hy
     ·exact this.2
     ·exact h2 y hy
    ·rintro ⟨⟨c, hc, hn⟩, h2⟩
     obtain ⟨q, hq, hqn⟩ := (af7 c x hw n).2 ⟨hn, h2 x (List.mem_cons_self ..)⟩
     exact ⟨⟨q, List.mem_flatMap.2 ⟨c, hc, hq⟩, hqn⟩, fun y hy => h2 y (List.mem_cons_of_mem _ hy)⟩
   ·rw [if_pos (by simp [he])] at h
    exact absurd h he
theorem dg5 {c : ae} {b : List ae} {w : Int} (h : (en [c] b w).2 = 0) : (1 ≤ w ∧ w ≤ 64) ∧ ∀ n : BitVec 64, (∃ q ∈ (en [c] b w).1, inC w q n) ↔ inC w c n ∧ ∀ x ∈ b, ¬inC w x n := by
 unfold en at h ⊢
 by_cases hc : (decide (w < 1) || decide (64 < w)) = true
 ·rw [if_pos hc] at h; cases h
 ·rw [if_neg hc] at h ⊢
  have hw : 1 ≤ w ∧ w ≤ 64 := by
   simp only [Bool.or_eq_true, decide_eq_true_eq, not_or] at hc
   omega
  refine ⟨hw, fun n => ?_⟩
  have e1 : js [c] w = [{ Value := c.Value &&& (c.Mask &&& dy w), Mask := c.Mask &&& dy w }] := rfl
  simp only [LET] at h ⊢
  by_cases he : (fi (js [c] w)).2 = 0
  ·rw [if_neg (by simp [he])] at h ⊢
   rw [cf7 hw n b _ h, bz6 he, e1]
   have e2 : ({ Value := c.Value &&& (c.Mask &&& dy w), Mask := c.Mask &&& dy w } : ae) = jd c w := by
    unfold jd
    simp only [LET, ch4 hw]
   rw [e2]
   simp only [List.mem_singleton, exists_eq_left, bg1 hw]
  ·rw [if_pos (by simp [he])] at h
   exact absurd h he
def FB (w : Int) (v : BitVec 32) : Prop := ∀ j : Nat, w ≤ (j : Int) → v.getLsbD j = false
theorem bq2 {v : BitVec 32} {w : Int} (h : md v w = true) : FB w v := by
 obtain ⟨hw, h2⟩ := (cb1 v w).1 h
 intro j hj
 by_cases hj2 : j < 32
 ·have := congrArg (fun x => x.getLsbD j) h2
  simp only [BitVec.getLsbD_and, cb8 hw hj2] at this
  rw [decide_eq_false (by omega), Bool.and_false] at this
  exact this.symm
 ·exact BitVec.getLsbD_of_ge _ _ (by omega)
theorem dy9 {v : BitVec 32} {w : Int} (hw : 1 ≤ w) (h : v.toNat < 2 ^ w.toNat) : FB w v := by
 intro j hj
 rw [← BitVec.testBit_toNat]
 apply Nat.testBit_lt_two_pow
 exact Nat.lt_of_lt_of_le h (Nat.pow_le_pow_right (by decide) (by omega))
theorem qo {w : Int} (h0 : 0 ≤ w) (c : BitVec 64) {v : BitVec 32} (hv : FB w v) {j : Nat} (hj : j < 64) : ((c <<< w.toNat) ||| BitVec.setWidth 64 v).getLsbD j = if (j : Int) < w then v.getLsbD j else c.getLsbD (j - w.toNat) := by
 rw [BitVec.getLsbD_or, BitVec.getLsbD_shiftLeft, BitVec.getLsbD_setWidth]
 by_cases h : (j : Int) < w
 ·rw [if_pos h]
  have : j < w.toNat := by omega
  simp [hj, this]
 ·rw [if_neg h, hv j (by omega)]
  have : ¬j < w.toNat := by omega
  simp [hj, this]
theorem fld {w : Int} {x v m : BitVec 32} (hm : FB w m) : (x ^^^ v) &&& m = 0#32 ↔ ∀ j : Nat, (j : Int) < w → m.getLsbD j = true → x.getLsbD j = v.getLsbD j := by
 constructor
 ·intro h j j1 j2
  have := congrArg (fun y => y.getLsbD j) h
  simp only [BitVec.getLsbD_and, BitVec.getLsbD_xor, j2, Bool.and_true, BitVec.getLsbD_zero] at this
  revert this
  cases x.getLsbD j <;> cases v.getLsbD j <;> decide
 ·intro h
  apply BitVec.eq_of_getLsbD_eq
  intro j hj
  simp only [BitVec.getLsbD_and, BitVec.getLsbD_xor, BitVec.getLsbD_zero]
  cases hmj : m.getLsbD j
  ·simp
  ·have hjw : (j : Int) < w := by
    apply Decidable.byContradiction
    intro hc
    rw [hm j (by omega)] at hmj; cases hmj
   rw [h j hjw hmj]; simp
theorem du8 {b w : Int} (hb : 0 ≤ b) (hw : 0 ≤ w) (hs : b + w ≤ 64) (c : ae) (a : BitVec 64) {x v m : BitVec 32} (hx : FB w x) (hv : FB w v) (hm : FB w m) :
 inC (b + w) { Value := (c.Value <<< w.toNat) ||| BitVec.setWidth 64 v, Mask := (c.Mask <<< w.toNat) ||| BitVec.setWidth 64 m } ((a <<< w.toNat) ||| BitVec.setWidth 64 x) ↔ inC b c a ∧ (x ^^^ v) &&& m = 0#32 := by
 rw [fld hm]
 unfold inC
 constructor
 ·intro h
  constructor
  ·intro j j1 j2
   have hj : j + w.toNat < 64 := by omega
   have := h (j + w.toNat) (by omega)
   simp only [qo hw _ hx hj, qo hw _ hv hj, qo hw _ hm hj] at this
   rw [if_neg (by omega), if_neg (by omega), if_neg (by omega), show j + w.toNat - w.toNat = j by omega] at this
   exact this j2
  ·intro j j1 j2
   have hj : j < 64 := by omega
   have := h j (by omega)
   simp only [qo hw _ hx hj, qo hw _ hv hj, qo hw _ hm hj] at this
   rw [if_pos j1, if_pos j1, if_pos j1] at this
   exact this j2
 ·rintro ⟨h1, h2⟩ j j1
  have hj : j < 64 := by omega
  simp only [qo hw _ hx hj, qo hw _ hv hj, qo hw _ hm hj]
  by_cases hjw : (j : Int) < w
  ·rw [if_pos hjw, if_pos hjw, if_pos hjw]
   exact h2 j hjw
  ·rw [if_neg hjw, if_neg hjw, if_neg hjw]
   exact h1 (j - w.toNat) (by omega)
def kN (k : List (BitVec 32)) (W : List Int) : Nat → Int → BitVec 64 → BitVec 64
 | 0, i, a => a
 | m + 1, i, a => kN k W m (i + 1) ((a <<< (ix W i).toNat) ||| BitVec.setWidth 64 (ix k i))
theorem cubeL {x : aw} {W : List Int} {k : List (BitVec 32)} (hW : ∀ j : Int, 0 ≤ j → j < W.length → 1 ≤ ix W j ∧ ix W j ≤ 32) (h6 : W.length ≤ 6)
 (hF : ∀ j : Int, 0 ≤ j → j < W.length → FB (ix W j) (ix k j) ∧ FB (ix W j) (ix x.Keys j).Value ∧ FB (ix W j) (ix x.Keys j).Mask) : ∀ (m : Nat) (i b : Int) (c : ae) (a : BitVec 64), m = Int.toNat ((W.length : Int) - i) → 0 ≤ i → 0 ≤ b → b ≤ 32 * i → fe W (fun x => x) m b i ≤ 64 →
 (inC (fe W (fun x => x) m b i) (ky x W (fun z => z) m i c) (kN k W m i a) ↔ inC b c a ∧ ∀ j : Int, i ≤ j → j < W.length → (ix k j ^^^ (ix x.Keys j).Value) &&& (ix x.Keys j).Mask = 0#32)
 | 0, i, b, c, a, hm, h0, hb, hb2, hB => by
   have e : fe W (fun x => x) 0 b i = b := rfl
   rw [e]
   show inC b c a ↔ _
   constructor
   ·exact fun h => ⟨h, fun j j0 j1 => by omega⟩
   ·exact fun h => h.1
 | m + 1, i, b, c, a, hm, h0, hb, hb2, hB => by
   have hw := hW i h0 (by omega)
   have hf := hF i h0 (by omega)
   have e : fe W (fun x => x) (m + 1) b i = fe W (fun x => x) m (b + ix W i) (i + 1) := by
    rw [fe, dm (by omega) (by omega)]
   rw [e] at hB ⊢
   have hB2 := aw4 W hW h6 m (i + 1) (b + ix W i) (by omega) (by omega) (by omega) (by omega)
   rw [ky, kN, cubeL hW h6 hF m (i + 1) (b + ix W i) _ _ (by omega) (by omega) (by omega) (by omega) hB, du8 hb (by omega) (by omega) c a hf.1 hf.2.1 hf.2.2]
   constructor
   ·rintro ⟨⟨h1, h2⟩, h3⟩
    refine ⟨h1, fun j j0 j1 => ?_⟩
    by_cases hj : j = i
    ·subst hj; exact h2
    ·exact h3 j (by omega) j1
   ·rintro ⟨h1, h2⟩
    exact ⟨⟨h1, h2 i (Int.le_refl i) (by omega)⟩, fun j j0 j1 => h2 j (by omega) j1⟩
section
variable {p : aa} {t : Int} {l : List am} (G : GoodR p t l) {k : List (BitVec 32)} (hl : k.length = (br p t).length) (hk : ∀ j : Int, 0 ≤ j → j < (br p t).length → FB (ix (br p t) j) (ix k j))
include G hl hk
theorem aw3 {r : am} (hr : r ∈ l) (hb : jk p t ≤ 64) : inC (jk p t) (gj r.Entry (du p t)) (kN k (br p t) (br p t).length 0 0#64) ↔ cq r.Entry k = true := by
 obtain ⟨i, i0, i1, rfl⟩ := yr.1 hr
 have hR := (aq9 G i0 i1).n
 have hW := g_w G
 rw [ay4, Widths_eq, Bits_eq] at *
 have e1 : fx p t = fe (br p t) (fun x => x) (br p t).length 0 0 := by
  unfold fx
  simp only [LET]
  congr 1
 have e2 : gj (ix l i).Entry (br p t) = ky (ix l i).Entry (br p t) (fun z => z) (br p t).length 0 { Value := 0#64, Mask := 0#64 } := by
  unfold gj
  rw [show (((ix l i).Entry.Keys.length : Int) - 0).toNat = (br p t).length by omega]
 rw [e1] at hb ⊢
 rw [e2, cubeL (fun j j0 j1 => as8 G j0 j1) (by have := g_n G; omega) (fun j j0 j1 => ⟨hk j j0 j1, bq2 (cb0 G i0 i1 j0 (by omega)).f, bq2 (cb0 G i0 i1 j0 (by omega)).g⟩) _ 0 0 _ _ (by omega) (by omega) (by omega) (by omega) hb]
 constructor
 ·rintro ⟨_, h⟩
  exact ⟨by omega, fun j j0 j1 => h j j0 (by omega)⟩
 ·rintro ⟨_, h⟩
  exact ⟨fun j j1 => by omega, fun j j0 j1 => h j j0 (by omega)⟩
omit hl hk G in
theorem shL (W : List Int) (n : Int) : ∀ (rs : List am) (out : List Int), (fu p t W n l rs out).2 = 0 → ∀ a ∈ (fu p t W n l rs out).1, a ∈ out ∨ ∃ r ∈ rs, r.ID = a ∧ (en [gj r.Entry W] (gx p t W l r) n).2 = 0 ∧ (en [gj r.Entry W] (gx p t W l r) n).1 = []
 | [], out, h, a, ha => by
   rw [fu] at ha
   exact .inl (List.mem_mergeSort.1 ha)
 | r :: rs, out, h, a, ha => by
   rw [fu] at h ha
   simp only [LET] at h ha
   by_cases he : (en [gj r.Entry W] (gx p t W l r) n).2 = 0
   ·rw [if_neg (by simp [he])] at h ha
    rcases shL W n rs _ h a ha with h2 | ⟨x, hx, h2⟩
    ·by_cases hz : decide (((en [gj r.Entry W] (gx p t W l r) n).1.length : Int) = 0) = true
     ·rw [if_pos hz] at h2
      rcases List.mem_append.1 h2 with h2 | h2
      ·exact .inl h2
      ·refine .inr ⟨r, List.mem_cons_self .., (List.mem_singleton.1 h2).symm, he, ?_⟩
       apply List.length_eq_zero_iff.1
       rw [decide_eq_true_eq] at hz
       omega
     ·rw [if_neg hz] at h2
      exact .inl h2
    ·exact .inr ⟨x, List.mem_cons_of_mem _ hx, h2⟩
   ·rw [if_pos (by simp [he])] at h
    exact absurd h he
theorem hidden (h : (dn p t l).2 = 0) {r : am} (hr : r ∈ l) (hs : r.ID ∈ (dn p t l).1) (hm : cq r.Entry k = true) : ∃ x ∈ l, de p t x r = true ∧ cq x.Entry k = true := by
 unfold dn at h hs
 have hne : (!decide (mo p t l = 0)) = false := by simp [(xz p t l).2 G]
 simp only [LET, hne, Bool.false_eq_true, if_false] at h hs
 by_cases hz : decide (jk p t = 0) = true
 ·rw [if_pos hz] at hs; cases hs
 ·rw [if_neg hz] at h hs
  rcases shL _ _ l [] h _ hs with h2 | ⟨x, hx, h2, h3, h4⟩
  ·cases h2
  ·have := bd5 G hx hr h2
   subst this
   obtain ⟨hb, hin⟩ := dg5 h3
   have hn := hin (kN k (br p t) (br p t).length 0 0#64)
   rw [h4, aw3 G hl hk hr hb.2] at hn
   apply Classical.byContradiction
   intro hno
   have := hn.2 ⟨hm, fun c hc hc2 => ?_⟩
   ·obtain ⟨q, hq, _⟩ := this
    cases hq
   ·obtain ⟨y, hy, rfl⟩ := List.mem_map.1 hc
    obtain ⟨hy, hp⟩ := List.mem_filter.1 hy
    exact hno ⟨y, hy, hp, (aw3 G hl hk hy hb.2).1 hc2⟩
omit hl hk in
theorem bf6 (k : List (BitVec 32)) : (od p t l k = (zrow, false) ∧ ∀ x ∈ l, cq x.Entry k = false) ∨ ∃ b ∈ l, od p t l k = (b, true) ∧ cq b.Entry k = true ∧ ∀ x ∈ l, cq x.Entry k = true → x = b ∨ Bf p t b x := by
 rw [bh9 p t k l (g_t G)]
 have H := ai7 p t k l [] (false, zrow) (.inl ⟨rfl, fun r hr => by simp at hr⟩)
 rw [List.nil_append] at H
 rcases H with ⟨e, hall⟩ | ⟨pre, c, post, e, hl, hc, h1, h2⟩
 ·exact .inl ⟨by rw [e], hall⟩
 ·have hcl : c ∈ l := by rw [hl]; simp
  refine .inr ⟨c, hcl, by rw [e], hc, fun x hx hm => ?_⟩
  have hx2 := hx
  rw [hl] at hx
  rcases List.mem_append.1 hx with hx | hx
  ·exact .inr (h1 x hx hm)
  ·rcases List.mem_cons.1 hx with rfl | hx
   ·exact .inl rfl
   ·have h3 := h2 x hx hm
    by_cases hid : x.ID = c.ID
    ·exact .inl (bd5 G hx2 hcl hid)
    ·right
     unfold Bf at *
     omega
end
theorem bb7 (s : List Int) (a : Int) : ∀ (m : Nat) (i : Int), m = Int.toNat ((s.length : Int) - i) → 0 ≤ i → ld s a (fun _ => false) m i = decide (a ∈ s.drop i.toNat)
 | 0, i, hm, h0 => by
   rw [ld, List.drop_of_length_le (by omega)]
   simp
 | m + 1, i, hm, h0 => by
   have hlt : i.toNat < s.length := by omega
   rw [ld, bb7 s a m (i + 1) (by omega) (by omega), qv h0 (by omega), show (i + 1).toNat = i.toNat + 1 by omega]
   by_cases h : s[i.toNat] = a
   ·rw [if_pos (by simp [h]), List.drop_eq_getElem_cons hlt]; simp [h]
   ·rw [if_neg (by simp [h])]
    have : ¬a = s[i.toNat] := fun e => h e.symm
    rw [List.drop_eq_getElem_cons hlt, decide_eq_decide, List.mem_cons]
    exact ⟨.inr, fun h => h.resolve_left this⟩
theorem cb7 (s : List Int) (a : Int) : nr s a = decide (a ∈ s) := by
 have h : nr s a = _ := bb7 s a _ 0 rfl (by omega)
 rw [h, show Int.toNat 0 = 0 from rfl, List.drop_zero]
def keyI (W : List Int) (n : Int) : List (BitVec 32) := if decide ((W.length : Int) = 2) = true then [(BitVec.ofInt 32 (shrI n (ix W 1))), (BitVec.ofInt 32 (Int.tmod n (shlI 1 (ix W 1))))] else [(BitVec.ofInt 32 n)]
theorem cw9 (N : Nat) {w : Int} (h0 : 0 ≤ w) (h1 : w ≤ 32) : shrI (N : Int) w = ((N / 2 ^ w.toNat : Nat) : Int) := by
 unfold shrI
 rw [Nat.min_eq_left (by omega), Int.fdiv_eq_ediv_of_nonneg _ (Int.pow_nonneg (by omega))]
 push_cast
 rfl
theorem cr5 (N : Nat) {w : Int} (h0 : 0 ≤ w) (h1 : w ≤ 32) : Int.tmod (N : Int) (shlI 1 w) = ((N % 2 ^ w.toNat : Nat) : Int) := by
 rw [as3 h0 h1, Int.tmod_eq_emod_of_nonneg (by omega)]
 push_cast
 rfl
theorem bf2 {N : Nat} {w : Int} (hw : 1 ≤ w) (h : N < 2 ^ w.toNat) : FB w (BitVec.ofNat 32 N) := dy9 hw (by
 rw [BitVec.toNat_ofNat]
 exact Nat.lt_of_le_of_lt (Nat.mod_le _ _) h)
theorem bn7 {W : List Int} (hW : ∀ j : Int, 0 ≤ j → j < W.length → 1 ≤ ix W j ∧ ix W j ≤ 32) (h1 : 1 ≤ W.length) (h2 : W.length ≤ 2) {b : Int} (hb : fe W (fun x => x) W.length 0 0 = b) (h8 : b ≤ 8) {N : Nat} (hN : N < 2 ^ b.toNat) :
 (keyI W N).length = W.length ∧ (∀ j : Int, 0 ≤ j → j < W.length → FB (ix W j) (ix (keyI W N) j)) ∧ ∀ j : Nat, (j : Int) < b → (kN (keyI W N) W W.length 0 0#64).getLsbD j = N.testBit j := by
 match W, h1, h2 with
 | [w], _, _ =>
   have hw : 1 ≤ w ∧ w ≤ 32 := hW 0 (by omega) (by simp)
   have hb2 : b = w := by
    rw [← hb]
    show wr (0 + w) = w
    rw [dm (by omega) (by omega)]; omega
   subst hb2
   have e : keyI [b] (N : Int) = [BitVec.ofNat 32 N] := by
    show [BitVec.ofInt 32 (N : Int)] = _
    rw [BitVec.ofInt_natCast]
   have hf := bf2 hw.1 hN
   rw [e]
   refine ⟨rfl, fun j j0 j1 => ?_, fun j hj => ?_⟩
   ·have : j = 0 := by simp only [List.length_singleton] at j1; omega
    subst this
    exact hf
   ·show ((0#64 <<< b.toNat) ||| BitVec.setWidth 64 (BitVec.ofNat 32 N)).getLsbD j = _
    rw [qo (by omega) _ hf (by omega), if_pos hj, BitVec.getLsbD_ofNat, decide_eq_true (by omega), Bool.true_and]
 | [v, w], _, _ =>
   have hv : 1 ≤ v ∧ v ≤ 32 := hW 0 (by omega) (by simp)
   have hw : 1 ≤ w ∧ w ≤ 32 := hW 1 (by omega) (by simp)
   have hb2 : b = v + w := by
    rw [← hb]
    show wr (wr (0 + v) + w) = v + w
    rw [dm (n := 0 + v) (by omega) (by omega), dm (by omega) (by omega)]; omega
   have e : keyI [v, w] (N : Int) = [BitVec.ofNat 32 (N / 2 ^ w.toNat), BitVec.ofNat 32 (N % 2 ^ w.toNat)] := by
    show [BitVec.ofInt 32 (shrI N w), BitVec.ofInt 32 (Int.tmod N (shlI 1 w))] = _
    rw [cw9 N (by omega) hw.2, cr5 N (by omega) hw.2, BitVec.ofInt_natCast, BitVec.ofInt_natCast]
   have f1 : FB v (BitVec.ofNat 32 (N / 2 ^ w.toNat)) := bf2 hv.1 (by
    rw [Nat.div_lt_iff_lt_mul (Nat.two_pow_pos _), ← Nat.pow_add]
    rw [hb2, show (v + w).toNat = v.toNat + w.toNat by omega] at hN
    exact hN)
   have f2 : FB w (BitVec.ofNat 32 (N % 2 ^ w.toNat)) := bf2 hw.1 (Nat.mod_lt _ (Nat.two_pow_pos _))
   rw [e]
   refine ⟨rfl, fun j j0 j1 => ?_, fun j hj => ?_⟩
   ·have : j = 0 ∨ j = 1 := by simp only [List.length_cons, List.length_nil] at j1; omega
    rcases this with rfl | rfl
    ·exact f1
    ·exact f2
   ·show ((((0#64 <<< v.toNat) ||| BitVec.setWidth 64 (BitVec.ofNat 32 (N / 2 ^ w.toNat))) <<< w.toNat) ||| BitVec.setWidth 64 (BitVec.ofNat 32 (N % 2 ^ w.toNat))).getLsbD j = _
    rw [qo (by omega) _ f2 (by omega)]
    by_cases h : (j : Int) < w
    ·rw [if_pos h, BitVec.getLsbD_ofNat, decide_eq_true (by omega), Bool.true_and, Nat.testBit_mod_two_pow, decide_eq_true (by omega), Bool.true_and]
    ·rw [if_neg h, qo (by omega) _ f1 (by omega), if_pos (by omega), BitVec.getLsbD_ofNat, decide_eq_true (by omega), Bool.true_and, Nat.testBit_div_two_pow]
     congr 1
     omega
theorem bt6 {w : Int} {c : ae} {m n : BitVec 64} (h : ∀ j : Nat, (j : Int) < w → m.getLsbD j = n.getLsbD j) : inC w c m ↔ inC w c n := by
 unfold inC
 constructor
 ·intro k j j1 j2; rw [← h j j1]; exact k j j1 j2
 ·intro k j j1 j2; rw [h j j1]; exact k j j1 j2
section
variable {p : aa} {t : Int} {l : List am}
theorem ea9 (W : List Int) (n : Int) : ∀ (rs : List am) (out : List Int), (fu p t W n l rs out).2 = 0 → (∀ a ∈ out, a ∈ (fu p t W n l rs out).1) ∧ ∀ r ∈ rs, (en [gj r.Entry W] (gx p t W l r) n).2 = 0 ∧ ((en [gj r.Entry W] (gx p t W l r) n).1 = [] → r.ID ∈ (fu p t W n l rs out).1)
 | [], out, h => by
   rw [fu]
   exact ⟨fun a ha => List.mem_mergeSort.2 ha, fun r hr => by cases hr⟩
 | r :: rs, out, h => by
   rw [fu] at h ⊢
   simp only [LET] at h ⊢
   by_cases he : (en [gj r.Entry W] (gx p t W l r) n).2 = 0
   ·rw [if_neg (by simp [he])] at h ⊢
    obtain ⟨h1, h2⟩ := ea9 W n rs _ h
    refine ⟨fun a ha => h1 a ?_, fun x hx => ?_⟩
    ·split
     ·exact List.mem_append_left _ ha
     ·exact ha
    ·rcases List.mem_cons.1 hx with rfl | hx
     ·refine ⟨he, fun hz => h1 _ ?_⟩
      rw [hz, if_pos (by simp)]
      exact List.mem_append_right _ (List.mem_singleton.2 rfl)
     ·exact h2 x hx
   ·rw [if_pos (by simp [he])] at h
    exact absurd h he
variable (G : GoodR p t l)
include G
theorem br4 {k : List (BitVec 32)} (hl : k.length = (br p t).length) (hk : ∀ j : Int, 0 ≤ j → j < (br p t).length → FB (ix (br p t) j) (ix k j)) (h : (dn p t l).2 = 0) {b : am} (e : od p t l k = (b, true)) : b ∈ l ∧ b.ID ∉ (dn p t l).1 := by
 rcases bf6 G k with ⟨e2, _⟩ | ⟨c, hc, e2, hm, hu⟩
 ·rw [e] at e2; cases e2
 ·rw [e] at e2
  cases e2
  refine ⟨hc, fun hs => ?_⟩
  obtain ⟨x, hx, hp, hxm⟩ := hidden G hl hk h hc hs hm
  have h1 := (wb _ _ x b).1 hp
  rcases hu x hx hxm with rfl | h2
  ·unfold Bf at h1; omega
  ·unfold Bf at h1 h2; omega
omit G in
theorem bn5 : fe (br p t) (fun x => x) (br p t).length 0 0 = fx p t := by
 unfold fx
 simp only [LET]
 congr 1
theorem cj1 (h : (dn p t l).2 = 0) (h1 : 1 ≤ (br p t).length) (h2 : (br p t).length ≤ 2) (h8 : fx p t ≤ 8) {r : am} (hr : r ∈ l) (hn : r.ID ∉ (dn p t l).1) : ∃ N : Nat, N < 2 ^ (fx p t).toNat ∧ od p t l (keyI (br p t) N) = (r, true) := by
 have hb := bw6 G
 have hw := g_w G
 unfold dn at h hn
 have hne : (!decide (mo p t l = 0)) = false := by simp [(xz p t l).2 G]
 simp only [LET, hne, Bool.false_eq_true, if_false] at h hn
 have hz : ¬decide (jk p t = 0) = true := by rw [Bits_eq, decide_eq_true_eq]; omega
 rw [if_neg hz] at h hn
 obtain ⟨h3, h4⟩ := (ea9 _ _ l [] h).2 r hr
 obtain ⟨hb64, hin⟩ := dg5 h3
 have hne2 : (en [gj r.Entry (du p t)] (gx p t (du p t) l r) (jk p t)).1 ≠ [] := fun e => hn (h4 e)
 obtain ⟨q, hq⟩ := List.exists_mem_of_ne_nil _ hne2
 obtain ⟨c1, c2⟩ := (hin q.Value).1 ⟨q, hq, fun j j1 j2 => rfl⟩
 have hN : q.Value.toNat % 2 ^ (fx p t).toNat < 2 ^ (fx p t).toNat := Nat.mod_lt _ (Nat.two_pow_pos _)
 obtain ⟨k1, k2, k3⟩ := bn7 (fun j j0 j1 => as8 G j0 j1) h1 h2 bn5 h8 hN
 have hcong : ∀ c, inC (jk p t) c q.Value ↔ inC (jk p t) c (kN (keyI (br p t) ((q.Value.toNat % 2 ^ (fx p t).toNat : Nat) : Int)) (br p t) (br p t).length 0 0#64) := fun c => bt6 fun j hj => by
  rw [Bits_eq] at hj
  rw [k3 j hj, Nat.testBit_mod_two_pow, decide_eq_true (by omega), Bool.true_and, BitVec.testBit_toNat]
 refine ⟨_, hN, bs9 (g_t G) hr ((aw3 G k1 k2 hr hb64.2).1 ((hcong _).1 c1)) fun x hx hxm => ?_⟩
 have hx2 := (hcong _).2 ((aw3 G k1 k2 hx hb64.2).2 hxm)
 by_cases hp : de p t x r = true
 ·exact absurd hx2 (c2 _ (List.mem_map.2 ⟨x, List.mem_filter.2 ⟨hx, hp⟩, rfl⟩))
 ·rw [wb] at hp
  by_cases hid : x.ID = r.ID
  ·exact .inl (bd5 G hx hr hid)
  ·right
   unfold Bf at *
   omega
end
theorem bx6 (x0 : bm) (W : List Int) (K : List Int → Bool) : ∀ (m : Nat) (i : Int) (z : List Int), ∃ S, dv x0 W K m i z = K S ∧ ∀ a, a ∈ S ↔ a ∈ z ∨ ∃ n : Int, i ≤ n ∧ n < i + m ∧ (ga x0.Program x0.Table x0.Rows (keyI W n)).2 = true ∧ (ga x0.Program x0.Table x0.Rows (keyI W n)).1.ID = a
 | 0, i, z => ⟨z, rfl, fun a => ⟨.inl, fun h => h.elim id fun ⟨n, h1, h2, _⟩ => by omega⟩⟩
 | m + 1, i, z => by
   rw [dv]
   have e : (LET (fun (x9_127 : List (BitVec 32)) =>
    LET (ga x0.Program x0.Table x0.Rows x9_127) fun y130 =>
    if y130.2 then
     dv x0 W K m (i + 1) (z ++ ([y130.1.ID] : List Int))
    else
    dv x0 W K m (i + 1) z) fun k127 =>
   if (decide ((W.length : Int) = 2)) then
    k127 ([(BitVec.ofInt 32 (shrI i (ix W 1))), (BitVec.ofInt 32 (Int.tmod i (shlI 1 (ix W 1))))] : List (BitVec 32))
   else
   k127 ([(BitVec.ofInt 32 i)] : List (BitVec 32))) = if (ga x0.Program x0.Table x0.Rows (keyI W i)).2 then dv x0 W K m (i + 1) (z ++ [(ga x0.Program x0.Table x0.Rows (keyI W i)).1.ID]) else dv x0 W K m (i + 1) z := by
    simp only [LET, keyI]
    split <;> rfl
   rw [e]
   cases hb : (ga x0.Program x0.Table x0.Rows (keyI W i)).2
   ·rw [if_neg (by simp)]
    obtain ⟨S, e1, h⟩ := bx6 x0 W K m (i + 1) z
    refine ⟨S, e1, fun a => (h a).trans ⟨?_, ?_⟩⟩
    ·rintro (h1 | ⟨n, n0, n1, n2⟩)
     ·exact .inl h1
     ·exact .inr ⟨n, by omega, by omega, n2⟩
    ·rintro (h1 | ⟨n, n0, n1, n2, n3⟩)
     ·exact .inl h1
     ·by_cases hn : n = i
      ·subst hn; rw [hb] at n2; cases n2
      ·exact .inr ⟨n, by omega, by omega, n2, n3⟩
   ·rw [if_pos rfl]
    obtain ⟨S, e1, h⟩ := bx6 x0 W K m (i + 1) (z ++ [(ga x0.Program x0.Table x0.Rows (keyI W i)).1.ID])
    refine ⟨S, e1, fun a => (h a).trans ⟨?_, ?_⟩⟩
    ·rintro (h1 | ⟨n, n0, n1, n2⟩)
     ·rcases List.mem_append.1 h1 with h1 | h1
      ·exact .inl h1
      ·exact .inr ⟨i, by omega, by omega, hb, (List.mem_singleton.1 h1).symm⟩
     ·exact .inr ⟨n, by omega, by omega, n2⟩
    ·rintro (h1 | ⟨n, n0, n1, n2, n3⟩)
     ·exact .inl (List.mem_append_left _ h1)
     ·by_cases hn : n = i
      ·subst hn
       exact .inl (List.mem_append_right _ (List.mem_singleton.2 n3.symm))
      ·exact .inr ⟨n, by omega, by omega, n2, n3⟩
theorem dg6 (x0 : bm) (y : List Int × Int) (S : List Int) (K : Unit → Bool) (hall : ∀ r ∈ x0.Rows, r.ID ∈ S ↔ r.ID ∉ y.1) : ∀ (m : Nat) (i : Int), m = Int.toNat ((x0.Rows.length : Int) - i) → 0 ≤ i → gh x0 y S K m i = K ()
 | 0, i, hm, h0 => rfl
 | m + 1, i, hm, h0 => by
   rw [gh]
   simp only [LET, cb7]
   have := hall (ix x0.Rows i) (yr.2 ⟨i, h0, by omega, rfl⟩)
   rw [if_neg, dg6 x0 y S K hall m (i + 1) (by omega) (by omega)]
   by_cases h1 : (ix x0.Rows i).ID ∈ S
   ·have h2 := this.1 h1
    simp [h1, h2]
   ·have h2 : (ix x0.Rows i).ID ∈ y.1 := Decidable.byContradiction fun h => h1 (this.2 h)
    simp [h1, h2]
theorem LookupComplete_law (x0 : bm) : kw x0 = true := by
 unfold kw
 simp only [LET]
 split
 ·rfl
 ·split
  ·rfl
  ·rename_i hc
   have hc2 := hc
   simp only [Bool.not_eq_true] at hc2
   obtain ⟨⟨b0, b8, _⟩, ⟨h, w1, w2⟩, hW⟩ := lcC (p := x0.Program) (t := x0.Table) (l := x0.Rows) rfl rfl rfl hc2
   have G := bl9 h
   have ht := g_t G
   obtain ⟨S, e, hS⟩ := bx6 x0 (br x0.Program x0.Table) (fun S => gh x0 (dn x0.Program x0.Table x0.Rows) S (fun _ => kj) (Int.toNat ((x0.Rows.length : Int) - 0)) 0) (Int.toNat ((shlI 1 (fx x0.Program x0.Table)) - 0)) 0 []
   rw [e, dg6 x0 _ S _ ?_ _ 0 rfl (by omega)]
   ·rfl
   ·intro r hr
    rw [hS]
    have hsh : shlI 1 (fx x0.Program x0.Table) = ((2 ^ (fx x0.Program x0.Table).toNat : Nat) : Int) := by
     rw [as3 b0 (by omega)]
     push_cast
     rfl
    simp only [df4 _ _ _ _ ht]
    constructor
    ·rintro (h1 | ⟨n, n0, n1, n2, n3⟩)
     ·cases h1
     ·have hN : n.toNat < 2 ^ (fx x0.Program x0.Table).toNat := by rw [hsh] at n1; omega
      obtain ⟨k1, k2, _⟩ := bn7 hW w1 w2 bn5 b8 hN
      rw [Int.toNat_of_nonneg n0] at k1 k2
      rw [← n3]
      exact (br4 G k1 k2 h (Prod.ext rfl n2)).2
    ·intro hn
     obtain ⟨N, hN, e2⟩ := cj1 G h w1 w2 b8 hr hn
     refine .inr ⟨(N : Int), by omega, ?_, by rw [e2], by rw [e2]⟩
     rw [hsh]
     omega
end Go.Proofs.YthdnpgpnodgicaaGreat
