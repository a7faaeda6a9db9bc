import Derived.Test.YthdnpgpnodgicaaGreatKSqSr
import Derived.Test.YthdnpgpnodgicaaGreatKShSnSv
set_option linter.all false
set_option maxRecDepth 100000
namespace Go.Proofs.YthdnpgpnodgicaaGreat
open Go Go.Pb Go.RowKit
def inC (w : Int) (c : ae) (n : BitVec 64) : Prop := ∀ j : Nat, (j : Int) < w → c.Mask.getLsbD j = true → n.getLsbD j = c.Value.getLsbD j
theorem ow {k : Nat} (hk : k < 64) (j : Nat) : (1#64 <<< k).getLsbD j = decide (j = k) := by
 rw [BitVec.getLsbD_shiftLeft, BitVec.getLsbD_one]
 by_cases h : j = k
 ·subst h; simp [hk]
 ·by_cases h2 : j < k
  ·simp [h, h2]
  ·have : j - k ≠ 0 := by omega
   simp [h, h2, this]
theorem subL (y : ae) (w : Int) (hw : w ≤ 64) (n : BitVec 64) : ∀ (m : Nat) (i : Int) (z : List ae) (rest : ae), m = Int.toNat (i + 1) → -1 ≤ i → i < w →
 (∀ j : Nat, rest.Mask.getLsbD j = false → rest.Value.getLsbD j = false) →
 (∀ j : Nat, rest.Mask.getLsbD j = true → y.Mask.getLsbD j = true → rest.Value.getLsbD j = y.Value.getLsbD j) →
 ((∃ q ∈ ii y (fun z _ => z) m i z rest, inC w q n) ↔ (∃ q ∈ z, inC w q n) ∨ (inC w rest n ∧ ∃ j : Nat, (j : Int) ≤ i ∧ y.Mask.getLsbD j = true ∧ n.getLsbD j ≠ y.Value.getLsbD j))
 | 0, i, z, rest, hm, h0, h1, hc, ha => by
   rw [ii]
   constructor
   ·exact .inl
   ·rintro (h | ⟨_, j, hj, _⟩)
    ·exact h
    ·omega
 | m + 1, i, z, rest, hm, h0, h1, hc, ha => by
   have hi0 : 0 ≤ i := by omega
   have e : wr (i - 1) = i - 1 := du (by omega) (by omega)
   have hi64 : i.toNat < 64 := by omega
   rw [ii, if_pos (by simpa using hi0), dg7 hi0 (by omega), e]
   by_cases hcc : y.Mask.getLsbD i.toNat = true ∧ rest.Mask.getLsbD i.toNat = false
   ·have hv := hc _ hcc.2
    rw [if_pos (by
     simp only [Bool.and_eq_true, Bool.not_eq_true', decide_eq_false_iff_not, decide_eq_true_eq]
     exact ⟨(fun h => absurd ((vn _ _ hi64).1 h) (by rw [hcc.1]; simp)), (vn _ _ hi64).2 hcc.2⟩)]
    rw [subL y w hw n m (i - 1) _ _ (by omega) (by omega) (by omega) ?_ ?_]
    ·have p1 : inC w ({ Value := (rest.Value ||| ((y.Value &&& (1#64 <<< i.toNat)) ^^^ (1#64 <<< i.toNat))), Mask := (rest.Mask ||| (1#64 <<< i.toNat)) } : ae) n ↔ inC w rest n ∧ n.getLsbD i.toNat ≠ y.Value.getLsbD i.toNat := by
      constructor
      ·intro h
       refine ⟨fun j j1 j2 => ?_, ?_⟩
       ·have := h j j1 (by simp only [BitVec.getLsbD_or, j2, Bool.true_or])
        have hne : j ≠ i.toNat := fun e => by rw [e, hcc.2] at j2; cases j2
        simpa only [BitVec.getLsbD_or, BitVec.getLsbD_xor, BitVec.getLsbD_and, ow hi64, hne, decide_false, Bool.and_false, Bool.xor_false, Bool.or_false] using this
       ·have := h i.toNat (by omega) (by simp only [BitVec.getLsbD_or, ow hi64, decide_true, Bool.or_true])
        simp only [BitVec.getLsbD_or, BitVec.getLsbD_xor, BitVec.getLsbD_and, ow hi64, decide_true, Bool.and_true, hv, Bool.false_or] at this
        rw [this]
        cases y.Value.getLsbD i.toNat <;> decide
      ·rintro ⟨h, h2⟩ j j1 j2
       by_cases hne : j = i.toNat
       ·subst hne
        simp only [BitVec.getLsbD_or, BitVec.getLsbD_xor, BitVec.getLsbD_and, ow hi64, decide_true, Bool.and_true, hv, Bool.false_or]
        revert h2
        cases y.Value.getLsbD i.toNat <;> cases n.getLsbD i.toNat <;> decide
       ·simp only [BitVec.getLsbD_or, ow hi64, hne, decide_false, Bool.or_false] at j2
        simp only [BitVec.getLsbD_or, BitVec.getLsbD_xor, BitVec.getLsbD_and, ow hi64, hne, decide_false, Bool.and_false, Bool.xor_false, Bool.or_false]
        exact h j j1 j2
     have p2 : inC w ({ Value := (rest.Value ||| (y.Value &&& (1#64 <<< i.toNat))), Mask := (rest.Mask ||| (1#64 <<< i.toNat)) } : ae) n ↔ inC w rest n ∧ n.getLsbD i.toNat = y.Value.getLsbD i.toNat := by
      constructor
      ·intro h
       refine ⟨fun j j1 j2 => ?_, ?_⟩
       ·have := h j j1 (by simp only [BitVec.getLsbD_or, j2, Bool.true_or])
        have hne : j ≠ i.toNat := fun e => by rw [e, hcc.2] at j2; cases j2
        simpa only [BitVec.getLsbD_or, BitVec.getLsbD_and, ow hi64, hne, decide_false, Bool.and_false, Bool.or_false] using this
       ·have := h i.toNat (by omega) (by simp only [BitVec.getLsbD_or, ow hi64, decide_true, Bool.or_true])
        simpa only [BitVec.getLsbD_or, BitVec.getLsbD_and, ow hi64, decide_true, Bool.and_true, hv, Bool.false_or] using this
      ·rintro ⟨h, h2⟩ j j1 j2
       by_cases hne : j = i.toNat
       ·subst hne
        simp only [BitVec.getLsbD_or, BitVec.getLsbD_and, ow hi64, decide_true, Bool.and_true, hv, Bool.false_or]
        exact h2
       ·simp only [BitVec.getLsbD_or, ow hi64, hne, decide_false, Bool.or_false] at j2
        simp only [BitVec.getLsbD_or, BitVec.getLsbD_and, ow hi64, hne, decide_false, Bool.and_false, Bool.or_false]
        exact h j j1 j2
     rw [p2]
     constructor
     ·rintro (⟨q, hq, hn⟩ | ⟨⟨h2, _⟩, j, j1, j2, j3⟩)
      ·rcases List.mem_append.1 hq with hq | hq
       ·exact .inl ⟨q, hq, hn⟩
       ·rw [List.mem_singleton.1 hq, p1] at hn
        exact .inr ⟨hn.1, i.toNat, by omega, hcc.1, hn.2⟩
      ·exact .inr ⟨h2, j, by omega, j2, j3⟩
     ·rintro (⟨q, hq, hn⟩ | ⟨h2, j, j1, j2, j3⟩)
      ·exact .inl ⟨q, List.mem_append_left _ hq, hn⟩
      ·by_cases hk : n.getLsbD i.toNat = y.Value.getLsbD i.toNat
       ·have hne : j ≠ i.toNat := fun e => by rw [e] at j3; exact j3 hk
        exact .inr ⟨⟨h2, hk⟩, j, by omega, j2, j3⟩
       ·exact .inl ⟨_, List.mem_append_right _ (List.mem_singleton.2 rfl), p1.2 ⟨h2, hk⟩⟩
    ·intro j hj
     simp only [BitVec.getLsbD_or, BitVec.getLsbD_and, Bool.or_eq_false_iff] at hj ⊢
     exact ⟨hc j hj.1, by rw [hj.2, Bool.and_false]⟩
    ·intro j hj hy
     by_cases hne : j = i.toNat
     ·subst hne
      simp only [BitVec.getLsbD_or, BitVec.getLsbD_and, ow hi64, decide_true, Bool.and_true, hv, Bool.false_or]
     ·simp only [BitVec.getLsbD_or, ow hi64, hne, decide_false, Bool.or_false] at hj
      simp only [BitVec.getLsbD_or, BitVec.getLsbD_and, ow hi64, hne, decide_false, Bool.and_false, Bool.or_false]
      exact ha j hj hy
   ·rw [if_neg (by
     simp only [Bool.and_eq_true, Bool.not_eq_true', decide_eq_false_iff_not, decide_eq_true_eq]
     rintro ⟨a, b⟩
     refine hcc ⟨?_, (vn _ _ hi64).1 b⟩
     cases hq : y.Mask.getLsbD i.toNat
     ·exact absurd ((vn _ _ hi64).2 hq) a
     ·rfl)]
    rw [subL y w hw n m (i - 1) z rest (by omega) (by omega) (by omega) hc ha]
    constructor
    ·rintro (h | ⟨h2, j, j1, j2, j3⟩)
     ·exact .inl h
     ·exact .inr ⟨h2, j, by omega, j2, j3⟩
    ·rintro (h | ⟨h2, j, j1, j2, j3⟩)
     ·exact .inl h
     ·refine .inr ⟨h2, j, ?_, j2, j3⟩
      have hne : j ≠ i.toNat := by
       intro e
       rw [e] at j2 j3
       have hr : rest.Mask.getLsbD i.toNat = true := by
        cases hr : rest.Mask.getLsbD i.toNat
        ·exact absurd ⟨j2, hr⟩ hcc
        ·rfl
       exact j3 ((h2 _ (by omega) hr).trans (ha _ hr j2))
      omega
theorem cc0 {w : Int} (h : 1 ≤ w ∧ w ≤ 64) (i : Nat) : (wg w).getLsbD i = decide ((i : Int) < w) := by
 by_cases hi : i < 64
 ·exact ak8 h hi
 ·rw [BitVec.getLsbD_of_ge _ _ (by omega), decide_eq_false (by omega)]
theorem bd8 {w : Int} (h : 1 ≤ w ∧ w ≤ 64) (c : ae) (n : BitVec 64) : inC w (iv c w) n ↔ inC w c n := by
 unfold inC iv
 simp only [LET, BitVec.getLsbD_and, cc0 h]
 constructor
 ·intro k j j1 j2
  have := k j j1 (by rw [j2, decide_eq_true j1]; rfl)
  rw [this, j2, decide_eq_true j1]; simp
 ·intro k j j1 j2
  rw [decide_eq_true j1, Bool.and_true] at j2
  rw [k j j1 j2, j2, decide_eq_true j1]; simp
theorem dc9 {a b : ae} (h : ga a b = true) (j : Nat) (hj : b.Mask.getLsbD j = true) : a.Mask.getLsbD j = true ∧ a.Value.getLsbD j = b.Value.getLsbD j := by
 unfold ga at h
 simp only [Bool.and_eq_true, decide_eq_true_eq] at h
 have h1 := congrArg (fun v => v.getLsbD j) h.1
 have h2 := congrArg (fun v => v.getLsbD j) h.2
 simp only [BitVec.getLsbD_and, hj, Bool.and_true] at h1 h2
 exact ⟨h1, h2⟩
theorem cg6 {a b : ae} (h : ga a b = true) {w : Int} {n : BitVec 64} (hn : inC w a n) : inC w b n := fun j j1 j2 => by
 have := dc9 h j j2
 rw [← this.2]
 exact hn j j1 this.1
theorem ag7 (a b : ae) {w : Int} (h : 1 ≤ w ∧ w ≤ 64) (n : BitVec 64) : (∃ q ∈ co a b w, inC w q n) ↔ inC w a n ∧ ¬inC w b n := by
 rw [dj4 a b h, ← bd8 h a, ← bd8 h b]
 have hmask : ∀ c : ae, ∀ j : Nat, (iv c w).Mask.getLsbD j = true → (j : Int) < w := by
  intro c j hj
  unfold iv at hj
  simp only [LET, BitVec.getLsbD_and, cc0 h, Bool.and_eq_true, decide_eq_true_eq] at hj
  exact hj.2
 have hcan : ∀ c : ae, ∀ j : Nat, (iv c w).Mask.getLsbD j = false → (iv c w).Value.getLsbD j = false := by
  intro c j hj
  unfold iv at hj ⊢
  simp only [LET, BitVec.getLsbD_and] at hj ⊢
  rw [hj, Bool.and_false]
 unfold rn
 rw [if_neg (by simp; omega)]
 simp only [LET]
 have hc := hcan a
 have hmy := hmask b
 generalize iv a w = x at *
 generalize iv b w = y at *
 by_cases hs : ga x y = true
 ·rw [if_pos hs]
  constructor
  ·rintro ⟨q, hq, _⟩; cases hq
  ·rintro ⟨h1, h2⟩; exact absurd (cg6 hs h1) h2
 ·rw [if_neg hs]
  have hI : (mw x y).2 = decide (x.Value &&& (x.Mask &&& y.Mask) = y.Value &&& (x.Mask &&& y.Mask)) := by
   unfold mw
   split
   ·rename_i hh
    simp only [Bool.not_eq_true', decide_eq_false_iff_not] at hh
    exact (decide_eq_false hh).symm
   ·rename_i hh
    simp only [Bool.not_eq_true', decide_eq_false_iff_not, Decidable.not_not] at hh
    exact (decide_eq_true hh).symm
  rw [hI]
  by_cases hm : x.Value &&& (x.Mask &&& y.Mask) = y.Value &&& (x.Mask &&& y.Mask)
  ·rw [if_neg (by simp [hm])]
   have e : wr (w - 1) = w - 1 := du (by omega) (by omega)
   rw [e, subL y w h.2 n _ (w - 1) [] x rfl (by omega) (by omega) hc ?_]
   ·constructor
    ·rintro (⟨q, hq, _⟩ | ⟨h1, j, j1, j2, j3⟩)
     ·cases hq
     ·exact ⟨h1, fun hy => j3 (hy j (by omega) j2)⟩
    ·rintro ⟨h1, h2⟩
     refine .inr ⟨h1, ?_⟩
     apply Classical.byContradiction
     intro hno
     refine h2 fun j j1 j2 => ?_
     apply Classical.byContradiction
     intro h3
     exact hno ⟨j, by omega, j2, h3⟩
   ·intro j hj hy
    have := congrArg (fun v => v.getLsbD j) hm
    simpa only [BitVec.getLsbD_and, hj, hy, Bool.and_true] using this
  ·rw [if_pos (by simp [hm])]
   constructor
   ·rintro ⟨q, hq, hn⟩
    rw [List.mem_singleton.1 hq] at hn
    refine ⟨hn, fun hy => hm ?_⟩
    apply BitVec.eq_of_getLsbD_eq
    intro j hj
    simp only [BitVec.getLsbD_and]
    cases hx : x.Mask.getLsbD j
    ·simp
    ·cases hz : y.Mask.getLsbD j
     ·simp
     ·rw [← hn j (hmy j hz) hx, ← hy j (hmy j hz) hz]
   ·rintro ⟨h1, h2⟩
    exact ⟨x, List.mem_singleton.2 rfl, h1⟩
theorem by7 {a b : ae} (h : ga a b = true) : b.Mask.toNat ≤ a.Mask.toNat ∧ (b.Mask.toNat = a.Mask.toNat → ga b a = true) := by
 unfold ga at h ⊢
 simp only [Bool.and_eq_true, decide_eq_true_eq] at h ⊢
 constructor
 ·rw [← h.1, BitVec.toNat_and]
  exact Nat.and_le_left
 ·intro he
  have e := BitVec.eq_of_toNat_eq he
  rw [e] at h ⊢
  exact ⟨BitVec.and_self, h.2.symm⟩
theorem cj9 (l : List ae) (i : Int) : ∀ (m : Nat) (j : Int), m = Int.toNat ((l.length : Int) - j) → 0 ≤ j → kt l i (fun _ => false) m j = true → ∃ k : Int, j ≤ k ∧ k < l.length ∧ k ≠ i ∧ ga (ix l i) (ix l k) = true ∧ (k < i ∨ ga (ix l k) (ix l i) = false)
 | 0, j, hm, h0, h => by cases h
 | m + 1, j, hm, h0, h => by
   rw [kt] at h
   split at h
   ·rename_i hc
    simp only [Bool.and_eq_true, Bool.or_eq_true, Bool.not_eq_true', decide_eq_false_iff_not, decide_eq_true_eq] at hc
    exact ⟨j, Int.le_refl j, by omega, hc.1.1, hc.1.2, hc.2⟩
   ·obtain ⟨k, h1, h2⟩ := cj9 l i m (j + 1) (by omega) (by omega) h
    exact ⟨k, by omega, h2⟩
theorem kept (l : List ae) (w : Int) (n : BitVec 64) : ∀ (M : Nat) (i : Int), 0 ≤ i → i < l.length → (ix l i).Mask.toNat * l.length + i.toNat = M → inC w (ix l i) n → ∃ j : Int, 0 ≤ j ∧ j < l.length ∧ my l j = false ∧ inC w (ix l j) n := by
 intro M
 induction M using Nat.strongRecOn with
 | ind M ih =>
   intro i h0 h1 hM hn
   cases hr : my l i
   ·exact ⟨i, h0, h1, hr, hn⟩
   ·obtain ⟨k, k0, k1, k2, k3, k4⟩ := cj9 l i _ 0 rfl (by omega) hr
    have hs := by7 k3
    refine ih _ ?_ k k0 k1 rfl (cg6 k3 hn)
    by_cases he : (ix l k).Mask.toNat = (ix l i).Mask.toNat
    ·rw [hs.2 he] at k4
     have : k < i := by simpa using k4
     rw [he]; omega
    ·have h3 : (ix l k).Mask.toNat + 1 ≤ (ix l i).Mask.toNat := by omega
     have h4 := Nat.mul_le_mul_right l.length h3
     rw [Nat.add_mul] at h4
     omega
theorem as8 (l : List ae) : ∀ (m : Nat) (i : Int) (z : List ae), m = Int.toNat ((l.length : Int) - i) → 0 ≤ i → ∀ q, q ∈ jn l (fun z => z) m i z ↔ q ∈ z ∨ ∃ j : Int, i ≤ j ∧ j < l.length ∧ my l j = false ∧ q = { Value := (ix l j).Value &&& (ix l j).Mask, Mask := (ix l j).Mask }
 | 0, i, z, hm, h0, q => by
   rw [jn]
   constructor
   ·exact .inl
   ·rintro (h | ⟨j, j0, j1, _⟩)
    ·exact h
    ·omega
 | m + 1, i, z, hm, h0, q => by
   rw [jn]
   simp only [LET]
   cases hr : my l i
   ·rw [if_pos (by simp), as8 l m (i + 1) _ (by omega) (by omega)]
    constructor
    ·rintro (h | ⟨j, j0, j1⟩)
     ·rcases List.mem_append.1 h with h | h
      ·exact .inl h
      ·exact .inr ⟨i, Int.le_refl i, by omega, hr, List.mem_singleton.1 h⟩
     ·exact .inr ⟨j, by omega, j1⟩
    ·rintro (h | ⟨j, j0, j1⟩)
     ·exact .inl (List.mem_append_left _ h)
     ·by_cases hj : j = i
      ·subst hj
       exact .inl (List.mem_append_right _ (List.mem_singleton.2 j1.2.2))
      ·exact .inr ⟨j, by omega, j1⟩
   ·rw [if_neg (by simp), as8 l m (i + 1) _ (by omega) (by omega)]
    constructor
    ·rintro (h | ⟨j, j0, j1⟩)
     ·exact .inl h
     ·exact .inr ⟨j, by omega, j1⟩
    ·rintro (h | ⟨j, j0, j1⟩)
     ·exact .inl h
     ·by_cases hj : j = i
      ·subst hj
       rw [hr] at j1; cases j1.2.1
      ·exact .inr ⟨j, by omega, j1⟩
theorem ba7 (c : ae) (w : Int) (n : BitVec 64) : inC w { Value := c.Value &&& c.Mask, Mask := c.Mask } n ↔ inC w c n := by
 unfold inC
 constructor
 ·intro h j j1 j2
  have := h j j1 j2
  simpa only [BitVec.getLsbD_and, j2, Bool.and_true] using this
 ·intro h j j1 j2
  have := h j j1 j2
  simpa only [BitVec.getLsbD_and, (show c.Mask.getLsbD j = true from j2), Bool.and_true] using this
theorem db5 (l : List ae) (w : Int) (n : BitVec 64) : (∃ q ∈ sd l, inC w q n) ↔ ∃ q ∈ l, inC w q n := by
 unfold sd
 constructor
 ·rintro ⟨q, hq, hn⟩
  rcases (as8 l _ 0 [] rfl (by omega) q).1 hq with h | ⟨j, j0, j1, j2, rfl⟩
  ·cases h
  ·exact ⟨ix l j, se.2 ⟨j, j0, j1, rfl⟩, (ba7 _ _ _).1 hn⟩
 ·rintro ⟨q, hq, hn⟩
  obtain ⟨i, i0, i1, rfl⟩ := se.1 hq
  obtain ⟨j, j0, j1, j2, j3⟩ := kept l w n _ i i0 i1 rfl hn
  exact ⟨_, (as8 l _ 0 [] rfl (by omega) _).2 (.inr ⟨j, j0, j1, j2, rfl⟩), (ba7 _ _ _).2 j3⟩
theorem ck6 {l : List ae} (h : (fi l).2 = 0) (w : Int) (n : BitVec 64) : (∃ q ∈ (fi l).1, inC w q n) ↔ ∃ q ∈ l, inC w q n := by
 rw [dk2] at h ⊢
 unfold uh at h ⊢
 simp only [LET] at h ⊢
 split at h
 ·cases h
 ·rename_i hc
  rw [if_neg hc]
  exact db5 l w n
theorem cf9 {w : Int} (hw : 1 ≤ w ∧ w ≤ 64) (n : BitVec 64) : ∀ (b out : List ae), (iu w b out).2 = 0 → ((∃ q ∈ (iu w b out).1, inC w q n) ↔ (∃ q ∈ out, inC w q n) ∧ ∀ x ∈ b, ¬inC w x n)
 | [], out, h => by
   rw [iu]
   constructor
   ·intro h; exact ⟨h, fun x hx => by cases hx⟩
   ·exact fun h => h.1
 | x :: b, out, h => by
   rw [iu] at h ⊢
   simp only [LET] at h ⊢
   by_cases he : (fi (out.flatMap fun c => co c x w)).2 = 0
   ·rw [if_neg (by simp [he])] at h ⊢
    rw [cf9 hw n b _ h, ck6 he]
    constructor
    ·rintro ⟨⟨q, hq, hn⟩, h2⟩
     obtain ⟨c, hc, hq⟩ := List.mem_flatMap.1 hq
     have := (ag7 c x hw n).1 ⟨q, hq, hn⟩
     refine ⟨⟨c, hc, this.1⟩, fun y hy => ?_⟩
     rcases List.mem_cons.1 hy with rfl | hy
     ·exact this.2
     ·exact h2 y hy
    ·rintro ⟨⟨c, hc, hn⟩, h2⟩
     obtain ⟨q, hq, hqn⟩ := (ag7 c x hw n).2 ⟨hn, h2 x (List.mem_cons_self ..)⟩
     exact ⟨⟨q, List.mem_flatMap.2 ⟨c, hc, hq⟩, hqn⟩, fun y hy => h2 y (List.mem_cons_of_mem _ hy)⟩
   ·rw [if_pos (by simp [he])] at h
    exact absurd h he
theorem ei3 {c : ae} {b : List ae} {w : Int} (h : (fx [c] b w).2 = 0) : (1 ≤ w ∧ w ≤ 64) ∧ ∀ n : BitVec 64, (∃ q ∈ (fx [c] b w).1, inC w q n) ↔ inC w c n ∧ ∀ x ∈ b, ¬inC w x n := by
 unfold fx at h ⊢
 by_cases hc : (decide (w < 1) || decide (64 < w)) = true
 ·rw [if_pos hc] at h; cases h
 ·rw [if_neg hc] at h ⊢
  have hw : 1 ≤ w ∧ w ≤ 64 := by
   simp only [Bool.or_eq_true, decide_eq_true_eq, not_or] at hc
   omega
  refine ⟨hw, fun n => ?_⟩
  have e1 : ju [c] w = [{ Value := c.Value &&& (c.Mask &&& dz w), Mask := c.Mask &&& dz w }] := rfl
  simp only [LET] at h ⊢
  by_cases he : (fi (ju [c] w)).2 = 0
  ·rw [if_neg (by simp [he])] at h ⊢
   rw [cf9 hw n b _ h, ck6 he, e1]
   have e2 : ({ Value := c.Value &&& (c.Mask &&& dz w), Mask := c.Mask &&& dz w } : ae) = iv c w := by
    unfold iv
    simp only [LET, ck4 hw]
   rw [e2]
   simp only [List.mem_singleton, exists_eq_left, bd8 hw]
  ·rw [if_pos (by simp [he])] at h
   exact absurd h he
def FB (w : Int) (v : BitVec 32) : Prop := ∀ j : Nat, w ≤ (j : Int) → v.getLsbD j = false
theorem bj4 {v : BitVec 32} {w : Int} (h : mh v w = true) : FB w v := by
 obtain ⟨hw, h2⟩ := (ci7 v w).1 h
 intro j hj
 by_cases hj2 : j < 32
 ·have := congrArg (fun x => x.getLsbD j) h2
  simp only [BitVec.getLsbD_and, cj4 hw hj2] at this
  rw [decide_eq_false (by omega), Bool.and_false] at this
  exact this.symm
 ·exact BitVec.getLsbD_of_ge _ _ (by omega)
theorem di9 {v : BitVec 32} {w : Int} (hw : 1 ≤ w) (h : v.toNat < 2 ^ w.toNat) : FB w v := by
 intro j hj
 rw [← BitVec.testBit_toNat]
 apply Nat.testBit_lt_two_pow
 exact Nat.lt_of_lt_of_le h (Nat.pow_le_pow_right (by decide) (by omega))
theorem tu {w : Int} (h0 : 0 ≤ w) (c : BitVec 64) {v : BitVec 32} (hv : FB w v) {j : Nat} (hj : j < 64) : ((c <<< w.toNat) ||| BitVec.setWidth 64 v).getLsbD j = if (j : Int) < w then v.getLsbD j else c.getLsbD (j - w.toNat) := by
 rw [BitVec.getLsbD_or, BitVec.getLsbD_shiftLeft, BitVec.getLsbD_setWidth]
 by_cases h : (j : Int) < w
 ·rw [if_pos h]
  have : j < w.toNat := by omega
  simp [hj, this]
 ·rw [if_neg h, hv j (by omega)]
  have : ¬j < w.toNat := by omega
  simp [hj, this]
theorem fld {w : Int} {x v m : BitVec 32} (hm : FB w m) : (x ^^^ v) &&& m = 0#32 ↔ ∀ j : Nat, (j : Int) < w → m.getLsbD j = true → x.getLsbD j = v.getLsbD j := by
 constructor
 ·intro h j j1 j2
  have := congrArg (fun y => y.getLsbD j) h
  simp only [BitVec.getLsbD_and, BitVec.getLsbD_xor, j2, Bool.and_true, BitVec.getLsbD_zero] at this
  revert this
  cases x.getLsbD j <;> cases v.getLsbD j <;> decide
 ·intro h
  apply BitVec.eq_of_getLsbD_eq
  intro j hj
  simp only [BitVec.getLsbD_and, BitVec.getLsbD_xor, BitVec.getLsbD_zero]
  cases hmj : m.getLsbD j
  ·simp
  ·have hjw : (j : Int) < w := by
    apply Decidable.byContradiction
    intro hc
    rw [hm j (by omega)] at hmj; cases hmj
   rw [h j hjw hmj]; simp
theorem dl2 {b w : Int} (hb : 0 ≤ b) (hw : 0 ≤ w) (hs : b + w ≤ 64) (c : ae) (a : BitVec 64) {x v m : BitVec 32} (hx : FB w x) (hv : FB w v) (hm : FB w m) :
 inC (b + w) { Value := (c.Value <<< w.toNat) ||| BitVec.setWidth 64 v, Mask := (c.Mask <<< w.toNat) ||| BitVec.setWidth 64 m } ((a <<< w.toNat) ||| BitVec.setWidth 64 x) ↔ inC b c a ∧ (x ^^^ v) &&& m = 0#32 := by
 rw [fld hm]
 unfold inC
 constructor
 ·intro h
  constructor
  ·intro j j1 j2
   have hj : j + w.toNat < 64 := by omega
   have := h (j + w.toNat) (by omega)
   simp only [tu hw _ hx hj, tu hw _ hv hj, tu hw _ hm hj] at this
   rw [if_neg (by omega), if_neg (by omega), if_neg (by omega), show j + w.toNat - w.toNat = j by omega] at this
   exact this j2
  ·intro j j1 j2
   have hj : j < 64 := by omega
   have := h j (by omega)
   simp only [tu hw _ hx hj, tu hw _ hv hj, tu hw _ hm hj] at this
   rw [if_pos j1, if_pos j1, if_pos j1] at this
   exact this j2
 ·rintro ⟨h1, h2⟩ j j1
  have hj : j < 64 := by omega
  simp only [tu hw _ hx hj, tu hw _ hv hj, tu hw _ hm hj]
  by_cases hjw : (j : Int) < w
  ·rw [if_pos hjw, if_pos hjw, if_pos hjw]
   exact h2 j hjw
  ·rw [if_neg hjw, if_neg hjw, if_neg hjw]
   exact h1 (j - w.toNat) (by omega)
def kN (k : List (BitVec 32)) (W : List Int) : Nat → Int → BitVec 64 → BitVec 64
 | 0, i, a => a
 | m + 1, i, a => kN k W m (i + 1) ((a <<< (ix W i).toNat) ||| BitVec.setWidth 64 (ix k i))
theorem cubeL {x : av} {W : List Int} {k : List (BitVec 32)} (hW : ∀ j : Int, 0 ≤ j → j < W.length → 1 ≤ ix W j ∧ ix W j ≤ 32) (h6 : W.length ≤ 6)
 (hF : ∀ j : Int, 0 ≤ j → j < W.length → FB (ix W j) (ix k j) ∧ FB (ix W j) (ix x.Keys j).Value ∧ FB (ix W j) (ix x.Keys j).Mask) : ∀ (m : Nat) (i b : Int) (c : ae) (a : BitVec 64), m = Int.toNat ((W.length : Int) - i) → 0 ≤ i → 0 ≤ b → b ≤ 32 * i → gc W (fun x => x) m b i ≤ 64 →
 (inC (gc W (fun x => x) m b i) (lc x W (fun z => z) m i c) (kN k W m i a) ↔ inC b c a ∧ ∀ j : Int, i ≤ j → j < W.length → (ix k j ^^^ (ix x.Keys j).Value) &&& (ix x.Keys j).Mask = 0#32)
 | 0, i, b, c, a, hm, h0, hb, hb2, hB => by
   have e : gc W (fun x => x) 0 b i = b := rfl
   rw [e]
   show inC b c a ↔ _
   constructor
   ·exact fun h => ⟨h, fun j j0 j1 => by omega⟩
   ·exact fun h => h.1
 | m + 1, i, b, c, a, hm, h0, hb, hb2, hB => by
   have hw := hW i h0 (by omega)
   have hf := hF i h0 (by omega)
   have e : gc W (fun x => x) (m + 1) b i = gc W (fun x => x) m (b + ix W i) (i + 1) := by
    rw [gc, du (by omega) (by omega)]
   rw [e] at hB ⊢
   have hB2 := bn4 W hW h6 m (i + 1) (b + ix W i) (by omega) (by omega) (by omega) (by omega)
   rw [lc, kN, cubeL hW h6 hF m (i + 1) (b + ix W i) _ _ (by omega) (by omega) (by omega) (by omega) hB, dl2 hb (by omega) (by omega) c a hf.1 hf.2.1 hf.2.2]
   constructor
   ·rintro ⟨⟨h1, h2⟩, h3⟩
    refine ⟨h1, fun j j0 j1 => ?_⟩
    by_cases hj : j = i
    ·subst hj; exact h2
    ·exact h3 j (by omega) j1
   ·rintro ⟨h1, h2⟩
    exact ⟨⟨h1, h2 i (Int.le_refl i) (by omega)⟩, fun j j0 j1 => h2 j (by omega) j1⟩
section
variable {p : aa} {t : Int} {l : List ak} (G : GoodR p t l) {k : List (BitVec 32)} (hl : k.length = (bp p t).length) (hk : ∀ j : Int, 0 ≤ j → j < (bp p t).length → FB (ix (bp p t) j) (ix k j))
include G hl hk
theorem ce0 {r : ak} (hr : r ∈ l) (hb : lm p t ≤ 64) : inC (lm p t) (ip r.Entry (ee p t)) (kN k (bp p t) (bp p t).length 0 0#64) ↔ cq r.Entry k = true := by
 obtain ⟨i, i0, i1, rfl⟩ := se.1 hr
 have hR := (aq2 G i0 i1).n
 have hW := g_w G
 rw [ay4, Widths_eq, Bits_eq] at *
 have e1 : uj p t = gc (bp p t) (fun x => x) (bp p t).length 0 0 := by
  unfold uj
  simp only [LET]
  congr 1
 have e2 : ip (ix l i).Entry (bp p t) = lc (ix l i).Entry (bp p t) (fun z => z) (bp p t).length 0 { Value := 0#64, Mask := 0#64 } := by
  unfold ip
  rw [show (((ix l i).Entry.Keys.length : Int) - 0).toNat = (bp p t).length by omega]
 rw [e1] at hb ⊢
 rw [e2, cubeL (fun j j0 j1 => bh5 G j0 j1) (by have := g_n G; omega) (fun j j0 j1 => ⟨hk j j0 j1, bj4 (bw4 G i0 i1 j0 (by omega)).f, bj4 (bw4 G i0 i1 j0 (by omega)).g⟩) _ 0 0 _ _ (by omega) (by omega) (by omega) (by omega) hb]
 constructor
 ·rintro ⟨_, h⟩
  exact ⟨by omega, fun j j0 j1 => h j j0 (by omega)⟩
 ·rintro ⟨_, h⟩
  exact ⟨fun j j1 => by omega, fun j j0 j1 => h j j0 (by omega)⟩
omit hl hk G in
theorem shL (W : List Int) (n : Int) : ∀ (rs : List ak) (out : List Int), (jl p t W n l rs out).2 = 0 → ∀ a ∈ (jl p t W n l rs out).1, a ∈ out ∨ ∃ r ∈ rs, r.ID = a ∧ (fx [ip r.Entry W] (kb p t W l r) n).2 = 0 ∧ (fx [ip r.Entry W] (kb p t W l r) n).1 = []
 | [], out, h, a, ha => by
   rw [jl] at ha
   exact .inl (List.mem_mergeSort.1 ha)
 | r :: rs, out, h, a, ha => by
   rw [jl] at h ha
   simp only [LET] at h ha
   by_cases he : (fx [ip r.Entry W] (kb p t W l r) n).2 = 0
   ·rw [if_neg (by simp [he])] at h ha
    rcases shL W n rs _ h a ha with h2 | ⟨x, hx, h2⟩
    ·by_cases hz : decide (((fx [ip r.Entry W] (kb p t W l r) n).1.length : Int) = 0) = true
     ·rw [if_pos hz] at h2
      rcases List.mem_append.1 h2 with h2 | h2
      ·exact .inl h2
      ·refine .inr ⟨r, List.mem_cons_self .., (List.mem_singleton.1 h2).symm, he, ?_⟩
       apply List.length_eq_zero_iff.1
       rw [decide_eq_true_eq] at hz
       omega
     ·rw [if_neg hz] at h2
      exact .inl h2
    ·exact .inr ⟨x, List.mem_cons_of_mem _ hx, h2⟩
   ·rw [if_pos (by simp [he])] at h
    exact absurd h he
theorem hidden (h : (fj p t l).2 = 0) {r : ak} (hr : r ∈ l) (hs : r.ID ∈ (fj p t l).1) (hm : cq r.Entry k = true) : ∃ x ∈ l, dk p t x r = true ∧ cq x.Entry k = true := by
 unfold fj at h hs
 have hne : (!decide (oh p t l = 0)) = false := by simp [(ad5 p t l).2 G]
 simp only [LET, hne, Bool.false_eq_true, if_false] at h hs
 by_cases hz : decide (lm p t = 0) = true
 ·rw [if_pos hz] at hs; cases hs
 ·rw [if_neg hz] at h hs
  rcases shL _ _ l [] h _ hs with h2 | ⟨x, hx, h2, h3, h4⟩
  ·cases h2
  ·have := cb2 G hx hr h2
   subst this
   obtain ⟨hb, hin⟩ := ei3 h3
   have hn := hin (kN k (bp p t) (bp p t).length 0 0#64)
   rw [h4, ce0 G hl hk hr hb.2] at hn
   apply Classical.byContradiction
   intro hno
   have := hn.2 ⟨hm, fun c hc hc2 => ?_⟩
   ·obtain ⟨q, hq, _⟩ := this
    cases hq
   ·obtain ⟨y, hy, rfl⟩ := List.mem_map.1 hc
    obtain ⟨hy, hp⟩ := List.mem_filter.1 hy
    exact hno ⟨y, hy, hp, (ce0 G hl hk hy hb.2).1 hc2⟩
omit hl hk in
theorem bi8 (k : List (BitVec 32)) : (qh p t l k = (zrow, false) ∧ ∀ x ∈ l, cq x.Entry k = false) ∨ ∃ b ∈ l, qh p t l k = (b, true) ∧ cq b.Entry k = true ∧ ∀ x ∈ l, cq x.Entry k = true → x = b ∨ Bf p t b x := by
 rw [ax1 p t k l (g_t G)]
 have H := ab6 p t k l [] (false, zrow) (.inl ⟨rfl, fun r hr => by simp at hr⟩)
 rw [List.nil_append] at H
 rcases H with ⟨e, hall⟩ | ⟨pre, c, post, e, hl, hc, h1, h2⟩
 ·exact .inl ⟨by rw [e], hall⟩
 ·have hcl : c ∈ l := by rw [hl]; simp
  refine .inr ⟨c, hcl, by rw [e], hc, fun x hx hm => ?_⟩
  have hx2 := hx
  rw [hl] at hx
  rcases List.mem_append.1 hx with hx | hx
  ·exact .inr (h1 x hx hm)
  ·rcases List.mem_cons.1 hx with rfl | hx
   ·exact .inl rfl
   ·have h3 := h2 x hx hm
    by_cases hid : x.ID = c.ID
    ·exact .inl (cb2 G hx2 hcl hid)
    ·right
     unfold Bf at *
     omega
end
theorem bb9 (s : List Int) (a : Int) : ∀ (m : Nat) (i : Int), m = Int.toNat ((s.length : Int) - i) → 0 ≤ i → kw s a (fun _ => false) m i = decide (a ∈ s.drop i.toNat)
 | 0, i, hm, h0 => by
   rw [kw, List.drop_of_length_le (by omega)]
   simp
 | m + 1, i, hm, h0 => by
   have hlt : i.toNat < s.length := by omega
   rw [kw, bb9 s a m (i + 1) (by omega) (by omega), px h0 (by omega), show (i + 1).toNat = i.toNat + 1 by omega]
   by_cases h : s[i.toNat] = a
   ·rw [if_pos (by simp [h]), List.drop_eq_getElem_cons hlt]; simp [h]
   ·rw [if_neg (by simp [h])]
    have : ¬a = s[i.toNat] := fun e => h e.symm
    rw [List.drop_eq_getElem_cons hlt, decide_eq_decide, List.mem_cons]
    exact ⟨.inr, fun h => h.resolve_left this⟩
theorem ba1 (s : List Int) (a : Int) : lf s a = decide (a ∈ s) := by
 have h : lf s a = _ := bb9 s a _ 0 rfl (by omega)
 rw [h, show Int.toNat 0 = 0 from rfl, List.drop_zero]
theorem ak5 (x0 : bm) (y : List Int × Int) (K : List ak → Bool) : ∀ (m : Nat) (i : Int) (z : List ak), m = Int.toNat ((x0.Rows.length : Int) - i) → 0 ≤ i → gb x0 y K m i z = K (z ++ (x0.Rows.drop i.toNat).filter fun r => !decide (r.ID ∈ y.1))
 | 0, i, z, hm, h0 => by
   rw [gb, List.drop_of_length_le (by omega)]
   simp
 | m + 1, i, z, hm, h0 => by
   have hlt : i.toNat < x0.Rows.length := by omega
   have e : (i + 1).toNat = i.toNat + 1 := by omega
   rw [gb, List.drop_eq_getElem_cons hlt, List.filter_cons]
   simp only [LET, ba1]
   rw [ak5 x0 y K m (i + 1) _ (by omega) (by omega), ak5 x0 y K m (i + 1) _ (by omega) (by omega), e, px h0 (by omega)]
   by_cases h : x0.Rows[i.toNat].ID ∈ y.1
   ·rw [if_neg (by simp [h]), if_neg (by simp [h])]
   ·rw [if_pos (by simp [h]), if_pos (by simp [h])]
    simp
theorem cj7 {W : List Int} {i : Int} (h : 1 ≤ ix W i ∧ ix W i ≤ 32) (K : BitVec 32 → List (BitVec 32)) : ∀ (m : Nat) (v : BitVec 32), v.toNat ≤ m → ∃ u, jv W i K m v = K u ∧ FB (ix W i) u
 | 0, v, hv => by
   refine ⟨v, rfl, di9 h.1 ?_⟩
   have := Nat.two_pow_pos (ix W i).toNat
   omega
 | m + 1, v, hv => by
   rw [jv]
   simp only [LET]
   cases hf : nq v (ix W i)
   ·have := fh hf h rfl
    rw [if_pos (by simp)]
    exact cj7 h K m _ (by omega)
   ·rw [if_neg (by simp)]
    rw [ax2 h, decide_eq_true_eq] at hf
    exact ⟨v, rfl, di9 h.1 hf⟩
theorem cf7 (x0 : bm) {W : List Int} (hW : ∀ j : Int, 0 ≤ j → j < W.length → 1 ≤ ix W j ∧ ix W j ≤ 32) (K : List (BitVec 32) → List (BitVec 32)) : ∀ (m : Nat) (i : Int) (z : List (BitVec 32)), m = Int.toNat ((W.length : Int) - i) → 0 ≤ i → (z.length : Int) = i → i ≤ W.length → (∀ j : Int, 0 ≤ j → j < i → FB (ix W j) (ix z j)) → ∃ u : List (BitVec 32), jd x0 W K m i z = K u ∧ u.length = W.length ∧ ∀ j : Int, 0 ≤ j → j < W.length → FB (ix W j) (ix u j)
 | 0, i, z, hm, h0, hz, h1, hf => ⟨z, rfl, by omega, fun j j0 j1 => hf j j0 (by omega)⟩
 | m + 1, i, z, hm, h0, hz, h1, hf => by
   rw [jd]
   simp only [LET]
   have main : ∀ v : BitVec 32, ∃ u : List (BitVec 32), jv W i (fun x => jd x0 W K m (i + 1) (z ++ [x])) (Int.toNat (v.toNat : Int)) v = K u ∧ u.length = W.length ∧ ∀ j : Int, 0 ≤ j → j < W.length → FB (ix W j) (ix u j) := by
    intro v
    obtain ⟨u, e, hu⟩ := cj7 (hW i h0 (by omega)) (fun x => jd x0 W K m (i + 1) (z ++ [x])) (Int.toNat (v.toNat : Int)) v (by omega)
    rw [e]
    refine cf7 x0 hW K m (i + 1) (z ++ [u]) (by omega) (by omega) (by rw [List.length_append, List.length_singleton]; omega) (by omega) fun j j0 j1 => ?_
    have hlen : (z ++ [u]).length = z.length + 1 := by rw [List.length_append, List.length_singleton]
    have e3 : ix (z ++ [u]) j = (z ++ [u])[j.toNat]'(by omega) := px j0 (by omega)
    rw [e3]
    by_cases hj : j = i
    ·subst hj
     rw [List.getElem_append_right (by omega)]
     simpa using hu
    ·rw [List.getElem_append_left (by omega), ← px j0 (by omega)]
     exact hf j j0 (by omega)
   split
   ·exact main _
   ·exact main _
theorem dv4 (x0 : bm) (hW : ∀ j : Int, 0 ≤ j → j < (bp x0.Program x0.Table).length → 1 ≤ ix (bp x0.Program x0.Table) j ∧ ix (bp x0.Program x0.Table) j ≤ 32) : (lv x0).length = (bp x0.Program x0.Table).length ∧ ∀ j : Int, 0 ≤ j → j < (bp x0.Program x0.Table).length → FB (ix (bp x0.Program x0.Table) j) (ix (lv x0) j) := by
 obtain ⟨u, e, h⟩ := cf7 x0 hW (fun z => z) _ 0 [] rfl (by omega) rfl (by omega) (fun j j0 j1 => by omega)
 have e2 : lv x0 = u := e
 rw [e2]
 exact h
theorem LookupNever_law (x0 : bm) : ng x0 = true := by
 unfold ng
 simp only [LET]
 split
 ·rfl
 ·split
  ·rfl
  ·rename_i hb
   have h : (fj x0.Program x0.Table x0.Rows).2 = 0 := by simpa using hb
   have G := av5 h
   have ht := g_t G
   obtain ⟨hl, hk⟩ := dv4 x0 fun j j0 j1 => bh5 G j0 j1
   rw [ak5 x0 _ _ _ 0 [] rfl (by omega), List.nil_append, show Int.toNat 0 = 0 from rfl, List.drop_zero]
   simp only [cr8 _ _ _ _ ht, ba1]
   generalize lv x0 = k at hl hk ⊢
   have H := fun r hr hs hm => hidden G hl hk h (r := r) hr hs hm
   generalize (fj x0.Program x0.Table x0.Rows).1 = s at H ⊢
   rcases bi8 G k with ⟨e, hall⟩ | ⟨b, hb, e, hm, hu⟩
   ·rw [e, bv3 ht fun x hx => hall x (List.mem_filter.1 hx).1, am4]
    simp [lb]
   ·have hbs : b.ID ∉ s := by
     intro hs
     obtain ⟨x, hx, hp, hxm⟩ := H b hb hs hm
     have h1 := (yr _ _ x b).1 hp
     rcases hu x hx hxm with rfl | h2
     ·unfold Bf at h1; omega
     ·unfold Bf at h1 h2; omega
    rw [e, bt2 (b := b) ht (List.mem_filter.2 ⟨hb, by simp [hbs]⟩) hm fun x hx hxm => hu x (List.mem_filter.1 hx).1 hxm, am4]
    simp [lb, hbs]
end Go.Proofs.YthdnpgpnodgicaaGreat
