import Derived.Test.YtmonnlkagniolaaGreatKDef
import Derived.Test.YtmonnlkagniolaaGreatPbP
import Derived.Test.YtmonnlkagniolaaGreatPbLaw
import Derived.Test.YtmonnlkagniolaaGreatKFcBd
import Derived.Test.YtmonnlkagniolaaGreatPbV
import Derived.Test.YtmonnlkagniolaaGreatKFcBd
set_option linter.unusedVariables false
set_option linter.unusedSimpArgs false
set_option maxRecDepth 100000
namespace Go.Proofs.YtmonnlkagniolaaGreat
open Go Go.Pb Go.RowKit
theorem ab4 (w : Int) : jg [w] = decide (1 ≤ w ∧ w ≤ 32) := by
 unfold jg
 have e : (Int.toNat (((([w] : List Int)).length : Int) - 0)) = 1 := by simp
 rw [e, gq, gq]
 have hx : ix ([w] : List Int) 0 = w := rfl
 rw [hx]
 by_cases h : 1 ≤ w ∧ w ≤ 32
 ·rw [if_neg (by simp; omega)]; simp [h]
 ·rw [if_pos (by simp; omega)]; simp [h]
theorem ab5 (v w : Int) : jg [v, w] = decide ((1 ≤ v ∧ v ≤ 32) ∧ (1 ≤ w ∧ w ≤ 32)) := by
 unfold jg
 have e : (Int.toNat (((([v, w] : List Int)).length : Int) - 0)) = 2 := by simp
 rw [e, gq, gq, gq]
 have hx : ix ([v, w] : List Int) 0 = v ∧ ix ([v, w] : List Int) (0 + 1) = w := ⟨rfl, rfl⟩
 rw [hx.1, hx.2]
 by_cases h : 1 ≤ v ∧ v ≤ 32
 ·rw [if_neg (by simp; omega)]
  by_cases h2 : 1 ≤ w ∧ w ≤ 32
  ·rw [if_neg (by simp; omega)]; simp [h, h2]
  ·rw [if_pos (by simp; omega)]; simp [h2]
 ·rw [if_pos (by simp; omega)]; simp [h]
theorem ct2 {w : Int} {b : Bool} (h : jg [w] = b) (h2 : b = true) : 0 ≤ wr (32 - w) := by
 rw [ab4] at h
 subst h2
 simp only [decide_eq_true_eq] at h
 rw [gb (by omega) (by omega)]
 omega
theorem dd1 {v w : Int} {b : Bool} (h : jg [v, w] = b) (h2 : b = true) : (1 ≤ v ∧ v ≤ 32) ∧ 1 ≤ w ∧ w ≤ 32 := by
 rw [ab5] at h
 subst h2
 simpa using h
theorem av9 (op : Int) : dw op ≤ 3 ∧ -1 ≤ dw op := by
 unfold dw
 simp only [LET]
 repeat' split
 all_goals omega
theorem ar {op y : Int} (h : dw op = y) : y ≤ 3 ∧ -1 ≤ y := by rw [← h]; exact av9 op
theorem pr3 {s : bd} {x : af} (h : (fh s x).2 = 0) (h1 : x.Op = 3) : 0 ≤ x.N := by
 unfold fh at h
 rw [if_neg (by simp [h1]), if_neg (by simp [h1]), if_pos (by simp [h1])] at h
 split at h
 ·cases h
 ·rename_i hc
  simp only [Bool.or_eq_true, decide_eq_true_eq, not_or] at hc
  omega
theorem pr4 {s : bd} {x : af} (h : (fh s x).2 = 0) (h1 : x.Op = 4) : 0 ≤ x.N := by
 unfold fh at h
 rw [if_neg (by simp [h1]), if_neg (by simp [h1]), if_neg (by simp [h1])] at h
 split at h
 ·cases h
 ·rename_i hc
  simp only [Bool.or_eq_true, decide_eq_true_eq, not_or] at hc
  omega
theorem wq (s : bd) (n : List af) (rec_ : bd → List af → Int → Int × Int × Int) (a : Int) (ha : 0 ≤ a) (K : Int → List Int → Int × Int × Int) (hr : ∀ z : Int, 0 ≤ z → (rec_ s n z).2.2 = 0 → z < (rec_ s n z).2.1) (hK : ∀ x z, a < x → (K x z).2.2 = 0 → a < (K x z).2.1) :
 ∀ (m : Nat) (x i : Int) (z : List Int), a < x → (dc s n rec_ K m x i z).2.2 = 0 → a < (dc s n rec_ K m x i z).2.1
 | 0, x, i, z, hx, h => by rw [dc] at h ⊢; exact hK x z hx h
 | m + 1, x, i, z, hx, h => by
   rw [dc] at h ⊢
   simp only [LET] at h ⊢
   split at h
   ·rename_i hc
    simp only [Bool.not_eq_true', decide_eq_false_iff_not] at hc
    exact absurd h hc
   ·rename_i hc
    rw [if_neg hc]
    simp only [Bool.not_eq_true', decide_eq_false_iff_not, Decidable.not_not] at hc
    have := hr x (by omega) hc
    exact wq s n rec_ a ha K hr hK m _ _ _ (by omega) h
theorem rm : ∀ (k : Nat) (s : bd) (n : List af) (a : Int), 0 ≤ a → n.length ≤ 1000000 → (dg k s n a).2.2 = 0 → a < (dg k s n a).2.1
 | 0, s, n, a, ha, hn, h => by rw [dg] at h; cases h
 | k + 1, s, n, a, ha, hn, h => by
   rw [dg] at h ⊢
   unfold ek at h ⊢
   simp only [LET] at h ⊢
   split at h
   ·cases h
   ·rename_i h1
    rw [if_neg h1]
    simp only [decide_eq_true_eq, Int.not_le] at h1
    have ew : wr (a + 1) = a + 1 := gb (by omega) (by omega)
    split at h
    ·cases h
    ·rename_i h2
     rw [if_neg h2]
     split at h
     ·rename_i h3
      rw [if_pos h3]
      show a < wr (a + 1)
      omega
     ·rename_i h3
      rw [if_neg h3]
      exact wq s n _ a ha _ (fun z hz hz2 => rm k s n z hz hn hz2) (fun x z hx _ => hx) _ _ _ _ (by omega) h
theorem st (s : bd) (n : List af) (r1 r2 : bd → List af → Int → Int × Int × Int) (a : Int) (ha : 0 ≤ a) (K : Int → List Int → Int × Int × Int) (hr : ∀ z : Int, a < z → r1 s n z = r2 s n z) (hn : ∀ z : Int, 0 ≤ z → (r1 s n z).2.2 = 0 → z < (r1 s n z).2.1) :
 ∀ (m : Nat) (x i : Int) (z : List Int), a < x → dc s n r1 K m x i z = dc s n r2 K m x i z
 | 0, x, i, z, hx => by rw [dc, dc]
 | m + 1, x, i, z, hx => by
   rw [dc, dc]
   simp only [LET, ← hr x hx]
   split
   ·rfl
   ·rename_i hc
    simp only [Bool.not_eq_true', decide_eq_false_iff_not, Decidable.not_not] at hc
    have := hn x (by omega) hc
    exact st s n r1 r2 a ha K hr hn m _ _ _ (by omega)
theorem af4 : ∀ (k k' : Nat) (s : bd) (n : List af) (a : Int), 0 ≤ a → n.length ≤ 1000000 → n.length - a.toNat < k → n.length - a.toNat < k' → dg k s n a = dg k' s n a
 | 0, k', s, n, a, ha, hn, h1, h2 => by omega
 | k + 1, 0, s, n, a, ha, hn, h1, h2 => by omega
 | k + 1, k' + 1, s, n, a, ha, hn, h1, h2 => by
   rw [dg, dg]
   unfold ek
   simp only [LET]
   split
   ·rfl
   ·rename_i h3
    simp only [decide_eq_true_eq, Int.not_le] at h3
    have ew : wr (a + 1) = a + 1 := gb (by omega) (by omega)
    split
    ·rfl
    ·split
     ·rfl
     ·exact st s n _ _ a ha _ (fun z hz => af4 k k' s n z (by omega) hn (by omega) (by omega)) (fun z hz h => rm k s n z hz hn h) _ _ _ _ (by omega)
theorem at3 (s : bd) (n : List af) (a : Int) (ha : 0 ≤ a) (hn : n.length ≤ 1000000) : cq s n a = ek cq s n a := by
 have e : cq s n a = ek (dg (n.length - a.toNat)) s n a := by
  unfold cq
  rw [dg]
 rw [e]
 unfold ek
 simp only [LET]
 split
 ·rfl
 ·rename_i h3
  simp only [decide_eq_true_eq, Int.not_le] at h3
  have ew : wr (a + 1) = a + 1 := gb (by omega) (by omega)
  split
  ·rfl
  ·split
   ·rfl
   ·exact st s n _ _ a ha _ (fun z hz => af4 (n.length - a.toNat) (n.length - z.toNat + 1) s n z (by omega) hn (by omega) (by omega)) (fun z hz h => rm _ s n z hz hn h) _ _ _ _ (by omega)
theorem cnext {s : bd} {n : List af} {a : Int} (ha : 0 ≤ a) (hn : n.length ≤ 1000000) (h : (cq s n a).2.2 = 0) : a < (cq s n a).2.1 := rm _ s n a ha hn h
structure Ok (s : bd) (n : List af) (a : Int) : Prop where
 lo : 0 ≤ a
 len : n.length ≤ 1000000
 ok : (cq s n a).2.2 = 0
def nx (s : bd) (n : List af) (a : Int) : Int := (cq s n a).2.1
def wd (s : bd) (n : List af) (a : Int) : Int := (cq s n a).1
theorem Ok.lt {s : bd} {n : List af} {a : Int} (h : Ok s n a) : a < n.length := by
 have := h.ok
 rw [at3 s n a h.lo h.len] at this
 unfold ek at this
 by_cases hc : (n.length : Int) ≤ a
 ·rw [if_pos (by simpa using hc)] at this; cases this
 ·omega
theorem Ok.wr1 {s : bd} {n : List af} {a : Int} (h : Ok s n a) : wr (a + 1) = a + 1 := by
 have := h.lt
 have := h.len
 have := h.lo
 exact gb (by omega) (by omega)
theorem Ok.step {s : bd} {n : List af} {a : Int} (h : Ok s n a) :
 (dw (ix n a).Op = 0 ∧ (fh s (ix n a)).2 = 0 ∧ wd s n a = (fh s (ix n a)).1 ∧ nx s n a = a + 1) ∨
 (dw (ix n a).Op = 1 ∧ Ok s n (a + 1) ∧ (lb (ix n a) [wd s n (a + 1), 0, 0]).2 = 0 ∧ wd s n a = (lb (ix n a) [wd s n (a + 1), 0, 0]).1 ∧ nx s n a = nx s n (a + 1)) ∨
 (dw (ix n a).Op = 2 ∧ Ok s n (a + 1) ∧ Ok s n (nx s n (a + 1)) ∧ (lb (ix n a) [wd s n (a + 1), wd s n (nx s n (a + 1)), 0]).2 = 0 ∧ wd s n a = (lb (ix n a) [wd s n (a + 1), wd s n (nx s n (a + 1)), 0]).1 ∧ nx s n a = nx s n (nx s n (a + 1))) ∨
 (dw (ix n a).Op = 3 ∧ Ok s n (a + 1) ∧ Ok s n (nx s n (a + 1)) ∧ Ok s n (nx s n (nx s n (a + 1))) ∧ (lb (ix n a) [wd s n (a + 1), wd s n (nx s n (a + 1)), wd s n (nx s n (nx s n (a + 1)))]).2 = 0 ∧ wd s n a = (lb (ix n a) [wd s n (a + 1), wd s n (nx s n (a + 1)), wd s n (nx s n (nx s n (a + 1)))]).1 ∧ nx s n a = nx s n (nx s n (nx s n (a + 1)))) := by
 have hlt := h.lt
 have hw := h.wr1
 have hok := h.ok
 have hlo := h.lo
 have har := av9 (ix n a).Op
 have e : cq s n a = ek cq s n a := at3 s n a h.lo h.len
 have mk : ∀ z : Int, 0 ≤ z → (cq s n z).2.2 = 0 → Ok s n z := fun z h0 h1 => ⟨h0, h.len, h1⟩
 simp only [wd, nx]
 rw [e] at hok ⊢
 unfold ek at hok ⊢
 simp only [LET, hw] at hok ⊢
 rw [if_neg (show ¬(decide ((n.length : Int) ≤ a) = true) by simpa using hlt)] at hok ⊢
 by_cases hn : dw (ix n a).Op < 0
 ·rw [if_pos (by simpa using hn)] at hok; cases hok
 rw [if_neg (show ¬(decide (dw (ix n a).Op < 0) = true) by simpa using hn)] at hok ⊢
 by_cases h0 : dw (ix n a).Op = 0
 ·rw [if_pos (by simpa using h0)] at hok ⊢
  exact .inl ⟨h0, hok, rfl, rfl⟩
 rw [if_neg (show ¬(decide (dw (ix n a).Op = 0) = true) by simpa using h0)] at hok ⊢
 right
 have hcase : dw (ix n a).Op = 1 ∨ dw (ix n a).Op = 2 ∨ dw (ix n a).Op = 3 := by omega
 rcases hcase with ha | ha | ha
 ·left
  rw [ha] at hok ⊢
  rw [show Int.toNat (1 - 0) = 1 from rfl] at hok ⊢
  simp only [dc, LET] at hok ⊢
  by_cases c1 : (cq s n (a + 1)).2.2 = 0
  ·rw [if_neg (by simp [c1])] at hok ⊢
   exact ⟨trivial, mk _ (by omega) c1, hok, rfl, rfl⟩
  ·rw [if_pos (by simp [c1])] at hok; exact absurd hok c1
 ·right; left
  rw [ha] at hok ⊢
  rw [show Int.toNat (2 - 0) = 2 from rfl] at hok ⊢
  simp only [dc, LET] at hok ⊢
  by_cases c1 : (cq s n (a + 1)).2.2 = 0
  ·rw [if_neg (by simp [c1])] at hok ⊢
   have n1 := cnext (s := s) (n := n) (a := a + 1) (by omega) h.len c1
   by_cases c2 : (cq s n (cq s n (a + 1)).2.1).2.2 = 0
   ·rw [if_neg (by simp [c2])] at hok ⊢
    exact ⟨trivial, mk _ (by omega) c1, mk _ (by omega) c2, hok, rfl, rfl⟩
   ·rw [if_pos (by simp [c2])] at hok; exact absurd hok c2
  ·rw [if_pos (by simp [c1])] at hok; exact absurd hok c1
 ·right; right
  rw [ha] at hok ⊢
  rw [show Int.toNat (3 - 0) = 3 from rfl] at hok ⊢
  simp only [dc, LET] at hok ⊢
  by_cases c1 : (cq s n (a + 1)).2.2 = 0
  ·rw [if_neg (by simp [c1])] at hok ⊢
   have n1 := cnext (s := s) (n := n) (a := a + 1) (by omega) h.len c1
   by_cases c2 : (cq s n (cq s n (a + 1)).2.1).2.2 = 0
   ·rw [if_neg (by simp [c2])] at hok ⊢
    have n2 := cnext (s := s) (n := n) (by omega) h.len c2
    by_cases c3 : (cq s n (cq s n (cq s n (a + 1)).2.1).2.1).2.2 = 0
    ·rw [if_neg (by simp [c3])] at hok ⊢
     exact ⟨trivial, mk _ (by omega) c1, mk _ (by omega) c2, mk _ (by omega) c3, hok, rfl, rfl⟩
    ·rw [if_pos (by simp [c3])] at hok; exact absurd hok c3
   ·rw [if_pos (by simp [c2])] at hok; exact absurd hok c2
  ·rw [if_pos (by simp [c1])] at hok; exact absurd hok c1
theorem Ok.gt {s : bd} {n : List af} {a : Int} (h : Ok s n a) : a < nx s n a := cnext h.lo h.len h.ok
def VE (m : ba) : Prop := Ok m.scope m.nodes m.next
abbrev st1 (m : ba) : ba := { scope := m.scope, env := m.env, args := m.args, nodes := m.nodes, next := wr (m.next + 1) }
def HR (rec_ : ba → aj × ba) : Prop := ∀ z, VE z → (rec_ z).2 = { z with next := nx z.scope z.nodes z.next }
theorem au8 {m : ba} (h : VE m) : 0 ≤ m.next ∧ m.next < m.nodes.length := ⟨h.lo, h.lt⟩
theorem evp {m : ba} (h : VE m) {y : Int} (ha : dw (ix m.nodes m.next).Op = y) (h0 : y = 0) : (fh m.scope (ix m.nodes m.next)).2 = 0 := by
 subst ha
 rcases h.step with h | h | h | h
 ·exact h.2.1
 all_goals (have := h.1; omega)
theorem ev1 {m : ba} (h : VE m) {y : Int} (ha : dw (ix m.nodes m.next).Op = y) (h0 : ¬y = 0) : VE (st1 m) := by
 subst ha
 have e : VE (st1 m) = Ok m.scope m.nodes (m.next + 1) := by show Ok _ _ (wr (m.next + 1)) = _; rw [h.wr1]
 rw [e]
 rcases h.step with h | h | h | h
 ·exact absurd h.1 h0
 all_goals exact h.2.1
section
variable {rec_ : ba → aj × ba} {m : ba} {y1 y2 : aj × ba}
theorem cc5 (h : VE m) {y : Int} (ha : dw (ix m.nodes m.next).Op = y) (h0 : ¬y = 0) (hr : HR rec_) (hw : rec_ (st1 m) = y1) : y1.2 = { m with next := nx m.scope m.nodes (m.next + 1) } := by
 rw [← hw, hr _ (ev1 h ha h0)]
 show ({ scope := _, env := _, args := _, nodes := _, next := nx m.scope m.nodes (wr (m.next + 1)) } : ba) = _
 rw [h.wr1]
theorem ev2 (h : VE m) {y : Int} (ha : dw (ix m.nodes m.next).Op = y) (h0 : ¬y = 0) (h1 : ¬y = 1) (hr : HR rec_) (hw : rec_ (st1 m) = y1) : VE y1.2 := by
 rw [cc5 h ha h0 hr hw]
 subst ha
 show Ok m.scope m.nodes (nx m.scope m.nodes (m.next + 1))
 rcases h.step with h | h | h | h
 ·exact absurd h.1 h0
 ·exact absurd h.1 h1
 all_goals exact h.2.2.1
theorem cs9 (h : VE m) {y : Int} (ha : dw (ix m.nodes m.next).Op = y) (h0 : ¬y = 0) (h1 : ¬y = 1) (hr : HR rec_) (hw : rec_ (st1 m) = y1) (hw2 : rec_ y1.2 = y2) : y2.2 = { m with next := nx m.scope m.nodes (nx m.scope m.nodes (m.next + 1)) } := by
 rw [← hw2, hr _ (ev2 h ha h0 h1 hr hw), cc5 h ha h0 hr hw]
theorem ev3 (h : VE m) {y : Int} (ha : dw (ix m.nodes m.next).Op = y) (h0 : ¬y = 0) (h1 : ¬y = 1) (h2 : ¬y = 2) (hr : HR rec_) (hw : rec_ (st1 m) = y1) (hw2 : rec_ y1.2 = y2) : VE y2.2 := by
 rw [cs9 h ha h0 h1 hr hw hw2]
 subst ha
 show Ok m.scope m.nodes (nx m.scope m.nodes (nx m.scope m.nodes (m.next + 1)))
 rcases h.step with h | h | h | h
 ·exact absurd h.1 h0
 ·exact absurd h.1 h1
 ·exact absurd h.1 h2
 ·exact h.2.2.2.1
theorem dv1 (h : VE m) {y : Int} (ha : dw (ix m.nodes m.next).Op = y) (h0 : ¬y = 0) : (st1 m).nodes.length - (st1 m).next.toNat < m.nodes.length - m.next.toNat := by
 have h1 := au8 h
 show m.nodes.length - (wr (m.next + 1)).toNat < _
 rw [h.wr1]; omega
theorem dv2 (h : VE m) {y : Int} (ha : dw (ix m.nodes m.next).Op = y) (h0 : ¬y = 0) (h1 : ¬y = 1) (hr : HR rec_) (hw : rec_ (st1 m) = y1) : y1.2.nodes.length - y1.2.next.toNat < m.nodes.length - m.next.toNat := by
 have e1 := ev1 h ha h0
 have g : m.next + 1 < nx m.scope m.nodes (m.next + 1) := by
  have := e1.gt
  have e : (st1 m).next = m.next + 1 := h.wr1
  rw [e] at this
  exact this
 rw [cc5 h ha h0 hr hw]
 have := au8 h
 show m.nodes.length - (nx m.scope m.nodes (m.next + 1)).toNat < _
 omega
theorem dv3 (h : VE m) {y : Int} (ha : dw (ix m.nodes m.next).Op = y) (h0 : ¬y = 0) (h1 : ¬y = 1) (h2 : ¬y = 2) (hr : HR rec_) (hw : rec_ (st1 m) = y1) (hw2 : rec_ y1.2 = y2) : y2.2.nodes.length - y2.2.next.toNat < m.nodes.length - m.next.toNat := by
 have e1 := ev1 h ha h0
 have g : m.next + 1 < nx m.scope m.nodes (m.next + 1) := by
  have := e1.gt
  have e : (st1 m).next = m.next + 1 := h.wr1
  rw [e] at this
  exact this
 have e2 := ev2 h ha h0 h1 hr hw
 have g2 : nx m.scope m.nodes (m.next + 1) < nx m.scope m.nodes (nx m.scope m.nodes (m.next + 1)) := by
  have := e2.gt
  rw [cc5 h ha h0 hr hw] at this
  exact this
 rw [cs9 h ha h0 h1 hr hw hw2]
 have := au8 h
 show m.nodes.length - (nx m.scope m.nodes (nx m.scope m.nodes (m.next + 1))).toNat < _
 omega
end
theorem bz1 (m : ba) (x : af) : (gf m x).2 = m := by
 unfold gf
 simp only [LET]
 repeat' split
 all_goals rfl
theorem al3 : ∀ k : Nat, HR (dj k)
 | 0 => fun z hz => by rw [dj]; rfl
 | k + 1 => fun z hz => by
   have ih := al3 k
   rw [dj]
   unfold js
   simp only [LET, decide_eq_true_eq]
   have hs := hz.step
   have hw := hz.wr1
   by_cases h0 : dw (ix z.nodes z.next).Op = 0
   ·rw [if_pos h0]
    simp only [bz1, hw]
    rcases hs with h | h | h | h
    ·rw [h.2.2.2]
    all_goals (have := h.1; omega)
   ·rw [if_neg h0]
    have e1 := ev1 hz rfl h0
    by_cases h1 : dw (ix z.nodes z.next).Op = 1
    ·rw [if_pos h1]
     have := cc5 hz rfl h0 ih rfl
     refine Eq.trans this ?_
     rcases hs with h | h | h | h
     ·exact absurd h.1 h0
     ·rw [h.2.2.2.2]
     all_goals (have := h.1; omega)
    ·rw [if_neg h1]
     by_cases h2 : dw (ix z.nodes z.next).Op = 2
     ·rw [if_pos h2]
      have := cs9 hz rfl h0 h1 ih rfl rfl
      refine Eq.trans this ?_
      rcases hs with h | h | h | h
      ·exact absurd h.1 h0
      ·exact absurd h.1 h1
      ·rw [h.2.2.2.2.2]
      ·have := h.1; omega
     ·rw [if_neg h2]
      have e3 := ev3 hz rfl h0 h1 h2 ih rfl rfl
      have key := ih _ e3
      have s2 := cs9 hz rfl h0 h1 ih rfl rfl
      rcases hs with h | h | h | h
      ·exact absurd h.1 h0
      ·exact absurd h.1 h1
      ·exact absurd h.1 h2
      ·have fin := key.trans (show _ = ({ z with next := nx z.scope z.nodes z.next } : ba) by rw [s2, h.2.2.2.2.2.2])
       split
       ·exact fin
       ·exact fin
theorem dd7 {n : List af} {s : bd} {y : Int × Int} (h : mu n s = y) (h2 : y.2 = 0) : n.length ≤ 24 ∧ Ok s n 0 ∧ y.1 = wd s n 0 ∧ (n.length : Int) ≤ nx s n 0 := by
 subst h
 unfold mu at h2 ⊢
 simp only [LET] at h2 ⊢
 split at h2
 ·cases h2
 ·rename_i h3
  rw [if_neg h3]
  simp only [decide_eq_true_eq, Int.not_lt] at h3
  split at h2
  ·rename_i h4
   simp only [Bool.not_eq_true', decide_eq_false_iff_not] at h4
   exact absurd h2 h4
  ·rename_i h4
   rw [if_neg h4]
   simp only [Bool.not_eq_true', decide_eq_false_iff_not, Decidable.not_not] at h4
   split at h2
   ·cases h2
   ·rename_i h5
    rw [if_neg h5]
    simp only [decide_eq_true_eq, Int.not_lt] at h5
    exact ⟨by omega, ⟨by omega, by omega, h4⟩, rfl, h5⟩
theorem ev0 {n : List af} {s : bd} {y : Int × Int} (h : mu n s = y) (h2 : y.2 = 0) (e : av) (a : List (BitVec 32)) : VE { scope := s, env := e, args := a, nodes := n, next := 0 } := (dd7 h h2).2.1
theorem cy0 {e : av} {r : aa} {y : List (BitVec 32) × Bool} (h : fm e r = y) (hb : y.2 = true) : 0 ≤ r.Field ∧ r.Field < y.1.length := by
 subst h
 unfold fm at hb ⊢
 simp only [LET] at hb ⊢
 split at hb
 ·rename_i h
  rw [if_pos h]
  simpa [gj] using hb
 ·rename_i h
  rw [if_neg h]
  simp only [Bool.and_eq_true, gj, decide_eq_true_eq] at hb
  exact hb.2
section
variable {s : bd} {n : List af} {a : Int}
end
def mch (s : bd) (e : av) (g : List (BitVec 32)) (n : List af) (a : Int) : ba := { scope := s, env := e, args := g, nodes := n, next := a }
def vl (s : bd) (e : av) (g : List (BitVec 32)) (n : List af) (a : Int) : aj := (mz (mch s e g n a)).1
section
variable {s : bd} {n : List af} {a : Int} (e : av) (g : List (BitVec 32))
end
theorem bj7 {p : ae} {r : aa} {y : Int} (h : jt p r = y) : y ≤ 32 := by
 subst h
 unfold jt
 simp only [LET]
 repeat' split
 all_goals first | omega | (rename_i hc; simp only [Bool.or_eq_true, decide_eq_true_eq, not_or] at hc; omega)
theorem bj5 {r : cp} {y : Int} (h : li r = y) : y ≤ 32 := by
 subst h
 unfold li
 split
 ·omega
 ·rename_i hc
  simp only [Bool.or_eq_true, decide_eq_true_eq, not_or] at hc
  omega
theorem bw5 {p : ae} {e : av} {y : Bool} (h : ka p e = y) (hy : y = true) : e.Valid.length = p.Headers.length ∧ e.Fields.length = p.Headers.length ∧ e.Metd.length = p.Metadata.length := by
 subst hy
 unfold ka at h
 split at h
 ·cases h
 ·rename_i hc
  simp only [Bool.or_eq_true, Bool.not_eq_true', decide_eq_false_iff_not, not_or, Decidable.not_not] at hc
  omega
theorem RB.set {rs : List (List (BitVec 32))} (h : RB rs) {k : Nat} {l : List (BitVec 32)} (hl : l.length ≤ 1048576) : RB (rs.set k l) :=
 ⟨by rw [List.length_set]; exact h.o, fun x hx => by
   rcases List.mem_or_eq_of_mem_set hx with h1 | rfl
   ·exact h.i x h1
   ·exact hl⟩
theorem az8 {l : List (List (BitVec 32))} (h : ∀ x ∈ l, x.length ≤ 1048576) (i : Int) : (ix l i).length ≤ 1048576 := by
 unfold ix
 rw [List.getD_eq_getElem?_getD]
 cases hk : l[i.toNat]? with
 | none => simp; decide
 | some x => exact h x (List.mem_of_getElem? hk)
theorem EB.put {e : av} (h : EB e) (r : aa) (v : BitVec 32) : EB (putF e r v) := by
 unfold putF
 split
 ·exact h.setM
 ·exact h.setF (by rw [List.length_set]; exact az8 h.i _)
theorem EB.sw {e : av} (h : EB e) (i : Int) (b : Bool) : EB (swE e i b) := by
 have := h.setV (k := i.toNat) (v := b)
 exact this.setF (by rw [List.length_replicate]; exact az8 h.i _)
theorem EB.Set {p : ae} {e : av} (h : EB e) (r : aa) (v : BitVec 32) : EB (jf p e r v) := by
 unfold jf
 split
 ·exact h.put _ _
 ·exact h
theorem EB.switched {p : ae} {e : av} (h : EB e) (i : Int) (a b : Bool) : EB (fa p e i a b) := by
 unfold fa
 split
 ·exact h
 ·exact h.sw _ _
theorem RB.Write {p : ae} {rs : List (List (BitVec 32))} (h : RB rs) (r : Int) (i v : BitVec 32) : RB (fk p rs r i v) := by
 unfold fk
 split
 ·exact h.set (by rw [List.length_set]; exact az8 h.i _)
 ·exact h
theorem ak4 {f : du} {r : Int} {i : BitVec 32} {y : Bool} (h : fc f r i = y) (hy : y = true) : (0 ≤ r ∧ r < f.p.Registers.length) ∧ r < f.cells.length ∧ (i.toNat : Int) < (ix f.cells r).length := by
 subst hy
 unfold fc at h
 split at h
 ·cases h
 ·rename_i hc
  simp only [Bool.or_eq_true, decide_eq_true_eq, not_or] at hc
  simp only [Bool.and_eq_true, decide_eq_true_eq] at h
  omega
theorem ca6 {p : ae} {i : Int} {y : Int × Int} (h : iu p i = y) (h2 : y.2 = 0) : 0 ≤ i ∧ i < p.Actions.length := by
 subst h
 unfold iu at h2
 split at h2
 ·simp at h2
 ·rename_i h1
  simp at h1
  omega
def SB (s : aw) : Prop := EB s.env ∧ RB s.regs
theorem sb0 {e e' : av} {rs rs' : List (List (BitVec 32))} (hE : EB e) (hR : RB rs) (h1 : vj e = e') (h2 : pd rs = rs') : EB e' ∧ RB rs' := by subst h1 h2; exact ⟨hE, hR⟩
section
variable {s y : aw} {x : ak}
theorem sb1 (h : SB s) (e : jp s x = y) : SB y := by subst e; exact ⟨h.1.Set _ _, h.2⟩
theorem sb2 (h : SB s) (e : io s x = y) : SB y := by subst e; exact ⟨h.1.switched _ _ _, h.2⟩
theorem sb3 (h : SB s) (e : gn s x = y) : SB y := by subst e; exact ⟨h.1.switched _ _ _, h.2⟩
theorem sb4 (h : SB s) (e : kb s x = y) : SB y := by subst e; exact ⟨h.1.Set _ _, h.2⟩
theorem sb5 (h : SB s) (e : jv s x = y) : SB y := by subst e; exact ⟨h.1, h.2.Write _ _ _⟩
end
theorem mv {β : Type} {good : β} {F : Nat → Int → β} {K : Prop} {Q : Int → Prop} (h0 : ∀ i, F 0 i = good ↔ K) (hs : ∀ m i, F (m + 1) i = good ↔ (Q i ∧ F m (i + 1) = good)) : ∀ n i, F n i = good ↔ (K ∧ ∀ j, i ≤ j → j < i + n → Q j)
 | 0, i => by rw [h0]; exact ⟨fun h => ⟨h, fun j h1 h2 => by omega⟩, fun h => h.1⟩
 | n + 1, i => by
   rw [hs, mv h0 hs n (i + 1)]
   constructor
   ·rintro ⟨a, b, c⟩
    refine ⟨b, fun j h1 h2 => ?_⟩
    by_cases h3 : j = i
    ·rw [h3]; exact a
    ·exact c j (by omega) (by omega)
   ·rintro ⟨a, b⟩
    exact ⟨b i (by omega) (by omega), a, fun j h1 h2 => b j (by omega) (by omega)⟩
theorem cw4 {x : av} {r : aa} {y : Bool} (h : il x r = y) (h2 : y = true) (h3 : r.Header = -1) : 0 ≤ r.Field ∧ r.Field < x.Metd.length := by
 subst h
 unfold il at h2
 rw [if_pos (by simpa using h3)] at h2
 simpa using h2
theorem be7 {x : av} {r : aa} {y : Bool} (h : il x r = y) (h2 : y = true) (h3 : ¬r.Header = -1) : ((0 ≤ r.Header ∧ r.Header < x.Fields.length) ∧ 0 ≤ r.Field) ∧ r.Field < (ix x.Fields r.Header).length := by
 subst h
 unfold il at h2
 rw [if_neg (by simpa using h3)] at h2
 simpa using h2
theorem bv6 {α : Type} {t : TR α} (h1 : ∀ a e, t.R a e → 1 ≤ wt e) : ∀ {l : List α} {es : List PV}, All2 t.R l es → l.length ≤ wtL es
 | [], [], _ => by simp
 | a :: l, e :: es, h => by
   obtain ⟨h2, h3⟩ := h
   have := bv6 h1 h3
   have := h1 _ _ h2
   simp only [wtL, List.length_cons]
   omega
 | [], _ :: _, h => by simp [All2] at h
 | _ :: _, [], h => by simp [All2] at h
theorem sm {α : Type} {t : TR α} (h1 : ∀ a e, t.R a e → 1 ≤ wt e) {l : List α} {v : PV} (r : (tSl t).R l v) : l.length ≤ wt v := by
 obtain ⟨⟨es, he, hl⟩, _⟩ := r
 have := bv6 h1 hl
 rcases he with ⟨ad, rfl, rfl⟩ | ⟨tg, rfl⟩
 ·simp only [wtL] at this; omega
 ·simp only [wt]; omega
theorem ar6 {α : Type} {t : TR α} {l : List α} {v : PV} (r : (tSl t).R l v) : 1 ≤ wt v := by
 obtain ⟨⟨es, he, hl⟩, _⟩ := r
 rcases he with ⟨ad, rfl, rfl⟩ | ⟨tg, rfl⟩
 ·simp [wt]
 ·simp only [wt]; omega
theorem bx5 {α : Type} {t : TR α} : ∀ {l : List α} {es : List PV}, All2 t.R l es → ∀ a ∈ l, ∃ e, t.R a e ∧ wt e ≤ wtL es
 | a :: l, e :: es, h, b, hb => by
   obtain ⟨h2, h3⟩ := h
   rcases List.mem_cons.1 hb with rfl | hb
   ·exact ⟨e, h2, by simp only [wtL]; omega⟩
   ·obtain ⟨e', h4, h5⟩ := bx5 h3 b hb
    exact ⟨e', h4, by simp only [wtL]; omega⟩
 | [], _, _, _, hb => by cases hb
 | _ :: _, [], h, _, _ => by simp [All2] at h
theorem bn4 {α : Type} {t : TR α} {l : List α} {v : PV} (r : (tSl t).R l v) : ∀ a ∈ l, ∃ e, t.R a e ∧ wt e ≤ wt v := by
 intro a ha
 obtain ⟨⟨es, he, hl⟩, _⟩ := r
 obtain ⟨e, h1, h2⟩ := bx5 hl a ha
 refine ⟨e, h1, ?_⟩
 rcases he with ⟨ad, rfl, rfl⟩ | ⟨tg, rfl⟩
 ·simp only [wtL] at h2; omega
 ·simp only [wt]; omega
theorem wB (a : Bool) (e : PV) (h : tB.R a e) : 1 ≤ wt e := by have h' : e = _ := h; subst h'; simp [wt]
theorem w32 (a : BitVec 32) (e : PV) (h : dm.R a e) : 1 ≤ wt e := by have h' : e = _ := h; subst h'; simp [wt]
theorem w8 (a : UInt8) (e : PV) (h : tU8.R a e) : 1 ≤ wt e := by have h' : e = _ := h; subst h'; simp [wt]
theorem ac5 {rs : List (List (BitVec 32))} {v : PV} (r : (tSl (tSl dm)).R rs v) (hw : wt v ≤ 1048576) : RB rs := by
 have k5 := sm (fun a e h => ar6 h) r
 refine ⟨by omega, fun l hl => ?_⟩
 obtain ⟨e, h1, h2⟩ := bn4 r l hl
 have := sm w32 h1
 omega
theorem uo {e : av} {v : PV} (r : av.t.R e v) (hw : wt v ≤ 1048576) : EB e := by
 have r : av.R e v := r
 unfold av.R at r
 obtain ⟨c11, c12, c13, c14, h0, hc11, hc12, hc13, hc14⟩ := r
 subst h0
 rw [wt] at hw
 simp only [wtL] at hw
 have k1 := sm wB hc11
 have k2 := sm (fun a e h => ar6 h) hc12
 have k3 := sm w32 hc13
 have k4 := sm w8 hc14
 refine ⟨by omega, by omega, by omega, by omega, fun l hl => ?_⟩
 obtain ⟨e, h1, h2⟩ := bn4 hc12 l hl
 have := sm w32 h1
 omega
theorem rz {x : az} {v : PV} (r : az.t.R x v) (hw : wt v ≤ 1048576) : EB x.E ∧ RB x.Regs := by
 have r : az.R x v := r
 unfold az.R at r
 obtain ⟨c1, c2, c3, c4, c5, c6, c7, c8, c10, c11, c12, c13, c14, c15, h0, hc1, hc2, hc3, hc4, hc5, hc6, hc7, hc8, hc10, hc11, hc12, hc13, hc14, hc15⟩ := r
 subst h0
 have hw : wt c11 + wt c12 + wt c13 + wt c14 + wt c15 ≤ 1048576 := by
  rw [wt] at hw
  simp only [wtL] at hw
  clear hc1 hc2 hc3 hc4 hc5 hc6 hc7 hc8 hc10 hc11 hc12 hc13 hc14 hc15
  omega
 have k1 := sm wB hc11
 have k2 := sm (fun a e h => ar6 h) hc12
 have k3 := sm w32 hc13
 have k4 := sm w8 hc14
 have k5 := sm (fun a e h => ar6 h) hc15
 refine ⟨⟨by omega, by omega, by omega, by omega, fun l hl => ?_⟩, ⟨by omega, fun l hl => ?_⟩⟩
 ·obtain ⟨e, h1, h2⟩ := bn4 hc12 l hl
  have := sm w32 h1
  omega
 ·obtain ⟨e, h1, h2⟩ := bn4 hc15 l hl
  have := sm w32 h1
  omega
theorem bv4 (x : BitVec 32) : ∀ (m : Nat) (k : Nat) (i : Int), m + k ≤ 32 → mg (fun b => decide (BitVec.setWidth 64 x < b)) m (BitVec.ofNat 64 (2 ^ k)) i = decide (x.toNat < 2 ^ (m + k))
 | 0, k, i, h => by
   rw [mg]
   have h1 : 2 ^ k < 2 ^ 64 := Nat.pow_lt_pow_right (by omega) (by omega)
   simp only [BitVec.lt_def, BitVec.toNat_setWidth, BitVec.toNat_ofNat, Nat.mod_eq_of_lt h1, Nat.zero_add]
   rw [Nat.mod_eq_of_lt (by have := x.isLt; omega)]
 | m + 1, k, i, h => by
   rw [mg]
   have e : 2#64 * BitVec.ofNat 64 (2 ^ k) = BitVec.ofNat 64 (2 ^ (k + 1)) := by
    apply BitVec.eq_of_toNat_eq
    simp only [BitVec.toNat_mul, BitVec.toNat_ofNat, Nat.mul_mod_mod, Nat.pow_succ]
    rw [show (2 : Nat) % 2 ^ 64 = 2 from rfl, Nat.mul_comm]
   rw [e, bv4 x m (k + 1) _ (by omega), show m + (k + 1) = m + 1 + k by omega]
theorem ai9 {x : BitVec 32} {w : Int} (h : w ≤ 32) : pp x w = decide (x.toNat < 2 ^ w.toNat) := by
 unfold pp
 have := bv4 x (w - 0).toNat 0 0 (by omega)
 rw [show (1#64 : BitVec 64) = BitVec.ofNat 64 (2 ^ 0) from rfl, this, show (w - 0).toNat + 0 = w.toNat by omega]
theorem ca8 (w : Int) : jg [w] = !(decide (w < 1) || decide (32 < w)) := by
 unfold jg
 show gq [w] (fun _ => true) 1 0 = _
 rw [gq, gq, show ix [w] 0 = w from rfl]
 split
 ·rename_i h; rw [h]; rfl
 ·rename_i h; rw [Bool.not_eq_true] at h; rw [h]; rfl
theorem ap5 {w : Int} (h1 : 1 ≤ w) (h2 : w ≤ 32) : ck w = 4294967295#32 >>> (32 - w).toNat := by
 unfold ck
 simp only [LET, ca8, gb (n := 32 - w) (by omega) (by omega)]
 simp [show ¬ w < 1 by omega, show ¬ 32 < w by omega]
theorem ah1 {w : Int} (h : w < 1 ∨ 32 < w) : ck w = 0#32 := by
 unfold ck
 simp only [LET, ca8]
 rcases h with h | h <;> simp [h]
theorem au4 : ∀ k : Fin 32, (4294967295#32 >>> k.val).toNat < 2 ^ (32 - k.val) ∧ (4294967295#32 >>> k.val) ≠ 0#32 := by decide
theorem cp1 {w : Int} (h1 : 1 ≤ w) (h2 : w ≤ 32) : ck w ≠ 0#32 := by
 rw [ap5 h1 h2]
 exact (au4 ⟨(32 - w).toNat, by omega⟩).2
theorem aw9 {w : Int} (v : BitVec 32) : (v &&& ck w).toNat < 2 ^ w.toNat := by
 have h0 : (v &&& ck w).toNat ≤ (ck w).toNat := by rw [BitVec.toNat_and]; exact Nat.and_le_right
 by_cases h : 1 ≤ w ∧ w ≤ 32
 ·have := (au4 ⟨(32 - w).toNat, by omega⟩).1
  rw [ap5 h.1 h.2] at h0
  have e : 32 - (32 - w).toNat = w.toNat := by omega
  simp only [e] at this
  rw [ap5 h.1 h.2]
  omega
 ·rw [ah1 (by omega)] at h0 ⊢
  have : 0 < 2 ^ w.toNat := Nat.pow_pos (by omega)
  simpa using this
theorem df7 {w : Int} : (if ck w = 0#32 then 0 else w) = if w < 1 ∨ 32 < w then 0 else w := by
 by_cases h : w < 1 ∨ 32 < w
 ·rw [ah1 h, if_pos rfl, if_pos h]
 ·rw [if_neg (cp1 (by omega) (by omega)), if_neg h]
theorem cv9 {hd j : Int} {l : List ay} (h : ¬ hd < -1) : (if (((((decide (hd < (-1))) || (decide (j < 0))) || (decide ((l.length : Int) ≤ j))) || (decide (((ix l j).Width) < 1))) || (decide (32 < ((ix l j).Width)))) then 0 else (ix l j).Width) =
 (if (ik l j).Width < 1 ∨ 32 < (ik l j).Width then 0 else (ik l j).Width) := by
 unfold ik
 by_cases b : j < 0 ∨ (l.length : Int) ≤ j
 ·rw [if_pos (by rcases b with b | b <;> simp [b]), if_pos (show (decide (j < 0) || decide ((l.length : Int) ≤ j)) = true by simpa using b)]
  rfl
 ·simp only [not_or] at b
  rw [if_neg (show ¬ (decide (j < 0) || decide ((l.length : Int) ≤ j)) = true by simpa using b)]
  by_cases c : (ix l j).Width < 1 ∨ 32 < (ix l j).Width
  ·rw [if_pos c, if_pos (by rcases c with c | c <;> simp [c])]
  ·rw [if_neg c, if_neg]
   simp only [not_or] at c
   simp [h, b.1, b.2, c.1, c.2]
theorem cd7 (p : ae) (r : aa) : ju p r = jt p r := by
 unfold ju jt tr
 simp only [LET, decide_eq_true_eq, df7]
 by_cases a : r.Header = -1
 ·rw [if_pos a, if_neg (show ¬ 0 ≤ r.Header by omega), cv9 (by omega)]
 ·rw [if_neg a]
  unfold ot
  by_cases c : r.Header < 0 ∨ (p.Headers.length : Int) ≤ r.Header
  ·rw [if_pos (show (decide (r.Header < 0) || decide ((p.Headers.length : Int) ≤ r.Header)) = true by simpa using c)]
   have z : (if (ik [] r.Field).Width < 1 ∨ 32 < (ik [] r.Field).Width then 0 else (ik [] r.Field).Width) = 0 := by
    have z0 : ik [] r.Field = ({ Name := [], Width := 0 } : ay) := if_pos (by simp; omega)
    rw [z0]
    rfl
   refine z.trans ?_
   by_cases d : 0 ≤ r.Header
   ·rw [if_pos d, if_pos (show (p.Headers.length : Int) ≤ r.Header by rcases c with c | c; exact absurd d (by omega); exact c)]
   ·rw [if_neg d, if_pos]
    have h1 : r.Header < -1 := by clear z; omega
    simp [h1]
  ·rw [if_neg (show ¬ (decide (r.Header < 0) || decide ((p.Headers.length : Int) ≤ r.Header)) = true by simpa using c)]
   rw [if_pos (show 0 ≤ r.Header by omega), if_neg (show ¬ (p.Headers.length : Int) ≤ r.Header by omega), cv9 (by omega)]
structure E12 (p : ae) (e : av) : Prop where
 v : e.Valid.length = p.Headers.length
 f : e.Fields.length = p.Headers.length
 m : e.Metd.length = p.Metadata.length
 w : ∀ i : Int, 0 ≤ i → i < p.Headers.length → (ix e.Fields i).length = (ix p.Headers i).Fields.length
 a : ∀ i : Int, 0 ≤ i → i < e.Fields.length → ∀ j : Int, 0 ≤ j → j < (ix e.Fields i).length → (ix (ix e.Fields i) j).toNat < 2 ^ (jt p { Header := i, Field := j }).toNat
 b : ∀ j : Int, 0 ≤ j → j < e.Metd.length → (ix e.Metd j).toNat < 2 ^ (jt p { Header := -1, Field := j }).toNat
 z : ∀ i : Int, 0 ≤ i → i < e.Fields.length → ix e.Valid i = false → ∀ j : Int, 0 ≤ j → j < (ix e.Fields i).length → ix (ix e.Fields i) j = 0#32
theorem au7 {p : ae} {e : av} : qt p e = 0 ↔ E12 p e := by
 unfold qt
 simp only [LET]
 have hS : ka p e = true ↔ (e.Valid.length = p.Headers.length ∧ e.Fields.length = p.Headers.length ∧ e.Metd.length = p.Metadata.length) ∧ ∀ i : Int, 0 ≤ i → i < p.Headers.length → (ix e.Fields i).length = (ix p.Headers i).Fields.length := by
  unfold ka
  split
  ·rename_i h
   simp only [Bool.or_eq_true, Bool.not_eq_true', decide_eq_false_iff_not] at h
   exact ⟨fun c => (by cases c), fun ⟨c, _⟩ => (by omega)⟩
  ·rename_i h
   simp only [Bool.or_eq_true, Bool.not_eq_true', decide_eq_false_iff_not, not_or, Decidable.not_not] at h
   rw [mv (good := true) (F := lk p e fun _ => true) (K := True) (Q := fun i => (ix e.Fields i).length = (ix p.Headers i).Fields.length) (fun i => by simp [lk]) (fun m i => by
    rw [lk]
    split
    ·rename_i h; simp only [Bool.not_eq_true', decide_eq_false_iff_not] at h; simp; omega
    ·rename_i h; simp only [Bool.not_eq_true', decide_eq_false_iff_not, Decidable.not_not] at h; simp; omega)]
   constructor
   ·rintro ⟨_, c⟩; exact ⟨by omega, fun i h1 h2 => c i h1 (by omega)⟩
   ·rintro ⟨_, c⟩; exact ⟨trivial, fun i h1 h2 => c i h1 (by omega)⟩
 have h5 : ∀ (x8 : Int) (K : Unit → Int) n i, lg e x8 K n i = 0 ↔ (K () = 0 ∧ ∀ j, i ≤ j → j < i + n → (ix e.Valid x8 = false → ix (ix e.Fields x8) j = 0#32)) := fun x8 K =>
  mv (fun i => by rw [lg]) (fun m i => by
   rw [lg]
   split
   ·rename_i h; simp only [Bool.and_eq_true, Bool.not_eq_true', decide_eq_false_iff_not] at h; simp [h]
   ·rename_i h; simp only [Bool.and_eq_true, Bool.not_eq_true', decide_eq_false_iff_not, not_and, Decidable.not_not] at h; simp; exact fun _ => h)
 have h4 : ∀ (K : Unit → Int) n i, lf e K n i = 0 ↔ (K () = 0 ∧ ∀ j, i ≤ j → j < i + n → ∀ k : Int, 0 ≤ k → k < (ix e.Fields j).length → (ix e.Valid j = false → ix (ix e.Fields j) k = 0#32)) := fun K =>
  mv (fun i => by rw [lf]) (fun m i => by
   rw [lf, h5, and_comm]
   refine and_congr ⟨fun h k h1 h2 => h k h1 (by omega), fun h k h1 h2 => h k h1 (by omega)⟩ Iff.rfl)
 have h3 : ∀ (K : Unit → Int) n i, ld p e K n i = 0 ↔ (K () = 0 ∧ ∀ j, i ≤ j → j < i + n → (ix e.Metd j).toNat < 2 ^ (jt p { Header := -1, Field := j }).toNat) := fun K =>
  mv (fun i => by rw [ld]) (fun m i => by
   rw [ld]
   simp only [LET, ai9 (bj7 rfl)]
   split
   ·rename_i h; simp only [Bool.not_eq_true', decide_eq_false_iff_not] at h; simp [h]
   ·rename_i h; simp only [Bool.not_eq_true', decide_eq_false_iff_not, Decidable.not_not] at h; simp [h])
 have h2 : ∀ (x5 : Int) (K : Unit → Int) n i, lp p e x5 K n i = 0 ↔ (K () = 0 ∧ ∀ j, i ≤ j → j < i + n → (ix (ix e.Fields x5) j).toNat < 2 ^ (jt p { Header := x5, Field := j }).toNat) := fun x5 K =>
  mv (fun i => by rw [lp]) (fun m i => by
   rw [lp]
   simp only [LET, ai9 (bj7 rfl)]
   split
   ·rename_i h; simp only [Bool.not_eq_true', decide_eq_false_iff_not] at h; simp [h]
   ·rename_i h; simp only [Bool.not_eq_true', decide_eq_false_iff_not, Decidable.not_not] at h; simp [h])
 have h1 : ∀ (K : Unit → Int) n i, lh p e K n i = 0 ↔ (K () = 0 ∧ ∀ j, i ≤ j → j < i + n → ∀ k : Int, 0 ≤ k → k < (ix e.Fields j).length → (ix (ix e.Fields j) k).toNat < 2 ^ (jt p { Header := j, Field := k }).toNat) := fun K =>
  mv (fun i => by rw [lh]) (fun m i => by
   rw [lh, h2, and_comm]
   refine and_congr ⟨fun h k h1 h2 => h k h1 (by omega), fun h k h1 h2 => h k h1 (by omega)⟩ Iff.rfl)
 by_cases hs : ka p e = true
 ·rw [hs]
  simp only [Bool.not_true, Bool.false_eq_true, if_false, h1, h3, h4]
  have hs' := hS.1 hs
  constructor
  ·rintro ⟨⟨⟨_, z⟩, b⟩, a⟩
   exact ⟨hs'.1.1, hs'.1.2.1, hs'.1.2.2, hs'.2, fun i h1 h2 => a i h1 (by omega), fun i h1 h2 => b i h1 (by omega), fun i h1 h2 h3 k h4 h5 => z i h1 (by omega) k h4 h5 h3⟩
  ·intro h
   exact ⟨⟨⟨trivial, fun i h1 h2 k h3 h4 h5 => h.z i h1 (by omega) h5 k h3 h4⟩, fun i h1 h2 => h.b i h1 (by omega)⟩, fun i h1 h2 => h.a i h1 (by omega)⟩
 ·have hs2 := hs
  rw [Bool.not_eq_true] at hs
  rw [hs]
  simp only [Bool.not_false, if_true]
  exact ⟨fun h => by omega, fun h => absurd (hS.2 ⟨⟨h.v, h.f, h.m⟩, h.w⟩) hs2⟩
structure E15 (p : ae) (rs : List (List (BitVec 32))) : Prop where
 o : rs.length = p.Registers.length
 w : ∀ i : Int, 0 ≤ i → i < rs.length → ((ix rs i).length : Int) = (ix p.Registers i).Size
 a : ∀ i : Int, 0 ≤ i → i < rs.length → ∀ j : Int, 0 ≤ j → j < (ix rs i).length → (ix (ix rs i) j).toNat < 2 ^ (li (ix p.Registers i)).toNat
theorem av0 {p : ae} {rs : List (List (BitVec 32))} : ko p rs = 0 ↔ E15 p rs := by
 unfold ko
 have h3 : ∀ (x6 : Int) (K : Unit → Int) n i, gx p rs x6 K n i = 0 ↔ (K () = 0 ∧ ∀ j, i ≤ j → j < i + n → (ix (ix rs x6) j).toNat < 2 ^ (li (ix p.Registers x6)).toNat) := fun x6 K =>
  mv (fun i => by rw [gx]) (fun m i => by
   rw [gx]
   simp only [LET, ai9 (bj5 rfl)]
   split
   ·rename_i h; simp only [Bool.not_eq_true', decide_eq_false_iff_not] at h; simp [h]
   ·rename_i h; simp only [Bool.not_eq_true', decide_eq_false_iff_not, Decidable.not_not] at h; simp [h])
 have h2 : ∀ (K : Unit → Int) n i, gu p rs K n i = 0 ↔ (K () = 0 ∧ ∀ j, i ≤ j → j < i + n → ∀ k : Int, 0 ≤ k → k < (ix rs j).length → (ix (ix rs j) k).toNat < 2 ^ (li (ix p.Registers j)).toNat) := fun K =>
  mv (fun i => by rw [gu]) (fun m i => by
   rw [gu, h3, and_comm]
   refine and_congr ⟨fun h k h1 h2 => h k h1 (by omega), fun h k h1 h2 => h k h1 (by omega)⟩ Iff.rfl)
 have h1 : ∀ (K : Unit → Int) n i, gy p rs K n i = 0 ↔ (K () = 0 ∧ ∀ j, i ≤ j → j < i + n → ((ix rs j).length : Int) = (ix p.Registers j).Size) := fun K =>
  mv (fun i => by rw [gy]) (fun m i => by
   rw [gy]
   split
   ·rename_i h; simp only [Bool.not_eq_true', decide_eq_false_iff_not] at h; simp [h]
   ·rename_i h; simp only [Bool.not_eq_true', decide_eq_false_iff_not, Decidable.not_not] at h; simp [h])
 split
 ·rename_i h
  simp only [Bool.not_eq_true', decide_eq_false_iff_not] at h
  exact ⟨fun h => by omega, fun h' => absurd (by rw [h'.o]) h⟩
 ·rename_i h
  simp only [Bool.not_eq_true', decide_eq_false_iff_not, Decidable.not_not] at h
  simp only [h1, h2]
  constructor
  ·rintro ⟨⟨_, a⟩, b⟩
   exact ⟨by omega, fun i h1 h2 => b i h1 (by omega), fun i h1 h2 => a i h1 (by omega)⟩
  ·intro h
   exact ⟨⟨trivial, fun i h1 h2 => h.a i h1 (by omega)⟩, fun i h1 h2 => h.w i h1 (by omega)⟩
theorem jx {α : Type} [Inhabited α] {l : List α} {i k : Int} {a : α} (h0 : 0 ≤ k) (h1 : k < l.length) (hi : 0 ≤ i) : ix (l.set i.toNat a) k = if k = i then a else ix l k := by
 unfold ix
 rw [List.getD_eq_getElem?_getD, List.getElem?_set, List.getD_eq_getElem?_getD]
 by_cases e : k = i
 ·subst e
  rw [if_pos rfl, if_pos (by omega), if_pos rfl]
  rfl
 ·rw [if_neg (by omega), if_neg e]
theorem ap7 {e : av} {r : aa} (h : (fm e r).2 = true) : (r.Header = -1 ∧ 0 ≤ r.Field ∧ r.Field < e.Metd.length) ∨ (r.Header ≠ -1 ∧ 0 ≤ r.Header ∧ r.Header < e.Fields.length ∧ r.Header < e.Valid.length ∧ ix e.Valid r.Header = true ∧ 0 ≤ r.Field ∧ r.Field < (ix e.Fields r.Header).length) := by
 unfold fm gj ib nf at h
 simp only [LET] at h
 by_cases a : r.Header = -1
 ·left
  rw [if_pos (by cases r; simp only at a; subst a; simp)] at h
  simp only [Bool.and_eq_true, decide_eq_true_eq] at h
  exact ⟨a, h⟩
 ·right
  rw [if_neg (by
   intro c
   simp only [decide_eq_true_eq] at c
   rw [c] at a
   exact a rfl)] at h
  simp only [Bool.and_eq_true, decide_eq_true_eq] at h
  obtain ⟨h1, h2, h3⟩ := h
  split at h1
  ·cases h1
  ·rename_i c
   simp only [Bool.or_eq_true, decide_eq_true_eq, not_or] at c
   split at h3
   ·simp only [List.length_nil] at h3; omega
   ·rename_i d
    simp only [Bool.or_eq_true, decide_eq_true_eq, not_or] at d
    exact ⟨a, by omega, by omega, by omega, h1, h2, h3⟩
section
variable {p : ae} {e : av} {rs : List (List (BitVec 32))}
theorem E12.set (H : E12 p e) (r : aa) (v : BitVec 32) : E12 p (jf p e r v) := by
 unfold jf
 split
 ·rename_i h
  simp only [Bool.and_eq_true, decide_eq_true_eq] at h
  have hm : ∀ {q : aa}, q = r → (v &&& ck (ju p r)).toNat < 2 ^ (jt p q).toNat := fun e => by
   rw [e, ← cd7]; exact aw9 v
  generalize v &&& ck (ju p r) = w at hm ⊢
  obtain ⟨rh, rf⟩ := r
  have hm := hm rfl
  unfold putF
  rcases ap7 h.1 with ⟨a, b, c⟩ | ⟨a, b, c, d, d', f, g⟩
  ·simp only at a b c ⊢
   subst a
   rw [if_pos rfl]
   refine ⟨H.v, H.f, by rw [List.length_set]; exact H.m, H.w, H.a, fun j h0 h1 => ?_, H.z⟩
   simp only [List.length_set] at h1
   simp only
   rw [jx h0 h1 b]
   split
   ·rename_i k; subst k; exact hm
   ·exact H.b j h0 h1
  ·simp only at a b c d d' f g ⊢
   rw [if_neg a]
   have hl : ∀ i : Int, 0 ≤ i → i < e.Fields.length → (ix (e.Fields.set rh.toNat ((ix e.Fields rh).set rf.toNat w)) i).length = (ix e.Fields i).length := fun i h0 h1 => by
    rw [jx h0 h1 b]
    split
    ·rename_i k; subst k; rw [List.length_set]
    ·rfl
   have hx : ∀ i : Int, 0 ≤ i → i < e.Fields.length → ∀ j : Int, 0 ≤ j → j < (ix e.Fields i).length → ix (ix (e.Fields.set rh.toNat ((ix e.Fields rh).set rf.toNat w)) i) j = if i = rh ∧ j = rf then w else ix (ix e.Fields i) j := fun i h0 h1 j h2 h3 => by
    rw [jx h0 h1 b]
    by_cases k : i = rh
    ·subst k
     rw [if_pos rfl, jx h2 h3 f]
     simp
    ·rw [if_neg k, if_neg (fun c => k c.1)]
   refine ⟨H.v, by simp only [List.length_set]; exact H.f, H.m, fun i h0 h1 => ?_, fun i h0 h1 j h2 h3 => ?_, H.b, fun i h0 h1 h2 j h3 h4 => ?_⟩
   ·simp only
    rw [hl i h0 (by have := H.f; omega)]
    exact H.w i h0 h1
   ·simp only [List.length_set] at h1 h3 ⊢
    rw [hl i h0 h1] at h3
    rw [hx i h0 h1 j h2 h3]
    split
    ·rename_i k; rw [k.1, k.2]; exact hm
    ·exact H.a i h0 h1 j h2 h3
   ·simp only [List.length_set] at h1 h2 h4 ⊢
    rw [hl i h0 h1] at h4
    rw [hx i h0 h1 j h3 h4]
    split
    ·rename_i k; rw [k.1, d'] at h2; cases h2
    ·exact H.z i h0 h1 h2 j h3 h4
 ·exact H
theorem bc1 {n : Nat} {c : Int} : ix (List.replicate n 0#32) c = 0#32 := by
 unfold ix
 rw [List.getD_eq_getElem?_getD, List.getElem?_replicate]
 split <;> rfl
theorem E12.switched (H : E12 p e) (i : Int) (a b : Bool) : E12 p (fa p e i a b) := by
 unfold fa
 split
 ·exact H
 ·rename_i h
  simp only [Bool.or_eq_true, not_or, Bool.not_eq_true, Bool.not_eq_false', fw, ll, Bool.and_eq_true, decide_eq_true_eq] at h
  obtain ⟨⟨⟨b0, b1⟩, b2⟩, _⟩ := h
  unfold swE
  have hl : ∀ k : Int, 0 ≤ k → k < e.Fields.length → (ix (e.Fields.set i.toNat (List.replicate (ix e.Fields i).length 0#32)) k).length = (ix e.Fields k).length := fun k h0 h1 => by
   rw [jx h0 h1 b0]
   split
   ·rename_i k; subst k; rw [List.length_replicate]
   ·rfl
  have hx : ∀ k : Int, 0 ≤ k → k < e.Fields.length → ∀ j : Int, ix (ix (e.Fields.set i.toNat (List.replicate (ix e.Fields i).length 0#32)) k) j = if k = i then 0#32 else ix (ix e.Fields k) j := fun k h0 h1 j => by
   rw [jx h0 h1 b0]
   split
   ·exact bc1
   ·rfl
  refine ⟨by simp only [List.length_set]; exact H.v, by simp only [List.length_set]; exact H.f, H.m, fun i h0 h1 => ?_, fun i h0 h1 j h2 h3 => ?_, H.b, fun k h0 h1 h2 j h3 h4 => ?_⟩
  ·simp only
   rw [hl i h0 (by have := H.f; omega)]
   exact H.w i h0 h1
  ·simp only [List.length_set] at h1 h3 ⊢
   rw [hl i h0 h1] at h3
   rw [hx i h0 h1 j]
   split
   ·exact Nat.pow_pos (by omega)
   ·exact H.a i h0 h1 j h2 h3
  ·simp only [List.length_set] at h1 h2 h4 ⊢
   rw [hl k h0 h1] at h4
   rw [hx k h0 h1 j]
   split
   ·rfl
   ·rename_i hk
    rw [jx h0 (by have := H.f; have := H.v; omega) b0, if_neg hk] at h2
    exact H.z k h0 h1 h2 j h3 h4
theorem E15.write (H : E15 p rs) (r : Int) (i v : BitVec 32) : E15 p (fk p rs r i v) := by
 unfold fk
 split
 ·rename_i h
  simp only [Bool.and_eq_true] at h
  obtain ⟨h, hm⟩ := h
  obtain ⟨⟨r0, r1⟩, r2, r3⟩ := ak4 rfl h
  simp only at r0 r1 r2 r3
  have hw : li (ix p.Registers r) = (ix p.Registers r).Width := by
   unfold li
   by_cases c : (ix p.Registers r).Width < 1 ∨ 32 < (ix p.Registers r).Width
   ·rw [ah1 c] at hm; simp at hm
   ·rw [if_neg (by simpa using c)]
  have hf : (v &&& ck (ix p.Registers r).Width).toNat < 2 ^ (li (ix p.Registers r)).toNat := by rw [hw]; exact aw9 v
  generalize v &&& ck (ix p.Registers r).Width = u at hf ⊢
  have hl : ∀ k : Int, 0 ≤ k → k < rs.length → (ix (rs.set r.toNat ((ix rs r).set i.toNat u)) k).length = (ix rs k).length := fun k h0 h1 => by
   rw [jx h0 h1 r0]
   split
   ·rename_i k; subst k; rw [List.length_set]
   ·rfl
  refine ⟨by rw [List.length_set]; exact H.o, fun k h0 h1 => ?_, fun k h0 h1 j h2 h3 => ?_⟩
  ·rw [List.length_set] at h1
   rw [hl k h0 h1]
   exact H.w k h0 h1
  ·rw [List.length_set] at h1
   rw [hl k h0 h1] at h3
   rw [jx h0 h1 r0]
   split
   ·rename_i hk
    subst hk
    rw [show i.toNat = ((i.toNat : Int)).toNat from rfl, jx h2 h3 (by omega)]
    split
    ·exact hf
    ·exact H.a k h0 h1 j h2 h3
   ·exact H.a k h0 h1 j h2 h3
 ·exact H
end
def SR (p : ae) (s : aw) : Prop := s.scope.Program = p ∧ E12 p s.env ∧ E15 p s.regs
section
variable {p : ae} {s : aw} {x : ak}
theorem sr1 (h : SR p s) : SR p (jp s x) := by obtain ⟨h1, h2, h3⟩ := h; exact ⟨h1, by subst h1; exact h2.set _ _, h3⟩
theorem sr2 (h : SR p s) : SR p (io s x) := by obtain ⟨h1, h2, h3⟩ := h; exact ⟨h1, by subst h1; exact h2.switched _ _ _, h3⟩
theorem sr3 (h : SR p s) : SR p (gn s x) := by obtain ⟨h1, h2, h3⟩ := h; exact ⟨h1, by subst h1; exact h2.switched _ _ _, h3⟩
theorem sr4 (h : SR p s) : SR p (kb s x) := by obtain ⟨h1, h2, h3⟩ := h; exact ⟨h1, by subst h1; exact h2.set _ _, h3⟩
theorem sr5 (h : SR p s) : SR p (jv s x) := by obtain ⟨h1, h2, h3⟩ := h; exact ⟨h1, h2, by subst h1; exact h3.write _ _ _⟩
end
theorem aj9 {x : az} : mf x = true ↔ E12 x.P x.E ∧ E15 x.P x.Regs := by
 unfold mf
 simp only [LET, Bool.and_eq_true, decide_eq_true_eq, au7, av0]
theorem bs4 {p : ae} {x : Int} {K : Unit → Bool} : ∀ (m : Nat) (i : Int), mn p x K m i = true → K () = true
 | 0, i, h => h
 | m + 1, i, h => by
   rw [mn] at h
   split at h
   ·cases h
   ·exact bs4 m _ h
theorem cf2 {p : ae} {K : Unit → Bool} : ∀ (m : Nat) (i : Int), mo p K m i = true → K () = true
 | 0, i, h => h
 | m + 1, i, h => by
   rw [mo] at h
   split at h
   ·cases h
   ·exact cf2 m _ (bs4 _ _ h)
theorem bz5 {p : ae} {K : Unit → Bool} : ∀ (m : Nat) (i : Int), m = Int.toNat ((p.Headers.length : Int) - i) → mr p K m i = true → ∀ k : Int, i ≤ k → k < p.Headers.length → (ix p.Headers k).Fields.length ≤ 40
 | 0, i, hm, h, k, h1, h2 => by omega
 | m + 1, i, hm, h, k, h1, h2 => by
   rw [mr] at h
   split at h
   ·cases h
   ·rename_i hc
    simp only [decide_eq_true_eq] at hc
    by_cases e : k = i
    ·subst e; omega
    ·exact bz5 m (i + 1) (by omega) h k (by omega) h2
theorem dx9 {p : ae} {b : Bool} (h : qv p = b) (hb : b = true) : SmH p := by
 subst hb
 unfold qv at h
 split at h
 ·cases h
 ·intro k h0 h1
  have h2 := bz5 _ 0 rfl (cf2 _ _ h) k h0 h1
  omega
def prA (A : List cb) (p : ae) : ae := { p with Actions := A }
def scA (A : List cb) (s : bd) : bd := { s with Program := prA A s.Program }
def maA (A : List cb) (m : ba) : ba := { m with scope := scA A m.scope }
def stA (A : List cb) (s : aw) : aw := { s with scope := scA A s.scope }
section
variable {A : List cb}
def stepS (s : aw) (x : ak) : aw :=
 if x.Kind = 2 then io s x else if x.Kind = 3 then gn s x else if x.Kind = 4 then kb s x else if x.Kind = 5 then jv s x else jp s x
theorem ak8 (s : aw) (x : ak) : (stepS s x).scope = s.scope ∧ (stepS s x).args = s.args := by
 unfold stepS
 repeat' split
 all_goals exact ⟨rfl, rfl⟩
def runS (b : List ak) : Nat → Int → aw → aw
 | 0, _, s => s
 | n + 1, i, s => runS b n (i + 1) (stepS s (ix b i))
theorem aw8 {p : ae} {c : bt} {K : aw → av × List (List (BitVec 32))} : ∀ (n : Nat) (i : Int) (s : aw), gv p c K n i s = K (runS (ix p.Actions c.Action).Body n i s)
 | 0, i, s => rfl
 | n + 1, i, s => by
   rw [gv, runS]
   simp only [LET, aw8 n, stepS, decide_eq_true_eq]
   repeat' split
   all_goals first | rfl | contradiction
end
theorem cj1 {p : ae} {i : Int} : ∀ (n : Nat) (j : Int), (ig p i (fun _ => (0, 0)) n j).2 = 0 ↔ (True ∧ ∀ k, j ≤ k → k < j + n → en { scope := { Program := p, Params := (ix p.Actions i).Params } } (ix (ix p.Actions i).Body k) = 0) :=
 mv (F := fun n j => (ig p i (fun _ => (0, 0)) n j).2) (fun i => by simp [ig]) (fun m j => by
  show (ig _ _ _ (m + 1) j).2 = 0 ↔ _
  rw [ig]
  simp only [LET]
  split
  ·rename_i h
   simp only [Bool.not_eq_true', decide_eq_false_iff_not] at h
   simp [h]
  ·rename_i h
   simp only [Bool.not_eq_true', decide_eq_false_iff_not, Decidable.not_not] at h
   simp [h])
theorem cp9 {p : ae} {i : Int} : (iu p i).2 = 0 ↔ (0 ≤ i ∧ i < p.Actions.length) ∧ jy (ix p.Actions i) = 0 ∧ ∀ k : Int, 0 ≤ k → k < (ix p.Actions i).Body.length → en { scope := { Program := p, Params := (ix p.Actions i).Params } } (ix (ix p.Actions i).Body k) = 0 := by
 unfold iu
 simp only [LET]
 split
 ·rename_i h
  simp only [Bool.or_eq_true, decide_eq_true_eq] at h
  exact ⟨fun c => by simp at c, fun c => by omega⟩
 ·rename_i h
  simp only [Bool.or_eq_true, decide_eq_true_eq, not_or] at h
  split
  ·rename_i h2
   simp only [Bool.not_eq_true', decide_eq_false_iff_not] at h2
   exact ⟨fun c => absurd c h2, fun c => absurd c.2.1 h2⟩
  ·rename_i h2
   simp only [Bool.not_eq_true', decide_eq_false_iff_not, Decidable.not_not] at h2
   rw [cj1]
   exact ⟨fun c => ⟨by omega, h2, fun k h3 h4 => c.2 k h3 (by omega)⟩, fun c => ⟨trivial, fun k h3 h4 => c.2.2 k h3 (by omega)⟩⟩
theorem bm4 {p : ae} {c : bt} {e : av} {rs : List (List (BitVec 32))} (h : (iu p c.Action).2 = 0) (h2 : ii p c = 0) :
 iy p c e rs = ((runS (ix p.Actions c.Action).Body (ix p.Actions c.Action).Body.length 0 { scope := { Program := p, Params := (ix p.Actions c.Action).Params }, args := c.Args, env := e, regs := rs }).env, (runS (ix p.Actions c.Action).Body (ix p.Actions c.Action).Body.length 0 { scope := { Program := p, Params := (ix p.Actions c.Action).Params }, args := c.Args, env := e, regs := rs }).regs) := by
 unfold iy
 simp only [LET]
 rw [if_neg (by simp [h, h2]), aw8, show Int.toNat (((ix p.Actions c.Action).Body.length : Int) - 0) = (ix p.Actions c.Action).Body.length by omega]
 rfl
theorem bb9 {p : ae} {c : bt} {e : av} {rs : List (List (BitVec 32))} (h2 : ii p c ≠ 0) : iy p c e rs = (e, rs) := by
 unfold iy
 simp only [LET]
 rw [if_pos (by simp [h2])]
 rfl
theorem bp5 {α : Type} [Inhabited α] {l : List α} {x : α} (h : x ∈ l) : ∃ j : Int, 0 ≤ j ∧ j < l.length ∧ ix l j = x := by
 obtain ⟨n, hn, rfl⟩ := List.getElem_of_mem h
 exact ⟨n, by omega, by omega, ah7 hn⟩
structure WR (p : ae) (a b : List Int) (c : List aa) (x : ak) : Prop where
 d : x.Kind = 1 ∨ x.Kind = 4 → x.Dst ∈ c
 h : x.Kind = 2 ∨ x.Kind = 3 → x.Header ∈ b ∧ ∀ f : Int, 0 ≤ f → f < (ix p.Headers x.Header).Fields.length → { Header := x.Header, Field := f } ∈ c
 r : x.Kind = 5 → x.Register ∈ a
theorem WR.mono {p : ae} {a b a' b' : List Int} {c c' : List aa} {x : ak} (H : WR p a b c x) (h1 : ∀ z ∈ a, z ∈ a') (h2 : ∀ z ∈ b, z ∈ b') (h3 : ∀ z ∈ c, z ∈ c') : WR p a' b' c' x :=
 ⟨fun k => h3 _ (H.d k), fun k => ⟨h2 _ (H.h k).1, fun f f0 f1 => h3 _ ((H.h k).2 f f0 f1)⟩, fun k => h1 _ (H.r k)⟩
section
variable {γ : Type} {R : (List aa) × (List Int) × (List Int) → Prop} {p : ae} {B : List ak}
theorem cx6 {y : Int} {K : List Int → List Int → List aa → (List aa) × (List Int) × (List Int)} {a b : List Int} : ∀ (m : Nat) (x : Int) (c : List aa),
 (∀ c', (∀ z ∈ c, z ∈ c') → (∀ f : Int, x ≤ f → f < x + m → { Header := (ix B y).Header, Field := f } ∈ c') → R (K a b c')) → R (kf B y K m x a b c)
 | 0, x, c, H => H c (fun z hz => hz) (fun f h1 h2 => by omega)
 | m + 1, x, c, H => by
   rw [kf]
   refine cx6 m (x + 1) _ fun c' h1 h2 => H c' (fun z hz => h1 z (List.mem_append_left _ hz)) (fun f h3 h4 => ?_)
   by_cases e : f = x
   ·subst e; exact h1 _ (List.mem_append_right _ (List.mem_singleton.2 rfl))
   ·exact h2 f (by omega) (by omega)
theorem cy2 {K : List Int → List Int → List aa → (List aa) × (List Int) × (List Int)} : ∀ (m : Nat) (i : Int) (a b : List Int) (c : List aa), 0 ≤ i →
 (∀ k : Int, 0 ≤ k → k < i → WR p a b c (ix B k)) → (∀ a b c, (∀ k : Int, 0 ≤ k → k < i + m → WR p a b c (ix B k)) → R (K a b c)) → R (gg p B K m i a b c)
 | 0, i, a, b, c, h0, H, HK => HK a b c (fun k h1 h2 => H k h1 (by omega))
 | m + 1, i, a, b, c, h0, H, HK => by
   have go : ∀ (a' b' : List Int) (c' : List aa), (∀ z ∈ a, z ∈ a') → (∀ z ∈ b, z ∈ b') → (∀ z ∈ c, z ∈ c') → WR p a' b' c' (ix B i) → R (gg p B K m (i + 1) a' b' c') := fun a' b' c' h1 h2 h3 h4 =>
    cy2 m (i + 1) a' b' c' (by omega) (fun k k0 k1 => by
     by_cases e : k = i
     ·rw [e]; exact h4
     ·exact (H k k0 (by omega)).mono h1 h2 h3) (fun a b c hh => HK a b c fun k k0 k1 => hh k k0 (by omega))
   rw [gg]
   simp only [LET]
   have kd : (ix B i).Kind = 1 ∨ (ix B i).Kind = 4 → R (gg p B K m (i + 1) a b (c ++ [(ix B i).Dst])) := fun k =>
    go a b _ (fun z h => h) (fun z h => h) (fun z h => List.mem_append_left _ h) ⟨fun _ => List.mem_append_right _ (List.mem_singleton.2 rfl), fun c => by omega, fun c => by omega⟩
   have kh : (ix B i).Kind = 2 ∨ (ix B i).Kind = 3 → R (kf B i (fun a b c => gg p B K m (i + 1) a b c) (Int.toNat ((((ix p.Headers ((ix B i).Header)).Fields).length : Int) - 0)) 0 a (b ++ [(ix B i).Header]) c) := fun k =>
    cx6 _ _ _ fun c' h1 h2 => go a _ c' (fun z h => h) (fun z h => List.mem_append_left _ h) h1 ⟨fun c => by omega, fun _ => ⟨List.mem_append_right _ (List.mem_singleton.2 rfl), fun f f0 f1 => h2 f f0 (by omega)⟩, fun c => by omega⟩
   simp only [decide_eq_true_eq]
   by_cases k1 : (ix B i).Kind = 1
   ·simp only [k1, if_true]; exact kd (.inl k1)
   ·by_cases k4 : (ix B i).Kind = 4
    ·simp only [k1, k4, if_true, if_false]
     simpa [k1, k4] using kd (.inr k4)
    ·by_cases k2 : (ix B i).Kind = 2
     ·simpa [k2] using kh (.inl k2)
     ·by_cases k3 : (ix B i).Kind = 3
      ·simpa [k3] using kh (.inr k3)
      ·by_cases k5 : (ix B i).Kind = 5
       ·simpa [k5] using go (a ++ [(ix B i).Register]) b c (fun z h => List.mem_append_left _ h) (fun z h => h) (fun z h => h) ⟨fun c => by omega, fun c => by omega, fun _ => List.mem_append_right _ (List.mem_singleton.2 rfl)⟩
       ·simpa [k1, k2, k3, k4, k5] using go a b c (fun z h => h) (fun z h => h) (fun z h => h) ⟨fun c => by omega, fun c => by omega, fun c => by omega⟩
end
theorem bq5 (p : ae) (i : Int) : ∀ k : Int, 0 ≤ k → k < (im p i).length → WR p (jb p i).2.2 (jb p i).2.1 (jb p i).1 (ix (im p i) k) := by
 unfold jb
 simp only [LET]
 generalize im p i = B
 refine cy2 (R := fun w => ∀ k : Int, 0 ≤ k → k < B.length → WR p w.2.2 w.2.1 w.1 (ix B k)) (p := p) (B := B) _ 0 [] [] [] (Int.le_refl 0) (fun k h1 h2 => by omega) fun a b c H k h1 h2 => ?_
 refine (H k h1 (by omega)).mono ?_ ?_ ?_
 ·intro z hz; show z ∈ cpt (a.mergeSort _); rw [sh, List.mem_mergeSort]; exact hz
 ·intro z hz; show z ∈ cpt (b.mergeSort _); rw [sh, List.mem_mergeSort]; exact hz
 ·intro z hz; show z ∈ cpt (c.mergeSort _); rw [sh, List.mem_mergeSort]; exact hz
section
variable {p : ae} {e : av} {r d : aa} {v : BitVec 32}
theorem ao6 (hr : r.Header = -1 ∨ 0 ≤ r.Header) (hd : d ≠ r) : ga (jf p e d v) r = ga e r := by
 unfold jf
 split
 ·rename_i h
  simp only [Bool.and_eq_true] at h
  generalize v &&& ck _ = w
  obtain ⟨dh, df⟩ := d
  obtain ⟨rh, rf⟩ := r
  simp only at hr
  unfold putF
  rcases ap7 h.1 with ⟨a, b, c⟩ | ⟨a, b, c, c', d', f, g⟩
  ·simp only at a b c
   subst a
   simp only [if_true]
   unfold ga il ph
   simp only [LET, List.length_set]
   by_cases k : rh = -1
   ·subst k
    simp only [decide_true, if_true]
    by_cases k2 : 0 ≤ rf ∧ rf < e.Metd.length
    ·rw [jx k2.1 k2.2 b, if_neg (show ¬ rf = df from fun x => hd (by rw [x]))]
    ·have : (decide (0 ≤ rf) && decide (rf < (e.Metd.length : Int))) = false := by simp; omega
     simp [this]
   ·simp only [k, decide_false, Bool.false_eq_true, if_false]
  ·simp only at a b c c' d' f g
   simp only [a, if_false]
   unfold ga il ph
   simp only [LET, List.length_set]
   by_cases k : rh = -1
   ·simp only [k, decide_true, if_true]
   ·simp only [k, decide_false, Bool.false_eq_true, if_false]
    by_cases k2 : 0 ≤ rh ∧ rh < e.Fields.length
    ·rw [jx k2.1 k2.2 b]
     by_cases k3 : rh = dh
     ·subst k3
      simp only [if_true, List.length_set]
      by_cases k4 : 0 ≤ rf ∧ rf < (ix e.Fields rh).length
      ·rw [jx k4.1 k4.2 f, if_neg (show ¬ rf = df from fun x => hd (by rw [x]))]
      ·have : (decide (0 ≤ rh) && decide (rh < (e.Fields.length : Int)) && decide (0 ≤ rf) && decide (rf < ((ix e.Fields rh).length : Int))) = false := by
        simp only [Bool.and_eq_false_imp, Bool.and_eq_true, decide_eq_true_eq, decide_eq_false_iff_not]; omega
       simp [this]
     ·simp only [k3, if_false]
    ·have : ∀ q, (decide (0 ≤ rh) && decide (rh < (e.Fields.length : Int)) && decide (0 ≤ rf) && q) = false := fun q => by
      have : (decide (0 ≤ rh) && decide (rh < (e.Fields.length : Int))) = false := by simp; omega
      simp [this]
     simp [this]
 ·rfl
theorem az0 {i : Int} {a b : Bool} (hr : r.Header = -1 ∨ 0 ≤ r.Header) (hd : i ≠ r.Header) : ga (fa p e i a b) r = ga e r := by
 unfold fa
 split
 ·rfl
 ·rename_i h
  simp only [Bool.or_eq_true, not_or, Bool.not_eq_true, Bool.not_eq_false', fw, ll, Bool.and_eq_true, decide_eq_true_eq] at h
  obtain ⟨⟨⟨b0, b1⟩, b2⟩, _⟩ := h
  obtain ⟨rh, rf⟩ := r
  simp only at hr hd
  unfold swE ga il ph
  simp only [LET, List.length_set]
  by_cases k : rh = -1
  ·simp only [k, decide_true, if_true]
  ·simp only [k, decide_false, Bool.false_eq_true, if_false]
   by_cases k2 : 0 ≤ rh ∧ rh < e.Fields.length
   ·rw [jx k2.1 k2.2 b0, if_neg (show ¬ rh = i from fun x => hd x.symm)]
    by_cases k3 : rh < e.Valid.length
    ·rw [jx k2.1 k3 b0, if_neg (show ¬ rh = i from fun x => hd x.symm)]
    ·have : ∀ q, (decide (0 ≤ rh) && decide (rh < (e.Valid.length : Int)) && q) = false := fun q => by simp [k3]
     simp [this]
   ·have : ∀ q q2, (decide (0 ≤ rh) && decide (rh < (e.Fields.length : Int)) && q && q2) = false := fun q q2 => by
     have : (decide (0 ≤ rh) && decide (rh < (e.Fields.length : Int))) = false := by simp; omega
     simp [this]
    simp [this]
theorem ab3 : (jf p e d v).Valid = e.Valid ∧ (jf p e d v).Payload = e.Payload := by
 unfold jf putF
 repeat' split
 all_goals exact ⟨rfl, rfl⟩
theorem ai2 {i : Int} {a b : Bool} : (fa p e i a b).Valid.length = e.Valid.length ∧ (fa p e i a b).Payload = e.Payload ∧ ∀ k : Int, 0 ≤ k → k < e.Valid.length → i ≠ k → ix (fa p e i a b).Valid k = ix e.Valid k := by
 unfold fa
 split
 ·exact ⟨rfl, rfl, fun k _ _ _ => rfl⟩
 ·rename_i h
  simp only [Bool.or_eq_true, not_or, Bool.not_eq_true, Bool.not_eq_false', fw, ll, Bool.and_eq_true, decide_eq_true_eq] at h
  obtain ⟨⟨⟨b0, b1⟩, b2⟩, _⟩ := h
  unfold swE
  refine ⟨by simp only [List.length_set], rfl, fun k k0 k1 k2 => ?_⟩
  simp only
  rw [jx k0 k1 b0, if_neg (fun x => k2 x.symm)]
theorem di7 {rs : List (List (BitVec 32))} {r : Int} {i v : BitVec 32} : (fk p rs r i v).length = rs.length ∧ ∀ k : Int, 0 ≤ k → k < rs.length → r ≠ k → ix (fk p rs r i v) k = ix rs k := by
 unfold fk
 split
 ·rename_i h
  simp only [Bool.and_eq_true] at h
  obtain ⟨⟨r0, r1⟩, r2, r3⟩ := ak4 rfl h.1
  refine ⟨List.length_set, fun k k0 k1 k2 => ?_⟩
  rw [jx k0 k1 r0, if_neg (fun x => k2 x.symm)]
 ·exact ⟨rfl, fun k _ _ _ => rfl⟩
end
structure CF (p : ae) (a b : List Int) (c : List aa) (e0 : av) (r0 : List (List (BitVec 32))) (e : av) (rs : List (List (BitVec 32))) : Prop where
 vl : e.Valid.length = e0.Valid.length
 pl : e.Payload = e0.Payload
 rl : rs.length = r0.length
 g : ∀ r : aa, (r.Header = -1 ∨ (0 ≤ r.Header ∧ 0 ≤ r.Field ∧ r.Field < (ix p.Headers r.Header).Fields.length)) → r ∉ c → ga e r = ga e0 r
 v : ∀ i : Int, 0 ≤ i → i < e0.Valid.length → i ∉ b → ix e.Valid i = ix e0.Valid i
 r : ∀ i : Int, 0 ≤ i → i < r0.length → i ∉ a → ix rs i = ix r0 i
section
variable {p : ae} {a b : List Int} {c : List aa} {e0 e : av} {r0 rs : List (List (BitVec 32))}
theorem CF.set (H : CF p a b c e0 r0 e rs) {q : ae} {d : aa} {v : BitVec 32} (hd : d ∈ c) : CF p a b c e0 r0 (jf q e d v) rs := by
 have hv := ab3 (p := q) (e := e) (d := d) (v := v)
 exact ⟨by rw [hv.1]; exact H.vl, by rw [hv.2]; exact H.pl, H.rl, fun r h1 h2 => by rw [ao6 (by omega) (by rintro rfl; exact h2 hd)]; exact H.g r h1 h2, fun i h1 h2 h3 => by rw [hv.1]; exact H.v i h1 h2 h3, H.r⟩
theorem CF.sw (H : CF p a b c e0 r0 e rs) {q : ae} {i : Int} {x y : Bool} (hb : i ∈ b) (hf : ∀ f : Int, 0 ≤ f → f < (ix p.Headers i).Fields.length → { Header := i, Field := f } ∈ c) (hi : 0 ≤ i) : CF p a b c e0 r0 (fa q e i x y) rs := by
 have hv := ai2 (p := q) (e := e) (i := i) (a := x) (b := y)
 refine ⟨by rw [hv.1]; exact H.vl, by rw [hv.2.1]; exact H.pl, H.rl, fun r h1 h2 => ?_, fun k h1 h2 h3 => ?_, H.r⟩
 ·rw [az0 (by omega)]
  ·exact H.g r h1 h2
  ·intro x
   rcases h1 with h1 | ⟨h1, h4, h5⟩
   ·omega
   ·exact h2 (by have := hf r.Field h4 (by rw [x]; exact h5); rw [x] at this; exact this)
 ·rw [hv.2.2 k h1 (by rw [H.vl]; exact h2) (fun x => h3 (x ▸ hb))]
  exact H.v k h1 h2 h3
theorem CF.wr (H : CF p a b c e0 r0 e rs) {q : ae} {r : Int} {i v : BitVec 32} (hr : r ∈ a) : CF p a b c e0 r0 e (fk q rs r i v) := by
 have hv := di7 (p := q) (rs := rs) (r := r) (i := i) (v := v)
 exact ⟨H.vl, H.pl, by rw [hv.1]; exact H.rl, H.g, H.v, fun k h1 h2 h3 => by rw [hv.2 k h1 (by rw [H.rl]; exact h2) (fun x => h3 (x ▸ hr))]; exact H.r k h1 h2 h3⟩
theorem CF.step {s : aw} {x : ak} (H : CF p a b c e0 r0 s.env s.regs) (hw : WR p a b c x) (hk : 1 ≤ x.Kind ∧ x.Kind ≤ 5) (hh : x.Kind = 2 ∨ x.Kind = 3 → 0 ≤ x.Header) : CF p a b c e0 r0 (stepS s x).env (stepS s x).regs := by
 unfold stepS
 by_cases k2 : x.Kind = 2
 ·rw [if_pos k2]
  exact H.sw (hw.h (.inl k2)).1 (hw.h (.inl k2)).2 (hh (.inl k2))
 ·rw [if_neg k2]
  by_cases k3 : x.Kind = 3
  ·rw [if_pos k3]
   exact H.sw (hw.h (.inr k3)).1 (hw.h (.inr k3)).2 (hh (.inr k3))
  ·rw [if_neg k3]
   by_cases k4 : x.Kind = 4
   ·rw [if_pos k4]
    exact H.set (hw.d (.inr k4))
   ·rw [if_neg k4]
    by_cases k5 : x.Kind = 5
    ·rw [if_pos k5]
     exact H.wr (hw.r k5)
    ·rw [if_neg k5]
     exact H.set (hw.d (.inl (by omega)))
theorem CF.run {B : List ak} : ∀ (n : Nat) (i : Int) (s : aw), 0 ≤ i → (∀ k : Int, 0 ≤ k → k < i + n → WR p a b c (ix B k) ∧ (1 ≤ (ix B k).Kind ∧ (ix B k).Kind ≤ 5) ∧ ((ix B k).Kind = 2 ∨ (ix B k).Kind = 3 → 0 ≤ (ix B k).Header)) → CF p a b c e0 r0 s.env s.regs → CF p a b c e0 r0 (runS B n i s).env (runS B n i s).regs
 | 0, i, s, h0, hw, H => H
 | n + 1, i, s, h0, hw, H => by
   rw [runS]
   have h := hw i h0 (by omega)
   exact CF.run n (i + 1) _ (by omega) (fun k h1 h2 => hw k h1 (by omega)) (H.step h.1 h.2.1 h.2.2)
end
theorem bw9 {q : da} {x : ak} (h : en q x = 0) : (1 ≤ x.Kind ∧ x.Kind ≤ 5) ∧ (x.Kind = 2 ∨ x.Kind = 3 → 0 ≤ x.Header ∧ x.Header < q.scope.Program.Headers.length) := by
 unfold en at h
 simp only [LET, decide_eq_true_eq] at h
 by_cases k1 : x.Kind = 1
 ·omega
 ·rw [if_neg k1] at h
  by_cases k2 : x.Kind = 2
  ·simp only [k2, if_true, decide_true] at h
   split at h
   ·omega
   ·rename_i c
    simp only [Bool.or_eq_true, decide_eq_true_eq, not_or] at c
    omega
  ·rw [if_neg k2] at h
   by_cases k3 : x.Kind = 3
   ·simp only [k3, if_true, decide_true] at h
    split at h
    ·omega
    ·rename_i c
     simp only [Bool.or_eq_true, decide_eq_true_eq, not_or] at c
     omega
   ·simp only [k3, decide_false, Bool.false_eq_true, if_false] at h
    by_cases k4 : x.Kind = 4
    ·omega
    ·rw [if_neg k4] at h
     by_cases k5 : x.Kind = 5
     ·omega
     ·simp [k5] at h
theorem cj6 (l : List (BitVec 32)) : jk l l = true := by
 unfold jk
 rw [if_neg (by simp)]
 generalize (Int.toNat ((l.length : Int) - 0)) = n
 generalize (0 : Int) = i
 induction n generalizing i with
 | zero => rfl
 | succ n ih => rw [gh, if_neg (by simp)]; exact ih _
section
variable {x : az} {y : av × (List (List (BitVec 32)))} {w : (List aa) × (List Int) × (List Int)}
end
def cov (c : List aa) (b : List Int) (l : List af) : Prop := ∀ x ∈ l, (x.Op = 2 → { Header := x.N, Field := x.W } ∈ c) ∧ (x.Op = 4 → x.N ∈ b)
structure RW (a b : List Int) (c : List aa) (x : ak) : Prop where
 v : x.Kind = 1 ∨ x.Kind = 5 → cov c b x.Value
 i : x.Kind = 4 ∨ x.Kind = 5 → cov c b x.Index
 d : x.Kind = 1 ∨ x.Kind = 4 → x.Dst.Header ≠ -1 → x.Dst.Header ∈ b
 r : x.Kind = 4 → x.Register ∈ a
theorem cov.mono {b b' : List Int} {c c' : List aa} {l : List af} (H : cov c b l) (h2 : ∀ z ∈ b, z ∈ b') (h3 : ∀ z ∈ c, z ∈ c') : cov c' b' l := fun x hx => ⟨fun k => h3 _ ((H x hx).1 k), fun k => h2 _ ((H x hx).2 k)⟩
theorem RW.mono {a b a' b' : List Int} {c c' : List aa} {x : ak} (H : RW a b c x) (h1 : ∀ z ∈ a, z ∈ a') (h2 : ∀ z ∈ b, z ∈ b') (h3 : ∀ z ∈ c, z ∈ c') : RW a' b' c' x :=
 ⟨fun k => (H.v k).mono h2 h3, fun k => (H.i k).mono h2 h3, fun k k2 => h2 _ (H.d k k2), fun k => h1 _ (H.r k)⟩
theorem tc (c : List aa) (b : List Int) (l : List af) : cov (c ++ jm l) (b ++ ir l) l := fun x hx => by
 refine ⟨fun k => List.mem_append_right _ ?_, fun k => List.mem_append_right _ ?_⟩
 ·rw [az7]
  show _ ∈ cpt ((frs l).mergeSort _)
  rw [sh, List.mem_mergeSort]
  exact List.mem_map.2 ⟨x, List.mem_filter.2 ⟨hx, by simpa using k⟩, rfl⟩
 ·rw [ax4]
  show _ ∈ cpt ((hds l).mergeSort _)
  rw [sh, List.mem_mergeSort]
  exact List.mem_map.2 ⟨x, List.mem_filter.2 ⟨hx, by simpa using k⟩, rfl⟩
section
variable {R : (List aa) × (List Int) × (List Int) → Prop} {B : List ak}
theorem cz3 {K : bq → (List aa) × (List Int) × (List Int)} : ∀ (m : Nat) (i : Int) (z : bq), 0 ≤ i →
 (∀ k : Int, 0 ≤ k → k < i → RW z.registers z.headers z.fields (ix B k)) → (∀ z, (∀ k : Int, 0 ≤ k → k < i + m → RW z.registers z.headers z.fields (ix B k)) → R (K z)) → R (jw B K m i z)
 | 0, i, z, h0, H, HK => HK z (fun k h1 h2 => H k h1 (by omega))
 | m + 1, i, z, h0, H, HK => by
   have go : ∀ z' : bq, (∀ x ∈ z.registers, x ∈ z'.registers) → (∀ x ∈ z.headers, x ∈ z'.headers) → (∀ x ∈ z.fields, x ∈ z'.fields) → RW z'.registers z'.headers z'.fields (ix B i) → R (jw B K m (i + 1) z') := fun z' h1 h2 h3 h4 =>
    cz3 m (i + 1) z' (by omega) (fun k k0 k1 => by
     by_cases e : k = i
     ·rw [e]; exact h4
     ·exact (H k k0 (by omega)).mono h1 h2 h3) (fun z hh => HK z fun k k0 k1 => hh k k0 (by omega))
   have id1 : ∀ {α : Type} {l l' : List α}, ∀ x ∈ l, x ∈ l ++ l' := fun x h => List.mem_append_left _ h
   rw [jw]
   unfold fi
   simp only [LET, decide_eq_true_eq]
   by_cases k1 : (ix B i).Kind = 1
   ·by_cases kd : (ix B i).Dst.Header = -1
    ·simpa [k1, kd] using go { fields := z.fields ++ jm (ix B i).Value, headers := z.headers ++ ir (ix B i).Value, registers := z.registers } (fun x h => h) id1 id1 ⟨fun _ => tc _ _ _, fun c => by omega, fun _ c => absurd kd c, fun c => by omega⟩
    ·simpa [k1, kd] using go { fields := z.fields ++ jm (ix B i).Value, headers := z.headers ++ ir (ix B i).Value ++ [(ix B i).Dst.Header], registers := z.registers } (fun x h => h) (fun x h => id1 x (id1 x h)) id1 ⟨fun _ => (tc _ _ _).mono id1 (fun x h => h), fun c => by omega, fun _ _ => List.mem_append_right _ (List.mem_singleton.2 rfl), fun c => by omega⟩
   ·by_cases k2 : (ix B i).Kind = 2
    ·simpa [k2] using go { fields := z.fields, headers := z.headers ++ [(ix B i).Header], registers := z.registers } (fun x h => h) id1 (fun x h => h) ⟨fun c => by omega, fun c => by omega, fun c => by omega, fun c => by omega⟩
    ·by_cases k4 : (ix B i).Kind = 4
     ·by_cases kd : (ix B i).Dst.Header = -1
      ·simpa [k4, kd] using go { fields := z.fields ++ jm (ix B i).Index, headers := z.headers ++ ir (ix B i).Index, registers := z.registers ++ [(ix B i).Register] } id1 id1 id1 ⟨fun c => by omega, fun _ => tc _ _ _, fun _ c => absurd kd c, fun _ => List.mem_append_right _ (List.mem_singleton.2 rfl)⟩
      ·simpa [k4, kd] using go { fields := z.fields ++ jm (ix B i).Index, headers := z.headers ++ ir (ix B i).Index ++ [(ix B i).Dst.Header], registers := z.registers ++ [(ix B i).Register] } id1 (fun x h => id1 x (id1 x h)) id1 ⟨fun c => by omega, fun _ => (tc _ _ _).mono id1 (fun x h => h), fun _ _ => List.mem_append_right _ (List.mem_singleton.2 rfl), fun _ => List.mem_append_right _ (List.mem_singleton.2 rfl)⟩
     ·by_cases k5 : (ix B i).Kind = 5
      ·simpa [k5] using go { fields := z.fields ++ jm (ix B i).Index ++ jm (ix B i).Value, headers := z.headers ++ ir (ix B i).Index ++ ir (ix B i).Value, registers := z.registers } (fun x h => h) (fun x h => id1 x (id1 x h)) (fun x h => id1 x (id1 x h)) ⟨fun _ => tc _ _ _, fun _ => (tc _ _ _).mono id1 id1, fun c => by omega, fun c => by omega⟩
      ·simpa [k1, k2, k4, k5] using go { fields := z.fields, headers := z.headers, registers := z.registers } (fun x h => h) (fun x h => h) (fun x h => h) ⟨fun c => by omega, fun c => by omega, fun c => by omega, fun c => by omega⟩
end
theorem cb8 (p : ae) (i : Int) : ∀ k : Int, 0 ≤ k → k < (im p i).length → RW (jo p i).2.2 (jo p i).2.1 (jo p i).1 (ix (im p i) k) := by
 unfold jo
 simp only [LET]
 generalize im p i = B
 refine cz3 (R := fun w => ∀ k : Int, 0 ≤ k → k < B.length → RW w.2.2 w.2.1 w.1 (ix B k)) (B := B) _ 0 _ (Int.le_refl 0) (fun k h1 h2 => by omega) fun z H k h1 h2 => ?_
 refine (H k h1 (by omega)).mono ?_ ?_ ?_
 ·intro x hx; show x ∈ cpt (z.registers.mergeSort _); rw [sh, List.mem_mergeSort]; exact hx
 ·intro x hx; show x ∈ cpt (z.headers.mergeSort _); rw [sh, List.mem_mergeSort]; exact hx
 ·intro x hx; show x ∈ cpt (z.fields.mergeSort _); rw [sh, List.mem_mergeSort]; exact hx
theorem dd0 (e : av) (r : aa) : xy e r = ga e r := by
 obtain ⟨h, f⟩ := r
 unfold xy fm ga il ph gj ib nf
 by_cases k : h = -1
 ·subst k
  simp [LET]
 ·have e1 : decide (({ Header := h, Field := f } : aa) = { Header := -1, Field := f }) = false := by simp [k]
  simp only [LET, e1, Bool.false_eq_true, if_false, k, decide_false]
  by_cases a : h < 0
  ·simp [a, show ¬ 0 ≤ h by omega]
  ·have a' : 0 ≤ h := by omega
   by_cases b : h < e.Fields.length
   ·have b1 : ¬ (e.Fields.length : Int) ≤ h := by omega
    by_cases c : h < e.Valid.length
    ·have c1 : ¬ (e.Valid.length : Int) ≤ h := by omega
     by_cases d : ix e.Valid h = true
     ·by_cases g : 0 ≤ f ∧ f < (ix e.Fields h).length
      ·simp [a, a', b, b1, c, c1, d, g.1, g.2]
      ·have : (decide (0 ≤ f) && decide (f < ((ix e.Fields h).length : Int))) = false := by simp; omega
       have this2 : ∀ q, (q && decide (0 ≤ f) && decide (f < ((ix e.Fields h).length : Int))) = false := fun q => by rw [Bool.and_assoc, this]; simp
       simp [a, a', b, b1, c, c1, d, this, this2]
     ·simp [a, a', b, b1, c, c1, d]
    ·have c1 : (e.Valid.length : Int) ≤ h := by omega
     simp [a, a', b, b1, c, c1]
   ·have b1 : (e.Fields.length : Int) ≤ h := by omega
    simp [a, a', b, b1]
    intros
    omega
theorem ae8 {e : av} {r : aa} (h : r.Header < -1) : ga e r = 0#32 := by
 unfold ga il
 simp [LET, show ¬ r.Header = -1 by omega, show ¬ 0 ≤ r.Header by omega]
section
variable {c : List aa} {b : List Int} {e1 e2 : av}
structure AGE (c : List aa) (b : List Int) (e1 e2 : av) : Prop where
 f : ∀ r ∈ c, ga e1 r = ga e2 r
 h : ∀ i ∈ b, ix e1.Valid i = ix e2.Valid i
 n : e1.Valid.length = e2.Valid.length
def mE (e : av) (m : ba) : ba := { m with env := e }
theorem di1 (H : AGE c b e1 e2) {m : ba} {x : af} (hm : m.env = e1) (hx : (x.Op = 2 → { Header := x.N, Field := x.W } ∈ c) ∧ (x.Op = 4 → x.N ∈ b)) :
 gf (mE e2 m) x = ((gf m x).1, mE e2 (gf m x).2) ∧ (gf m x).2 = m := by
 unfold gf
 simp only [LET, dd0]
 show _ ∧ _
 by_cases k2 : x.Op = 2
 ·have h := H.f _ (hx.1 k2)
  have : (mE e2 m).env = e2 := rfl
  rw [this, hm, h]
  have hs : (mE e2 m).scope = m.scope := rfl
  rw [hs]
  simp [k2]
 ·by_cases k4 : x.Op = 4
  ·have h := H.h _ (hx.2 k4)
   have : (mE e2 m).env = e2 := rfl
   rw [this, hm, h, H.n]
   have hs : (mE e2 m).scope = m.scope := rfl
   rw [hs]
   have ha : (mE e2 m).args = m.args := rfl
   rw [ha]
   simp only [k4]
   constructor
   ·repeat' split
    all_goals first | rfl | contradiction
   ·repeat' split
    all_goals first | rfl | contradiction
  ·have hs : (mE e2 m).scope = m.scope := rfl
   rw [hs]
   have ha : (mE e2 m).args = m.args := rfl
   rw [ha]
   simp only [k2, k4, decide_false, Bool.false_eq_true, if_false]
   constructor
   ·repeat' split
    all_goals first | rfl | contradiction
   ·repeat' split
    all_goals first | rfl | contradiction
theorem dw2 {l : List af} {i : Int} (h : dw (ix l i).Op = 0) : ix l i ∈ l := by
 by_cases k : i.toNat < l.length
 ·unfold ix
  rw [List.getD_eq_getElem?_getD, List.getElem?_eq_getElem k]
  exact List.getElem_mem _
 ·have e : ix l i = default := by
   unfold ix
   rw [List.getD_eq_getElem?_getD, List.getElem?_eq_none (by omega)]
   rfl
  rw [e] at h
  exact absurd h (by decide)
theorem cw6 (H : AGE c b e1 e2) {l : List af} (hl : cov c b l) : ∀ (n : Nat) (m : ba), m.env = e1 → m.nodes = l →
 dj n (mE e2 m) = ((dj n m).1, mE e2 (dj n m).2) ∧ (dj n m).2.env = e1 ∧ (dj n m).2.nodes = l
 | 0, m, he, hn => ⟨rfl, he, hn⟩
 | n + 1, m, he, hn => by
   have ih := cw6 H hl n
   rw [dj, dj]
   unfold js
   simp only [LET]
   have q1 : (mE e2 m).nodes = m.nodes := rfl
   have q2 : (mE e2 m).next = m.next := rfl
   have q : ({ scope := (mE e2 m).scope, env := (mE e2 m).env, args := (mE e2 m).args, nodes := m.nodes, next := wr (m.next + 1) } : ba) = mE e2 { scope := m.scope, env := m.env, args := m.args, nodes := m.nodes, next := wr (m.next + 1) } := rfl
   rw [q1, q2, q]
   generalize hM : ({ scope := m.scope, env := m.env, args := m.args, nodes := m.nodes, next := wr (m.next + 1) } : ba) = M
   have M1 : M.env = e1 := by rw [← hM]; exact he
   have M2 : M.nodes = l := by rw [← hM]; exact hn
   by_cases a0 : dw (ix m.nodes m.next).Op = 0
   ·have hx : ix m.nodes m.next ∈ l := by have := dw2 a0; rw [hn] at this ⊢; exact this
    have h := di1 H (m := M) M1 (hl _ hx)
    simp only [a0, decide_true, if_true]
    rw [h.1, h.2]
    exact ⟨rfl, M1, M2⟩
   ·simp only [a0, decide_false, Bool.false_eq_true, if_false]
    obtain ⟨r1, s1, t1⟩ := ih M M1 M2
    obtain ⟨r2, s2, t2⟩ := ih _ s1 t1
    obtain ⟨r3, s3, t3⟩ := ih _ s2 t2
    simp only [r1, r2, r3]
    repeat' split
    ·exact ⟨rfl, s1, t1⟩
    ·exact ⟨rfl, s2, t2⟩
    ·exact ⟨rfl, s3, t3⟩
    ·exact ⟨rfl, s3, t3⟩
theorem dg9 (H : AGE c b e1 e2) {l : List af} (hl : cov c b l) (s : bd) (a : List (BitVec 32)) : ri l s e2 a = ri l s e1 a := by
 unfold ri mz
 simp only [LET]
 have h := (cw6 H hl (l.length - Int.toNat 0 + 1) { scope := s, env := e1, args := a, nodes := l, next := 0 } rfl rfl).1
 have h2 : mE e2 { scope := s, env := e1, args := a, nodes := l, next := 0 } = { scope := s, env := e2, args := a, nodes := l, next := 0 } := rfl
 rw [h2] at h
 rw [h]
end
section
variable {p : ae} {e1 e2 e : av} {d r : aa} {v : BitVec 32} {b : List Int} {c : List aa}
theorem ye (h : (fm e d).2 = true) (h2 : 0 < ju p d) : ga (jf p e d v) d = v &&& ck (ju p d) := by
 unfold jf
 rw [if_pos (by simp [h, h2])]
 generalize v &&& ck _ = w
 obtain ⟨dh, df⟩ := d
 unfold putF ga il ph
 rcases ap7 h with ⟨a, b, c⟩ | ⟨a, b, c, c', d', f, g⟩
 ·simp only at a b c
  subst a
  simp only [LET, if_true, decide_true, List.length_set]
  rw [jx b c b]
  simp [b, c]
 ·simp only at a b c c' d' f g
  simp only [LET, a, if_false, decide_false, List.length_set, Bool.false_eq_true]
  rw [jx b c b, if_pos rfl]
  simp only [List.length_set]
  rw [jx f g f, if_pos rfl]
  simp [b, c, c', d', f, g]
theorem cu9 (h1 : E12 p e1) (h2 : E12 p e2) (hd : d.Header ≠ -1 → ix e1.Valid d.Header = ix e2.Valid d.Header) : (fm e1 d).2 = (fm e2 d).2 := by
 unfold fm gj ib nf
 obtain ⟨dh, df⟩ := d
 simp only at hd
 by_cases k : dh = -1
 ·subst k
  simp [LET, h1.m, h2.m]
 ·have e1' : decide (({ Header := dh, Field := df } : aa) = { Header := -1, Field := df }) = false := by simp [k]
  simp only [LET, e1', Bool.false_eq_true, if_false, h1.f, h2.f, h1.v, h2.v, hd k]
  by_cases a : dh < 0 ∨ (p.Headers.length : Int) ≤ dh
  ·have a' : (decide (dh < 0) || decide ((p.Headers.length : Int) ≤ dh)) = true := by simpa using a
   simp [a']
  ·have a' : (decide (dh < 0) || decide ((p.Headers.length : Int) ≤ dh)) = false := by simpa using a
   simp only [a', Bool.false_eq_true, if_false, h1.w dh (by omega) (by omega), h2.w dh (by omega) (by omega)]
theorem AGE.set (H : AGE c b e1 e2) (h1 : E12 p e1) (h2 : E12 p e2) (hd : d.Header ≠ -1 → d.Header ∈ b) : AGE c b (jf p e1 d v) (jf p e2 d v) := by
 have v1 := ab3 (p := p) (e := e1) (d := d) (v := v)
 have v2 := ab3 (p := p) (e := e2) (d := d) (v := v)
 refine ⟨fun r hr => ?_, fun i hi => by rw [v1.1, v2.1]; exact H.h i hi, by rw [v1.1, v2.1]; exact H.n⟩
 by_cases k : r.Header < -1
 ·rw [ae8 k, ae8 k]
 ·by_cases hdr : d = r
  ·subst hdr
   have he := cu9 h1 h2 (fun k => H.h _ (hd k))
   by_cases hc : (fm e1 d).2 = true ∧ 0 < ju p d
   ·rw [ye hc.1 hc.2, ye (he ▸ hc.1) hc.2]
   ·have n1 : jf p e1 d v = e1 := by
     unfold jf
     exact if_neg (by simpa using hc)
    have n2 : jf p e2 d v = e2 := by
     unfold jf
     rw [he] at hc
     exact if_neg (by simpa using hc)
    rw [n1, n2]
    exact H.f _ hr
  ·rw [ao6 (by omega) hdr, ao6 (by omega) hdr]
   exact H.f r hr
theorem bb8 {i : Int} {x : Bool} (hr : r.Header = i) (h0 : 0 ≤ i) : ga (swE e i x) r = 0#32 := by
 obtain ⟨rh, rf⟩ := r
 simp only at hr
 subst hr
 unfold swE ga il ph
 simp only [LET, show ¬ rh = -1 by omega, decide_false, Bool.false_eq_true, if_false, List.length_set]
 by_cases k : rh < e.Fields.length
 ·rw [jx h0 k h0, if_pos rfl, bc1]
  repeat' split
  all_goals rfl
 ·simp [k]
theorem AGE.sw (H : AGE c b e1 e2) (h1 : E12 p e1) (h2 : E12 p e2) (hp : ∀ i ∈ b, 0 ≤ i ∧ i < e1.Valid.length) {i : Int} {x y : Bool} (hi : i ∈ b) : AGE c b (fa p e1 i x y) (fa p e2 i x y) := by
 have v1 := ai2 (p := p) (e := e1) (i := i) (a := x) (b := y)
 have v2 := ai2 (p := p) (e := e2) (i := i) (a := x) (b := y)
 have hc : ∀ e, fa p e i x y = if (!fw p.Headers i || !(decide (0 ≤ i) && decide (i < (e.Valid.length : Int)))) || (y && decide (ix e.Valid i = x)) then e else swE e i x := fun e => rfl
 have hb := hp i hi
 by_cases k : ((!fw p.Headers i || !(decide (0 ≤ i) && decide (i < (e1.Valid.length : Int)))) || (y && decide (ix e1.Valid i = x))) = true
 ·have k2 : ((!fw p.Headers i || !(decide (0 ≤ i) && decide (i < (e2.Valid.length : Int)))) || (y && decide (ix e2.Valid i = x))) = true := by rw [← H.n, ← H.h i hi]; exact k
  rw [hc e1, hc e2, if_pos k, if_pos k2]
  exact H
 ·have k2 : ¬ ((!fw p.Headers i || !(decide (0 ≤ i) && decide (i < (e2.Valid.length : Int)))) || (y && decide (ix e2.Valid i = x))) = true := by rw [← H.n, ← H.h i hi]; exact k
  refine ⟨fun r hr => ?_, fun j hj => ?_, by rw [v1.1, v2.1]; exact H.n⟩
  ·by_cases q : r.Header = i
   ·rw [hc e1, hc e2, if_neg k, if_neg k2, bb8 q hb.1, bb8 q hb.1]
   ·by_cases q2 : r.Header < -1
    ·rw [ae8 q2, ae8 q2]
    ·rw [az0 (by omega) (fun z => q z.symm), az0 (by omega) (fun z => q z.symm)]
     exact H.f r hr
  ·have hj' := hp j hj
   by_cases q : i = j
   ·subst q
    rw [hc e1, hc e2, if_neg k, if_neg k2]
    unfold swE
    simp only
    rw [jx hb.1 hb.2 hb.1, jx hb.1 (by rw [← H.n]; exact hb.2) hb.1, if_pos rfl, if_pos rfl]
   ·rw [v1.2.2 j hj'.1 hj'.2 q, v2.2.2 j hj'.1 (by rw [← H.n]; exact hj'.2) q]
    exact H.h j hj
end
section
variable {p : ae} {r1 r2 : List (List (BitVec 32))} {a : List Int}
theorem ct3 (hl : r1.length = r2.length) {r : Int} (hr : ix r1 r = ix r2 r) (i : BitVec 32) : mh p r1 r i = mh p r2 r i := by
 unfold mh fc
 simp only [LET, hl, hr]
theorem by8 (hl : r1.length = r2.length) {r : Int} (hr : ix r1 r = ix r2 r) (H : ∀ k ∈ a, ix r1 k = ix r2 k) (hp : ∀ k ∈ a, 0 ≤ k ∧ k < r1.length) (i v : BitVec 32) : ∀ k ∈ a, ix (fk p r1 r i v) k = ix (fk p r2 r i v) k := by
 intro k hk
 have hh : fc { p := p, cells := r1 } r i = fc { p := p, cells := r2 } r i := by
  unfold fc
  simp only [hl, hr]
 unfold fk
 rw [hh, hr]
 split
 ·rename_i h
  simp only [Bool.and_eq_true] at h
  obtain ⟨⟨r0, q1⟩, q2, q3⟩ := ak4 rfl h.1
  have := hp k hk
  rw [jx this.1 this.2 r0, jx this.1 (by rw [← hl]; exact this.2) r0, H k hk]
 ·exact H k hk
end
structure SS (p : ae) (a b : List Int) (c : List aa) (s t : aw) : Prop where
 hs : SR p s
 ht : SR p t
 sc : s.scope = t.scope
 ar : s.args = t.args
 e : AGE c b s.env t.env
 r : ∀ k ∈ a, ix s.regs k = ix t.regs k
theorem bi9 {p : ae} {s : aw} {x : ak} (h : SR p s) : SR p (stepS s x) := by
 unfold stepS
 repeat' split
 ·exact sr2 h
 ·exact sr3 h
 ·exact sr4 h
 ·exact sr5 h
 ·exact sr1 h
section
variable {p : ae} {a b : List Int} {c : List aa}
theorem SS.ev {s t : aw} (H : SS p a b c s t) {l : List af} (hl : cov c b l) : dp t l = dp s l := by
 unfold dp
 simp only [LET]
 rw [← H.sc, ← H.ar]
 exact dg9 H.e hl _ _
theorem SS.step {s t : aw} (H : SS p a b c s t) (hb : ∀ i ∈ b, 0 ≤ i ∧ i < p.Headers.length) (ha : ∀ i ∈ a, 0 ≤ i ∧ i < p.Registers.length) {x : ak} (hw : WR p a b c x) (hr : RW a b c x) (hk : 1 ≤ x.Kind ∧ x.Kind ≤ 5) : SS p a b c (stepS s x) (stepS t x) := by
 have k1 := ak8 s x
 have k2 := ak8 t x
 refine ⟨bi9 H.hs, bi9 H.ht, by rw [k1.1, k2.1]; exact H.sc, by rw [k1.2, k2.2]; exact H.ar, ?_, ?_⟩
 all_goals
  have z1 := H.hs.1
  have z2 := H.ht.1
  have zl : s.regs.length = t.regs.length := by rw [H.hs.2.2.o, H.ht.2.2.o]
  unfold stepS
  by_cases k2 : x.Kind = 2
  ·rw [if_pos k2, if_pos k2]
   first
    | exact H.r
    | (show AGE c b (fa s.scope.Program s.env x.Header true true) (fa t.scope.Program t.env x.Header true true)
       rw [z1, z2]
       exact H.e.sw H.hs.2.1 H.ht.2.1 (by rw [H.hs.2.1.v]; exact hb) (hw.h (.inl k2)).1)
  ·rw [if_neg k2, if_neg k2]
   by_cases k3 : x.Kind = 3
   ·rw [if_pos k3, if_pos k3]
    first
     | exact H.r
     | (show AGE c b (fa s.scope.Program s.env x.Header false false) (fa t.scope.Program t.env x.Header false false)
        rw [z1, z2]
        exact H.e.sw H.hs.2.1 H.ht.2.1 (by rw [H.hs.2.1.v]; exact hb) (hw.h (.inr k3)).1)
   ·rw [if_neg k3, if_neg k3]
    by_cases k4 : x.Kind = 4
    ·rw [if_pos k4, if_pos k4]
     first
      | exact H.r
      | (show AGE c b (jf s.scope.Program s.env x.Dst (mh s.scope.Program s.regs x.Register (dp s x.Index))) (jf t.scope.Program t.env x.Dst (mh t.scope.Program t.regs x.Register (dp t x.Index)))
         rw [z1, z2, H.ev (hr.i (.inl k4)), ct3 zl (H.r _ (hr.r k4))]
         exact H.e.set H.hs.2.1 H.ht.2.1 (hr.d (.inr k4)))
    ·rw [if_neg k4, if_neg k4]
     by_cases k5 : x.Kind = 5
     ·rw [if_pos k5, if_pos k5]
      first
       | exact H.e
       | (show ∀ k ∈ a, ix (fk s.scope.Program s.regs x.Register (dp s x.Index) (dp s x.Value)) k = ix (fk t.scope.Program t.regs x.Register (dp t x.Index) (dp t x.Value)) k
          rw [z1, z2, H.ev (hr.i (.inr k5)), H.ev (hr.v (.inr k5))]
          exact by8 zl (H.r _ (hw.r k5)) H.r (by rw [H.hs.2.2.o]; exact ha) _ _)
     ·rw [if_neg k5, if_neg k5]
      first
       | exact H.r
       | (show AGE c b (jf s.scope.Program s.env x.Dst (dp s x.Value)) (jf t.scope.Program t.env x.Dst (dp t x.Value))
          rw [z1, z2, H.ev (hr.v (.inl (by omega)))]
          exact H.e.set H.hs.2.1 H.ht.2.1 (hr.d (.inl (by omega))))
theorem SS.run (hb : ∀ i ∈ b, 0 ≤ i ∧ i < p.Headers.length) (ha : ∀ i ∈ a, 0 ≤ i ∧ i < p.Registers.length) {B : List ak} : ∀ (n : Nat) (i : Int) (s t : aw), 0 ≤ i → (∀ k : Int, 0 ≤ k → k < i + n → WR p a b c (ix B k) ∧ RW a b c (ix B k) ∧ (1 ≤ (ix B k).Kind ∧ (ix B k).Kind ≤ 5)) → SS p a b c s t → SS p a b c (runS B n i s) (runS B n i t)
 | 0, i, s, t, h0, hw, H => H
 | n + 1, i, s, t, h0, hw, H => by
   rw [runS, runS]
   have h := hw i h0 (by omega)
   exact SS.run hb ha n (i + 1) _ _ (by omega) (fun k h1 h2 => hw k h1 (by omega)) (H.step hb ha h.1 h.2.1 h.2.2)
end
theorem bu0 {u v : List (BitVec 32)} : jk u v = true ↔ u = v := by
 constructor
 ·intro h
  unfold jk at h
  split at h
  ·cases h
  ·rename_i hl
   simp only [Bool.not_eq_true', decide_eq_false_iff_not, Decidable.not_not] at hl
   have := (mv (good := true) (F := gh u v fun _ => true) (K := True) (Q := fun i => ix u i = ix v i) (fun i => by simp [gh]) (fun m i => by
    rw [gh]
    split
    ·rename_i h; simp only [Bool.not_eq_true', decide_eq_false_iff_not] at h; simp [h]
    ·rename_i h; simp only [Bool.not_eq_true', decide_eq_false_iff_not, Decidable.not_not] at h; simp [h]) _ 0).1 h
   refine List.ext_getElem (by omega) fun n h1 h2 => ?_
   have := this.2 n (by omega) (by omega)
   rw [ah7 h1, ah7 h2] at this
   exact this
 ·rintro rfl
  exact cj6 _
theorem aa3 {x y : az} {l : List aa} {h rs : List Int} : oa x y l h rs = true ↔
 (∀ r ∈ l, ga x.E r = ga y.E r) ∧ (∀ i ∈ h, 0 ≤ i ∧ i < x.E.Valid.length ∧ i < y.E.Valid.length ∧ ix x.E.Valid i = ix y.E.Valid i) ∧ (∀ i ∈ rs, 0 ≤ i ∧ i < x.Regs.length ∧ i < y.Regs.length ∧ ix x.Regs i = ix y.Regs i) := by
 have al : ∀ {α : Type} [Inhabited α] (l : List α) (Q : α → Prop), (∀ j : Int, 0 ≤ j → j < 0 + ((Int.toNat ((l.length : Int) - 0) : Nat) : Int) → Q (ix l j)) ↔ ∀ z ∈ l, Q z := fun l Q => by
  constructor
  ·intro H z hz
   obtain ⟨j, j0, j1, rfl⟩ := bp5 hz
   exact H j j0 (by omega)
  ·intro H j j0 j1
   exact H _ (ai5 j0 (by omega))
 have h3 : ∀ (K : Unit → Bool) n i, ln x y rs K n i = true ↔ (K () = true ∧ ∀ j : Int, i ≤ j → j < i + n → (fun k : Int => 0 ≤ k ∧ k < x.Regs.length ∧ k < y.Regs.length ∧ ix x.Regs k = ix y.Regs k) (ix rs j)) := fun K =>
  mv (fun i => by rw [ln]) (fun m i => by
   rw [ln]
   split
   ·rename_i h
    simp only [Bool.or_eq_true, decide_eq_true_eq, Bool.not_eq_true'] at h
    refine ⟨fun c => by simp at c, fun c => ?_⟩
    exfalso
    obtain ⟨⟨c1, c2, c3, c4⟩, _⟩ := c
    rcases h with h | h
    ·omega
    ·rw [bu0.2 c4] at h; cases h
   ·rename_i h
    simp only [Bool.or_eq_true, decide_eq_true_eq, Bool.not_eq_true', not_or, Bool.not_eq_false] at h
    exact ⟨fun c => ⟨⟨by omega, by omega, by omega, bu0.1 h.2⟩, c⟩, fun c => c.2⟩)
 have h2 : ∀ (K : Unit → Bool) n i, lq x y h K n i = true ↔ (K () = true ∧ ∀ j : Int, i ≤ j → j < i + n → (fun k : Int => 0 ≤ k ∧ k < x.E.Valid.length ∧ k < y.E.Valid.length ∧ ix x.E.Valid k = ix y.E.Valid k) (ix h j)) := fun K =>
  mv (fun i => by rw [lq]) (fun m i => by
   rw [lq]
   split
   ·rename_i h
    simp only [Bool.or_eq_true, decide_eq_true_eq, Bool.not_eq_true', decide_eq_false_iff_not] at h
    refine ⟨fun c => by simp at c, fun c => ?_⟩
    exfalso
    obtain ⟨⟨c1, c2, c3, c4⟩, _⟩ := c
    rcases h with h | h
    ·omega
    ·exact h c4
   ·rename_i h
    simp only [Bool.or_eq_true, decide_eq_true_eq, Bool.not_eq_true', decide_eq_false_iff_not, not_or, Decidable.not_not] at h
    exact ⟨fun c => ⟨⟨by omega, by omega, by omega, h.2⟩, c⟩, fun c => c.2⟩)
 have h1 : ∀ (K : Unit → Bool) n i, lj x y l K n i = true ↔ (K () = true ∧ ∀ j : Int, i ≤ j → j < i + n → (fun k => ga x.E k = ga y.E k) (ix l j)) := fun K =>
  mv (fun i => by rw [lj]) (fun m i => by
   rw [lj]
   simp only [LET]
   split
   ·rename_i h; simp only [Bool.not_eq_true', decide_eq_false_iff_not] at h; simp [h]
   ·rename_i h; simp only [Bool.not_eq_true', decide_eq_false_iff_not, Decidable.not_not] at h; simp [h])
 unfold oa
 rw [h1, h2, h3, al l (fun k => ga x.E k = ga y.E k), al h (fun k : Int => 0 ≤ k ∧ k < x.E.Valid.length ∧ k < y.E.Valid.length ∧ ix x.E.Valid k = ix y.E.Valid k), al rs (fun k : Int => 0 ≤ k ∧ k < x.Regs.length ∧ k < y.Regs.length ∧ ix x.Regs k = ix y.Regs k)]
 exact ⟨fun ⟨⟨⟨_, q3⟩, q2⟩, q1⟩ => ⟨q1, q2, q3⟩, fun ⟨q1, q2, q3⟩ => ⟨⟨⟨rfl, q3⟩, q2⟩, q1⟩⟩
theorem ActionDepends_law (x : az) (e : av) (rs : List (List (BitVec 32))) (hE : EB x.E) (hR : RB x.Regs) (hE1 : EB e) (hR1 : RB rs) : ma x e rs = true := by
 unfold ma
 simp only [LET]
 split
 ·rfl
 ·rename_i h
  simp only [Bool.or_eq_true, Bool.not_eq_true', not_or, Bool.not_eq_false] at h
  obtain ⟨⟨_, hx⟩, hy⟩ := h
  have hx := aj9.1 hx
  have hy := aj9.1 hy
  simp only at hy
  split
  ·rfl
  ·rename_i h
   simp only [Bool.or_eq_true, Bool.not_eq_true', not_or, Bool.not_eq_false] at h
   have hr := aa3.1 h.1
   have hw := aa3.1 h.2
   simp only at hr hw
   rw [Bool.and_eq_true]
   refine ⟨aa3.2 ?_, rfl⟩
   simp only
   by_cases h1 : (iu x.P x.Call.Action).2 = 0
   ·by_cases h2 : ii x.P x.Call = 0
    ·have key : SS x.P ((jo x.P x.Call.Action).2.2 ++ (jb x.P x.Call.Action).2.2) ((jo x.P x.Call.Action).2.1 ++ (jb x.P x.Call.Action).2.1) ((jo x.P x.Call.Action).1 ++ (jb x.P x.Call.Action).1)
      (runS (ix x.P.Actions x.Call.Action).Body (ix x.P.Actions x.Call.Action).Body.length 0 { scope := { Program := x.P, Params := (ix x.P.Actions x.Call.Action).Params }, args := x.Call.Args, env := x.E, regs := x.Regs })
      (runS (ix x.P.Actions x.Call.Action).Body (ix x.P.Actions x.Call.Action).Body.length 0 { scope := { Program := x.P, Params := (ix x.P.Actions x.Call.Action).Params }, args := x.Call.Args, env := e, regs := rs }) := by
      have hb : im x.P x.Call.Action = (ix x.P.Actions x.Call.Action).Body := by
       unfold im
       simp only [LET, h1]
       rfl
      have q1 := bq5 x.P x.Call.Action
      have q2 := cb8 x.P x.Call.Action
      rw [hb] at q1 q2
      have hc := (cp9.1 h1).2.2
      have vx := hx.1.v
      have ox := hx.2.o
      refine SS.run (fun i hi => ?_) (fun i hi => ?_) _ 0 _ _ (Int.le_refl 0) (fun k k0 k1 => ⟨(q1 k k0 (by omega)).mono (fun z h => List.mem_append_right _ h) (fun z h => List.mem_append_right _ h) (fun z h => List.mem_append_right _ h), (q2 k k0 (by omega)).mono (fun z h => List.mem_append_left _ h) (fun z h => List.mem_append_left _ h) (fun z h => List.mem_append_left _ h), (bw9 (hc k k0 (by omega))).1⟩)
       ⟨⟨rfl, hx.1, hx.2⟩, ⟨rfl, hy.1, hy.2⟩, rfl, rfl, ⟨fun r h => ?_, fun i h => ?_, by rw [hx.1.v, hy.1.v]⟩, fun i h => ?_⟩
      ·rcases List.mem_append.1 hi with h | h
       ·have := hr.2.1 i h; omega
       ·have := hw.2.1 i h; omega
      ·rcases List.mem_append.1 hi with h | h
       ·have := hr.2.2 i h; omega
       ·have := hw.2.2 i h; omega
      ·rcases List.mem_append.1 h with h | h
       ·exact hr.1 r h
       ·exact hw.1 r h
      ·rcases List.mem_append.1 h with h | h
       ·exact (hr.2.1 i h).2.2.2
       ·exact (hw.2.1 i h).2.2.2
      ·rcases List.mem_append.1 h with h | h
       ·exact (hr.2.2 i h).2.2.2
       ·exact (hw.2.2 i h).2.2.2
     rw [bm4 h1 h2, bm4 h1 h2]
     simp only
     generalize runS _ _ _ _ = s at key
     generalize runS _ _ _ _ = t at key
     have l1 := key.hs.2.1.v
     have l2 := key.ht.2.1.v
     have l3 := key.hs.2.2.o
     have l4 := key.ht.2.2.o
     have l5 := hx.1.v
     have l6 := hx.2.o
     refine ⟨fun r h => key.e.f r (List.mem_append_right _ h), fun i h => ?_, fun i h => ?_⟩
     ·have := hw.2.1 i h
      exact ⟨this.1, by omega, by omega, key.e.h i (List.mem_append_right _ h)⟩
     ·have := hw.2.2 i h
      exact ⟨this.1, by omega, by omega, key.r i (List.mem_append_right _ h)⟩
    ·rw [bb9 h2, bb9 h2]; exact hw
   ·have nn : ∀ e rs, iy x.P x.Call e rs = (e, rs) := fun e rs => by
     unfold iy
     simp only [LET]
     rw [if_pos (by simp [h1])]
     rfl
    rw [nn, nn]; exact hw
end Go.Proofs.YtmonnlkagniolaaGreat
