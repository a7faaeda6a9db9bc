import Derived.Test.YtmonnlkagniolaaGreatKDef
import Derived.Test.YtmonnlkagniolaaGreatPbP
import Derived.Test.YtmonnlkagniolaaGreatPbLaw
import Derived.Test.YtmonnlkagniolaaGreatPbV
set_option linter.unusedVariables false
set_option linter.unusedSimpArgs false
set_option maxRecDepth 100000
namespace Go.Proofs.YtmonnlkagniolaaGreat
open Go Go.Pb Go.RowKit
theorem lq (w : Int) : iq [w] = decide (1 ≤ w ∧ w ≤ 32) := by
 unfold iq
 have e : (Int.toNat (((([w] : List Int)).length : Int) - 0)) = 1 := by simp
 rw [e, jd, jd]
 have hx : ix ([w] : List Int) 0 = w := rfl
 rw [hx]
 by_cases h : 1 ≤ w ∧ w ≤ 32
 ·rw [if_neg (by simp; omega)]; simp [h]
 ·rw [if_pos (by simp; omega)]; simp [h]
theorem qu (v w : Int) : iq [v, w] = decide ((1 ≤ v ∧ v ≤ 32) ∧ (1 ≤ w ∧ w ≤ 32)) := by
 unfold iq
 have e : (Int.toNat (((([v, w] : List Int)).length : Int) - 0)) = 2 := by simp
 rw [e, jd, jd, jd]
 have hx : ix ([v, w] : List Int) 0 = v ∧ ix ([v, w] : List Int) (0 + 1) = w := ⟨rfl, rfl⟩
 rw [hx.1, hx.2]
 by_cases h : 1 ≤ v ∧ v ≤ 32
 ·rw [if_neg (by simp; omega)]
  by_cases h2 : 1 ≤ w ∧ w ≤ 32
  ·rw [if_neg (by simp; omega)]; simp [h, h2]
  ·rw [if_pos (by simp; omega)]; simp [h2]
 ·rw [if_pos (by simp; omega)]; simp [h]
theorem ch7 {w : Int} {b : Bool} (h : iq [w] = b) (h2 : b = true) : 0 ≤ wr (32 - w) := by
 rw [lq] at h
 subst h2
 simp only [decide_eq_true_eq] at h
 rw [ek (by omega) (by omega)]
 omega
theorem dj3 {v w : Int} {b : Bool} (h : iq [v, w] = b) (h2 : b = true) : (1 ≤ v ∧ v ≤ 32) ∧ 1 ≤ w ∧ w ≤ 32 := by
 rw [qu] at h
 subst h2
 simpa using h
theorem vp (op : Int) : cj op ≤ 3 ∧ -1 ≤ cj op := by
 unfold cj
 simp only [LET]
 repeat' split
 all_goals omega
theorem ar {op y : Int} (h : cj op = y) : y ≤ 3 ∧ -1 ≤ y := by rw [← h]; exact vp op
theorem pr3 {s : aj} {x : aa} (h : (cp s x).2 = 0) (h1 : x.Op = 3) : 0 ≤ x.N := by
 unfold cp at h
 rw [if_neg (by simp [h1]), if_neg (by simp [h1]), if_pos (by simp [h1])] at h
 split at h
 ·cases h
 ·rename_i hc
  simp only [Bool.or_eq_true, decide_eq_true_eq, not_or] at hc
  omega
theorem pr4 {s : aj} {x : aa} (h : (cp s x).2 = 0) (h1 : x.Op = 4) : 0 ≤ x.N := by
 unfold cp at h
 rw [if_neg (by simp [h1]), if_neg (by simp [h1]), if_neg (by simp [h1])] at h
 split at h
 ·cases h
 ·rename_i hc
  simp only [Bool.or_eq_true, decide_eq_true_eq, not_or] at hc
  omega
theorem xq (s : aj) (n : List aa) (rec_ : aj → List aa → Int → Int × Int × Int) (a : Int) (ha : 0 ≤ a) (K : Int → List Int → Int × Int × Int) (hr : ∀ z : Int, 0 ≤ z → (rec_ s n z).2.2 = 0 → z < (rec_ s n z).2.1) (hK : ∀ x z, a < x → (K x z).2.2 = 0 → a < (K x z).2.1) :
 ∀ (m : Nat) (x i : Int) (z : List Int), a < x → (cx s n rec_ K m x i z).2.2 = 0 → a < (cx s n rec_ K m x i z).2.1
 | 0, x, i, z, hx, h => by rw [cx] at h ⊢; exact hK x z hx h
 | m + 1, x, i, z, hx, h => by
   rw [cx] at h ⊢
   simp only [LET] at h ⊢
   split at h
   ·rename_i hc
    simp only [Bool.not_eq_true', decide_eq_false_iff_not] at hc
    exact absurd h hc
   ·rename_i hc
    rw [if_neg hc]
    simp only [Bool.not_eq_true', decide_eq_false_iff_not, Decidable.not_not] at hc
    have := hr x (by omega) hc
    exact xq s n rec_ a ha K hr hK m _ _ _ (by omega) h
theorem rb : ∀ (k : Nat) (s : aj) (n : List aa) (a : Int), 0 ≤ a → n.length ≤ 1000000 → (dc k s n a).2.2 = 0 → a < (dc k s n a).2.1
 | 0, s, n, a, ha, hn, h => by rw [dc] at h; cases h
 | k + 1, s, n, a, ha, hn, h => by
   rw [dc] at h ⊢
   unfold dt at h ⊢
   simp only [LET] at h ⊢
   split at h
   ·cases h
   ·rename_i h1
    rw [if_neg h1]
    simp only [decide_eq_true_eq, Int.not_le] at h1
    have ew : wr (a + 1) = a + 1 := ek (by omega) (by omega)
    split at h
    ·cases h
    ·rename_i h2
     rw [if_neg h2]
     split at h
     ·rename_i h3
      rw [if_pos h3]
      show a < wr (a + 1)
      omega
     ·rename_i h3
      rw [if_neg h3]
      exact xq s n _ a ha _ (fun z hz hz2 => rb k s n z hz hn hz2) (fun x z hx _ => hx) _ _ _ _ (by omega) h
theorem tu (s : aj) (n : List aa) (r1 r2 : aj → List aa → Int → Int × Int × Int) (a : Int) (ha : 0 ≤ a) (K : Int → List Int → Int × Int × Int) (hr : ∀ z : Int, a < z → r1 s n z = r2 s n z) (hn : ∀ z : Int, 0 ≤ z → (r1 s n z).2.2 = 0 → z < (r1 s n z).2.1) :
 ∀ (m : Nat) (x i : Int) (z : List Int), a < x → cx s n r1 K m x i z = cx s n r2 K m x i z
 | 0, x, i, z, hx => by rw [cx, cx]
 | m + 1, x, i, z, hx => by
   rw [cx, cx]
   simp only [LET, ← hr x hx]
   split
   ·rfl
   ·rename_i hc
    simp only [Bool.not_eq_true', decide_eq_false_iff_not, Decidable.not_not] at hc
    have := hn x (by omega) hc
    exact tu s n r1 r2 a ha K hr hn m _ _ _ (by omega)
theorem ai4 : ∀ (k k' : Nat) (s : aj) (n : List aa) (a : Int), 0 ≤ a → n.length ≤ 1000000 → n.length - a.toNat < k → n.length - a.toNat < k' → dc k s n a = dc k' s n a
 | 0, k', s, n, a, ha, hn, h1, h2 => by omega
 | k + 1, 0, s, n, a, ha, hn, h1, h2 => by omega
 | k + 1, k' + 1, s, n, a, ha, hn, h1, h2 => by
   rw [dc, dc]
   unfold dt
   simp only [LET]
   split
   ·rfl
   ·rename_i h3
    simp only [decide_eq_true_eq, Int.not_le] at h3
    have ew : wr (a + 1) = a + 1 := ek (by omega) (by omega)
    split
    ·rfl
    ·split
     ·rfl
     ·exact tu s n _ _ a ha _ (fun z hz => ai4 k k' s n z (by omega) hn (by omega) (by omega)) (fun z hz h => rb k s n z hz hn h) _ _ _ _ (by omega)
theorem ax0 (s : aj) (n : List aa) (a : Int) (ha : 0 ≤ a) (hn : n.length ≤ 1000000) : cn s n a = dt cn s n a := by
 have e : cn s n a = dt (dc (n.length - a.toNat)) s n a := by
  unfold cn
  rw [dc]
 rw [e]
 unfold dt
 simp only [LET]
 split
 ·rfl
 ·rename_i h3
  simp only [decide_eq_true_eq, Int.not_le] at h3
  have ew : wr (a + 1) = a + 1 := ek (by omega) (by omega)
  split
  ·rfl
  ·split
   ·rfl
   ·exact tu s n _ _ a ha _ (fun z hz => ai4 (n.length - a.toNat) (n.length - z.toNat + 1) s n z (by omega) hn (by omega) (by omega)) (fun z hz h => rb _ s n z hz hn h) _ _ _ _ (by omega)
theorem cnext {s : aj} {n : List aa} {a : Int} (ha : 0 ≤ a) (hn : n.length ≤ 1000000) (h : (cn s n a).2.2 = 0) : a < (cn s n a).2.1 := rb _ s n a ha hn h
structure Ok (s : aj) (n : List aa) (a : Int) : Prop where
 lo : 0 ≤ a
 len : n.length ≤ 1000000
 ok : (cn s n a).2.2 = 0
def nx (s : aj) (n : List aa) (a : Int) : Int := (cn s n a).2.1
def wd (s : aj) (n : List aa) (a : Int) : Int := (cn s n a).1
theorem Ok.lt {s : aj} {n : List aa} {a : Int} (h : Ok s n a) : a < n.length := by
 have := h.ok
 rw [ax0 s n a h.lo h.len] at this
 unfold dt at this
 by_cases hc : (n.length : Int) ≤ a
 ·rw [if_pos (by simpa using hc)] at this; cases this
 ·omega
theorem Ok.wr1 {s : aj} {n : List aa} {a : Int} (h : Ok s n a) : wr (a + 1) = a + 1 := by
 have := h.lt
 have := h.len
 have := h.lo
 exact ek (by omega) (by omega)
theorem Ok.step {s : aj} {n : List aa} {a : Int} (h : Ok s n a) :
 (cj (ix n a).Op = 0 ∧ (cp s (ix n a)).2 = 0 ∧ wd s n a = (cp s (ix n a)).1 ∧ nx s n a = a + 1) ∨
 (cj (ix n a).Op = 1 ∧ Ok s n (a + 1) ∧ (fd (ix n a) [wd s n (a + 1), 0, 0]).2 = 0 ∧ wd s n a = (fd (ix n a) [wd s n (a + 1), 0, 0]).1 ∧ nx s n a = nx s n (a + 1)) ∨
 (cj (ix n a).Op = 2 ∧ Ok s n (a + 1) ∧ Ok s n (nx s n (a + 1)) ∧ (fd (ix n a) [wd s n (a + 1), wd s n (nx s n (a + 1)), 0]).2 = 0 ∧ wd s n a = (fd (ix n a) [wd s n (a + 1), wd s n (nx s n (a + 1)), 0]).1 ∧ nx s n a = nx s n (nx s n (a + 1))) ∨
 (cj (ix n a).Op = 3 ∧ Ok s n (a + 1) ∧ Ok s n (nx s n (a + 1)) ∧ Ok s n (nx s n (nx s n (a + 1))) ∧ (fd (ix n a) [wd s n (a + 1), wd s n (nx s n (a + 1)), wd s n (nx s n (nx s n (a + 1)))]).2 = 0 ∧ wd s n a = (fd (ix n a) [wd s n (a + 1), wd s n (nx s n (a + 1)), wd s n (nx s n (nx s n (a + 1)))]).1 ∧ nx s n a = nx s n (nx s n (nx s n (a + 1)))) := by
 have hlt := h.lt
 have hw := h.wr1
 have hok := h.ok
 have hlo := h.lo
 have har := vp (ix n a).Op
 have e : cn s n a = dt cn s n a := ax0 s n a h.lo h.len
 have mk : ∀ z : Int, 0 ≤ z → (cn s n z).2.2 = 0 → Ok s n z := fun z h0 h1 => ⟨h0, h.len, h1⟩
 simp only [wd, nx]
 rw [e] at hok ⊢
 unfold dt at hok ⊢
 simp only [LET, hw] at hok ⊢
 rw [if_neg (show ¬(decide ((n.length : Int) ≤ a) = true) by simpa using hlt)] at hok ⊢
 by_cases hn : cj (ix n a).Op < 0
 ·rw [if_pos (by simpa using hn)] at hok; cases hok
 rw [if_neg (show ¬(decide (cj (ix n a).Op < 0) = true) by simpa using hn)] at hok ⊢
 by_cases h0 : cj (ix n a).Op = 0
 ·rw [if_pos (by simpa using h0)] at hok ⊢
  exact .inl ⟨h0, hok, rfl, rfl⟩
 rw [if_neg (show ¬(decide (cj (ix n a).Op = 0) = true) by simpa using h0)] at hok ⊢
 right
 have hcase : cj (ix n a).Op = 1 ∨ cj (ix n a).Op = 2 ∨ cj (ix n a).Op = 3 := by omega
 rcases hcase with ha | ha | ha
 ·left
  rw [ha] at hok ⊢
  rw [show Int.toNat (1 - 0) = 1 from rfl] at hok ⊢
  simp only [cx, LET] at hok ⊢
  by_cases c1 : (cn s n (a + 1)).2.2 = 0
  ·rw [if_neg (by simp [c1])] at hok ⊢
   exact ⟨trivial, mk _ (by omega) c1, hok, rfl, rfl⟩
  ·rw [if_pos (by simp [c1])] at hok; exact absurd hok c1
 ·right; left
  rw [ha] at hok ⊢
  rw [show Int.toNat (2 - 0) = 2 from rfl] at hok ⊢
  simp only [cx, LET] at hok ⊢
  by_cases c1 : (cn s n (a + 1)).2.2 = 0
  ·rw [if_neg (by simp [c1])] at hok ⊢
   have n1 := cnext (s := s) (n := n) (a := a + 1) (by omega) h.len c1
   by_cases c2 : (cn s n (cn s n (a + 1)).2.1).2.2 = 0
   ·rw [if_neg (by simp [c2])] at hok ⊢
    exact ⟨trivial, mk _ (by omega) c1, mk _ (by omega) c2, hok, rfl, rfl⟩
   ·rw [if_pos (by simp [c2])] at hok; exact absurd hok c2
  ·rw [if_pos (by simp [c1])] at hok; exact absurd hok c1
 ·right; right
  rw [ha] at hok ⊢
  rw [show Int.toNat (3 - 0) = 3 from rfl] at hok ⊢
  simp only [cx, LET] at hok ⊢
  by_cases c1 : (cn s n (a + 1)).2.2 = 0
  ·rw [if_neg (by simp [c1])] at hok ⊢
   have n1 := cnext (s := s) (n := n) (a := a + 1) (by omega) h.len c1
   by_cases c2 : (cn s n (cn s n (a + 1)).2.1).2.2 = 0
   ·rw [if_neg (by simp [c2])] at hok ⊢
    have n2 := cnext (s := s) (n := n) (by omega) h.len c2
    by_cases c3 : (cn s n (cn s n (cn s n (a + 1)).2.1).2.1).2.2 = 0
    ·rw [if_neg (by simp [c3])] at hok ⊢
     exact ⟨trivial, mk _ (by omega) c1, mk _ (by omega) c2, mk _ (by omega) c3, hok, rfl, rfl⟩
    ·rw [if_pos (by simp [c3])] at hok; exact absurd hok c3
   ·rw [if_pos (by simp [c2])] at hok; exact absurd hok c2
  ·rw [if_pos (by simp [c1])] at hok; exact absurd hok c1
theorem Ok.gt {s : aj} {n : List aa} {a : Int} (h : Ok s n a) : a < nx s n a := cnext h.lo h.len h.ok
def VE (m : bg) : Prop := Ok m.scope m.nodes m.next
abbrev st1 (m : bg) : bg := { scope := m.scope, env := m.env, args := m.args, nodes := m.nodes, next := wr (m.next + 1) }
def HR (rec_ : bg → am × bg) : Prop := ∀ z, VE z → (rec_ z).2 = { z with next := nx z.scope z.nodes z.next }
theorem as6 {m : bg} (h : VE m) : 0 ≤ m.next ∧ m.next < m.nodes.length := ⟨h.lo, h.lt⟩
theorem evp {m : bg} (h : VE m) {y : Int} (ha : cj (ix m.nodes m.next).Op = y) (h0 : y = 0) : (cp m.scope (ix m.nodes m.next)).2 = 0 := by
 subst ha
 rcases h.step with h | h | h | h
 ·exact h.2.1
 all_goals (have := h.1; omega)
theorem ev1 {m : bg} (h : VE m) {y : Int} (ha : cj (ix m.nodes m.next).Op = y) (h0 : ¬y = 0) : VE (st1 m) := by
 subst ha
 have e : VE (st1 m) = Ok m.scope m.nodes (m.next + 1) := by show Ok _ _ (wr (m.next + 1)) = _; rw [h.wr1]
 rw [e]
 rcases h.step with h | h | h | h
 ·exact absurd h.1 h0
 all_goals exact h.2.1
section
variable {rec_ : bg → am × bg} {m : bg} {y1 y2 : am × bg}
theorem br8 (h : VE m) {y : Int} (ha : cj (ix m.nodes m.next).Op = y) (h0 : ¬y = 0) (hr : HR rec_) (hw : rec_ (st1 m) = y1) : y1.2 = { m with next := nx m.scope m.nodes (m.next + 1) } := by
 rw [← hw, hr _ (ev1 h ha h0)]
 show ({ scope := _, env := _, args := _, nodes := _, next := nx m.scope m.nodes (wr (m.next + 1)) } : bg) = _
 rw [h.wr1]
theorem ev2 (h : VE m) {y : Int} (ha : cj (ix m.nodes m.next).Op = y) (h0 : ¬y = 0) (h1 : ¬y = 1) (hr : HR rec_) (hw : rec_ (st1 m) = y1) : VE y1.2 := by
 rw [br8 h ha h0 hr hw]
 subst ha
 show Ok m.scope m.nodes (nx m.scope m.nodes (m.next + 1))
 rcases h.step with h | h | h | h
 ·exact absurd h.1 h0
 ·exact absurd h.1 h1
 all_goals exact h.2.2.1
theorem cq1 (h : VE m) {y : Int} (ha : cj (ix m.nodes m.next).Op = y) (h0 : ¬y = 0) (h1 : ¬y = 1) (hr : HR rec_) (hw : rec_ (st1 m) = y1) (hw2 : rec_ y1.2 = y2) : y2.2 = { m with next := nx m.scope m.nodes (nx m.scope m.nodes (m.next + 1)) } := by
 rw [← hw2, hr _ (ev2 h ha h0 h1 hr hw), br8 h ha h0 hr hw]
theorem ev3 (h : VE m) {y : Int} (ha : cj (ix m.nodes m.next).Op = y) (h0 : ¬y = 0) (h1 : ¬y = 1) (h2 : ¬y = 2) (hr : HR rec_) (hw : rec_ (st1 m) = y1) (hw2 : rec_ y1.2 = y2) : VE y2.2 := by
 rw [cq1 h ha h0 h1 hr hw hw2]
 subst ha
 show Ok m.scope m.nodes (nx m.scope m.nodes (nx m.scope m.nodes (m.next + 1)))
 rcases h.step with h | h | h | h
 ·exact absurd h.1 h0
 ·exact absurd h.1 h1
 ·exact absurd h.1 h2
 ·exact h.2.2.2.1
theorem dv1 (h : VE m) {y : Int} (ha : cj (ix m.nodes m.next).Op = y) (h0 : ¬y = 0) : (st1 m).nodes.length - (st1 m).next.toNat < m.nodes.length - m.next.toNat := by
 have h1 := as6 h
 show m.nodes.length - (wr (m.next + 1)).toNat < _
 rw [h.wr1]; omega
theorem dv2 (h : VE m) {y : Int} (ha : cj (ix m.nodes m.next).Op = y) (h0 : ¬y = 0) (h1 : ¬y = 1) (hr : HR rec_) (hw : rec_ (st1 m) = y1) : y1.2.nodes.length - y1.2.next.toNat < m.nodes.length - m.next.toNat := by
 have e1 := ev1 h ha h0
 have g : m.next + 1 < nx m.scope m.nodes (m.next + 1) := by
  have := e1.gt
  have e : (st1 m).next = m.next + 1 := h.wr1
  rw [e] at this
  exact this
 rw [br8 h ha h0 hr hw]
 have := as6 h
 show m.nodes.length - (nx m.scope m.nodes (m.next + 1)).toNat < _
 omega
theorem dv3 (h : VE m) {y : Int} (ha : cj (ix m.nodes m.next).Op = y) (h0 : ¬y = 0) (h1 : ¬y = 1) (h2 : ¬y = 2) (hr : HR rec_) (hw : rec_ (st1 m) = y1) (hw2 : rec_ y1.2 = y2) : y2.2.nodes.length - y2.2.next.toNat < m.nodes.length - m.next.toNat := by
 have e1 := ev1 h ha h0
 have g : m.next + 1 < nx m.scope m.nodes (m.next + 1) := by
  have := e1.gt
  have e : (st1 m).next = m.next + 1 := h.wr1
  rw [e] at this
  exact this
 have e2 := ev2 h ha h0 h1 hr hw
 have g2 : nx m.scope m.nodes (m.next + 1) < nx m.scope m.nodes (nx m.scope m.nodes (m.next + 1)) := by
  have := e2.gt
  rw [br8 h ha h0 hr hw] at this
  exact this
 rw [cq1 h ha h0 h1 hr hw hw2]
 have := as6 h
 show m.nodes.length - (nx m.scope m.nodes (nx m.scope m.nodes (m.next + 1))).toNat < _
 omega
end
theorem bt2 (m : bg) (x : aa) : (dz m x).2 = m := by
 unfold dz
 simp only [LET]
 repeat' split
 all_goals rfl
theorem qv : ∀ k : Nat, HR (ck k)
 | 0 => fun z hz => by rw [ck]; rfl
 | k + 1 => fun z hz => by
   have ih := qv k
   rw [ck]
   unfold fh
   simp only [LET, decide_eq_true_eq]
   have hs := hz.step
   have hw := hz.wr1
   by_cases h0 : cj (ix z.nodes z.next).Op = 0
   ·rw [if_pos h0]
    simp only [bt2, hw]
    rcases hs with h | h | h | h
    ·rw [h.2.2.2]
    all_goals (have := h.1; omega)
   ·rw [if_neg h0]
    have e1 := ev1 hz rfl h0
    by_cases h1 : cj (ix z.nodes z.next).Op = 1
    ·rw [if_pos h1]
     have := br8 hz rfl h0 ih rfl
     refine Eq.trans this ?_
     rcases hs with h | h | h | h
     ·exact absurd h.1 h0
     ·rw [h.2.2.2.2]
     all_goals (have := h.1; omega)
    ·rw [if_neg h1]
     by_cases h2 : cj (ix z.nodes z.next).Op = 2
     ·rw [if_pos h2]
      have := cq1 hz rfl h0 h1 ih rfl rfl
      refine Eq.trans this ?_
      rcases hs with h | h | h | h
      ·exact absurd h.1 h0
      ·exact absurd h.1 h1
      ·rw [h.2.2.2.2.2]
      ·have := h.1; omega
     ·rw [if_neg h2]
      have e3 := ev3 hz rfl h0 h1 h2 ih rfl rfl
      have key := ih _ e3
      have s2 := cq1 hz rfl h0 h1 ih rfl rfl
      rcases hs with h | h | h | h
      ·exact absurd h.1 h0
      ·exact absurd h.1 h1
      ·exact absurd h.1 h2
      ·have fin := key.trans (show _ = ({ z with next := nx z.scope z.nodes z.next } : bg) by rw [s2, h.2.2.2.2.2.2])
       split
       ·exact fin
       ·exact fin
theorem iu {n : List aa} {s : aj} {y : Int × Int} (h : jq n s = y) (h2 : y.2 = 0) : n.length ≤ 24 ∧ Ok s n 0 ∧ y.1 = wd s n 0 ∧ (n.length : Int) ≤ nx s n 0 := by
 subst h
 unfold jq at h2 ⊢
 simp only [LET] at h2 ⊢
 split at h2
 ·cases h2
 ·rename_i h3
  rw [if_neg h3]
  simp only [decide_eq_true_eq, Int.not_lt] at h3
  split at h2
  ·rename_i h4
   simp only [Bool.not_eq_true', decide_eq_false_iff_not] at h4
   exact absurd h2 h4
  ·rename_i h4
   rw [if_neg h4]
   simp only [Bool.not_eq_true', decide_eq_false_iff_not, Decidable.not_not] at h4
   split at h2
   ·cases h2
   ·rename_i h5
    rw [if_neg h5]
    simp only [decide_eq_true_eq, Int.not_lt] at h5
    exact ⟨by omega, ⟨by omega, by omega, h4⟩, rfl, h5⟩
theorem ev0 {n : List aa} {s : aj} {y : Int × Int} (h : jq n s = y) (h2 : y.2 = 0) (e : ai) (a : List (BitVec 32)) : VE { scope := s, env := e, args := a, nodes := n, next := 0 } := (iu h h2).2.1
theorem cz8 {e : ai} {r : ak} {y : List (BitVec 32) × Bool} (h : fx e r = y) (hb : y.2 = true) : 0 ≤ r.Field ∧ r.Field < y.1.length := by
 subst h
 unfold fx at hb ⊢
 simp only [LET] at hb ⊢
 split at hb
 ·rename_i h
  rw [if_pos h]
  simpa [ga] using hb
 ·rename_i h
  rw [if_neg h]
  simp only [Bool.and_eq_true, ga, decide_eq_true_eq] at hb
  exact hb.2
theorem ry (op : Int) : cj op = if 1 ≤ op ∧ op ≤ 4 then 0 else if 5 ≤ op ∧ op ≤ 8 then 1 else if 9 ≤ op ∧ op ≤ 16 then 2 else if op = 17 then 3 else -1 := by
 by_cases h : 1 ≤ op ∧ op ≤ 17
 ·have : op = 1 ∨ op = 2 ∨ op = 3 ∨ op = 4 ∨ op = 5 ∨ op = 6 ∨ op = 7 ∨ op = 8 ∨ op = 9 ∨ op = 10 ∨ op = 11 ∨ op = 12 ∨ op = 13 ∨ op = 14 ∨ op = 15 ∨ op = 16 ∨ op = 17 := by omega
  rcases this with rfl | rfl | rfl | rfl | rfl | rfl | rfl | rfl | rfl | rfl | rfl | rfl | rfl | rfl | rfl | rfl | rfl <;> rfl
 ·rw [if_neg (by omega), if_neg (by omega), if_neg (by omega), if_neg (by omega)]
  have e : ∀ k : Int, 1 ≤ k → k ≤ 17 → decide (op = k) = false := fun k h1 h2 => by simp; omega
  unfold cj
  simp only [LET, e 1 (by omega) (by omega), e 2 (by omega) (by omega), e 3 (by omega) (by omega), e 4 (by omega) (by omega), e 5 (by omega) (by omega), e 6 (by omega) (by omega), e 7 (by omega) (by omega), e 8 (by omega) (by omega), e 9 (by omega) (by omega), e 10 (by omega) (by omega), e 11 (by omega) (by omega), e 12 (by omega) (by omega), e 13 (by omega) (by omega), e 14 (by omega) (by omega), e 15 (by omega) (by omega), e 16 (by omega) (by omega), e 17 (by omega) (by omega), Bool.false_eq_true, if_false]
section
variable {s : aj} {n : List aa} {a : Int}
end
def mch (s : aj) (e : ai) (g : List (BitVec 32)) (n : List aa) (a : Int) : bg := { scope := s, env := e, args := g, nodes := n, next := a }
def vl (s : aj) (e : ai) (g : List (BitVec 32)) (n : List aa) (a : Int) : am := (fj (mch s e g n a)).1
theorem xj : ∀ (k k' : Nat) (m : bg), VE m → m.nodes.length - m.next.toNat < k → m.nodes.length - m.next.toNat < k' → ck k m = ck k' m
 | 0, k', m, h, h1, h2 => by omega
 | k + 1, 0, m, h, h1, h2 => by omega
 | k + 1, k' + 1, m, h, h1, h2 => by
   rw [ck, ck]
   unfold fh
   simp only [LET, decide_eq_true_eq]
   split
   ·rfl
   ·rename_i h3
    have e1 := ev1 h rfl h3
    have d1 := dv1 h rfl h3
    have q1 : ck k (st1 m) = ck k' (st1 m) := xj k k' _ e1 (by omega) (by omega)
    have ew : ({ scope := m.scope, env := m.env, args := m.args, nodes := m.nodes, next := wr (m.next + 1) } : bg) = st1 m := rfl
    split
    ·simp only [ew, q1]
    ·rename_i h4
     have e2 := ev2 h rfl h3 h4 (qv k') rfl
     have d2 := dv2 h rfl h3 h4 (qv k') rfl
     have q2 := xj k k' _ e2 (by omega) (by omega)
     split
     ·simp only [ew, q1, q2]
     ·rename_i h5
      have e3 := ev3 h rfl h3 h4 h5 (qv k') rfl rfl
      have d3 := dv3 h rfl h3 h4 h5 (qv k') rfl rfl
      have q3 := xj k k' _ e3 (by omega) (by omega)
      simp only [ew, q1, q2, q3]
section
variable {s : aj} {n : List aa} {a : Int} (e : ai) (g : List (BitVec 32))
theorem evalAt {k : Nat} (h : Ok s n a) (hk : n.length - a.toNat < k) : ck k (mch s e g n a) = (vl s e g n a, mch s e g n (nx s n a)) := by
 have h1 : ck k (mch s e g n a) = fj (mch s e g n a) := xj k (n.length - a.toNat + 1) (mch s e g n a) h hk (by show n.length - a.toNat < _; omega)
 rw [h1]
 refine Prod.ext rfl ?_
 exact qv _ (mch s e g n a) h
theorem bh9 (h : Ok s n a) : fj (mch s e g n a) = fh (ck (n.length - a.toNat)) (mch s e g n a) := by
 unfold fj
 rw [show (mch s e g n a).nodes.length - (mch s e g n a).next.toNat + 1 = (n.length - a.toNat) + 1 from rfl, ck]
theorem evalB (rec_ : bg → am × bg) (x0 : bg) : fh rec_ x0 =
 if cj ((ix x0.nodes x0.next).Op) = 0 then ((dz (st1 x0) (ix x0.nodes x0.next)).1, (dz (st1 x0) (ix x0.nodes x0.next)).2)
 else if cj ((ix x0.nodes x0.next).Op) = 1 then (lw (ix x0.nodes x0.next) (rec_ (st1 x0)).1, (rec_ (st1 x0)).2)
 else if cj ((ix x0.nodes x0.next).Op) = 2 then (ke (ix x0.nodes x0.next).Op (rec_ (st1 x0)).1 (rec_ (rec_ (st1 x0)).2).1, (rec_ (rec_ (st1 x0)).2).2)
 else if (rec_ (st1 x0)).1.v = 1#32 then ((rec_ (rec_ (st1 x0)).2).1, (rec_ (rec_ (rec_ (st1 x0)).2).2).2) else ((rec_ (rec_ (rec_ (st1 x0)).2).2).1, (rec_ (rec_ (rec_ (st1 x0)).2).2).2) := by
 unfold fh
 simp only [LET, decide_eq_true_eq]
theorem ae8 (h : Ok s n a) : st1 (mch s e g n a) = mch s e g n (a + 1) := by
 show ({ scope := _, env := _, args := _, nodes := _, next := wr (a + 1) } : bg) = _
 rw [h.wr1]
 rfl
theorem dv5 (h : Ok s n a) (ha : cj (ix n a).Op = 0) : vl s e g n a = (dz (mch s e g n (a + 1)) (ix n a)).1 := by
 show (fj (mch s e g n a)).1 = _
 rw [bh9 e g h, evalB, if_pos (show cj (ix (mch s e g n a).nodes (mch s e g n a).next).Op = 0 from ha), ae8 e g h]
 rfl
theorem ec6 (h : Ok s n a) (ha : cj (ix n a).Op = 1) (k1 : Ok s n (a + 1)) : vl s e g n a = lw (ix n a) (vl s e g n (a + 1)) := by
 have hlt := h.lt
 have hlo := h.lo
 have q1 := evalAt e g (k := n.length - a.toNat) k1 (by omega)
 have hm : cj (ix (mch s e g n a).nodes (mch s e g n a).next).Op = 1 := ha
 show (fj (mch s e g n a)).1 = _
 rw [bh9 e g h, evalB, if_neg (by rw [hm]; omega), if_pos hm, ae8 e g h, q1]
 rfl
theorem dt8 (h : Ok s n a) (ha : cj (ix n a).Op = 2) (k1 : Ok s n (a + 1)) (k2 : Ok s n (nx s n (a + 1))) : vl s e g n a = ke (ix n a).Op (vl s e g n (a + 1)) (vl s e g n (nx s n (a + 1))) := by
 have hlt := h.lt
 have hlo := h.lo
 have g1 := k1.gt
 have q1 := evalAt e g (k := n.length - a.toNat) k1 (by omega)
 have q2 := evalAt e g (k := n.length - a.toNat) k2 (by omega)
 have hm : cj (ix (mch s e g n a).nodes (mch s e g n a).next).Op = 2 := ha
 show (fj (mch s e g n a)).1 = _
 rw [bh9 e g h, evalB, if_neg (by rw [hm]; omega), if_neg (by rw [hm]; omega), if_pos hm, ae8 e g h, q1]
 show ke _ _ (ck _ (mch s e g n (nx s n (a + 1)))).1 = _
 rw [q2]
 rfl
theorem eg8 (h : Ok s n a) (ha : cj (ix n a).Op = 3) (k1 : Ok s n (a + 1)) (k2 : Ok s n (nx s n (a + 1))) (k3 : Ok s n (nx s n (nx s n (a + 1)))) : vl s e g n a = if (vl s e g n (a + 1)).v = 1#32 then vl s e g n (nx s n (a + 1)) else vl s e g n (nx s n (nx s n (a + 1))) := by
 have hlt := h.lt
 have hlo := h.lo
 have g1 := k1.gt
 have g2 := k2.gt
 have q1 := evalAt e g (k := n.length - a.toNat) k1 (by omega)
 have q2 := evalAt e g (k := n.length - a.toNat) k2 (by omega)
 have q3 := evalAt e g (k := n.length - a.toNat) k3 (by omega)
 have hm : cj (ix (mch s e g n a).nodes (mch s e g n a).next).Op = 3 := ha
 show (fj (mch s e g n a)).1 = _
 rw [bh9 e g h, evalB, if_neg (by rw [hm]; omega), if_neg (by rw [hm]; omega), if_neg (by rw [hm]; omega), ae8 e g h, q1]
 show (if (vl s e g n (a + 1)).v = 1#32 then ((ck _ (mch s e g n (nx s n (a + 1)))).1, _) else ((ck _ (ck _ (mch s e g n (nx s n (a + 1)))).2).1, _)).1 = _
 rw [q2]
 show (if (vl s e g n (a + 1)).v = 1#32 then (vl s e g n (nx s n (a + 1)), (ck _ (mch s e g n (nx s n (nx s n (a + 1))))).2) else ((ck _ (mch s e g n (nx s n (nx s n (a + 1))))).1, (ck _ (mch s e g n (nx s n (nx s n (a + 1))))).2)).1 = _
 rw [q3]
 split <;> rfl
end
theorem Eval_ok (n : List aa) (s : aj) (e : ai) (g : List (BitVec 32)) (h : (jq n s).2 = 0) : qc n s e g = (vl s e g n 0).v := by
 unfold qc
 simp only [LET]
 rw [if_neg (by simp [h])]
 rfl
theorem Eval_bad (n : List aa) (s : aj) (e : ai) (g : List (BitVec 32)) (h : ¬(jq n s).2 = 0) : qc n s e g = 0#32 := by
 unfold qc
 simp only [LET]
 rw [if_pos (by simp [h])]
theorem sg {w : Int} (h : (iv w).2 = 0) : (iv w).1 = w ∧ 1 ≤ w ∧ w ≤ 32 := by
 unfold iv at h ⊢
 split at h
 ·cases h
 ·rename_i hc
  rw [if_neg hc]
  simp only [Bool.or_eq_true, decide_eq_true_eq, not_or] at hc
  exact ⟨rfl, by omega⟩
theorem al8 {s : aj} {x : aa} (h : (cp s x).2 = 0) : 1 ≤ (cp s x).1 ∧ (cp s x).1 ≤ 32 := by
 unfold cp at h ⊢
 simp only [LET] at h ⊢
 split at h
 ·rename_i h1
  rw [if_pos h1]
  split at h
  ·cases h
  ·rename_i h2
   rw [if_neg h2]
   have := sg h
   omega
 ·rename_i h1
  rw [if_neg h1]
  split at h
  ·rename_i h2
   rw [if_pos h2]
   split at h
   ·cases h
   ·rename_i h3
    rw [if_neg h3]
    have := sg h
    omega
  ·rename_i h2
   rw [if_neg h2]
   split at h
   ·rename_i h3
    rw [if_pos h3]
    split at h
    ·cases h
    ·rename_i h4
     rw [if_neg h4]
     have := sg h
     omega
   ·rename_i h3
    rw [if_neg h3]
    split at h
    ·cases h
    ·rename_i h4
     rw [if_neg h4]
     omega
theorem ny (x : aa) (u v w : Int) (ho : 5 ≤ x.Op ∧ x.Op ≤ 17) : fd x [u, v, w] =
 if x.Op = 5 then (u, 0) else if x.Op = 6 ∨ x.Op = 7 then (if x.N < 0 ∨ 31 < x.N then (0, 9) else (u, 0)) else
 if x.Op = 8 then (if x.N < 0 then (0, 9) else if ¬(iv x.W).2 = 0 ∨ wr (u - x.W) < x.N then (0, 10) else (x.W, 0)) else
 if x.Op = 14 then iv (wr (u + v)) else if x.Op = 17 then (if ¬u = 1 ∨ ¬v = w then (0, 10) else (v, 0)) else
 if ¬u = v then (0, 10) else if x.Op = 15 ∨ x.Op = 16 then (1, 0) else (u, 0) := by
 have e0 : ix [u, v, w] 0 = u := rfl
 have e1 : ix [u, v, w] 1 = v := rfl
 have e2 : ix [u, v, w] 2 = w := rfl
 have : x.Op = 5 ∨ x.Op = 6 ∨ x.Op = 7 ∨ x.Op = 8 ∨ x.Op = 9 ∨ x.Op = 10 ∨ x.Op = 11 ∨ x.Op = 12 ∨ x.Op = 13 ∨ x.Op = 14 ∨ x.Op = 15 ∨ x.Op = 16 ∨ x.Op = 17 := by omega
 unfold fd
 simp only [LET, e0, e1, e2]
 rcases this with h | h | h | h | h | h | h | h | h | h | h | h | h <;> simp [h, ry]
theorem dz3 {p : af} {r : ak} {y : Int} (h : fa p r = y) : y ≤ 32 := by
 subst h
 unfold fa
 simp only [LET]
 repeat' split
 all_goals first | omega | (rename_i hc; simp only [Bool.or_eq_true, decide_eq_true_eq, not_or] at hc; omega)
theorem RB.set {rs : List (List (BitVec 32))} (h : RB rs) {k : Nat} {l : List (BitVec 32)} (hl : l.length ≤ 1048576) : RB (rs.set k l) :=
 ⟨by rw [List.length_set]; exact h.o, fun x hx => by
   rcases List.mem_or_eq_of_mem_set hx with h1 | rfl
   ·exact h.i x h1
   ·exact hl⟩
theorem ap1 {l : List (List (BitVec 32))} (h : ∀ x ∈ l, x.length ≤ 1048576) (i : Int) : (ix l i).length ≤ 1048576 := by
 unfold ix
 rw [List.getD_eq_getElem?_getD]
 cases hk : l[i.toNat]? with
 | none => simp; decide
 | some x => exact h x (List.mem_of_getElem? hk)
theorem EB.put {e : ai} (h : EB e) (r : ak) (v : BitVec 32) : EB (putF e r v) := by
 unfold putF
 split
 ·exact h.setM
 ·exact h.setF (by rw [List.length_set]; exact ap1 h.i _)
theorem EB.sw {e : ai} (h : EB e) (i : Int) (b : Bool) : EB (swE e i b) := by
 have := h.setV (k := i.toNat) (v := b)
 exact this.setF (by rw [List.length_replicate]; exact ap1 h.i _)
theorem EB.Set {p : af} {e : ai} (h : EB e) (r : ak) (v : BitVec 32) : EB (ql p e r v) := by
 unfold ql
 split
 ·exact h.put _ _
 ·exact h
theorem EB.switched {p : af} {e : ai} (h : EB e) (i : Int) (a b : Bool) : EB (ju p e i a b) := by
 unfold ju
 split
 ·exact h
 ·exact h.sw _ _
theorem RB.Write {p : af} {rs : List (List (BitVec 32))} (h : RB rs) (r : Int) (i v : BitVec 32) : RB (jn p rs r i v) := by
 unfold jn
 split
 ·exact h.set (by rw [List.length_set]; exact ap1 h.i _)
 ·exact h
theorem ca8 {f : dq} {r : Int} {i : BitVec 32} {y : Bool} (h : fb f r i = y) (hy : y = true) : (0 ≤ r ∧ r < f.p.Registers.length) ∧ r < f.cells.length ∧ (i.toNat : Int) < (ix f.cells r).length := by
 subst hy
 unfold fb at h
 split at h
 ·cases h
 ·rename_i hc
  simp only [Bool.or_eq_true, decide_eq_true_eq, not_or] at hc
  simp only [Bool.and_eq_true, decide_eq_true_eq] at h
  omega
theorem bt7 {p : af} {i : Int} {y : Int × Int} (h : jy p i = y) (h2 : y.2 = 0) : 0 ≤ i ∧ i < p.Actions.length := by
 subst h
 unfold jy at h2
 split at h2
 ·simp at h2
 ·rename_i h1
  simp at h1
  omega
def SB (s : bf) : Prop := EB s.env ∧ RB s.regs
theorem sb0 {e e' : ai} {rs rs' : List (List (BitVec 32))} (hE : EB e) (hR : RB rs) (h1 : wy e = e') (h2 : po rs = rs') : EB e' ∧ RB rs' := by subst h1 h2; exact ⟨hE, hR⟩
section
variable {s y : bf} {x : av}
theorem sb1 (h : SB s) (e : jw s x = y) : SB y := by subst e; exact ⟨h.1.Set _ _, h.2⟩
theorem sb2 (h : SB s) (e : jh s x = y) : SB y := by subst e; exact ⟨h.1.switched _ _ _, h.2⟩
theorem sb3 (h : SB s) (e : ig s x = y) : SB y := by subst e; exact ⟨h.1.switched _ _ _, h.2⟩
theorem sb4 (h : SB s) (e : kx s x = y) : SB y := by subst e; exact ⟨h.1.Set _ _, h.2⟩
theorem sb5 (h : SB s) (e : km s x = y) : SB y := by subst e; exact ⟨h.1, h.2.Write _ _ _⟩
end
theorem cd0 {x : ai} {r : ak} {y : Bool} (h : gb x r = y) (h2 : y = true) (h3 : r.Header = -1) : 0 ≤ r.Field ∧ r.Field < x.Metd.length := by
 subst h
 unfold gb at h2
 rw [if_pos (by simpa using h3)] at h2
 simpa using h2
theorem av5 {x : ai} {r : ak} {y : Bool} (h : gb x r = y) (h2 : y = true) (h3 : ¬r.Header = -1) : ((0 ≤ r.Header ∧ r.Header < x.Fields.length) ∧ 0 ≤ r.Field) ∧ r.Field < (ix x.Fields r.Header).length := by
 subst h
 unfold gb at h2
 rw [if_neg (by simpa using h3)] at h2
 simpa using h2
theorem bu7 {α : Type} {t : TR α} (h1 : ∀ a e, t.R a e → 1 ≤ wt e) : ∀ {l : List α} {es : List PV}, All2 t.R l es → l.length ≤ wtL es
 | [], [], _ => by simp
 | a :: l, e :: es, h => by
   obtain ⟨h2, h3⟩ := h
   have := bu7 h1 h3
   have := h1 _ _ h2
   simp only [wtL, List.length_cons]
   omega
 | [], _ :: _, h => by simp [All2] at h
 | _ :: _, [], h => by simp [All2] at h
theorem ai1 {α : Type} {t : TR α} (h1 : ∀ a e, t.R a e → 1 ≤ wt e) {l : List α} {v : PV} (r : (tSl t).R l v) : l.length ≤ wt v := by
 obtain ⟨⟨es, he, hl⟩, _⟩ := r
 have := bu7 h1 hl
 rcases he with ⟨ad, rfl, rfl⟩ | ⟨tg, rfl⟩
 ·simp only [wtL] at this; omega
 ·simp only [wt]; omega
theorem br3 {α : Type} {t : TR α} {l : List α} {v : PV} (r : (tSl t).R l v) : 1 ≤ wt v := by
 obtain ⟨⟨es, he, hl⟩, _⟩ := r
 rcases he with ⟨ad, rfl, rfl⟩ | ⟨tg, rfl⟩
 ·simp [wt]
 ·simp only [wt]; omega
theorem bt4 {α : Type} {t : TR α} : ∀ {l : List α} {es : List PV}, All2 t.R l es → ∀ a ∈ l, ∃ e, t.R a e ∧ wt e ≤ wtL es
 | a :: l, e :: es, h, b, hb => by
   obtain ⟨h2, h3⟩ := h
   rcases List.mem_cons.1 hb with rfl | hb
   ·exact ⟨e, h2, by simp only [wtL]; omega⟩
   ·obtain ⟨e', h4, h5⟩ := bt4 h3 b hb
    exact ⟨e', h4, by simp only [wtL]; omega⟩
 | [], _, _, _, hb => by cases hb
 | _ :: _, [], h, _, _ => by simp [All2] at h
theorem cz6 {α : Type} {t : TR α} {l : List α} {v : PV} (r : (tSl t).R l v) : ∀ a ∈ l, ∃ e, t.R a e ∧ wt e ≤ wt v := by
 intro a ha
 obtain ⟨⟨es, he, hl⟩, _⟩ := r
 obtain ⟨e, h1, h2⟩ := bt4 hl a ha
 refine ⟨e, h1, ?_⟩
 rcases he with ⟨ad, rfl, rfl⟩ | ⟨tg, rfl⟩
 ·simp only [wtL] at h2; omega
 ·simp only [wt]; omega
theorem wB (a : Bool) (e : PV) (h : tB.R a e) : 1 ≤ wt e := by have h' : e = _ := h; subst h'; simp [wt]
theorem w32 (a : BitVec 32) (e : PV) (h : dg.R a e) : 1 ≤ wt e := by have h' : e = _ := h; subst h'; simp [wt]
theorem w8 (a : UInt8) (e : PV) (h : tU8.R a e) : 1 ≤ wt e := by have h' : e = _ := h; subst h'; simp [wt]
theorem ad8 {x : dm} {v : PV} (r : dm.t.R x v) (hw : wt v ≤ 1048576) : EB x.E ∧ RB x.Regs := by
 have r : dm.R x v := r
 unfold dm.R at r
 obtain ⟨c1, c2, c3, c4, c5, c6, c7, c8, c10, c11, c12, c13, c14, c15, h0, hc1, hc2, hc3, hc4, hc5, hc6, hc7, hc8, hc10, hc11, hc12, hc13, hc14, hc15⟩ := r
 subst h0
 have hw : wt c11 + wt c12 + wt c13 + wt c14 + wt c15 ≤ 1048576 := by
  rw [wt] at hw
  simp only [wtL] at hw
  clear hc1 hc2 hc3 hc4 hc5 hc6 hc7 hc8 hc10 hc11 hc12 hc13 hc14 hc15
  omega
 have k1 := ai1 wB hc11
 have k2 := ai1 (fun a e h => br3 h) hc12
 have k3 := ai1 w32 hc13
 have k4 := ai1 w8 hc14
 have k5 := ai1 (fun a e h => br3 h) hc15
 refine ⟨⟨by omega, by omega, by omega, by omega, fun l hl => ?_⟩, ⟨by omega, fun l hl => ?_⟩⟩
 ·obtain ⟨e, h1, h2⟩ := cz6 hc12 l hl
  have := ai1 w32 h1
  omega
 ·obtain ⟨e, h1, h2⟩ := cz6 hc15 l hl
  have := ai1 w32 h1
  omega
theorem ae7 {v : PV} {es : List PV} (h : Wri v es) (h0 : 0 < es.length) : ∃ id ver n, v = .os id ver 0 n := by
 rcases h with e | h
 ·subst e; simp at h0
 ·exact h
structure PW (y : BitVec 64) (i : Int) : Prop where
 lo : 0 ≤ i
 hi : i ≤ 32
 eq : y.toNat = 2 ^ i.toNat
theorem pw0 : PW 1#64 0 := ⟨by omega, by omega, rfl⟩
theorem pw1 {y : BitVec 64} {i : Int} (h : PW y i) (hi : i < 32) : PW (2#64 * y) (i + 1) := by
 obtain ⟨a, b, c⟩ := h
 refine ⟨by omega, by omega, ?_⟩
 have h1 : 2 ^ i.toNat ≤ 2 ^ 32 := Nat.pow_le_pow_right (by omega) (by omega)
 rw [BitVec.toNat_mul, c, show (i + 1).toNat = i.toNat + 1 by omega, Nat.pow_succ]
 show 2 * 2 ^ i.toNat % 2 ^ 64 = _
 rw [Nat.mod_eq_of_lt (by omega)]
 omega
theorem PW.nz {y : BitVec 64} {i : Int} (h : PW y i) : y ≠ 0#64 := by
 rintro rfl
 have h1 := h.eq
 have h2 : 0 < 2 ^ i.toNat := Nat.two_pow_pos _
 rw [← h1] at h2
 simp at h2
theorem xe {p : af} {rs : List (List (BitVec 32))} {r : Int} {i : BitVec 32} {b : Bool} (h : ma p rs r i = b) (hb : b = true := by rfl) : (0 ≤ r ∧ r < p.Registers.length) ∧ r < rs.length ∧ i.toNat < (ix rs r).length := by
 subst hb
 unfold ma at h
 simp only [Bool.and_eq_true, decide_eq_true_eq] at h
 omega
theorem bz1 {r : cg} (h : ¬lp r = 0) : 1 ≤ r.Width ∧ r.Width ≤ 32 := by
 unfold lp at h
 split at h
 ·exact absurd rfl h
 ·rename_i hc
  simp only [Bool.or_eq_true, decide_eq_true_eq, not_or] at hc
  omega
theorem EB.rSet {p : af} {e y : ai} {r : ak} {v : BitVec 32} (h : EB e) (e1 : nh p e r v = y) : EB y := by
 subst e1
 unfold nh
 split
 ·exact h
 ·exact h.put _ _
theorem EB.rAdd {p : af} {e y : ai} {i : Int} (h : EB e) (e1 : lg p e i = y) : EB y := by
 subst e1
 unfold lg
 simp only [LET]
 split
 ·exact h
 ·exact h.sw _ _
theorem EB.rRem {p : af} {e y : ai} {i : Int} (h : EB e) (e1 : js p e i = y) : EB y := by
 subst e1
 unfold js
 simp only [LET]
 split
 ·exact h
 ·exact h.sw _ _
theorem RB.rWrite {p : af} {rs y : List (List (BitVec 32))} {r : Int} {i v : BitVec 32} (h : RB rs) (e1 : lm p rs r i v = y) : RB y := by
 subst e1
 unfold lm
 split
 ·exact h
 ·exact h.set (by rw [List.length_set]; exact ap1 h.i _)
theorem ag0 {p : af} {i : Int} {y : Int × Int} (h : mi p i = y) (h2 : y.2 = 0) : 0 ≤ i ∧ i < p.Actions.length := by
 subst h
 unfold mi at h2
 split at h2
 ·simp at h2
 ·rename_i h1
  simp at h1
  omega
end Go.Proofs.YtmonnlkagniolaaGreat
