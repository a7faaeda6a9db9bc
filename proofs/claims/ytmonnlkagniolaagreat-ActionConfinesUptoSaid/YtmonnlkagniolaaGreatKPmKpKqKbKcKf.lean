import Derived.Test.YtmonnlkagniolaaGreatKDef
import Derived.Test.YtmonnlkagniolaaGreatPbP
import Derived.Test.YtmonnlkagniolaaGreatPbLaw
import Derived.Test.YtmonnlkagniolaaGreatKFcBd
import Derived.Test.YtmonnlkagniolaaGreatPbV
set_option linter.unusedVariables false
set_option linter.unusedSimpArgs false
set_option maxRecDepth 100000
namespace Go.Proofs.YtmonnlkagniolaaGreat
open Go Go.Pb Go.RowKit
theorem ab0 (w : Int) : iw [w] = decide (1 ≤ w ∧ w ≤ 32) := by
 unfold iw
 have e : (Int.toNat (((([w] : List Int)).length : Int) - 0)) = 1 := by simp
 rw [e, gh, gh]
 have hx : ix ([w] : List Int) 0 = w := rfl
 rw [hx]
 by_cases h : 1 ≤ w ∧ w ≤ 32
 ·rw [if_neg (by simp; omega)]; simp [h]
 ·rw [if_pos (by simp; omega)]; simp [h]
theorem ab1 (v w : Int) : iw [v, w] = decide ((1 ≤ v ∧ v ≤ 32) ∧ (1 ≤ w ∧ w ≤ 32)) := by
 unfold iw
 have e : (Int.toNat (((([v, w] : List Int)).length : Int) - 0)) = 2 := by simp
 rw [e, gh, gh, gh]
 have hx : ix ([v, w] : List Int) 0 = v ∧ ix ([v, w] : List Int) (0 + 1) = w := ⟨rfl, rfl⟩
 rw [hx.1, hx.2]
 by_cases h : 1 ≤ v ∧ v ≤ 32
 ·rw [if_neg (by simp; omega)]
  by_cases h2 : 1 ≤ w ∧ w ≤ 32
  ·rw [if_neg (by simp; omega)]; simp [h, h2]
  ·rw [if_pos (by simp; omega)]; simp [h2]
 ·rw [if_pos (by simp; omega)]; simp [h]
theorem yr {w : Int} {b : Bool} (h : iw [w] = b) (h2 : b = true) : 0 ≤ wr (32 - w) := by
 rw [ab0] at h
 subst h2
 simp only [decide_eq_true_eq] at h
 rw [ee (by omega) (by omega)]
 omega
theorem an4 {v w : Int} {b : Bool} (h : iw [v, w] = b) (h2 : b = true) : (1 ≤ v ∧ v ≤ 32) ∧ 1 ≤ w ∧ w ≤ 32 := by
 rw [ab1] at h
 subst h2
 simpa using h
theorem as8 (op : Int) : dv op ≤ 3 ∧ -1 ≤ dv op := by
 unfold dv
 simp only [LET]
 repeat' split
 all_goals omega
theorem ar {op y : Int} (h : dv op = y) : y ≤ 3 ∧ -1 ≤ y := by rw [← h]; exact as8 op
theorem pr3 {s : bc} {x : af} (h : (fd s x).2 = 0) (h1 : x.Op = 3) : 0 ≤ x.N := by
 unfold fd at h
 rw [if_neg (by simp [h1]), if_neg (by simp [h1]), if_pos (by simp [h1])] at h
 split at h
 ·cases h
 ·rename_i hc
  simp only [Bool.or_eq_true, decide_eq_true_eq, not_or] at hc
  omega
theorem pr4 {s : bc} {x : af} (h : (fd s x).2 = 0) (h1 : x.Op = 4) : 0 ≤ x.N := by
 unfold fd at h
 rw [if_neg (by simp [h1]), if_neg (by simp [h1]), if_neg (by simp [h1])] at h
 split at h
 ·cases h
 ·rename_i hc
  simp only [Bool.or_eq_true, decide_eq_true_eq, not_or] at hc
  omega
theorem xb (s : bc) (n : List af) (rec_ : bc → List af → Int → Int × Int × Int) (a : Int) (ha : 0 ≤ a) (K : Int → List Int → Int × Int × Int) (hr : ∀ z : Int, 0 ≤ z → (rec_ s n z).2.2 = 0 → z < (rec_ s n z).2.1) (hK : ∀ x z, a < x → (K x z).2.2 = 0 → a < (K x z).2.1) :
 ∀ (m : Nat) (x i : Int) (z : List Int), a < x → (da s n rec_ K m x i z).2.2 = 0 → a < (da s n rec_ K m x i z).2.1
 | 0, x, i, z, hx, h => by rw [da] at h ⊢; exact hK x z hx h
 | m + 1, x, i, z, hx, h => by
   rw [da] at h ⊢
   simp only [LET] at h ⊢
   split at h
   ·rename_i hc
    simp only [Bool.not_eq_true', decide_eq_false_iff_not] at hc
    exact absurd h hc
   ·rename_i hc
    rw [if_neg hc]
    simp only [Bool.not_eq_true', decide_eq_false_iff_not, Decidable.not_not] at hc
    have := hr x (by omega) hc
    exact xb s n rec_ a ha K hr hK m _ _ _ (by omega) h
theorem rv : ∀ (k : Nat) (s : bc) (n : List af) (a : Int), 0 ≤ a → n.length ≤ 1000000 → (db k s n a).2.2 = 0 → a < (db k s n a).2.1
 | 0, s, n, a, ha, hn, h => by rw [db] at h; cases h
 | k + 1, s, n, a, ha, hn, h => by
   rw [db] at h ⊢
   unfold dz at h ⊢
   simp only [LET] at h ⊢
   split at h
   ·cases h
   ·rename_i h1
    rw [if_neg h1]
    simp only [decide_eq_true_eq, Int.not_le] at h1
    have ew : wr (a + 1) = a + 1 := ee (by omega) (by omega)
    split at h
    ·cases h
    ·rename_i h2
     rw [if_neg h2]
     split at h
     ·rename_i h3
      rw [if_pos h3]
      show a < wr (a + 1)
      omega
     ·rename_i h3
      rw [if_neg h3]
      exact xb s n _ a ha _ (fun z hz hz2 => rv k s n z hz hn hz2) (fun x z hx _ => hx) _ _ _ _ (by omega) h
theorem tc (s : bc) (n : List af) (r1 r2 : bc → List af → Int → Int × Int × Int) (a : Int) (ha : 0 ≤ a) (K : Int → List Int → Int × Int × Int) (hr : ∀ z : Int, a < z → r1 s n z = r2 s n z) (hn : ∀ z : Int, 0 ≤ z → (r1 s n z).2.2 = 0 → z < (r1 s n z).2.1) :
 ∀ (m : Nat) (x i : Int) (z : List Int), a < x → da s n r1 K m x i z = da s n r2 K m x i z
 | 0, x, i, z, hx => by rw [da, da]
 | m + 1, x, i, z, hx => by
   rw [da, da]
   simp only [LET, ← hr x hx]
   split
   ·rfl
   ·rename_i hc
    simp only [Bool.not_eq_true', decide_eq_false_iff_not, Decidable.not_not] at hc
    have := hn x (by omega) hc
    exact tc s n r1 r2 a ha K hr hn m _ _ _ (by omega)
theorem af5 : ∀ (k k' : Nat) (s : bc) (n : List af) (a : Int), 0 ≤ a → n.length ≤ 1000000 → n.length - a.toNat < k → n.length - a.toNat < k' → db k s n a = db k' s n a
 | 0, k', s, n, a, ha, hn, h1, h2 => by omega
 | k + 1, 0, s, n, a, ha, hn, h1, h2 => by omega
 | k + 1, k' + 1, s, n, a, ha, hn, h1, h2 => by
   rw [db, db]
   unfold dz
   simp only [LET]
   split
   ·rfl
   ·rename_i h3
    simp only [decide_eq_true_eq, Int.not_le] at h3
    have ew : wr (a + 1) = a + 1 := ee (by omega) (by omega)
    split
    ·rfl
    ·split
     ·rfl
     ·exact tc s n _ _ a ha _ (fun z hz => af5 k k' s n z (by omega) hn (by omega) (by omega)) (fun z hz h => rv k s n z hz hn h) _ _ _ _ (by omega)
theorem ax8 (s : bc) (n : List af) (a : Int) (ha : 0 ≤ a) (hn : n.length ≤ 1000000) : cn s n a = dz cn s n a := by
 have e : cn s n a = dz (db (n.length - a.toNat)) s n a := by
  unfold cn
  rw [db]
 rw [e]
 unfold dz
 simp only [LET]
 split
 ·rfl
 ·rename_i h3
  simp only [decide_eq_true_eq, Int.not_le] at h3
  have ew : wr (a + 1) = a + 1 := ee (by omega) (by omega)
  split
  ·rfl
  ·split
   ·rfl
   ·exact tc s n _ _ a ha _ (fun z hz => af5 (n.length - a.toNat) (n.length - z.toNat + 1) s n z (by omega) hn (by omega) (by omega)) (fun z hz h => rv _ s n z hz hn h) _ _ _ _ (by omega)
theorem cnext {s : bc} {n : List af} {a : Int} (ha : 0 ≤ a) (hn : n.length ≤ 1000000) (h : (cn s n a).2.2 = 0) : a < (cn s n a).2.1 := rv _ s n a ha hn h
structure Ok (s : bc) (n : List af) (a : Int) : Prop where
 lo : 0 ≤ a
 len : n.length ≤ 1000000
 ok : (cn s n a).2.2 = 0
def nx (s : bc) (n : List af) (a : Int) : Int := (cn s n a).2.1
def wd (s : bc) (n : List af) (a : Int) : Int := (cn s n a).1
theorem Ok.lt {s : bc} {n : List af} {a : Int} (h : Ok s n a) : a < n.length := by
 have := h.ok
 rw [ax8 s n a h.lo h.len] at this
 unfold dz at this
 by_cases hc : (n.length : Int) ≤ a
 ·rw [if_pos (by simpa using hc)] at this; cases this
 ·omega
theorem Ok.wr1 {s : bc} {n : List af} {a : Int} (h : Ok s n a) : wr (a + 1) = a + 1 := by
 have := h.lt
 have := h.len
 have := h.lo
 exact ee (by omega) (by omega)
theorem Ok.step {s : bc} {n : List af} {a : Int} (h : Ok s n a) :
 (dv (ix n a).Op = 0 ∧ (fd s (ix n a)).2 = 0 ∧ wd s n a = (fd s (ix n a)).1 ∧ nx s n a = a + 1) ∨
 (dv (ix n a).Op = 1 ∧ Ok s n (a + 1) ∧ (kw (ix n a) [wd s n (a + 1), 0, 0]).2 = 0 ∧ wd s n a = (kw (ix n a) [wd s n (a + 1), 0, 0]).1 ∧ nx s n a = nx s n (a + 1)) ∨
 (dv (ix n a).Op = 2 ∧ Ok s n (a + 1) ∧ Ok s n (nx s n (a + 1)) ∧ (kw (ix n a) [wd s n (a + 1), wd s n (nx s n (a + 1)), 0]).2 = 0 ∧ wd s n a = (kw (ix n a) [wd s n (a + 1), wd s n (nx s n (a + 1)), 0]).1 ∧ nx s n a = nx s n (nx s n (a + 1))) ∨
 (dv (ix n a).Op = 3 ∧ Ok s n (a + 1) ∧ Ok s n (nx s n (a + 1)) ∧ Ok s n (nx s n (nx s n (a + 1))) ∧ (kw (ix n a) [wd s n (a + 1), wd s n (nx s n (a + 1)), wd s n (nx s n (nx s n (a + 1)))]).2 = 0 ∧ wd s n a = (kw (ix n a) [wd s n (a + 1), wd s n (nx s n (a + 1)), wd s n (nx s n (nx s n (a + 1)))]).1 ∧ nx s n a = nx s n (nx s n (nx s n (a + 1)))) := by
 have hlt := h.lt
 have hw := h.wr1
 have hok := h.ok
 have hlo := h.lo
 have har := as8 (ix n a).Op
 have e : cn s n a = dz cn s n a := ax8 s n a h.lo h.len
 have mk : ∀ z : Int, 0 ≤ z → (cn s n z).2.2 = 0 → Ok s n z := fun z h0 h1 => ⟨h0, h.len, h1⟩
 simp only [wd, nx]
 rw [e] at hok ⊢
 unfold dz at hok ⊢
 simp only [LET, hw] at hok ⊢
 rw [if_neg (show ¬(decide ((n.length : Int) ≤ a) = true) by simpa using hlt)] at hok ⊢
 by_cases hn : dv (ix n a).Op < 0
 ·rw [if_pos (by simpa using hn)] at hok; cases hok
 rw [if_neg (show ¬(decide (dv (ix n a).Op < 0) = true) by simpa using hn)] at hok ⊢
 by_cases h0 : dv (ix n a).Op = 0
 ·rw [if_pos (by simpa using h0)] at hok ⊢
  exact .inl ⟨h0, hok, rfl, rfl⟩
 rw [if_neg (show ¬(decide (dv (ix n a).Op = 0) = true) by simpa using h0)] at hok ⊢
 right
 have hcase : dv (ix n a).Op = 1 ∨ dv (ix n a).Op = 2 ∨ dv (ix n a).Op = 3 := by omega
 rcases hcase with ha | ha | ha
 ·left
  rw [ha] at hok ⊢
  rw [show Int.toNat (1 - 0) = 1 from rfl] at hok ⊢
  simp only [da, LET] at hok ⊢
  by_cases c1 : (cn s n (a + 1)).2.2 = 0
  ·rw [if_neg (by simp [c1])] at hok ⊢
   exact ⟨trivial, mk _ (by omega) c1, hok, rfl, rfl⟩
  ·rw [if_pos (by simp [c1])] at hok; exact absurd hok c1
 ·right; left
  rw [ha] at hok ⊢
  rw [show Int.toNat (2 - 0) = 2 from rfl] at hok ⊢
  simp only [da, LET] at hok ⊢
  by_cases c1 : (cn s n (a + 1)).2.2 = 0
  ·rw [if_neg (by simp [c1])] at hok ⊢
   have n1 := cnext (s := s) (n := n) (a := a + 1) (by omega) h.len c1
   by_cases c2 : (cn s n (cn s n (a + 1)).2.1).2.2 = 0
   ·rw [if_neg (by simp [c2])] at hok ⊢
    exact ⟨trivial, mk _ (by omega) c1, mk _ (by omega) c2, hok, rfl, rfl⟩
   ·rw [if_pos (by simp [c2])] at hok; exact absurd hok c2
  ·rw [if_pos (by simp [c1])] at hok; exact absurd hok c1
 ·right; right
  rw [ha] at hok ⊢
  rw [show Int.toNat (3 - 0) = 3 from rfl] at hok ⊢
  simp only [da, LET] at hok ⊢
  by_cases c1 : (cn s n (a + 1)).2.2 = 0
  ·rw [if_neg (by simp [c1])] at hok ⊢
   have n1 := cnext (s := s) (n := n) (a := a + 1) (by omega) h.len c1
   by_cases c2 : (cn s n (cn s n (a + 1)).2.1).2.2 = 0
   ·rw [if_neg (by simp [c2])] at hok ⊢
    have n2 := cnext (s := s) (n := n) (by omega) h.len c2
    by_cases c3 : (cn s n (cn s n (cn s n (a + 1)).2.1).2.1).2.2 = 0
    ·rw [if_neg (by simp [c3])] at hok ⊢
     exact ⟨trivial, mk _ (by omega) c1, mk _ (by omega) c2, mk _ (by omega) c3, hok, rfl, rfl⟩
    ·rw [if_pos (by simp [c3])] at hok; exact absurd hok c3
   ·rw [if_pos (by simp [c2])] at hok; exact absurd hok c2
  ·rw [if_pos (by simp [c1])] at hok; exact absurd hok c1
theorem Ok.gt {s : bc} {n : List af} {a : Int} (h : Ok s n a) : a < nx s n a := cnext h.lo h.len h.ok
def VE (m : ba) : Prop := Ok m.scope m.nodes m.next
abbrev st1 (m : ba) : ba := { scope := m.scope, env := m.env, args := m.args, nodes := m.nodes, next := wr (m.next + 1) }
def HR (rec_ : ba → aj × ba) : Prop := ∀ z, VE z → (rec_ z).2 = { z with next := nx z.scope z.nodes z.next }
theorem ah2 {m : ba} (h : VE m) : 0 ≤ m.next ∧ m.next < m.nodes.length := ⟨h.lo, h.lt⟩
theorem evp {m : ba} (h : VE m) {y : Int} (ha : dv (ix m.nodes m.next).Op = y) (h0 : y = 0) : (fd m.scope (ix m.nodes m.next)).2 = 0 := by
 subst ha
 rcases h.step with h | h | h | h
 ·exact h.2.1
 all_goals (have := h.1; omega)
theorem ev1 {m : ba} (h : VE m) {y : Int} (ha : dv (ix m.nodes m.next).Op = y) (h0 : ¬y = 0) : VE (st1 m) := by
 subst ha
 have e : VE (st1 m) = Ok m.scope m.nodes (m.next + 1) := by show Ok _ _ (wr (m.next + 1)) = _; rw [h.wr1]
 rw [e]
 rcases h.step with h | h | h | h
 ·exact absurd h.1 h0
 all_goals exact h.2.1
section
variable {rec_ : ba → aj × ba} {m : ba} {y1 y2 : aj × ba}
theorem bs6 (h : VE m) {y : Int} (ha : dv (ix m.nodes m.next).Op = y) (h0 : ¬y = 0) (hr : HR rec_) (hw : rec_ (st1 m) = y1) : y1.2 = { m with next := nx m.scope m.nodes (m.next + 1) } := by
 rw [← hw, hr _ (ev1 h ha h0)]
 show ({ scope := _, env := _, args := _, nodes := _, next := nx m.scope m.nodes (wr (m.next + 1)) } : ba) = _
 rw [h.wr1]
theorem ev2 (h : VE m) {y : Int} (ha : dv (ix m.nodes m.next).Op = y) (h0 : ¬y = 0) (h1 : ¬y = 1) (hr : HR rec_) (hw : rec_ (st1 m) = y1) : VE y1.2 := by
 rw [bs6 h ha h0 hr hw]
 subst ha
 show Ok m.scope m.nodes (nx m.scope m.nodes (m.next + 1))
 rcases h.step with h | h | h | h
 ·exact absurd h.1 h0
 ·exact absurd h.1 h1
 all_goals exact h.2.2.1
theorem cs4 (h : VE m) {y : Int} (ha : dv (ix m.nodes m.next).Op = y) (h0 : ¬y = 0) (h1 : ¬y = 1) (hr : HR rec_) (hw : rec_ (st1 m) = y1) (hw2 : rec_ y1.2 = y2) : y2.2 = { m with next := nx m.scope m.nodes (nx m.scope m.nodes (m.next + 1)) } := by
 rw [← hw2, hr _ (ev2 h ha h0 h1 hr hw), bs6 h ha h0 hr hw]
theorem ev3 (h : VE m) {y : Int} (ha : dv (ix m.nodes m.next).Op = y) (h0 : ¬y = 0) (h1 : ¬y = 1) (h2 : ¬y = 2) (hr : HR rec_) (hw : rec_ (st1 m) = y1) (hw2 : rec_ y1.2 = y2) : VE y2.2 := by
 rw [cs4 h ha h0 h1 hr hw hw2]
 subst ha
 show Ok m.scope m.nodes (nx m.scope m.nodes (nx m.scope m.nodes (m.next + 1)))
 rcases h.step with h | h | h | h
 ·exact absurd h.1 h0
 ·exact absurd h.1 h1
 ·exact absurd h.1 h2
 ·exact h.2.2.2.1
theorem dv1 (h : VE m) {y : Int} (ha : dv (ix m.nodes m.next).Op = y) (h0 : ¬y = 0) : (st1 m).nodes.length - (st1 m).next.toNat < m.nodes.length - m.next.toNat := by
 have h1 := ah2 h
 show m.nodes.length - (wr (m.next + 1)).toNat < _
 rw [h.wr1]; omega
theorem dv2 (h : VE m) {y : Int} (ha : dv (ix m.nodes m.next).Op = y) (h0 : ¬y = 0) (h1 : ¬y = 1) (hr : HR rec_) (hw : rec_ (st1 m) = y1) : y1.2.nodes.length - y1.2.next.toNat < m.nodes.length - m.next.toNat := by
 have e1 := ev1 h ha h0
 have g : m.next + 1 < nx m.scope m.nodes (m.next + 1) := by
  have := e1.gt
  have e : (st1 m).next = m.next + 1 := h.wr1
  rw [e] at this
  exact this
 rw [bs6 h ha h0 hr hw]
 have := ah2 h
 show m.nodes.length - (nx m.scope m.nodes (m.next + 1)).toNat < _
 omega
theorem dv3 (h : VE m) {y : Int} (ha : dv (ix m.nodes m.next).Op = y) (h0 : ¬y = 0) (h1 : ¬y = 1) (h2 : ¬y = 2) (hr : HR rec_) (hw : rec_ (st1 m) = y1) (hw2 : rec_ y1.2 = y2) : y2.2.nodes.length - y2.2.next.toNat < m.nodes.length - m.next.toNat := by
 have e1 := ev1 h ha h0
 have g : m.next + 1 < nx m.scope m.nodes (m.next + 1) := by
  have := e1.gt
  have e : (st1 m).next = m.next + 1 := h.wr1
  rw [e] at this
  exact this
 have e2 := ev2 h ha h0 h1 hr hw
 have g2 : nx m.scope m.nodes (m.next + 1) < nx m.scope m.nodes (nx m.scope m.nodes (m.next + 1)) := by
  have := e2.gt
  rw [bs6 h ha h0 hr hw] at this
  exact this
 rw [cs4 h ha h0 h1 hr hw hw2]
 have := ah2 h
 show m.nodes.length - (nx m.scope m.nodes (nx m.scope m.nodes (m.next + 1))).toNat < _
 omega
end
theorem bv0 (m : ba) (x : af) : (lh m x).2 = m := by
 unfold lh
 simp only [LET]
 repeat' split
 all_goals rfl
theorem ak4 : ∀ k : Nat, HR (fw k)
 | 0 => fun z hz => by rw [fw]; rfl
 | k + 1 => fun z hz => by
   have ih := ak4 k
   rw [fw]
   unfold jz
   simp only [LET, decide_eq_true_eq]
   have hs := hz.step
   have hw := hz.wr1
   by_cases h0 : dv (ix z.nodes z.next).Op = 0
   ·rw [if_pos h0]
    simp only [bv0, hw]
    rcases hs with h | h | h | h
    ·rw [h.2.2.2]
    all_goals (have := h.1; omega)
   ·rw [if_neg h0]
    have e1 := ev1 hz rfl h0
    by_cases h1 : dv (ix z.nodes z.next).Op = 1
    ·rw [if_pos h1]
     have := bs6 hz rfl h0 ih rfl
     refine Eq.trans this ?_
     rcases hs with h | h | h | h
     ·exact absurd h.1 h0
     ·rw [h.2.2.2.2]
     all_goals (have := h.1; omega)
    ·rw [if_neg h1]
     by_cases h2 : dv (ix z.nodes z.next).Op = 2
     ·rw [if_pos h2]
      have := cs4 hz rfl h0 h1 ih rfl rfl
      refine Eq.trans this ?_
      rcases hs with h | h | h | h
      ·exact absurd h.1 h0
      ·exact absurd h.1 h1
      ·rw [h.2.2.2.2.2]
      ·have := h.1; omega
     ·rw [if_neg h2]
      have e3 := ev3 hz rfl h0 h1 h2 ih rfl rfl
      have key := ih _ e3
      have s2 := cs4 hz rfl h0 h1 ih rfl rfl
      rcases hs with h | h | h | h
      ·exact absurd h.1 h0
      ·exact absurd h.1 h1
      ·exact absurd h.1 h2
      ·have fin := key.trans (show _ = ({ z with next := nx z.scope z.nodes z.next } : ba) by rw [s2, h.2.2.2.2.2.2])
       split
       ·exact fin
       ·exact fin
theorem dx {n : List af} {s : bc} {y : Int × Int} (h : mf n s = y) (h2 : y.2 = 0) : n.length ≤ 24 ∧ Ok s n 0 ∧ y.1 = wd s n 0 ∧ (n.length : Int) ≤ nx s n 0 := by
 subst h
 unfold mf at h2 ⊢
 simp only [LET] at h2 ⊢
 split at h2
 ·cases h2
 ·rename_i h3
  rw [if_neg h3]
  simp only [decide_eq_true_eq, Int.not_lt] at h3
  split at h2
  ·rename_i h4
   simp only [Bool.not_eq_true', decide_eq_false_iff_not] at h4
   exact absurd h2 h4
  ·rename_i h4
   rw [if_neg h4]
   simp only [Bool.not_eq_true', decide_eq_false_iff_not, Decidable.not_not] at h4
   split at h2
   ·cases h2
   ·rename_i h5
    rw [if_neg h5]
    simp only [decide_eq_true_eq, Int.not_lt] at h5
    exact ⟨by omega, ⟨by omega, by omega, h4⟩, rfl, h5⟩
theorem ev0 {n : List af} {s : bc} {y : Int × Int} (h : mf n s = y) (h2 : y.2 = 0) (e : au) (a : List (BitVec 32)) : VE { scope := s, env := e, args := a, nodes := n, next := 0 } := (dx h h2).2.1
theorem bj0 {e : au} {r : aa} {y : List (BitVec 32) × Bool} (h : gi e r = y) (hb : y.2 = true) : 0 ≤ r.Field ∧ r.Field < y.1.length := by
 subst h
 unfold gi at hb ⊢
 simp only [LET] at hb ⊢
 split at hb
 ·rename_i h
  rw [if_pos h]
  simpa [ik] using hb
 ·rename_i h
  rw [if_neg h]
  simp only [Bool.and_eq_true, ik, decide_eq_true_eq] at hb
  exact hb.2
section
variable {s : bc} {n : List af} {a : Int}
end
def mch (s : bc) (e : au) (g : List (BitVec 32)) (n : List af) (a : Int) : ba := { scope := s, env := e, args := g, nodes := n, next := a }
def vl (s : bc) (e : au) (g : List (BitVec 32)) (n : List af) (a : Int) : aj := (oe (mch s e g n a)).1
section
variable {s : bc} {n : List af} {a : Int} (e : au) (g : List (BitVec 32))
end
theorem bf0 {p : ab} {r : aa} {y : Int} (h : jf p r = y) : y ≤ 32 := by
 subst h
 unfold jf
 simp only [LET]
 repeat' split
 all_goals first | omega | (rename_i hc; simp only [Bool.or_eq_true, decide_eq_true_eq, not_or] at hc; omega)
theorem bl7 {r : cm} {y : Int} (h : ln r = y) : y ≤ 32 := by
 subst h
 unfold ln
 split
 ·omega
 ·rename_i hc
  simp only [Bool.or_eq_true, decide_eq_true_eq, not_or] at hc
  omega
theorem jo {p : ab} {e : au} {y : Bool} (h : jq p e = y) (hy : y = true) : e.Valid.length = p.Headers.length ∧ e.Fields.length = p.Headers.length ∧ e.Metd.length = p.Metadata.length := by
 subst hy
 unfold jq at h
 split at h
 ·cases h
 ·rename_i hc
  simp only [Bool.or_eq_true, Bool.not_eq_true', decide_eq_false_iff_not, not_or, Decidable.not_not] at hc
  omega
theorem RB.set {rs : List (List (BitVec 32))} (h : RB rs) {k : Nat} {l : List (BitVec 32)} (hl : l.length ≤ 1048576) : RB (rs.set k l) :=
 ⟨by rw [List.length_set]; exact h.o, fun x hx => by
   rcases List.mem_or_eq_of_mem_set hx with h1 | rfl
   ·exact h.i x h1
   ·exact hl⟩
theorem ba7 {l : List (List (BitVec 32))} (h : ∀ x ∈ l, x.length ≤ 1048576) (i : Int) : (ix l i).length ≤ 1048576 := by
 unfold ix
 rw [List.getD_eq_getElem?_getD]
 cases hk : l[i.toNat]? with
 | none => simp; decide
 | some x => exact h x (List.mem_of_getElem? hk)
theorem EB.put {e : au} (h : EB e) (r : aa) (v : BitVec 32) : EB (putF e r v) := by
 unfold putF
 split
 ·exact h.setM
 ·exact h.setF (by rw [List.length_set]; exact ba7 h.i _)
theorem EB.sw {e : au} (h : EB e) (i : Int) (b : Bool) : EB (swE e i b) := by
 have := h.setV (k := i.toNat) (v := b)
 exact this.setF (by rw [List.length_replicate]; exact ba7 h.i _)
theorem EB.Set {p : ab} {e : au} (h : EB e) (r : aa) (v : BitVec 32) : EB (mr p e r v) := by
 unfold mr
 split
 ·exact h.put _ _
 ·exact h
theorem EB.switched {p : ab} {e : au} (h : EB e) (i : Int) (a b : Bool) : EB (ga p e i a b) := by
 unfold ga
 split
 ·exact h
 ·exact h.sw _ _
theorem RB.Write {p : ab} {rs : List (List (BitVec 32))} (h : RB rs) (r : Int) (i v : BitVec 32) : RB (gn p rs r i v) := by
 unfold gn
 split
 ·exact h.set (by rw [List.length_set]; exact ba7 h.i _)
 ·exact h
theorem al3 {f : dp} {r : Int} {i : BitVec 32} {y : Bool} (h : gf f r i = y) (hy : y = true) : (0 ≤ r ∧ r < f.p.Registers.length) ∧ r < f.cells.length ∧ (i.toNat : Int) < (ix f.cells r).length := by
 subst hy
 unfold gf at h
 split at h
 ·cases h
 ·rename_i hc
  simp only [Bool.or_eq_true, decide_eq_true_eq, not_or] at hc
  simp only [Bool.and_eq_true, decide_eq_true_eq] at h
  omega
theorem an8 {p : ab} {i : Int} {y : Int × Int} (h : gw p i = y) (h2 : y.2 = 0) : 0 ≤ i ∧ i < p.Actions.length := by
 subst h
 unfold gw at h2
 split at h2
 ·simp at h2
 ·rename_i h1
  simp at h1
  omega
def SB (s : aw) : Prop := EB s.env ∧ RB s.regs
theorem sb0 {e e' : au} {rs rs' : List (List (BitVec 32))} (hE : EB e) (hR : RB rs) (h1 : vx e = e') (h2 : pb rs = rs') : EB e' ∧ RB rs' := by subst h1 h2; exact ⟨hE, hR⟩
section
variable {s y : aw} {x : ak}
theorem sb1 (h : SB s) (e : jy s x = y) : SB y := by subst e; exact ⟨h.1.Set _ _, h.2⟩
theorem sb2 (h : SB s) (e : je s x = y) : SB y := by subst e; exact ⟨h.1.switched _ _ _, h.2⟩
theorem sb3 (h : SB s) (e : iu s x = y) : SB y := by subst e; exact ⟨h.1.switched _ _ _, h.2⟩
theorem sb4 (h : SB s) (e : lk s x = y) : SB y := by subst e; exact ⟨h.1.Set _ _, h.2⟩
theorem sb5 (h : SB s) (e : kn s x = y) : SB y := by subst e; exact ⟨h.1, h.2.Write _ _ _⟩
end
theorem oi {β : Type} {good : β} {F : Nat → Int → β} {K : Prop} {Q : Int → Prop} (h0 : ∀ i, F 0 i = good ↔ K) (hs : ∀ m i, F (m + 1) i = good ↔ (Q i ∧ F m (i + 1) = good)) : ∀ n i, F n i = good ↔ (K ∧ ∀ j, i ≤ j → j < i + n → Q j)
 | 0, i => by rw [h0]; exact ⟨fun h => ⟨h, fun j h1 h2 => by omega⟩, fun h => h.1⟩
 | n + 1, i => by
   rw [hs, oi h0 hs n (i + 1)]
   constructor
   ·rintro ⟨a, b, c⟩
    refine ⟨b, fun j h1 h2 => ?_⟩
    by_cases h3 : j = i
    ·rw [h3]; exact a
    ·exact c j (by omega) (by omega)
   ·rintro ⟨a, b⟩
    exact ⟨b i (by omega) (by omega), a, fun j h1 h2 => b j (by omega) (by omega)⟩
theorem ak7 {x : au} {r : aa} {y : Bool} (h : js x r = y) (h2 : y = true) (h3 : r.Header = -1) : 0 ≤ r.Field ∧ r.Field < x.Metd.length := by
 subst h
 unfold js at h2
 rw [if_pos (by simpa using h3)] at h2
 simpa using h2
theorem am0 {x : au} {r : aa} {y : Bool} (h : js x r = y) (h2 : y = true) (h3 : ¬r.Header = -1) : ((0 ≤ r.Header ∧ r.Header < x.Fields.length) ∧ 0 ≤ r.Field) ∧ r.Field < (ix x.Fields r.Header).length := by
 subst h
 unfold js at h2
 rw [if_neg (by simpa using h3)] at h2
 simpa using h2
theorem bs4 {α : Type} {t : TR α} (h1 : ∀ a e, t.R a e → 1 ≤ wt e) : ∀ {l : List α} {es : List PV}, All2 t.R l es → l.length ≤ wtL es
 | [], [], _ => by simp
 | a :: l, e :: es, h => by
   obtain ⟨h2, h3⟩ := h
   have := bs4 h1 h3
   have := h1 _ _ h2
   simp only [wtL, List.length_cons]
   omega
 | [], _ :: _, h => by simp [All2] at h
 | _ :: _, [], h => by simp [All2] at h
theorem ag4 {α : Type} {t : TR α} (h1 : ∀ a e, t.R a e → 1 ≤ wt e) {l : List α} {v : PV} (r : (tSl t).R l v) : l.length ≤ wt v := by
 obtain ⟨⟨es, he, hl⟩, _⟩ := r
 have := bs4 h1 hl
 rcases he with ⟨ad, rfl, rfl⟩ | ⟨tg, rfl⟩
 ·simp only [wtL] at this; omega
 ·simp only [wt]; omega
theorem bx2 {α : Type} {t : TR α} {l : List α} {v : PV} (r : (tSl t).R l v) : 1 ≤ wt v := by
 obtain ⟨⟨es, he, hl⟩, _⟩ := r
 rcases he with ⟨ad, rfl, rfl⟩ | ⟨tg, rfl⟩
 ·simp [wt]
 ·simp only [wt]; omega
theorem bz8 {α : Type} {t : TR α} : ∀ {l : List α} {es : List PV}, All2 t.R l es → ∀ a ∈ l, ∃ e, t.R a e ∧ wt e ≤ wtL es
 | a :: l, e :: es, h, b, hb => by
   obtain ⟨h2, h3⟩ := h
   rcases List.mem_cons.1 hb with rfl | hb
   ·exact ⟨e, h2, by simp only [wtL]; omega⟩
   ·obtain ⟨e', h4, h5⟩ := bz8 h3 b hb
    exact ⟨e', h4, by simp only [wtL]; omega⟩
 | [], _, _, _, hb => by cases hb
 | _ :: _, [], h, _, _ => by simp [All2] at h
theorem cx4 {α : Type} {t : TR α} {l : List α} {v : PV} (r : (tSl t).R l v) : ∀ a ∈ l, ∃ e, t.R a e ∧ wt e ≤ wt v := by
 intro a ha
 obtain ⟨⟨es, he, hl⟩, _⟩ := r
 obtain ⟨e, h1, h2⟩ := bz8 hl a ha
 refine ⟨e, h1, ?_⟩
 rcases he with ⟨ad, rfl, rfl⟩ | ⟨tg, rfl⟩
 ·simp only [wtL] at h2; omega
 ·simp only [wt]; omega
theorem wB (a : Bool) (e : PV) (h : tB.R a e) : 1 ≤ wt e := by have h' : e = _ := h; subst h'; simp [wt]
theorem w32 (a : BitVec 32) (e : PV) (h : dn.R a e) : 1 ≤ wt e := by have h' : e = _ := h; subst h'; simp [wt]
theorem w8 (a : UInt8) (e : PV) (h : tU8.R a e) : 1 ≤ wt e := by have h' : e = _ := h; subst h'; simp [wt]
theorem ad0 {x : bd} {v : PV} (r : bd.t.R x v) (hw : wt v ≤ 1048576) : EB x.E ∧ RB x.Regs := by
 have r : bd.R x v := r
 unfold bd.R at r
 obtain ⟨c1, c2, c3, c4, c5, c6, c7, c8, c10, c11, c12, c13, c14, c15, h0, hc1, hc2, hc3, hc4, hc5, hc6, hc7, hc8, hc10, hc11, hc12, hc13, hc14, hc15⟩ := r
 subst h0
 have hw : wt c11 + wt c12 + wt c13 + wt c14 + wt c15 ≤ 1048576 := by
  rw [wt] at hw
  simp only [wtL] at hw
  clear hc1 hc2 hc3 hc4 hc5 hc6 hc7 hc8 hc10 hc11 hc12 hc13 hc14 hc15
  omega
 have k1 := ag4 wB hc11
 have k2 := ag4 (fun a e h => bx2 h) hc12
 have k3 := ag4 w32 hc13
 have k4 := ag4 w8 hc14
 have k5 := ag4 (fun a e h => bx2 h) hc15
 refine ⟨⟨by omega, by omega, by omega, by omega, fun l hl => ?_⟩, ⟨by omega, fun l hl => ?_⟩⟩
 ·obtain ⟨e, h1, h2⟩ := cx4 hc12 l hl
  have := ag4 w32 h1
  omega
 ·obtain ⟨e, h1, h2⟩ := cx4 hc15 l hl
  have := ag4 w32 h1
  omega
theorem bx7 (x : BitVec 32) : ∀ (m : Nat) (k : Nat) (i : Int), m + k ≤ 32 → mb (fun b => decide (BitVec.setWidth 64 x < b)) m (BitVec.ofNat 64 (2 ^ k)) i = decide (x.toNat < 2 ^ (m + k))
 | 0, k, i, h => by
   rw [mb]
   have h1 : 2 ^ k < 2 ^ 64 := Nat.pow_lt_pow_right (by omega) (by omega)
   simp only [BitVec.lt_def, BitVec.toNat_setWidth, BitVec.toNat_ofNat, Nat.mod_eq_of_lt h1, Nat.zero_add]
   rw [Nat.mod_eq_of_lt (by have := x.isLt; omega)]
 | m + 1, k, i, h => by
   rw [mb]
   have e : 2#64 * BitVec.ofNat 64 (2 ^ k) = BitVec.ofNat 64 (2 ^ (k + 1)) := by
    apply BitVec.eq_of_toNat_eq
    simp only [BitVec.toNat_mul, BitVec.toNat_ofNat, Nat.mul_mod_mod, Nat.pow_succ]
    rw [show (2 : Nat) % 2 ^ 64 = 2 from rfl, Nat.mul_comm]
   rw [e, bx7 x m (k + 1) _ (by omega), show m + (k + 1) = m + 1 + k by omega]
theorem ah9 {x : BitVec 32} {w : Int} (h : w ≤ 32) : pj x w = decide (x.toNat < 2 ^ w.toNat) := by
 unfold pj
 have := bx7 x (w - 0).toNat 0 0 (by omega)
 rw [show (1#64 : BitVec 64) = BitVec.ofNat 64 (2 ^ 0) from rfl, this, show (w - 0).toNat + 0 = w.toNat by omega]
theorem by4 (w : Int) : iw [w] = !(decide (w < 1) || decide (32 < w)) := by
 unfold iw
 show gh [w] (fun _ => true) 1 0 = _
 rw [gh, gh, show ix [w] 0 = w from rfl]
 split
 ·rename_i h; rw [h]; rfl
 ·rename_i h; rw [Bool.not_eq_true] at h; rw [h]; rfl
theorem an6 {w : Int} (h1 : 1 ≤ w) (h2 : w ≤ 32) : ck w = 4294967295#32 >>> (32 - w).toNat := by
 unfold ck
 simp only [LET, by4, ee (n := 32 - w) (by omega) (by omega)]
 simp [show ¬ w < 1 by omega, show ¬ 32 < w by omega]
theorem ah1 {w : Int} (h : w < 1 ∨ 32 < w) : ck w = 0#32 := by
 unfold ck
 simp only [LET, by4]
 rcases h with h | h <;> simp [h]
theorem ax6 : ∀ k : Fin 32, (4294967295#32 >>> k.val).toNat < 2 ^ (32 - k.val) ∧ (4294967295#32 >>> k.val) ≠ 0#32 := by decide
theorem ch1 {w : Int} (h1 : 1 ≤ w) (h2 : w ≤ 32) : ck w ≠ 0#32 := by
 rw [an6 h1 h2]
 exact (ax6 ⟨(32 - w).toNat, by omega⟩).2
theorem at5 {w : Int} (v : BitVec 32) : (v &&& ck w).toNat < 2 ^ w.toNat := by
 have h0 : (v &&& ck w).toNat ≤ (ck w).toNat := by rw [BitVec.toNat_and]; exact Nat.and_le_right
 by_cases h : 1 ≤ w ∧ w ≤ 32
 ·have := (ax6 ⟨(32 - w).toNat, by omega⟩).1
  rw [an6 h.1 h.2] at h0
  have e : 32 - (32 - w).toNat = w.toNat := by omega
  simp only [e] at this
  rw [an6 h.1 h.2]
  omega
 ·rw [ah1 (by omega)] at h0 ⊢
  have : 0 < 2 ^ w.toNat := Nat.pow_pos (by omega)
  simpa using this
theorem cz6 {w : Int} : (if ck w = 0#32 then 0 else w) = if w < 1 ∨ 32 < w then 0 else w := by
 by_cases h : w < 1 ∨ 32 < w
 ·rw [ah1 h, if_pos rfl, if_pos h]
 ·rw [if_neg (ch1 (by omega) (by omega)), if_neg h]
theorem cv5 {hd j : Int} {l : List ax} (h : ¬ hd < -1) : (if (((((decide (hd < (-1))) || (decide (j < 0))) || (decide ((l.length : Int) ≤ j))) || (decide (((ix l j).Width) < 1))) || (decide (32 < ((ix l j).Width)))) then 0 else (ix l j).Width) =
 (if (ii l j).Width < 1 ∨ 32 < (ii l j).Width then 0 else (ii l j).Width) := by
 unfold ii
 by_cases b : j < 0 ∨ (l.length : Int) ≤ j
 ·rw [if_pos (by rcases b with b | b <;> simp [b]), if_pos (show (decide (j < 0) || decide ((l.length : Int) ≤ j)) = true by simpa using b)]
  rfl
 ·simp only [not_or] at b
  rw [if_neg (show ¬ (decide (j < 0) || decide ((l.length : Int) ≤ j)) = true by simpa using b)]
  by_cases c : (ix l j).Width < 1 ∨ 32 < (ix l j).Width
  ·rw [if_pos c, if_pos (by rcases c with c | c <;> simp [c])]
  ·rw [if_neg c, if_neg]
   simp only [not_or] at c
   simp [h, b.1, b.2, c.1, c.2]
theorem cc6 (p : ab) (r : aa) : ks p r = jf p r := by
 unfold ks jf uf
 simp only [LET, decide_eq_true_eq, cz6]
 by_cases a : r.Header = -1
 ·rw [if_pos a, if_neg (show ¬ 0 ≤ r.Header by omega), cv5 (by omega)]
 ·rw [if_neg a]
  unfold od
  by_cases c : r.Header < 0 ∨ (p.Headers.length : Int) ≤ r.Header
  ·rw [if_pos (show (decide (r.Header < 0) || decide ((p.Headers.length : Int) ≤ r.Header)) = true by simpa using c)]
   have z : (if (ii [] r.Field).Width < 1 ∨ 32 < (ii [] r.Field).Width then 0 else (ii [] r.Field).Width) = 0 := by
    have z0 : ii [] r.Field = ({ Name := [], Width := 0 } : ax) := if_pos (by simp; omega)
    rw [z0]
    rfl
   refine z.trans ?_
   by_cases d : 0 ≤ r.Header
   ·rw [if_pos d, if_pos (show (p.Headers.length : Int) ≤ r.Header by rcases c with c | c; exact absurd d (by omega); exact c)]
   ·rw [if_neg d, if_pos]
    have h1 : r.Header < -1 := by clear z; omega
    simp [h1]
  ·rw [if_neg (show ¬ (decide (r.Header < 0) || decide ((p.Headers.length : Int) ≤ r.Header)) = true by simpa using c)]
   rw [if_pos (show 0 ≤ r.Header by omega), if_neg (show ¬ (p.Headers.length : Int) ≤ r.Header by omega), cv5 (by omega)]
structure E12 (p : ab) (e : au) : Prop where
 v : e.Valid.length = p.Headers.length
 f : e.Fields.length = p.Headers.length
 m : e.Metd.length = p.Metadata.length
 w : ∀ i : Int, 0 ≤ i → i < p.Headers.length → (ix e.Fields i).length = (ix p.Headers i).Fields.length
 a : ∀ i : Int, 0 ≤ i → i < e.Fields.length → ∀ j : Int, 0 ≤ j → j < (ix e.Fields i).length → (ix (ix e.Fields i) j).toNat < 2 ^ (jf p { Header := i, Field := j }).toNat
 b : ∀ j : Int, 0 ≤ j → j < e.Metd.length → (ix e.Metd j).toNat < 2 ^ (jf p { Header := -1, Field := j }).toNat
 z : ∀ i : Int, 0 ≤ i → i < e.Fields.length → ix e.Valid i = false → ∀ j : Int, 0 ≤ j → j < (ix e.Fields i).length → ix (ix e.Fields i) j = 0#32
theorem aw5 {p : ab} {e : au} : qt p e = 0 ↔ E12 p e := by
 unfold qt
 simp only [LET]
 have hS : jq p e = true ↔ (e.Valid.length = p.Headers.length ∧ e.Fields.length = p.Headers.length ∧ e.Metd.length = p.Metadata.length) ∧ ∀ i : Int, 0 ≤ i → i < p.Headers.length → (ix e.Fields i).length = (ix p.Headers i).Fields.length := by
  unfold jq
  split
  ·rename_i h
   simp only [Bool.or_eq_true, Bool.not_eq_true', decide_eq_false_iff_not] at h
   exact ⟨fun c => (by cases c), fun ⟨c, _⟩ => (by omega)⟩
  ·rename_i h
   simp only [Bool.or_eq_true, Bool.not_eq_true', decide_eq_false_iff_not, not_or, Decidable.not_not] at h
   rw [oi (good := true) (F := li p e fun _ => true) (K := True) (Q := fun i => (ix e.Fields i).length = (ix p.Headers i).Fields.length) (fun i => by simp [li]) (fun m i => by
    rw [li]
    split
    ·rename_i h; simp only [Bool.not_eq_true', decide_eq_false_iff_not] at h; simp; omega
    ·rename_i h; simp only [Bool.not_eq_true', decide_eq_false_iff_not, Decidable.not_not] at h; simp; omega)]
   constructor
   ·rintro ⟨_, c⟩; exact ⟨by omega, fun i h1 h2 => c i h1 (by omega)⟩
   ·rintro ⟨_, c⟩; exact ⟨trivial, fun i h1 h2 => c i h1 (by omega)⟩
 have h5 : ∀ (x8 : Int) (K : Unit → Int) n i, lf e x8 K n i = 0 ↔ (K () = 0 ∧ ∀ j, i ≤ j → j < i + n → (ix e.Valid x8 = false → ix (ix e.Fields x8) j = 0#32)) := fun x8 K =>
  oi (fun i => by rw [lf]) (fun m i => by
   rw [lf]
   split
   ·rename_i h; simp only [Bool.and_eq_true, Bool.not_eq_true', decide_eq_false_iff_not] at h; simp [h]
   ·rename_i h; simp only [Bool.and_eq_true, Bool.not_eq_true', decide_eq_false_iff_not, not_and, Decidable.not_not] at h; simp; exact fun _ => h)
 have h4 : ∀ (K : Unit → Int) n i, lb e K n i = 0 ↔ (K () = 0 ∧ ∀ j, i ≤ j → j < i + n → ∀ k : Int, 0 ≤ k → k < (ix e.Fields j).length → (ix e.Valid j = false → ix (ix e.Fields j) k = 0#32)) := fun K =>
  oi (fun i => by rw [lb]) (fun m i => by
   rw [lb, h5, and_comm]
   refine and_congr ⟨fun h k h1 h2 => h k h1 (by omega), fun h k h1 h2 => h k h1 (by omega)⟩ Iff.rfl)
 have h3 : ∀ (K : Unit → Int) n i, ll p e K n i = 0 ↔ (K () = 0 ∧ ∀ j, i ≤ j → j < i + n → (ix e.Metd j).toNat < 2 ^ (jf p { Header := -1, Field := j }).toNat) := fun K =>
  oi (fun i => by rw [ll]) (fun m i => by
   rw [ll]
   simp only [LET, ah9 (bf0 rfl)]
   split
   ·rename_i h; simp only [Bool.not_eq_true', decide_eq_false_iff_not] at h; simp [h]
   ·rename_i h; simp only [Bool.not_eq_true', decide_eq_false_iff_not, Decidable.not_not] at h; simp [h])
 have h2 : ∀ (x5 : Int) (K : Unit → Int) n i, lm p e x5 K n i = 0 ↔ (K () = 0 ∧ ∀ j, i ≤ j → j < i + n → (ix (ix e.Fields x5) j).toNat < 2 ^ (jf p { Header := x5, Field := j }).toNat) := fun x5 K =>
  oi (fun i => by rw [lm]) (fun m i => by
   rw [lm]
   simp only [LET, ah9 (bf0 rfl)]
   split
   ·rename_i h; simp only [Bool.not_eq_true', decide_eq_false_iff_not] at h; simp [h]
   ·rename_i h; simp only [Bool.not_eq_true', decide_eq_false_iff_not, Decidable.not_not] at h; simp [h])
 have h1 : ∀ (K : Unit → Int) n i, lp p e K n i = 0 ↔ (K () = 0 ∧ ∀ j, i ≤ j → j < i + n → ∀ k : Int, 0 ≤ k → k < (ix e.Fields j).length → (ix (ix e.Fields j) k).toNat < 2 ^ (jf p { Header := j, Field := k }).toNat) := fun K =>
  oi (fun i => by rw [lp]) (fun m i => by
   rw [lp, h2, and_comm]
   refine and_congr ⟨fun h k h1 h2 => h k h1 (by omega), fun h k h1 h2 => h k h1 (by omega)⟩ Iff.rfl)
 by_cases hs : jq p e = true
 ·rw [hs]
  simp only [Bool.not_true, Bool.false_eq_true, if_false, h1, h3, h4]
  have hs' := hS.1 hs
  constructor
  ·rintro ⟨⟨⟨_, z⟩, b⟩, a⟩
   exact ⟨hs'.1.1, hs'.1.2.1, hs'.1.2.2, hs'.2, fun i h1 h2 => a i h1 (by omega), fun i h1 h2 => b i h1 (by omega), fun i h1 h2 h3 k h4 h5 => z i h1 (by omega) k h4 h5 h3⟩
  ·intro h
   exact ⟨⟨⟨trivial, fun i h1 h2 k h3 h4 h5 => h.z i h1 (by omega) h5 k h3 h4⟩, fun i h1 h2 => h.b i h1 (by omega)⟩, fun i h1 h2 => h.a i h1 (by omega)⟩
 ·have hs2 := hs
  rw [Bool.not_eq_true] at hs
  rw [hs]
  simp only [Bool.not_false, if_true]
  exact ⟨fun h => by omega, fun h => absurd (hS.2 ⟨⟨h.v, h.f, h.m⟩, h.w⟩) hs2⟩
structure E15 (p : ab) (rs : List (List (BitVec 32))) : Prop where
 o : rs.length = p.Registers.length
 w : ∀ i : Int, 0 ≤ i → i < rs.length → ((ix rs i).length : Int) = (ix p.Registers i).Size
 a : ∀ i : Int, 0 ≤ i → i < rs.length → ∀ j : Int, 0 ≤ j → j < (ix rs i).length → (ix (ix rs i) j).toNat < 2 ^ (ln (ix p.Registers i)).toNat
theorem aw8 {p : ab} {rs : List (List (BitVec 32))} : kb p rs = 0 ↔ E15 p rs := by
 unfold kb
 have h3 : ∀ (x6 : Int) (K : Unit → Int) n i, gk p rs x6 K n i = 0 ↔ (K () = 0 ∧ ∀ j, i ≤ j → j < i + n → (ix (ix rs x6) j).toNat < 2 ^ (ln (ix p.Registers x6)).toNat) := fun x6 K =>
  oi (fun i => by rw [gk]) (fun m i => by
   rw [gk]
   simp only [LET, ah9 (bl7 rfl)]
   split
   ·rename_i h; simp only [Bool.not_eq_true', decide_eq_false_iff_not] at h; simp [h]
   ·rename_i h; simp only [Bool.not_eq_true', decide_eq_false_iff_not, Decidable.not_not] at h; simp [h])
 have h2 : ∀ (K : Unit → Int) n i, gq p rs K n i = 0 ↔ (K () = 0 ∧ ∀ j, i ≤ j → j < i + n → ∀ k : Int, 0 ≤ k → k < (ix rs j).length → (ix (ix rs j) k).toNat < 2 ^ (ln (ix p.Registers j)).toNat) := fun K =>
  oi (fun i => by rw [gq]) (fun m i => by
   rw [gq, h3, and_comm]
   refine and_congr ⟨fun h k h1 h2 => h k h1 (by omega), fun h k h1 h2 => h k h1 (by omega)⟩ Iff.rfl)
 have h1 : ∀ (K : Unit → Int) n i, gu p rs K n i = 0 ↔ (K () = 0 ∧ ∀ j, i ≤ j → j < i + n → ((ix rs j).length : Int) = (ix p.Registers j).Size) := fun K =>
  oi (fun i => by rw [gu]) (fun m i => by
   rw [gu]
   split
   ·rename_i h; simp only [Bool.not_eq_true', decide_eq_false_iff_not] at h; simp [h]
   ·rename_i h; simp only [Bool.not_eq_true', decide_eq_false_iff_not, Decidable.not_not] at h; simp [h])
 split
 ·rename_i h
  simp only [Bool.not_eq_true', decide_eq_false_iff_not] at h
  exact ⟨fun h => by omega, fun h' => absurd (by rw [h'.o]) h⟩
 ·rename_i h
  simp only [Bool.not_eq_true', decide_eq_false_iff_not, Decidable.not_not] at h
  simp only [h1, h2]
  constructor
  ·rintro ⟨⟨_, a⟩, b⟩
   exact ⟨by omega, fun i h1 h2 => b i h1 (by omega), fun i h1 h2 => a i h1 (by omega)⟩
  ·intro h
   exact ⟨⟨trivial, fun i h1 h2 => h.a i h1 (by omega)⟩, fun i h1 h2 => h.w i h1 (by omega)⟩
theorem mq {α : Type} [Inhabited α] {l : List α} {i k : Int} {a : α} (h0 : 0 ≤ k) (h1 : k < l.length) (hi : 0 ≤ i) : ix (l.set i.toNat a) k = if k = i then a else ix l k := by
 unfold ix
 rw [List.getD_eq_getElem?_getD, List.getElem?_set, List.getD_eq_getElem?_getD]
 by_cases e : k = i
 ·subst e
  rw [if_pos rfl, if_pos (by omega), if_pos rfl]
  rfl
 ·rw [if_neg (by omega), if_neg e]
theorem bi8 {e : au} {r : aa} (h : (gi e r).2 = true) : (r.Header = -1 ∧ 0 ≤ r.Field ∧ r.Field < e.Metd.length) ∨ (r.Header ≠ -1 ∧ 0 ≤ r.Header ∧ r.Header < e.Fields.length ∧ r.Header < e.Valid.length ∧ ix e.Valid r.Header = true ∧ 0 ≤ r.Field ∧ r.Field < (ix e.Fields r.Header).length) := by
 unfold gi ik ja ot at h
 simp only [LET] at h
 by_cases a : r.Header = -1
 ·left
  rw [if_pos (by cases r; simp only at a; subst a; simp)] at h
  simp only [Bool.and_eq_true, decide_eq_true_eq] at h
  exact ⟨a, h⟩
 ·right
  rw [if_neg (by
   intro c
   simp only [decide_eq_true_eq] at c
   rw [c] at a
   exact a rfl)] at h
  simp only [Bool.and_eq_true, decide_eq_true_eq] at h
  obtain ⟨h1, h2, h3⟩ := h
  split at h1
  ·cases h1
  ·rename_i c
   simp only [Bool.or_eq_true, decide_eq_true_eq, not_or] at c
   split at h3
   ·simp only [List.length_nil] at h3; omega
   ·rename_i d
    simp only [Bool.or_eq_true, decide_eq_true_eq, not_or] at d
    exact ⟨a, by omega, by omega, by omega, h1, h2, h3⟩
section
variable {p : ab} {e : au} {rs : List (List (BitVec 32))}
theorem E12.set (H : E12 p e) (r : aa) (v : BitVec 32) : E12 p (mr p e r v) := by
 unfold mr
 split
 ·rename_i h
  simp only [Bool.and_eq_true, decide_eq_true_eq] at h
  have hm : ∀ {q : aa}, q = r → (v &&& ck (ks p r)).toNat < 2 ^ (jf p q).toNat := fun e => by
   rw [e, ← cc6]; exact at5 v
  generalize v &&& ck (ks p r) = w at hm ⊢
  obtain ⟨rh, rf⟩ := r
  have hm := hm rfl
  unfold putF
  rcases bi8 h.1 with ⟨a, b, c⟩ | ⟨a, b, c, d, d', f, g⟩
  ·simp only at a b c ⊢
   subst a
   rw [if_pos rfl]
   refine ⟨H.v, H.f, by rw [List.length_set]; exact H.m, H.w, H.a, fun j h0 h1 => ?_, H.z⟩
   simp only [List.length_set] at h1
   simp only
   rw [mq h0 h1 b]
   split
   ·rename_i k; subst k; exact hm
   ·exact H.b j h0 h1
  ·simp only at a b c d d' f g ⊢
   rw [if_neg a]
   have hl : ∀ i : Int, 0 ≤ i → i < e.Fields.length → (ix (e.Fields.set rh.toNat ((ix e.Fields rh).set rf.toNat w)) i).length = (ix e.Fields i).length := fun i h0 h1 => by
    rw [mq h0 h1 b]
    split
    ·rename_i k; subst k; rw [List.length_set]
    ·rfl
   have hx : ∀ i : Int, 0 ≤ i → i < e.Fields.length → ∀ j : Int, 0 ≤ j → j < (ix e.Fields i).length → ix (ix (e.Fields.set rh.toNat ((ix e.Fields rh).set rf.toNat w)) i) j = if i = rh ∧ j = rf then w else ix (ix e.Fields i) j := fun i h0 h1 j h2 h3 => by
    rw [mq h0 h1 b]
    by_cases k : i = rh
    ·subst k
     rw [if_pos rfl, mq h2 h3 f]
     simp
    ·rw [if_neg k, if_neg (fun c => k c.1)]
   refine ⟨H.v, by simp only [List.length_set]; exact H.f, H.m, fun i h0 h1 => ?_, fun i h0 h1 j h2 h3 => ?_, H.b, fun i h0 h1 h2 j h3 h4 => ?_⟩
   ·simp only
    rw [hl i h0 (by have := H.f; omega)]
    exact H.w i h0 h1
   ·simp only [List.length_set] at h1 h3 ⊢
    rw [hl i h0 h1] at h3
    rw [hx i h0 h1 j h2 h3]
    split
    ·rename_i k; rw [k.1, k.2]; exact hm
    ·exact H.a i h0 h1 j h2 h3
   ·simp only [List.length_set] at h1 h2 h4 ⊢
    rw [hl i h0 h1] at h4
    rw [hx i h0 h1 j h3 h4]
    split
    ·rename_i k; rw [k.1, d'] at h2; cases h2
    ·exact H.z i h0 h1 h2 j h3 h4
 ·exact H
theorem cn7 {n : Nat} {c : Int} : ix (List.replicate n 0#32) c = 0#32 := by
 unfold ix
 rw [List.getD_eq_getElem?_getD, List.getElem?_replicate]
 split <;> rfl
theorem E12.switched (H : E12 p e) (i : Int) (a b : Bool) : E12 p (ga p e i a b) := by
 unfold ga
 split
 ·exact H
 ·rename_i h
  simp only [Bool.or_eq_true, not_or, Bool.not_eq_true, Bool.not_eq_false', il, lj, Bool.and_eq_true, decide_eq_true_eq] at h
  obtain ⟨⟨⟨b0, b1⟩, b2⟩, _⟩ := h
  unfold swE
  have hl : ∀ k : Int, 0 ≤ k → k < e.Fields.length → (ix (e.Fields.set i.toNat (List.replicate (ix e.Fields i).length 0#32)) k).length = (ix e.Fields k).length := fun k h0 h1 => by
   rw [mq h0 h1 b0]
   split
   ·rename_i k; subst k; rw [List.length_replicate]
   ·rfl
  have hx : ∀ k : Int, 0 ≤ k → k < e.Fields.length → ∀ j : Int, ix (ix (e.Fields.set i.toNat (List.replicate (ix e.Fields i).length 0#32)) k) j = if k = i then 0#32 else ix (ix e.Fields k) j := fun k h0 h1 j => by
   rw [mq h0 h1 b0]
   split
   ·exact cn7
   ·rfl
  refine ⟨by simp only [List.length_set]; exact H.v, by simp only [List.length_set]; exact H.f, H.m, fun i h0 h1 => ?_, fun i h0 h1 j h2 h3 => ?_, H.b, fun k h0 h1 h2 j h3 h4 => ?_⟩
  ·simp only
   rw [hl i h0 (by have := H.f; omega)]
   exact H.w i h0 h1
  ·simp only [List.length_set] at h1 h3 ⊢
   rw [hl i h0 h1] at h3
   rw [hx i h0 h1 j]
   split
   ·exact Nat.pow_pos (by omega)
   ·exact H.a i h0 h1 j h2 h3
  ·simp only [List.length_set] at h1 h2 h4 ⊢
   rw [hl k h0 h1] at h4
   rw [hx k h0 h1 j]
   split
   ·rfl
   ·rename_i hk
    rw [mq h0 (by have := H.f; have := H.v; omega) b0, if_neg hk] at h2
    exact H.z k h0 h1 h2 j h3 h4
theorem E15.write (H : E15 p rs) (r : Int) (i v : BitVec 32) : E15 p (gn p rs r i v) := by
 unfold gn
 split
 ·rename_i h
  simp only [Bool.and_eq_true] at h
  obtain ⟨h, hm⟩ := h
  obtain ⟨⟨r0, r1⟩, r2, r3⟩ := al3 rfl h
  simp only at r0 r1 r2 r3
  have hw : ln (ix p.Registers r) = (ix p.Registers r).Width := by
   unfold ln
   by_cases c : (ix p.Registers r).Width < 1 ∨ 32 < (ix p.Registers r).Width
   ·rw [ah1 c] at hm; simp at hm
   ·rw [if_neg (by simpa using c)]
  have hf : (v &&& ck (ix p.Registers r).Width).toNat < 2 ^ (ln (ix p.Registers r)).toNat := by rw [hw]; exact at5 v
  generalize v &&& ck (ix p.Registers r).Width = u at hf ⊢
  have hl : ∀ k : Int, 0 ≤ k → k < rs.length → (ix (rs.set r.toNat ((ix rs r).set i.toNat u)) k).length = (ix rs k).length := fun k h0 h1 => by
   rw [mq h0 h1 r0]
   split
   ·rename_i k; subst k; rw [List.length_set]
   ·rfl
  refine ⟨by rw [List.length_set]; exact H.o, fun k h0 h1 => ?_, fun k h0 h1 j h2 h3 => ?_⟩
  ·rw [List.length_set] at h1
   rw [hl k h0 h1]
   exact H.w k h0 h1
  ·rw [List.length_set] at h1
   rw [hl k h0 h1] at h3
   rw [mq h0 h1 r0]
   split
   ·rename_i hk
    subst hk
    rw [show i.toNat = ((i.toNat : Int)).toNat from rfl, mq h2 h3 (by omega)]
    split
    ·exact hf
    ·exact H.a k h0 h1 j h2 h3
   ·exact H.a k h0 h1 j h2 h3
 ·exact H
end
def SR (p : ab) (s : aw) : Prop := s.scope.Program = p ∧ E12 p s.env ∧ E15 p s.regs
section
variable {p : ab} {s : aw} {x : ak}
end
theorem al7 {x : bd} : fc x = true ↔ E12 x.P x.E ∧ E15 x.P x.Regs := by
 unfold fc
 simp only [LET, Bool.and_eq_true, decide_eq_true_eq, aw5, aw8]
theorem cd3 {p : ab} {x : Int} {K : Unit → Bool} : ∀ (m : Nat) (i : Int), mm p x K m i = true → K () = true
 | 0, i, h => h
 | m + 1, i, h => by
   rw [mm] at h
   split at h
   ·cases h
   ·exact cd3 m _ h
theorem br8 {p : ab} {K : Unit → Bool} : ∀ (m : Nat) (i : Int), ml p K m i = true → K () = true
 | 0, i, h => h
 | m + 1, i, h => by
   rw [ml] at h
   split at h
   ·cases h
   ·exact br8 m _ (cd3 _ _ h)
theorem bu9 {p : ab} {K : Unit → Bool} : ∀ (m : Nat) (i : Int), m = Int.toNat ((p.Headers.length : Int) - i) → mj p K m i = true → ∀ k : Int, i ≤ k → k < p.Headers.length → (ix p.Headers k).Fields.length ≤ 40
 | 0, i, hm, h, k, h1, h2 => by omega
 | m + 1, i, hm, h, k, h1, h2 => by
   rw [mj] at h
   split at h
   ·cases h
   ·rename_i hc
    simp only [decide_eq_true_eq] at hc
    by_cases e : k = i
    ·subst e; omega
    ·exact bu9 m (i + 1) (by omega) h k (by omega) h2
theorem ci8 {p : ab} {b : Bool} (h : kg p = b) (hb : b = true) : SmH p := by
 subst hb
 unfold kg at h
 split at h
 ·cases h
 ·intro k h0 h1
  have h2 := bu9 _ 0 rfl (br8 _ _ h) k h0 h1
  omega
theorem ui {x : bd} (h : fc x = true) : x.E.Valid.length = x.P.Headers.length := (al7.1 h).1.v
def prA (A : List bp) (p : ab) : ab := { p with Actions := A }
def scA (A : List bp) (s : bc) : bc := { s with Program := prA A s.Program }
def maA (A : List bp) (m : ba) : ba := { m with scope := scA A m.scope }
def stA (A : List bp) (s : aw) : aw := { s with scope := scA A s.scope }
section
variable {A : List bp}
def stepS (s : aw) (x : ak) : aw :=
 if x.Kind = 2 then je s x else if x.Kind = 3 then iu s x else if x.Kind = 4 then lk s x else if x.Kind = 5 then kn s x else jy s x
def runS (b : List ak) : Nat → Int → aw → aw
 | 0, _, s => s
 | n + 1, i, s => runS b n (i + 1) (stepS s (ix b i))
theorem au9 {p : ab} {c : bn} {K : aw → au × List (List (BitVec 32))} : ∀ (n : Nat) (i : Int) (s : aw), gj p c K n i s = K (runS (ix p.Actions c.Action).Body n i s)
 | 0, i, s => rfl
 | n + 1, i, s => by
   rw [gj, runS]
   simp only [LET, au9 n, stepS, decide_eq_true_eq]
   repeat' split
   all_goals first | rfl | contradiction
end
theorem ch3 {p : ab} {i : Int} : ∀ (n : Nat) (j : Int), (gz p i (fun _ => (0, 0)) n j).2 = 0 ↔ (True ∧ ∀ k, j ≤ k → k < j + n → ek { scope := { Program := p, Params := (ix p.Actions i).Params } } (ix (ix p.Actions i).Body k) = 0) :=
 oi (F := fun n j => (gz p i (fun _ => (0, 0)) n j).2) (fun i => by simp [gz]) (fun m j => by
  show (gz _ _ _ (m + 1) j).2 = 0 ↔ _
  rw [gz]
  simp only [LET]
  split
  ·rename_i h
   simp only [Bool.not_eq_true', decide_eq_false_iff_not] at h
   simp [h]
  ·rename_i h
   simp only [Bool.not_eq_true', decide_eq_false_iff_not, Decidable.not_not] at h
   simp [h])
theorem cn1 {p : ab} {i : Int} : (gw p i).2 = 0 ↔ (0 ≤ i ∧ i < p.Actions.length) ∧ ji (ix p.Actions i) = 0 ∧ ∀ k : Int, 0 ≤ k → k < (ix p.Actions i).Body.length → ek { scope := { Program := p, Params := (ix p.Actions i).Params } } (ix (ix p.Actions i).Body k) = 0 := by
 unfold gw
 simp only [LET]
 split
 ·rename_i h
  simp only [Bool.or_eq_true, decide_eq_true_eq] at h
  exact ⟨fun c => by simp at c, fun c => by omega⟩
 ·rename_i h
  simp only [Bool.or_eq_true, decide_eq_true_eq, not_or] at h
  split
  ·rename_i h2
   simp only [Bool.not_eq_true', decide_eq_false_iff_not] at h2
   exact ⟨fun c => absurd c h2, fun c => absurd c.2.1 h2⟩
  ·rename_i h2
   simp only [Bool.not_eq_true', decide_eq_false_iff_not, Decidable.not_not] at h2
   rw [ch3]
   exact ⟨fun c => ⟨by omega, h2, fun k h3 h4 => c.2 k h3 (by omega)⟩, fun c => ⟨trivial, fun k h3 h4 => c.2.2 k h3 (by omega)⟩⟩
theorem ck6 {p : ab} {c : bn} {e : au} {rs : List (List (BitVec 32))} (h : (gw p c.Action).2 = 0) (h2 : fy p c = 0) :
 dt p c e rs = ((runS (ix p.Actions c.Action).Body (ix p.Actions c.Action).Body.length 0 { scope := { Program := p, Params := (ix p.Actions c.Action).Params }, args := c.Args, env := e, regs := rs }).env, (runS (ix p.Actions c.Action).Body (ix p.Actions c.Action).Body.length 0 { scope := { Program := p, Params := (ix p.Actions c.Action).Params }, args := c.Args, env := e, regs := rs }).regs) := by
 unfold dt
 simp only [LET]
 rw [if_neg (by simp [h, h2]), au9, show Int.toNat (((ix p.Actions c.Action).Body.length : Int) - 0) = (ix p.Actions c.Action).Body.length by omega]
 rfl
theorem cj7 {p : ab} {c : bn} {e : au} {rs : List (List (BitVec 32))} (h2 : fy p c ≠ 0) : dt p c e rs = (e, rs) := by
 unfold dt
 simp only [LET]
 rw [if_pos (by simp [h2])]
 rfl
theorem al5 {α : Type} [Inhabited α] {l : List α} {x : α} (h : x ∈ l) : ∃ j : Int, 0 ≤ j ∧ j < l.length ∧ ix l j = x := by
 obtain ⟨n, hn, rfl⟩ := List.getElem_of_mem h
 exact ⟨n, by omega, by omega, ay8 hn⟩
theorem hasF {l : List aa} {x : aa} (h : x ∈ l) : jh l x = true := by
 unfold jh
 obtain ⟨j, h0, h1, h2⟩ := al5 h
 have : ∀ (n : Nat) (i : Int), i ≤ j → j < i + n → jx l x (fun _ => false) n i = true := by
  intro n
  induction n with
  | zero => intro i h3 h4; omega
  | succ n ih =>
    intro i h3 h4
    rw [jx]
    split
    ·rfl
    ·rename_i h5
     simp only [decide_eq_true_eq] at h5
     exact ih _ (by have : i ≠ j := fun e => h5 (e ▸ h2); omega) (by omega)
 exact this _ 0 h0 (by omega)
theorem hasI {l : List Int} {x : Int} (h : x ∈ l) : kv l x = true := by
 unfold kv
 obtain ⟨j, h0, h1, h2⟩ := al5 h
 have : ∀ (n : Nat) (i : Int), i ≤ j → j < i + n → lu l x (fun _ => false) n i = true := by
  intro n
  induction n with
  | zero => intro i h3 h4; omega
  | succ n ih =>
    intro i h3 h4
    rw [lu]
    split
    ·rfl
    ·rename_i h5
     simp only [decide_eq_true_eq] at h5
     exact ih _ (by have : i ≠ j := fun e => h5 (e ▸ h2); omega) (by omega)
 exact this _ 0 h0 (by omega)
structure WR (p : ab) (a b : List Int) (c : List aa) (x : ak) : Prop where
 d : x.Kind = 1 ∨ x.Kind = 4 → x.Dst ∈ c
 h : x.Kind = 2 ∨ x.Kind = 3 → x.Header ∈ b ∧ ∀ f : Int, 0 ≤ f → f < (ix p.Headers x.Header).Fields.length → { Header := x.Header, Field := f } ∈ c
 r : x.Kind = 5 → x.Register ∈ a
theorem WR.mono {p : ab} {a b a' b' : List Int} {c c' : List aa} {x : ak} (H : WR p a b c x) (h1 : ∀ z ∈ a, z ∈ a') (h2 : ∀ z ∈ b, z ∈ b') (h3 : ∀ z ∈ c, z ∈ c') : WR p a' b' c' x :=
 ⟨fun k => h3 _ (H.d k), fun k => ⟨h2 _ (H.h k).1, fun f f0 f1 => h3 _ ((H.h k).2 f f0 f1)⟩, fun k => h1 _ (H.r k)⟩
section
variable {γ : Type} {R : (List aa) × (List Int) × (List Int) → Prop} {p : ab} {B : List ak}
theorem cx0 {y : Int} {K : List Int → List Int → List aa → (List aa) × (List Int) × (List Int)} {a b : List Int} : ∀ (m : Nat) (x : Int) (c : List aa),
 (∀ c', (∀ z ∈ c, z ∈ c') → (∀ f : Int, x ≤ f → f < x + m → { Header := (ix B y).Header, Field := f } ∈ c') → R (K a b c')) → R (jl B y K m x a b c)
 | 0, x, c, H => H c (fun z hz => hz) (fun f h1 h2 => by omega)
 | m + 1, x, c, H => by
   rw [jl]
   refine cx0 m (x + 1) _ fun c' h1 h2 => H c' (fun z hz => h1 z (List.mem_append_left _ hz)) (fun f h3 h4 => ?_)
   by_cases e : f = x
   ·subst e; exact h1 _ (List.mem_append_right _ (List.mem_singleton.2 rfl))
   ·exact h2 f (by omega) (by omega)
theorem cy3 {K : List Int → List Int → List aa → (List aa) × (List Int) × (List Int)} : ∀ (m : Nat) (i : Int) (a b : List Int) (c : List aa), 0 ≤ i →
 (∀ k : Int, 0 ≤ k → k < i → WR p a b c (ix B k)) → (∀ a b c, (∀ k : Int, 0 ≤ k → k < i + m → WR p a b c (ix B k)) → R (K a b c)) → R (fx p B K m i a b c)
 | 0, i, a, b, c, h0, H, HK => HK a b c (fun k h1 h2 => H k h1 (by omega))
 | m + 1, i, a, b, c, h0, H, HK => by
   have go : ∀ (a' b' : List Int) (c' : List aa), (∀ z ∈ a, z ∈ a') → (∀ z ∈ b, z ∈ b') → (∀ z ∈ c, z ∈ c') → WR p a' b' c' (ix B i) → R (fx p B K m (i + 1) a' b' c') := fun a' b' c' h1 h2 h3 h4 =>
    cy3 m (i + 1) a' b' c' (by omega) (fun k k0 k1 => by
     by_cases e : k = i
     ·rw [e]; exact h4
     ·exact (H k k0 (by omega)).mono h1 h2 h3) (fun a b c hh => HK a b c fun k k0 k1 => hh k k0 (by omega))
   rw [fx]
   simp only [LET]
   have kd : (ix B i).Kind = 1 ∨ (ix B i).Kind = 4 → R (fx p B K m (i + 1) a b (c ++ [(ix B i).Dst])) := fun k =>
    go a b _ (fun z h => h) (fun z h => h) (fun z h => List.mem_append_left _ h) ⟨fun _ => List.mem_append_right _ (List.mem_singleton.2 rfl), fun c => by omega, fun c => by omega⟩
   have kh : (ix B i).Kind = 2 ∨ (ix B i).Kind = 3 → R (jl B i (fun a b c => fx p B K m (i + 1) a b c) (Int.toNat ((((ix p.Headers ((ix B i).Header)).Fields).length : Int) - 0)) 0 a (b ++ [(ix B i).Header]) c) := fun k =>
    cx0 _ _ _ fun c' h1 h2 => go a _ c' (fun z h => h) (fun z h => List.mem_append_left _ h) h1 ⟨fun c => by omega, fun _ => ⟨List.mem_append_right _ (List.mem_singleton.2 rfl), fun f f0 f1 => h2 f f0 (by omega)⟩, fun c => by omega⟩
   simp only [decide_eq_true_eq]
   by_cases k1 : (ix B i).Kind = 1
   ·simp only [k1, if_true]; exact kd (.inl k1)
   ·by_cases k4 : (ix B i).Kind = 4
    ·simp only [k1, k4, if_true, if_false]
     simpa [k1, k4] using kd (.inr k4)
    ·by_cases k2 : (ix B i).Kind = 2
     ·simpa [k2] using kh (.inl k2)
     ·by_cases k3 : (ix B i).Kind = 3
      ·simpa [k3] using kh (.inr k3)
      ·by_cases k5 : (ix B i).Kind = 5
       ·simpa [k5] using go (a ++ [(ix B i).Register]) b c (fun z h => List.mem_append_left _ h) (fun z h => h) (fun z h => h) ⟨fun c => by omega, fun c => by omega, fun _ => List.mem_append_right _ (List.mem_singleton.2 rfl)⟩
       ·simpa [k1, k2, k3, k4, k5] using go a b c (fun z h => h) (fun z h => h) (fun z h => h) ⟨fun c => by omega, fun c => by omega, fun c => by omega⟩
end
theorem bq6 (p : ab) (i : Int) : ∀ k : Int, 0 ≤ k → k < (jm p i).length → WR p (fb p i).2.2 (fb p i).2.1 (fb p i).1 (ix (jm p i) k) := by
 unfold fb
 simp only [LET]
 generalize jm p i = B
 refine cy3 (R := fun w => ∀ k : Int, 0 ≤ k → k < B.length → WR p w.2.2 w.2.1 w.1 (ix B k)) (p := p) (B := B) _ 0 [] [] [] (Int.le_refl 0) (fun k h1 h2 => by omega) fun a b c H k h1 h2 => ?_
 refine (H k h1 (by omega)).mono ?_ ?_ ?_
 ·intro z hz; show z ∈ cpt (a.mergeSort _); rw [ap8, List.mem_mergeSort]; exact hz
 ·intro z hz; show z ∈ cpt (b.mergeSort _); rw [ap8, List.mem_mergeSort]; exact hz
 ·intro z hz; show z ∈ cpt (c.mergeSort _); rw [ap8, List.mem_mergeSort]; exact hz
section
variable {p : ab} {e : au} {r d : aa} {v : BitVec 32}
theorem cf9 (hr : r.Header = -1 ∨ 0 ≤ r.Header) (hd : d ≠ r) : fm (mr p e d v) r = fm e r := by
 unfold mr
 split
 ·rename_i h
  simp only [Bool.and_eq_true] at h
  generalize v &&& ck _ = w
  obtain ⟨dh, df⟩ := d
  obtain ⟨rh, rf⟩ := r
  simp only at hr
  unfold putF
  rcases bi8 h.1 with ⟨a, b, c⟩ | ⟨a, b, c, c', d', f, g⟩
  ·simp only at a b c
   subst a
   simp only [if_true]
   unfold fm js re
   simp only [LET, List.length_set]
   by_cases k : rh = -1
   ·subst k
    simp only [decide_true, if_true]
    by_cases k2 : 0 ≤ rf ∧ rf < e.Metd.length
    ·rw [mq k2.1 k2.2 b, if_neg (show ¬ rf = df from fun x => hd (by rw [x]))]
    ·have : (decide (0 ≤ rf) && decide (rf < (e.Metd.length : Int))) = false := by simp; omega
     simp [this]
   ·simp only [k, decide_false, Bool.false_eq_true, if_false]
  ·simp only at a b c c' d' f g
   simp only [a, if_false]
   unfold fm js re
   simp only [LET, List.length_set]
   by_cases k : rh = -1
   ·simp only [k, decide_true, if_true]
   ·simp only [k, decide_false, Bool.false_eq_true, if_false]
    by_cases k2 : 0 ≤ rh ∧ rh < e.Fields.length
    ·rw [mq k2.1 k2.2 b]
     by_cases k3 : rh = dh
     ·subst k3
      simp only [if_true, List.length_set]
      by_cases k4 : 0 ≤ rf ∧ rf < (ix e.Fields rh).length
      ·rw [mq k4.1 k4.2 f, if_neg (show ¬ rf = df from fun x => hd (by rw [x]))]
      ·have : (decide (0 ≤ rh) && decide (rh < (e.Fields.length : Int)) && decide (0 ≤ rf) && decide (rf < ((ix e.Fields rh).length : Int))) = false := by
        simp only [Bool.and_eq_false_imp, Bool.and_eq_true, decide_eq_true_eq, decide_eq_false_iff_not]; omega
       simp [this]
     ·simp only [k3, if_false]
    ·have : ∀ q, (decide (0 ≤ rh) && decide (rh < (e.Fields.length : Int)) && decide (0 ≤ rf) && q) = false := fun q => by
      have : (decide (0 ≤ rh) && decide (rh < (e.Fields.length : Int))) = false := by simp; omega
      simp [this]
     simp [this]
 ·rfl
theorem dg7 {i : Int} {a b : Bool} (hr : r.Header = -1 ∨ 0 ≤ r.Header) (hd : i ≠ r.Header) : fm (ga p e i a b) r = fm e r := by
 unfold ga
 split
 ·rfl
 ·rename_i h
  simp only [Bool.or_eq_true, not_or, Bool.not_eq_true, Bool.not_eq_false', il, lj, Bool.and_eq_true, decide_eq_true_eq] at h
  obtain ⟨⟨⟨b0, b1⟩, b2⟩, _⟩ := h
  obtain ⟨rh, rf⟩ := r
  simp only at hr hd
  unfold swE fm js re
  simp only [LET, List.length_set]
  by_cases k : rh = -1
  ·simp only [k, decide_true, if_true]
  ·simp only [k, decide_false, Bool.false_eq_true, if_false]
   by_cases k2 : 0 ≤ rh ∧ rh < e.Fields.length
   ·rw [mq k2.1 k2.2 b0, if_neg (show ¬ rh = i from fun x => hd x.symm)]
    by_cases k3 : rh < e.Valid.length
    ·rw [mq k2.1 k3 b0, if_neg (show ¬ rh = i from fun x => hd x.symm)]
    ·have : ∀ q, (decide (0 ≤ rh) && decide (rh < (e.Valid.length : Int)) && q) = false := fun q => by simp [k3]
     simp [this]
   ·have : ∀ q q2, (decide (0 ≤ rh) && decide (rh < (e.Fields.length : Int)) && q && q2) = false := fun q q2 => by
     have : (decide (0 ≤ rh) && decide (rh < (e.Fields.length : Int))) = false := by simp; omega
     simp [this]
    simp [this]
theorem br2 : (mr p e d v).Valid = e.Valid ∧ (mr p e d v).Payload = e.Payload := by
 unfold mr putF
 repeat' split
 all_goals exact ⟨rfl, rfl⟩
theorem by8 {i : Int} {a b : Bool} : (ga p e i a b).Valid.length = e.Valid.length ∧ (ga p e i a b).Payload = e.Payload ∧ ∀ k : Int, 0 ≤ k → k < e.Valid.length → i ≠ k → ix (ga p e i a b).Valid k = ix e.Valid k := by
 unfold ga
 split
 ·exact ⟨rfl, rfl, fun k _ _ _ => rfl⟩
 ·rename_i h
  simp only [Bool.or_eq_true, not_or, Bool.not_eq_true, Bool.not_eq_false', il, lj, Bool.and_eq_true, decide_eq_true_eq] at h
  obtain ⟨⟨⟨b0, b1⟩, b2⟩, _⟩ := h
  unfold swE
  refine ⟨by simp only [List.length_set], rfl, fun k k0 k1 k2 => ?_⟩
  simp only
  rw [mq k0 k1 b0, if_neg (fun x => k2 x.symm)]
theorem cy9 {rs : List (List (BitVec 32))} {r : Int} {i v : BitVec 32} : (gn p rs r i v).length = rs.length ∧ ∀ k : Int, 0 ≤ k → k < rs.length → r ≠ k → ix (gn p rs r i v) k = ix rs k := by
 unfold gn
 split
 ·rename_i h
  simp only [Bool.and_eq_true] at h
  obtain ⟨⟨r0, r1⟩, r2, r3⟩ := al3 rfl h.1
  refine ⟨List.length_set, fun k k0 k1 k2 => ?_⟩
  rw [mq k0 k1 r0, if_neg (fun x => k2 x.symm)]
 ·exact ⟨rfl, fun k _ _ _ => rfl⟩
end
structure CF (p : ab) (a b : List Int) (c : List aa) (e0 : au) (r0 : List (List (BitVec 32))) (e : au) (rs : List (List (BitVec 32))) : Prop where
 vl : e.Valid.length = e0.Valid.length
 pl : e.Payload = e0.Payload
 rl : rs.length = r0.length
 g : ∀ r : aa, (r.Header = -1 ∨ (0 ≤ r.Header ∧ 0 ≤ r.Field ∧ r.Field < (ix p.Headers r.Header).Fields.length)) → r ∉ c → fm e r = fm e0 r
 v : ∀ i : Int, 0 ≤ i → i < e0.Valid.length → i ∉ b → ix e.Valid i = ix e0.Valid i
 r : ∀ i : Int, 0 ≤ i → i < r0.length → i ∉ a → ix rs i = ix r0 i
section
variable {p : ab} {a b : List Int} {c : List aa} {e0 e : au} {r0 rs : List (List (BitVec 32))}
theorem CF.set (H : CF p a b c e0 r0 e rs) {q : ab} {d : aa} {v : BitVec 32} (hd : d ∈ c) : CF p a b c e0 r0 (mr q e d v) rs := by
 have hv := br2 (p := q) (e := e) (d := d) (v := v)
 exact ⟨by rw [hv.1]; exact H.vl, by rw [hv.2]; exact H.pl, H.rl, fun r h1 h2 => by rw [cf9 (by omega) (by rintro rfl; exact h2 hd)]; exact H.g r h1 h2, fun i h1 h2 h3 => by rw [hv.1]; exact H.v i h1 h2 h3, H.r⟩
theorem CF.sw (H : CF p a b c e0 r0 e rs) {q : ab} {i : Int} {x y : Bool} (hb : i ∈ b) (hf : ∀ f : Int, 0 ≤ f → f < (ix p.Headers i).Fields.length → { Header := i, Field := f } ∈ c) (hi : 0 ≤ i) : CF p a b c e0 r0 (ga q e i x y) rs := by
 have hv := by8 (p := q) (e := e) (i := i) (a := x) (b := y)
 refine ⟨by rw [hv.1]; exact H.vl, by rw [hv.2.1]; exact H.pl, H.rl, fun r h1 h2 => ?_, fun k h1 h2 h3 => ?_, H.r⟩
 ·rw [dg7 (by omega)]
  ·exact H.g r h1 h2
  ·intro x
   rcases h1 with h1 | ⟨h1, h4, h5⟩
   ·omega
   ·exact h2 (by have := hf r.Field h4 (by rw [x]; exact h5); rw [x] at this; exact this)
 ·rw [hv.2.2 k h1 (by rw [H.vl]; exact h2) (fun x => h3 (x ▸ hb))]
  exact H.v k h1 h2 h3
theorem CF.wr (H : CF p a b c e0 r0 e rs) {q : ab} {r : Int} {i v : BitVec 32} (hr : r ∈ a) : CF p a b c e0 r0 e (gn q rs r i v) := by
 have hv := cy9 (p := q) (rs := rs) (r := r) (i := i) (v := v)
 exact ⟨H.vl, H.pl, by rw [hv.1]; exact H.rl, H.g, H.v, fun k h1 h2 h3 => by rw [hv.2 k h1 (by rw [H.rl]; exact h2) (fun x => h3 (x ▸ hr))]; exact H.r k h1 h2 h3⟩
theorem CF.step {s : aw} {x : ak} (H : CF p a b c e0 r0 s.env s.regs) (hw : WR p a b c x) (hk : 1 ≤ x.Kind ∧ x.Kind ≤ 5) (hh : x.Kind = 2 ∨ x.Kind = 3 → 0 ≤ x.Header) : CF p a b c e0 r0 (stepS s x).env (stepS s x).regs := by
 unfold stepS
 by_cases k2 : x.Kind = 2
 ·rw [if_pos k2]
  exact H.sw (hw.h (.inl k2)).1 (hw.h (.inl k2)).2 (hh (.inl k2))
 ·rw [if_neg k2]
  by_cases k3 : x.Kind = 3
  ·rw [if_pos k3]
   exact H.sw (hw.h (.inr k3)).1 (hw.h (.inr k3)).2 (hh (.inr k3))
  ·rw [if_neg k3]
   by_cases k4 : x.Kind = 4
   ·rw [if_pos k4]
    exact H.set (hw.d (.inr k4))
   ·rw [if_neg k4]
    by_cases k5 : x.Kind = 5
    ·rw [if_pos k5]
     exact H.wr (hw.r k5)
    ·rw [if_neg k5]
     exact H.set (hw.d (.inl (by omega)))
theorem CF.run {B : List ak} : ∀ (n : Nat) (i : Int) (s : aw), 0 ≤ i → (∀ k : Int, 0 ≤ k → k < i + n → WR p a b c (ix B k) ∧ (1 ≤ (ix B k).Kind ∧ (ix B k).Kind ≤ 5) ∧ ((ix B k).Kind = 2 ∨ (ix B k).Kind = 3 → 0 ≤ (ix B k).Header)) → CF p a b c e0 r0 s.env s.regs → CF p a b c e0 r0 (runS B n i s).env (runS B n i s).regs
 | 0, i, s, h0, hw, H => H
 | n + 1, i, s, h0, hw, H => by
   rw [runS]
   have h := hw i h0 (by omega)
   exact CF.run n (i + 1) _ (by omega) (fun k h1 h2 => hw k h1 (by omega)) (H.step h.1 h.2.1 h.2.2)
end
theorem aw7 {q : cz} {x : ak} (h : ek q x = 0) : (1 ≤ x.Kind ∧ x.Kind ≤ 5) ∧ (x.Kind = 2 ∨ x.Kind = 3 → 0 ≤ x.Header ∧ x.Header < q.scope.Program.Headers.length) := by
 unfold ek at h
 simp only [LET, decide_eq_true_eq] at h
 by_cases k1 : x.Kind = 1
 ·omega
 ·rw [if_neg k1] at h
  by_cases k2 : x.Kind = 2
  ·simp only [k2, if_true, decide_true] at h
   split at h
   ·omega
   ·rename_i c
    simp only [Bool.or_eq_true, decide_eq_true_eq, not_or] at c
    omega
  ·rw [if_neg k2] at h
   by_cases k3 : x.Kind = 3
   ·simp only [k3, if_true, decide_true] at h
    split at h
    ·omega
    ·rename_i c
     simp only [Bool.or_eq_true, decide_eq_true_eq, not_or] at c
     omega
   ·simp only [k3, decide_false, Bool.false_eq_true, if_false] at h
    by_cases k4 : x.Kind = 4
    ·omega
    ·rw [if_neg k4] at h
     by_cases k5 : x.Kind = 5
     ·omega
     ·simp [k5] at h
theorem bo4 (p : ab) (c : bn) (e : au) (rs : List (List (BitVec 32))) : CF p (fb p c.Action).2.2 (fb p c.Action).2.1 (fb p c.Action).1 e rs (dt p c e rs).1 (dt p c e rs).2 := by
 have idn : CF p (fb p c.Action).2.2 (fb p c.Action).2.1 (fb p c.Action).1 e rs e rs := ⟨rfl, rfl, rfl, fun r _ _ => rfl, fun i _ _ _ => rfl, fun i _ _ _ => rfl⟩
 by_cases h1 : (gw p c.Action).2 = 0
 ·by_cases h2 : fy p c = 0
  ·rw [ck6 h1 h2]
   have hb : jm p c.Action = (ix p.Actions c.Action).Body := by
    unfold jm
    simp only [LET, h1]
    rfl
   have hw := bq6 p c.Action
   rw [hb] at hw
   have hc := (cn1.1 h1).2.2
   exact CF.run (p := p) (e0 := e) (r0 := rs) _ 0 _ (Int.le_refl 0) (fun k k0 k1 => ⟨hw k k0 (by omega), (aw7 (hc k k0 (by omega))).1, fun z => ((aw7 (hc k k0 (by omega))).2 z).1⟩) idn
  ·rw [cj7 h2]; exact idn
 ·have : dt p c e rs = (e, rs) := by
   unfold dt
   simp only [LET]
   rw [if_pos (by simp [h1])]
   rfl
  rw [this]; exact idn
theorem cu6 (l : List (BitVec 32)) : jk l l = true := by
 unfold jk
 rw [if_neg (by simp)]
 generalize (Int.toNat ((l.length : Int) - 0)) = n
 generalize (0 : Int) = i
 induction n generalizing i with
 | zero => rfl
 | succ n ih => rw [jg, if_neg (by simp)]; exact ih _
section
variable {x : bd} {y : au × (List (List (BitVec 32)))} {w : (List aa) × (List Int) × (List Int)}
theorem cf1 (H : ∀ f : Int, 0 ≤ f → jh w.1 { Header := -1, Field := f } = false → fm y.1 { Header := -1, Field := f } = fm x.E { Header := -1, Field := f }) {K : Unit → Bool} (hK : K () = true) : ∀ (n : Nat) (i : Int), 0 ≤ i → ia x y w K n i = true
 | 0, i, h => hK
 | n + 1, i, h => by
   rw [ia]
   simp only [LET]
   rw [if_neg]
   ·exact cf1 H hK n _ (by omega)
   ·simp only [Bool.and_eq_true, Bool.not_eq_true', decide_eq_false_iff_not, not_and, Decidable.not_not]
    exact H i h
theorem cf3 {i : Int} {N : Nat} (H : ∀ f : Int, 0 ≤ f → f < N → jh w.1 { Header := i, Field := f } = false → fm y.1 { Header := i, Field := f } = fm x.E { Header := i, Field := f }) {K : Unit → Bool} (hK : K () = true) : ∀ (n : Nat) (j : Int), 0 ≤ j → j + n ≤ N → ib x y w i K n j = true
 | 0, j, h, _ => hK
 | n + 1, j, h, h2 => by
   rw [ib]
   simp only [LET]
   rw [if_neg]
   ·exact cf3 H hK n _ (by omega) (by omega)
   ·simp only [Bool.and_eq_true, Bool.not_eq_true', decide_eq_false_iff_not, not_and, Decidable.not_not]
    exact H j h (by omega)
theorem cf2 {N : Nat} (H : ∀ i : Int, 0 ≤ i → i < N → (kv w.2.1 i = false → ix y.1.Valid i = ix x.E.Valid i) ∧ ∀ f : Int, 0 ≤ f → f < (ix x.P.Headers i).Fields.length → jh w.1 { Header := i, Field := f } = false → fm y.1 { Header := i, Field := f } = fm x.E { Header := i, Field := f }) {K : Unit → Bool} (hK : K () = true) : ∀ (n : Nat) (j : Int), 0 ≤ j → j + n ≤ N → ie x y w K n j = true
 | 0, j, h, _ => hK
 | n + 1, j, h, h2 => by
   rw [ie]
   simp only [LET]
   rw [if_neg]
   ·exact cf3 (H j h (by omega)).2 (cf2 H hK n _ (by omega) (by omega)) _ 0 (Int.le_refl 0) (by omega)
   ·simp only [Bool.and_eq_true, Bool.not_eq_true', decide_eq_false_iff_not, not_and, Decidable.not_not]
    exact (H j h (by omega)).1
theorem cf4 {N : Nat} (H : ∀ i : Int, 0 ≤ i → i < N → kv w.2.2 i = false → ix y.2 i = ix x.Regs i) {K : Unit → Bool} (hK : K () = true) : ∀ (n : Nat) (j : Int), 0 ≤ j → j + n ≤ N → ig x y w K n j = true
 | 0, j, h, _ => hK
 | n + 1, j, h, h2 => by
   rw [ig]
   simp only [LET]
   rw [if_neg]
   ·exact cf4 H hK n _ (by omega) (by omega)
   ·simp only [Bool.and_eq_true, Bool.not_eq_true', not_and, Bool.not_eq_false]
    intro h3
    rw [H j h (by omega) h3]
    exact cu6 _
end
theorem ActionConfines_law (x : bd) (hE : EB x.E) (hR : RB x.Regs) : lg x = true := by
 unfold lg
 simp only [LET]
 split
 ·rfl
 ·rename_i h
  simp only [Bool.or_eq_true, Bool.not_eq_true', not_or, Bool.not_eq_false] at h
  have hr := al7.1 h.2
  have H := bo4 x.P x.Call x.E x.Regs
  generalize dt x.P x.Call x.E x.Regs = y at H
  generalize fb x.P x.Call.Action = w at H
  have nf : ∀ {r : aa}, jh w.1 r = false → r ∉ w.1 := fun h1 h2 => by rw [hasF h2] at h1; cases h1
  have ni : ∀ {l : List Int} {r : Int}, kv l r = false → r ∉ l := fun h1 h2 => by rw [hasI h2] at h1; cases h1
  rw [if_neg (by simp [H.vl, H.rl, H.pl])]
  refine cf1 (fun f f0 f1 => H.g _ (.inl rfl) (nf f1)) ?_ _ 0 (Int.le_refl 0)
  refine cf2 (N := x.P.Headers.length) (fun i i0 i1 => ⟨fun h1 => H.v i i0 (by rw [hr.1.v]; exact i1) (ni h1), fun f f0 f1 h1 => H.g _ (.inr ⟨i0, f0, f1⟩) (nf h1)⟩) ?_ _ 0 (Int.le_refl 0) (by omega)
  exact cf4 (N := y.2.length) (fun i i0 i1 h1 => H.r i i0 (by rw [← H.rl]; exact i1) (ni h1)) rfl _ 0 (Int.le_refl 0) (by omega)
end Go.Proofs.YtmonnlkagniolaaGreat
