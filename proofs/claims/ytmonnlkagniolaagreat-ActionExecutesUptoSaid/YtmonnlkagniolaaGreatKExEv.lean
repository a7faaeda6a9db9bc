import Derived.Test.YtmonnlkagniolaaGreatKPmKpKx
set_option linter.unusedVariables false
set_option linter.unusedSimpArgs false
set_option maxRecDepth 100000
namespace Go.Proofs.YtmonnlkagniolaaGreat
open Go Go.Pb Go.RowKit
theorem oe (op : Int) : fe op = cj op := by
 rw [ry]
 unfold fe
 simp only [Bool.and_eq_true, decide_eq_true_eq]
theorem au8 (op : Int) : fe op ≤ 3 ∧ -1 ≤ fe op := by rw [oe]; exact vp op
theorem rar {op y : Int} (h : fe op = y) : y ≤ 3 ∧ -1 ≤ y := by rw [← h]; exact au8 op
theorem opl {x : Int} {op : Int} (h : x = fe op) : (5 ≤ op ∧ op ≤ 8 → x = 1) ∧ (9 ≤ op ∧ op ≤ 16 → x = 2) ∧ (op = 17 → x = 3) ∧ (op ≤ 4 → x ≤ 0) ∧ (18 ≤ op → x ≤ 0) := by
 rw [oe, ry] at h
 subst h
 split
 ·omega
 ·split
  ·omega
  ·split
   ·omega
   ·split <;> omega
theorem rval {w : Int} {y : Bool} (h : en w = y) (h2 : y = true) : 1 ≤ w ∧ w ≤ 32 := by
 rw [h2] at h
 unfold en at h
 simpa using h
theorem jor {p q : Prop} [Decidable p] [Decidable q] {x : Bool} (h : x = (if decide p = true then decide p else decide q)) (hx : x = false) : ¬p ∧ ¬q := by
 subst hx
 by_cases hp : p
 ·simp [hp] at h
 ·simp [hp] at h
  exact ⟨hp, h⟩
theorem rpow {w : Int} (h : 0 ≤ w ∧ w ≤ 32) : (io w).toNat = 2 ^ w.toNat := by
 have : ∃ k : Fin 33, w = (k.val : Int) := ⟨⟨w.toNat, by omega⟩, by simp; omega⟩
 obtain ⟨k, rfl⟩ := this
 clear h
 revert k
 decide +kernel
theorem aw4 {w : Int} (h : 0 ≤ w ∧ w ≤ 32) : io w ≠ 0#64 := by
 intro hc
 have h1 := rpow h
 rw [hc] at h1
 have h2 : 0 < 2 ^ w.toNat := Nat.two_pow_pos _
 have h3 : (0#64).toNat = 0 := rfl
 omega
theorem ct6 {w : Int} {b : Bool} {y : BitVec 64} (h : en w = b) (h2 : b = true) (h3 : io w = y) : y ≠ 0#64 := by
 have := rval h h2
 rw [← h3]
 exact aw4 (by omega)
theorem cd2 {n w : Int} {b : Bool} {y : BitVec 64} (h : en w = b) (h2 : (b = true ∧ ¬n < 0) ∧ ¬wr (32 - w) < n) (h3 : io n = y) : y ≠ 0#64 := by
 have := rval h h2.1.1
 rw [← h3]
 have e := h2.2
 rw [ek (by omega) (by omega)] at e
 exact aw4 (by omega)
theorem rslc {n w : Int} {b : Bool} (h2 : (b = true ∧ ¬n < 0) ∧ ¬wr (32 - w) < n) (hw : 1 ≤ w ∧ w ≤ 32 := by omega) : 0 ≤ n ∧ n ≤ 32 - w := by
 have e := h2.2
 rw [ek (by omega) (by omega)] at e
 omega
theorem at6 (w : Int) : ov w = iv w := rfl
theorem as3 (w : Int) : mw w = ca w := by
 by_cases h : 1 ≤ w ∧ w ≤ 32
 ·have : ∃ k : Fin 33, w = (k.val : Int) := ⟨⟨w.toNat, by omega⟩, by simp; omega⟩
  obtain ⟨k, rfl⟩ := this
  revert h
  revert k
  decide +kernel
 ·unfold mw ca en
  simp only [LET, lq]
  rw [if_pos (by simp; omega), if_pos (by simp; omega)]
theorem ck3 (x : aa) (s : aj) : qw x s = cp s x := by
 unfold qw cp
 simp only [LET, as3, at6]
 unfold md kp
 simp only [LET]
 by_cases h1 : x.Op = 1
 ·simp only [h1, decide_true, if_true]
  try rfl
 ·simp only [h1, decide_false, if_false, Bool.false_eq_true]
  by_cases h2 : x.Op = 2
  ·simp only [h2, decide_true, if_true]
   by_cases h3 : x.N = -1
   ·simp only [h3, decide_true, Bool.not_true, if_false, Bool.false_eq_true]
    by_cases h4 : (decide (x.W < 0) || decide ((s.Program.Metadata.length : Int) ≤ x.W)) = true
    ·simp only [h4, if_true, Bool.not_false]
    ·simp only [h4, if_false, Bool.not_true, Bool.false_eq_true]
   ·simp only [h3, decide_false, Bool.not_false, if_true]
    by_cases h5 : (decide (x.N < 0) || decide ((s.Program.Headers.length : Int) ≤ x.N)) = true
    ·simp only [h5, if_true, Bool.not_false]
    ·simp only [h5, if_false, Bool.false_eq_true]
     by_cases h4 : (decide (x.W < 0) || decide (((ix s.Program.Headers x.N).Fields.length : Int) ≤ x.W)) = true
     ·simp only [h4, if_true, Bool.not_false]
     ·simp only [h4, if_false, Bool.not_true, Bool.false_eq_true]
  ·simp only [h2, decide_false, if_false, Bool.false_eq_true]
theorem av7 (x : aa) : (∀ u, 5 ≤ x.Op ∧ x.Op ≤ 8 → ie x [u] = fd x [u, 0, 0]) ∧ (∀ u v, 9 ≤ x.Op ∧ x.Op ≤ 16 → ie x [u, v] = fd x [u, v, 0]) ∧ (∀ u v w, x.Op = 17 → ie x [u, v, w] = fd x [u, v, w]) := by
 refine ⟨fun u h => ?_, fun u v h => ?_, fun u v w h => ?_⟩
 ·have e0 : ix [u] 0 = u := rfl
  rw [ny _ _ _ _ (by omega)]
  unfold ie
  simp only [LET, e0]
  have : x.Op = 5 ∨ x.Op = 6 ∨ x.Op = 7 ∨ x.Op = 8 := by omega
  rcases this with h | h | h | h
  ·simp [h]
  ·simp [h]
  ·simp [h]
  ·simp only [h]
   by_cases h1 : x.N < 0
   ·simp [h1]
   ·unfold iv
    by_cases h2 : x.W < 1 ∨ 32 < x.W
    ·simp [h1, h2]
    ·have h3 : ¬x.W < 1 := by omega
     have h4 : ¬32 < x.W := by omega
     simp [h1, h3, h4]
 ·have e0 : ix [u, v] 0 = u := rfl
  have e1 : ix [u, v] 1 = v := rfl
  rw [ny _ _ _ _ (by omega)]
  unfold ie
  simp only [LET, e0, e1]
  have : x.Op = 9 ∨ x.Op = 10 ∨ x.Op = 11 ∨ x.Op = 12 ∨ x.Op = 13 ∨ x.Op = 14 ∨ x.Op = 15 ∨ x.Op = 16 := by omega
  rcases this with h | h | h | h | h | h | h | h <;> simp [h, at6]
 ·have e0 : ix [u, v, w] 0 = u := rfl
  have e1 : ix [u, v, w] 1 = v := rfl
  have e2 : ix [u, v, w] 2 = w := rfl
  rw [ny _ _ _ _ (by omega)]
  unfold ie
  simp only [LET, e0, e1, e2]
  simp [h]
def REL (r c : Int × Int × Int) : Prop := r.2.2 = c.2.2 ∧ (c.2.2 = 0 → r.1 = c.1 ∧ r.2.1 = c.2.1)
theorem REL.of_eq {r c : Int × Int × Int} (h : r = c) : REL r c := by subst h; exact ⟨rfl, fun _ => ⟨rfl, rfl⟩⟩
theorem br4 (s : aj) (n : List aa) (r1 : List aa → Int → aj → Int × Int × Int) (r2 : aj → List aa → Int → Int × Int × Int) (hr : ∀ z, REL (r1 n z s) (r2 s n z)) (K1 K2 : Int → List Int → Int × Int × Int) (j k : Nat) (hK : ∀ x (z : List Int), z.length = k → K1 x z = K2 x (z ++ List.replicate j 0)) :
 ∀ (m : Nat) (x i : Int) (z : List Int), (z.length : Int) = i → z.length + m = k → REL (kw n s r1 K1 m x i z) (cx s n r2 K2 m x i (z ++ List.replicate (m + j) 0))
 | 0, x, i, z, hi, hk => by
   rw [kw, cx, hK x z (by omega), Nat.zero_add]
   exact .of_eq rfl
 | m + 1, x, i, z, hi, hk => by
   rw [kw, cx]
   simp only [LET]
   obtain ⟨e1, e2⟩ := hr x
   by_cases hc : (r2 s n x).2.2 = 0
   ·have hd : (r1 n x s).2.2 = 0 := e1.trans hc
    rw [if_neg (show ¬(!decide ((r1 n x s).2.2 = 0)) = true by simp [hd]), if_neg (show ¬(!decide ((r2 s n x).2.2 = 0)) = true by simp [hc])]
    obtain ⟨e3, e4⟩ := e2 hc
    rw [e3, e4, show (z ++ List.replicate (m + 1 + j) (0 : Int)).set i.toNat (r2 s n x).1 = (z ++ [(r2 s n x).1]) ++ List.replicate (m + j) 0 by
     rw [show m + 1 + j = (m + j) + 1 by omega, List.replicate_succ, show i.toNat = z.length by omega]
     simp]
    exact br4 s n r1 r2 hr K1 K2 j k hK m _ _ _ (by simp; omega) (by simp; omega)
   ·have hd : ¬(r1 n x s).2.2 = 0 := fun h => hc (e1.symm.trans h)
    rw [if_pos (show (!decide ((r1 n x s).2.2 = 0)) = true by simp [hd]), if_pos (show (!decide ((r2 s n x).2.2 = 0)) = true by simp [hc])]
    exact ⟨e1, fun h => absurd h hc⟩
theorem bt9 : ∀ (k : Nat) (s : aj) (n : List aa) (a : Int), REL (il k n a s) (dc k s n a)
 | 0, s, n, a => .of_eq rfl
 | k + 1, s, n, a => by
   rw [il, dc]
   unfold mu dt
   simp only [LET, oe, ck3]
   split
   ·exact ⟨rfl, fun h => absurd h (by decide)⟩
   split
   ·exact ⟨rfl, fun h => absurd h (by decide)⟩
   split
   ·exact .of_eq rfl
   rename_i h1 h2 h3
   simp only [decide_eq_true_eq] at h2 h3
   have hb := vp (ix n a).Op
   have ho := opl (oe (ix n a).Op).symm
   have hz := ry (ix n a).Op
   obtain ⟨o1, o2, o3⟩ := av7 (ix n a)
   have main := br4 s n (il k) (dc k) (bt9 k s n) (fun x z => ((ie (ix n a) z).1, x, (ie (ix n a) z).2)) (fun x z => ((fd (ix n a) z).1, x, (fd (ix n a) z).2)) (3 - (cj (ix n a).Op).toNat) (cj (ix n a).Op).toNat ?_ (Int.toNat (cj (ix n a).Op - 0)) (wr (a + 1)) 0 [] rfl (by simp)
   ·rw [List.nil_append, show (cj (ix n a).Op - 0).toNat + (3 - (cj (ix n a).Op).toNat) = 3 by omega] at main
    exact main
   ·intro x z hz
    have hc : cj (ix n a).Op = 1 ∨ cj (ix n a).Op = 2 ∨ cj (ix n a).Op = 3 := by omega
    rcases hc with hc | hc | hc
    ·rw [hc] at hz ⊢
     have hl : z.length = 1 := hz
     match z, hl with
     | [u], _ => rw [show [u] ++ List.replicate (3 - Int.toNat 1) (0 : Int) = [u, 0, 0] from rfl, o1 u (by omega)]
    ·rw [hc] at hz ⊢
     have hl : z.length = 2 := hz
     match z, hl with
     | [u, v], _ => rw [show [u, v] ++ List.replicate (3 - Int.toNat 2) (0 : Int) = [u, v, 0] from rfl, o2 u v (by omega)]
    ·rw [hc] at hz ⊢
     have hl : z.length = 3 := hz
     match z, hl with
     | [u, v, w], _ => rw [show [u, v, w] ++ List.replicate (3 - Int.toNat 3) (0 : Int) = [u, v, w] from rfl, o3 u v w (by omega)]
theorem rel (s : aj) (n : List aa) (a : Int) : REL (nk n a s) (cn s n a) := bt9 _ s n a
theorem aw8 (k : Nat) (n : List aa) (a : Int) (s : aj) (ha : 0 ≤ a) (hn : n.length ≤ 1000000) (h : (il k n a s).2.2 = 0) : a < (il k n a s).2.1 := by
 obtain ⟨e1, e2⟩ := bt9 k s n a
 have h' := h
 rw [e1] at h'
 rw [(e2 h').2]
 exact rb k s n a ha hn h'
theorem wx (n : List aa) (s : aj) : lk n s = jq n s := by
 unfold lk jq
 simp only [LET]
 obtain ⟨e1, e2⟩ := rel s n 0
 split
 ·rfl
 ·rw [e1]
  by_cases hc : (cn s n 0).2.2 = 0
  ·rw [(e2 hc).1, (e2 hc).2]
  ·have hd : (!decide ((cn s n 0).2.2 = 0)) = true := by simp [hc]
   simp only [hd, if_true]
theorem cy2 {n : List aa} {s : aj} {y : Int × Int} (h : lk n s = y) (h2 : y.2 = 0) : Ok s n 0 := (iu (by rw [wx] at h; exact h) h2).2.1
theorem Ok.rw {s : aj} {n : List aa} {a : Int} (h : Ok s n a) : nk n a s = (wd s n a, nx s n a, 0) := by
 obtain ⟨e1, e2⟩ := rel s n a
 have := e2 h.ok
 exact Prod.ext this.1 (Prod.ext this.2 (e1.trans h.ok))
def EI (s : aj) (n : List aa) (a x i : Int) : Prop := (i = 0 ∧ x = a + 1) ∨ (i = 1 ∧ x = nx s n (a + 1)) ∨ (i = 2 ∧ x = nx s n (nx s n (a + 1))) ∨ (i = 3 ∧ x = nx s n (nx s n (nx s n (a + 1))))
section
variable {s : aj} {n : List aa} {a x i : Int}
theorem ej2 (h : Ok s n a) : EI s n a (wr (a + 1)) 0 := .inl ⟨rfl, h.wr1⟩
theorem av2 (h : EI s n a x i) : 0 ≤ i ∧ i ≤ 3 := by
 rcases h with h | h | h | h <;> omega
theorem br9 (hv : Ok s n a) (h : EI s n a x i) (hi : i < cj (ix n a).Op) : Ok s n x ∧ a < x := by
 rcases hv.step with t | t | t | t
 ·have := av2 h; omega
 ·rcases h with h | h | h | h
  ·rw [h.2]; exact ⟨t.2.1, by omega⟩
  all_goals omega
 ·have g1 := t.2.1.gt
  rcases h with h | h | h | h
  ·rw [h.2]; exact ⟨t.2.1, by omega⟩
  ·rw [h.2]; exact ⟨t.2.2.1, by omega⟩
  all_goals omega
 ·have g1 := t.2.1.gt
  have g2 := t.2.2.1.gt
  rcases h with h | h | h | h
  ·rw [h.2]; exact ⟨t.2.1, by omega⟩
  ·rw [h.2]; exact ⟨t.2.2.1, by omega⟩
  ·rw [h.2]; exact ⟨t.2.2.2.1, by omega⟩
  ·omega
theorem cz7 (hv : Ok s n a) (h : EI s n a x i) {y : Int} (hy : fe (ix n a).Op = y) (hi : i < y) : Ok s n x := (br9 hv h (by rw [← oe, hy]; exact hi)).1
theorem do4 (hv : Ok s n a) (h : EI s n a x i) {y : Int} (hy : fe (ix n a).Op = y) (hi : i < y) : n.length - x.toNat < n.length - a.toNat := by
 obtain ⟨k, l⟩ := br9 hv h (by rw [← oe, hy]; exact hi)
 have := k.lt
 have := hv.lo
 omega
theorem cm9 (h : EI s n a x i) {z : Int} (hz : z = nx s n x) (hi : i < 3 := by omega) : EI s n a z (i + 1) := by
 subst hz
 rcases h with h | h | h | h
 ·exact .inr (.inl ⟨by omega, by rw [h.2]⟩)
 ·exact .inr (.inr (.inl ⟨by omega, by rw [h.2]⟩))
 ·exact .inr (.inr (.inr ⟨by omega, by rw [h.2]⟩))
 ·omega
theorem Ok.arn (h : Ok s n a) : 0 ≤ cj (ix n a).Op := by
 rcases h.step with t | t | t | t <;> (have := t.1; omega)
theorem dx7 (h : Ok s n a) (h1 : ¬(ix n a).Op = 1) (h2 : ¬(ix n a).Op = 2) (h3 : ¬(ix n a).Op = 3) (h4 : ¬(ix n a).Op = 4) : 0 ≤ fe (ix n a).Op := by
 rw [oe]; exact h.arn
theorem dp7 (h : Ok s n a) (h1 : ¬(ix n a).Op = 1) (h2 : ¬(ix n a).Op = 2) (h3 : ¬(ix n a).Op = 3) (h4 : ¬(ix n a).Op = 4) : 1 ≤ fe (ix n a).Op := by
 rw [oe]
 have := h.arn
 have e := ry (ix n a).Op
 split at e
 ·omega
 ·split at e
  ·omega
  ·split at e
   ·omega
   ·split at e <;> omega
theorem lf0 (h : Ok s n a) (h1 : 1 ≤ (ix n a).Op ∧ (ix n a).Op ≤ 4) : cj (ix n a).Op = 0 ∧ (cp s (ix n a)).2 = 0 ∧ wd s n a = (cp s (ix n a)).1 ∧ nx s n a = a + 1 := by
 have e := ry (ix n a).Op
 rw [if_pos h1] at e
 rcases h.step with t | t | t | t
 ·exact t
 all_goals (have := t.1; omega)
theorem lf3 (h : Ok s n a) (h1 : (ix n a).Op = 3) : 0 ≤ (ix n a).N := pr3 (lf0 h (by omega)).2.1 h1
theorem lf4 (h : Ok s n a) (h1 : (ix n a).Op = 4) : 0 ≤ (ix n a).N := pr4 (lf0 h (by omega)).2.1 h1
end
section
variable {s : aj} {n : List aa} {a : Int} {e : ai} {g : List (BitVec 32)} (rec_ : List aa → Int → aj → ai → List (BitVec 32) → az)
def lfv (x : aa) (w : Int) (e : ai) (g : List (BitVec 32)) : BitVec 32 :=
 if x.Op = 1 then BitVec.ofInt 32 x.N else if x.Op = 2 then ee (BitVec.setWidth 64 (sn e { Header := x.N, Field := x.W })) w
 else if x.Op = 3 then (if x.N < (g.length : Int) then ee (BitVec.setWidth 64 (ix g x.N)) w else 0#32) else pm (decide (x.N < (e.Valid.length : Int)) && ix e.Valid x.N)
theorem rB0 (h : Ok s n a) (ha : cj (ix n a).Op = 0) : jv rec_ n a s e g = { V := lfv (ix n a) (wd s n a) e g, W := wd s n a, To := nx s n a } := by
 have ho : 1 ≤ (ix n a).Op ∧ (ix n a).Op ≤ 4 := by
  have e := ry (ix n a).Op
  split at e
  ·assumption
  ·split at e
   ·omega
   ·split at e
    ·omega
    ·split at e <;> omega
 obtain ⟨_, _, _, t⟩ := lf0 h ho
 unfold jv lfv
 simp only [LET, h.rw, h.wr1, t, decide_eq_true_eq]
 split
 ·rfl
 split
 ·rfl
 split
 ·split <;> rfl
 rw [if_pos (by omega)]
theorem rB1 (h : Ok s n a) (ha : ¬cj (ix n a).Op = 0) : jv rec_ n a s e g = jc n a s e g rec_ (fun x z => { V := im (ix n a) z, W := wd s n a, To := x }) (Int.toNat (cj (ix n a).Op)) (a + 1) 0 [] := by
 have ho : ¬(1 ≤ (ix n a).Op ∧ (ix n a).Op ≤ 4) := fun hc => ha (lf0 h hc).1
 unfold jv
 simp only [LET, h.rw, h.wr1, decide_eq_true_eq]
 rw [if_neg (by omega), if_neg (by omega), if_neg (by omega), if_neg (by omega), oe, Int.sub_zero]
theorem rL1 (K : Int → List az → az) (m : Nat) (x i : Int) (z : List az) (hi : i < cj (ix n a).Op) (h0 : 0 ≤ i) : jc n a s e g rec_ K (m + 1) x i z = jc n a s e g rec_ K m (rec_ n x s e g).To (i + 1) (z ++ [rec_ n x s e g]) := by
 have := vp (ix n a).Op
 rw [jc]
 simp only [LET, oe, decide_eq_true_eq]
 rw [if_pos hi, ek (by omega) (by omega)]
theorem ec4 (h : Ok s n a) (ha : cj (ix n a).Op = 1) : jv rec_ n a s e g = { V := im (ix n a) [rec_ n (a + 1) s e g], W := wd s n a, To := (rec_ n (a + 1) s e g).To } := by
 rw [rB1 rec_ h (by omega), ha, show Int.toNat 1 = 0 + 1 from rfl, rL1 _ _ _ _ _ _ (by omega) (by omega), jc]
 rfl
theorem ec8 (h : Ok s n a) (ha : cj (ix n a).Op = 2) : jv rec_ n a s e g = { V := im (ix n a) [rec_ n (a + 1) s e g, rec_ n (rec_ n (a + 1) s e g).To s e g], W := wd s n a, To := (rec_ n (rec_ n (a + 1) s e g).To s e g).To } := by
 rw [rB1 rec_ h (by omega), ha, show Int.toNat 2 = 0 + 1 + 1 from rfl, rL1 _ _ _ _ _ _ (by omega) (by omega), rL1 _ _ _ _ _ _ (by omega) (by omega), jc]
 rfl
theorem dr8 (h : Ok s n a) (ha : cj (ix n a).Op = 3) : jv rec_ n a s e g = { V := im (ix n a) [rec_ n (a + 1) s e g, rec_ n (rec_ n (a + 1) s e g).To s e g, rec_ n (rec_ n (rec_ n (a + 1) s e g).To s e g).To s e g], W := wd s n a, To := (rec_ n (rec_ n (rec_ n (a + 1) s e g).To s e g).To s e g).To } := by
 rw [rB1 rec_ h (by omega), ha, show Int.toNat 3 = 0 + 1 + 1 + 1 from rfl, rL1 _ _ _ _ _ _ (by omega) (by omega), rL1 _ _ _ _ _ _ (by omega) (by omega), rL1 _ _ _ _ _ _ (by omega) (by omega), jc]
 rfl
end
theorem py : ∀ (k : Nat) (n : List aa) (a : Int) (s : aj) (e : ai) (g : List (BitVec 32)), Ok s n a → (fi k n a s e g).To = nx s n a
 | 0, n, a, s, e, g, h => rfl
 | k + 1, n, a, s, e, g, h => by
   rw [fi]
   rcases h.step with t | t | t | t
   ·rw [rB0 _ h t.1]
   ·rw [ec4 _ h t.1, t.2.2.2.2]
    exact py k n _ s e g t.2.1
   ·rw [ec8 _ h t.1, t.2.2.2.2.2, py k n _ s e g t.2.1]
    exact py k n _ s e g t.2.2.1
   ·rw [dr8 _ h t.1, t.2.2.2.2.2.2, py k n _ s e g t.2.1, py k n _ s e g t.2.2.1]
    exact py k n _ s e g t.2.2.2.1
theorem Ok.ind {s : aj} {n : List aa} {P : Int → Prop} (st : ∀ a, Ok s n a → (∀ b, a < b → Ok s n b → P b) → P a) : ∀ a, Ok s n a → P a := by
 have : ∀ (m : Nat) (a : Int), n.length - a.toNat ≤ m → Ok s n a → P a := by
  intro m
  induction m with
  | zero => intro a hm h; have := h.lt; have := h.lo; omega
  | succ m ih =>
    intro a hm h
    refine st a h fun b hb hk => ih b ?_ hk
    have := h.lt; have := h.lo; omega
 exact fun a h => this _ a (Nat.le_refl _) h
theorem op_of {op k : Int} (h : cj op = k) (hk : 0 ≤ k) : (k = 0 → 1 ≤ op ∧ op ≤ 4) ∧ (k = 1 → 5 ≤ op ∧ op ≤ 8) ∧ (k = 2 → 9 ≤ op ∧ op ≤ 16) ∧ (k = 3 → op = 17) := by
 rw [ry] at h
 split at h
 ·omega
 ·split at h
  ·omega
  ·split at h
   ·omega
   ·split at h <;> omega
theorem aa1 {x : aa} {u v w : Int} (ho : 5 ≤ x.Op ∧ x.Op ≤ 17) (hu : 1 ≤ u ∧ u ≤ 32) (hv : x.Op = 17 → 1 ≤ v ∧ v ≤ 32) (h : (fd x [u, v, w]).2 = 0) : 1 ≤ (fd x [u, v, w]).1 ∧ (fd x [u, v, w]).1 ≤ 32 := by
 rw [ny x u v w ho] at h ⊢
 by_cases h5 : x.Op = 5
 ·rw [if_pos h5]; exact hu
 rw [if_neg h5] at h ⊢
 by_cases h6 : x.Op = 6 ∨ x.Op = 7
 ·rw [if_pos h6] at h ⊢
  split at h
  ·cases h
  ·rename_i hc; rw [if_neg hc]; exact hu
 rw [if_neg h6] at h ⊢
 by_cases h8 : x.Op = 8
 ·rw [if_pos h8] at h ⊢
  split at h
  ·cases h
  ·rename_i hc
   rw [if_neg hc]
   split at h
   ·cases h
   ·rename_i hd
    rw [if_neg hd]
    have hz : (iv x.W).2 = 0 := by omega
    have := sg hz
    exact this.2
 rw [if_neg h8] at h ⊢
 by_cases h14 : x.Op = 14
 ·rw [if_pos h14] at h ⊢
  have := sg h
  omega
 rw [if_neg h14] at h ⊢
 by_cases h17 : x.Op = 17
 ·rw [if_pos h17] at h ⊢
  split at h
  ·cases h
  ·rename_i hc; rw [if_neg hc]; exact hv h17
 rw [if_neg h17] at h ⊢
 split at h
 ·cases h
 ·rename_i hc
  rw [if_neg hc]
  split
  ·exact ⟨by decide, by decide⟩
  ·exact hu
section
variable {s : aj} {n : List aa}
theorem ag4 : ∀ {a : Int}, Ok s n a → 1 ≤ wd s n a ∧ wd s n a ≤ 32 := by
 intro a
 refine (Ok.ind (P := fun a => 1 ≤ wd s n a ∧ wd s n a ≤ 32) ?_) a
 intro a h ih
 have hlt := h.lt
 rcases h.step with t | t | t | t
 ·rw [t.2.2.1]; exact al8 t.2.1
 ·have o := (op_of t.1 (by omega)).2.1 rfl
  rw [t.2.2.2.1]
  exact aa1 (by omega) (ih _ (by omega) t.2.1) (by omega) t.2.2.1
 ·have o := (op_of t.1 (by omega)).2.2.1 rfl
  rw [t.2.2.2.2.1]
  exact aa1 (by omega) (ih _ (by omega) t.2.1) (by omega) t.2.2.2.1
 ·have o := (op_of t.1 (by omega)).2.2.2 rfl
  rw [t.2.2.2.2.2.1]
  have := t.2.1.gt
  exact aa1 (by omega) (ih _ (by omega) t.2.1) (fun _ => ih _ (by omega) t.2.2.1) t.2.2.2.2.1
theorem ud {w : Int} (h : 1 ≤ w ∧ w ≤ 32) : (ca w).toNat = 2 ^ w.toNat - 1 := by
 unfold ca
 simp only [LET, lq]
 rw [if_neg (by simp; omega), ek (by omega) (by omega)]
 have : ∃ k : Fin 33, w = (k.val : Int) := ⟨⟨w.toNat, by omega⟩, by simp; omega⟩
 obtain ⟨k, rfl⟩ := this
 revert h
 revert k
 decide +kernel
def FV (x : BitVec 32) (w : Int) : Prop := x.toNat < 2 ^ w.toNat
theorem tq {w : Int} (h : 1 ≤ w ∧ w ≤ 32) (x : BitVec 32) : FV (x &&& ca w) w := by
 unfold FV
 rw [BitVec.toNat_and, ud h, Nat.and_two_pow_sub_one_eq_mod]
 exact Nat.mod_lt _ (Nat.two_pow_pos _)
theorem qi {w : Int} (h : 1 ≤ w ∧ w ≤ 32) (x : BitVec 32) (hx : FV x w) : x &&& ca w = x := by
 apply BitVec.eq_of_toNat_eq
 rw [BitVec.toNat_and, ud h, Nat.and_two_pow_sub_one_eq_mod]
 exact Nat.mod_eq_of_lt hx
theorem ao7 (w : Int) : FV 0#32 w := Nat.two_pow_pos _
theorem ax6 {w : Int} (h : 1 ≤ w) : FV 1#32 w := by
 unfold FV
 have : 2 ^ 1 ≤ 2 ^ w.toNat := Nat.pow_le_pow_right (by omega) (by omega)
 show 1 < _
 omega
theorem bs1 {x : aa} {y : am} (hy : FV y.v y.w) (hw : 1 ≤ y.w ∧ y.w ≤ 32) (h8 : x.Op = 8 → 1 ≤ x.W ∧ x.W ≤ 32) (ho : 5 ≤ x.Op ∧ x.Op ≤ 8) : FV (lw x y).v (lw x y).w ∧ (lw x y).w = if x.Op = 8 then x.W else y.w := by
 unfold lw rd qx rc pn
 simp only [LET, decide_eq_true_eq]
 by_cases h5 : x.Op = 5
 ·rw [if_pos h5, if_neg (by omega)]; exact ⟨tq hw _, rfl⟩
 rw [if_neg h5]
 by_cases h6 : x.Op = 6
 ·rw [if_pos h6, if_neg (by omega)]; exact ⟨tq hw _, rfl⟩
 rw [if_neg h6]
 by_cases h7 : x.Op = 7
 ·rw [if_pos h7, if_neg (by omega)]
  refine ⟨?_, rfl⟩
  have := tq hw y.v
  unfold FV at this ⊢
  refine Nat.lt_of_le_of_lt ?_ this
  rw [BitVec.toNat_ushiftRight, Nat.shiftRight_eq_div_pow]
  exact Nat.div_le_self _ _
 rw [if_neg h7, if_pos (show x.Op = 8 by omega)]
 refine ⟨?_, rfl⟩
 split
 ·exact ao7 _
 ·exact tq (h8 (by omega)) _
theorem al3 {op : Int} {y z : am} (hy : FV y.v y.w) (hz : FV z.v z.w) (hw : 1 ≤ y.w ∧ y.w ≤ 32) (hv : 1 ≤ z.w ∧ z.w ≤ 32) (he : ¬op = 14 → y.w = z.w) (h14 : op = 14 → y.w + z.w ≤ 32) (ho : 9 ≤ op ∧ op ≤ 16) : FV (ke op y z).v (ke op y z).w ∧ (ke op y z).w = if op = 14 then y.w + z.w else if op = 15 ∨ op = 16 then 1 else y.w := by
 unfold ke rl rm mv re
 simp only [LET, decide_eq_true_eq]
 by_cases h9 : op = 9
 ·rw [if_pos h9, if_neg (by omega), if_neg (by omega)]; exact ⟨tq hw _, rfl⟩
 rw [if_neg h9]
 by_cases h10 : op = 10
 ·rw [if_pos h10, if_neg (by omega), if_neg (by omega)]; exact ⟨tq hw _, rfl⟩
 rw [if_neg h10]
 by_cases h11 : op = 11
 ·rw [if_pos h11, if_neg (by omega), if_neg (by omega)]
  refine ⟨?_, rfl⟩
  unfold FV at *
  rw [BitVec.toNat_and]
  exact Nat.lt_of_le_of_lt Nat.and_le_left hy
 rw [if_neg h11]
 by_cases h12 : op = 12
 ·rw [if_pos h12, if_neg (by omega), if_neg (by omega)]
  refine ⟨?_, rfl⟩
  unfold FV at *
  rw [← he (by omega)] at hz
  rw [BitVec.toNat_or]
  exact Nat.or_lt_two_pow hy hz
 rw [if_neg h12]
 by_cases h13 : op = 13
 ·rw [if_pos h13, if_neg (by omega), if_neg (by omega)]
  refine ⟨?_, rfl⟩
  unfold FV at *
  rw [← he (by omega)] at hz
  rw [BitVec.toNat_xor]
  exact Nat.xor_lt_two_pow hy hz
 rw [if_neg h13]
 by_cases hc : op = 14
 ·rw [if_pos hc, if_pos hc]
  have h32 := h14 hc
  rw [qu, ek (n := y.w + z.w) (by omega) (by omega), if_neg (by simp; omega)]
  refine ⟨?_, rfl⟩
  show FV ((y.v &&& ca y.w) <<< z.w.toNat ||| z.v &&& ca z.w) (y.w + z.w)
  rw [qi hw _ hy, qi hv _ hz]
  unfold FV at *
  rw [BitVec.toNat_or, BitVec.toNat_shiftLeft]
  have e : (y.w + z.w).toNat = y.w.toNat + z.w.toNat := by omega
  rw [e]
  refine Nat.or_lt_two_pow ?_ ?_
  ·refine Nat.lt_of_le_of_lt (Nat.mod_le _ _) ?_
   rw [Nat.shiftLeft_eq, Nat.pow_add]
   exact Nat.mul_lt_mul_of_pos_right hy (Nat.two_pow_pos _)
  ·refine Nat.lt_of_lt_of_le hz ?_
   exact Nat.pow_le_pow_right (by omega) (by omega)
 rw [if_neg hc, if_neg hc, if_pos (show op = 15 ∨ op = 16 by omega)]
 split
 ·split
  ·exact ⟨ax6 (by decide), rfl⟩
  ·exact ⟨ao7 _, rfl⟩
 ·split
  ·exact ⟨ax6 (by decide), rfl⟩
  ·exact ⟨ao7 _, rfl⟩
theorem do6 (m : bg) (x : aa) (h : (cp m.scope x).2 = 0) : FV (dz m x).1.v (dz m x).1.w ∧ (dz m x).1.w = (cp m.scope x).1 := by
 have hw := al8 h
 unfold dz
 simp only [LET]
 have fm := fun x => tq hw x
 split
 ·exact ⟨fm _, rfl⟩
 ·split
  ·exact ⟨fm _, rfl⟩
  ·split
   ·split
    ·exact ⟨fm _, rfl⟩
    ·exact ⟨fm _, rfl⟩
   ·split
    ·split
     ·exact ⟨fm _, rfl⟩
     ·exact ⟨fm _, rfl⟩
    ·exact ⟨fm _, rfl⟩
theorem bb7 (e : ai) (g : List (BitVec 32)) : ∀ {a : Int}, Ok s n a → FV (vl s e g n a).v (vl s e g n a).w ∧ (vl s e g n a).w = wd s n a := by
 intro a
 refine (Ok.ind (P := fun a => FV (vl s e g n a).v (vl s e g n a).w ∧ (vl s e g n a).w = wd s n a) ?_) a
 intro a h ih
 have hlt := h.lt
 rcases h.step with t | t | t | t
 ·rw [dv5 e g h t.1, t.2.2.1]
  exact do6 (mch s e g n (a + 1)) _ t.2.1
 ·have o := (op_of t.1 (by omega)).2.1 rfl
  obtain ⟨f1, w1⟩ := ih _ (by omega) t.2.1
  have k1 := ag4 t.2.1
  have hc := t.2.2.1
  rw [ec6 e g h t.1 t.2.1, t.2.2.2.1]
  rw [ny _ _ _ _ (by omega)] at hc ⊢
  have h8 : (ix n a).Op = 8 → 1 ≤ (ix n a).W ∧ (ix n a).W ≤ 32 := by
   intro h8
   rw [if_neg (by omega), if_neg (by omega), if_pos h8] at hc
   split at hc
   ·cases hc
   ·split at hc
    ·cases hc
    ·rename_i hd
     have hz : (iv (ix n a).W).2 = 0 := by omega
     exact (sg hz).2
  have := bs1 (x := ix n a) f1 (by rw [w1]; exact k1) h8 o
  refine ⟨this.1, ?_⟩
  rw [this.2]
  by_cases h5 : (ix n a).Op = 5
  ·rw [if_neg (by omega), if_pos h5]; exact w1
  rw [if_neg h5] at hc ⊢
  by_cases h6 : (ix n a).Op = 6 ∨ (ix n a).Op = 7
  ·rw [if_pos h6] at hc ⊢
   rw [if_neg (by omega)]
   split at hc
   ·cases hc
   ·rename_i hd; rw [if_neg hd]; exact w1
  rw [if_neg h6] at hc ⊢
  rw [if_pos (show (ix n a).Op = 8 by omega)] at hc ⊢
  rw [if_pos (show (ix n a).Op = 8 by omega)]
  split at hc
  ·cases hc
  ·rename_i hd
   rw [if_neg hd]
   split at hc
   ·cases hc
   ·rename_i hd; rw [if_neg hd]
 ·have o := (op_of t.1 (by omega)).2.2.1 rfl
  obtain ⟨f1, w1⟩ := ih _ (by omega) t.2.1
  have g1 := t.2.1.gt
  obtain ⟨f2, w2⟩ := ih _ (by omega) t.2.2.1
  have k1 := ag4 t.2.1
  have k2 := ag4 t.2.2.1
  have hc := t.2.2.2.1
  rw [dt8 e g h t.1 t.2.1 t.2.2.1, t.2.2.2.2.1]
  rw [ny _ _ _ _ (by omega), if_neg (by omega), if_neg (by omega), if_neg (by omega)] at hc ⊢
  by_cases h14 : (ix n a).Op = 14
  ·rw [if_pos h14] at hc ⊢
   have wo := sg hc
   rw [ek (by omega) (by omega)] at wo
   have := al3 (op := (ix n a).Op) f1 f2 (by rw [w1]; exact k1) (by rw [w2]; exact k2) (by omega) (by omega) o
   refine ⟨this.1, ?_⟩
   rw [this.2, if_pos h14, w1, w2, ek (by omega) (by omega)]
   exact wo.1.symm
  rw [if_neg h14, if_neg (by omega)] at hc ⊢
  split at hc
  ·cases hc
  ·rename_i hd
   rw [if_neg hd]
   have := al3 (op := (ix n a).Op) f1 f2 (by rw [w1]; exact k1) (by rw [w2]; exact k2) (by omega) (by omega) o
   refine ⟨this.1, ?_⟩
   rw [this.2, if_neg h14]
   split
   ·rfl
   ·exact w1
 ·have o := (op_of t.1 (by omega)).2.2.2 rfl
  have g1 := t.2.1.gt
  have g2 := t.2.2.1.gt
  obtain ⟨f2, w2⟩ := ih _ (by omega) t.2.2.1
  obtain ⟨f3, w3⟩ := ih _ (by omega) t.2.2.2.1
  have hc := t.2.2.2.2.1
  rw [t.2.2.2.2.2.1]
  rw [ny _ _ _ _ (by omega), if_neg (by omega), if_neg (by omega), if_neg (by omega), if_neg (by omega), if_pos o] at hc ⊢
  split at hc
  ·cases hc
  ·rename_i hd
   rw [if_neg hd, eg8 e g h t.1 t.2.1 t.2.2.1 t.2.2.2.1]
   split
   ·exact ⟨f2, w2⟩
   ·exact ⟨f3, by rw [w3]; omega⟩
end
theorem rv_t {w : Int} (h : 1 ≤ w ∧ w ≤ 32) : en w = true := by
 unfold en
 simpa using h
theorem sy {w : Int} (h : 1 ≤ w ∧ w ≤ 32) (x : BitVec 64) : (ee x w).toNat = x.toNat % 2 ^ w.toNat := by
 unfold ee
 simp only [LET, rv_t h]
 rw [if_neg (by simp), BitVec.toNat_setWidth, BitVec.toNat_umod, rpow (by omega)]
 have h1 : x.toNat % 2 ^ w.toNat < 2 ^ w.toNat := Nat.mod_lt _ (Nat.two_pow_pos _)
 have h2 : 2 ^ w.toNat ≤ 2 ^ 32 := Nat.pow_le_pow_right (by omega) (by omega)
 exact Nat.mod_eq_of_lt (by omega)
theorem ml {w : Int} (h : 1 ≤ w ∧ w ≤ 32) (x : BitVec 32) : (x &&& ca w).toNat = x.toNat % 2 ^ w.toNat := by
 rw [BitVec.toNat_and, ud h, Nat.and_two_pow_sub_one_eq_mod]
theorem uv (x : BitVec 32) : (BitVec.setWidth 64 x).toNat = x.toNat := by
 rw [BitVec.toNat_setWidth]
 have := x.isLt
 exact Nat.mod_eq_of_lt (by omega)
theorem se {w : Int} (h : 1 ≤ w ∧ w ≤ 32) (x : BitVec 32) : ee (BitVec.setWidth 64 x) w = x &&& ca w := by
 apply BitVec.eq_of_toNat_eq
 rw [sy h, ml h, uv]
theorem pdvd {w : Int} (h : 1 ≤ w ∧ w ≤ 32) (k : Nat) (hk : 32 ≤ k) : 2 ^ w.toNat ∣ 2 ^ k := Nat.pow_dvd_pow 2 (by omega)
theorem dk8 {w : Int} (h : 1 ≤ w ∧ w ≤ 32) {x : BitVec 32} (hx : FV x w) : uc x w = rd x w := by
 unfold uc rd
 simp only [LET, as3, se h, qi h x hx]
 apply BitVec.eq_of_toNat_eq
 rw [ml h, BitVec.toNat_sub, ud h, BitVec.toNat_not]
 obtain ⟨c, hc⟩ := pdvd h 32 (by omega)
 unfold FV at hx
 have x32 := x.isLt
 have hp : 0 < 2 ^ w.toNat := Nat.two_pow_pos _
 have h2 : 2 ^ w.toNat ≤ 2 ^ 32 := Nat.pow_le_pow_right (by omega) (by omega)
 have e : 2 ^ 32 - 1 - x.toNat = 2 ^ w.toNat * (c - 1) + (2 ^ w.toNat - 1 - x.toNat) := by
  have c1 : 1 ≤ c := by
   rcases Nat.eq_zero_or_pos c with h | h
   ·subst h; simp at hc
   ·exact h
  have : 2 ^ w.toNat * c = 2 ^ w.toNat * (c - 1) + 2 ^ w.toNat := by
   conv => lhs; rw [show c = (c - 1) + 1 by omega, Nat.mul_add, Nat.mul_one]
  omega
 rw [e, Nat.mul_add_mod, Nat.mod_eq_of_lt (a := 2 ^ w.toNat - 1 - x.toNat) (by omega)]
 rw [show 2 ^ 32 - x.toNat + (2 ^ w.toNat - 1) = (2 ^ w.toNat - 1 - x.toNat) + 2 ^ 32 by omega, Nat.add_mod_right]
 exact Nat.mod_eq_of_lt (by omega)
theorem ar9 {w : Int} (h : 1 ≤ w ∧ w ≤ 32) (N : Int) (hN : N ≤ 31) (K : BitVec 32 → BitVec 32) : ∀ (m : Nat) (z : BitVec 32) (i : Int), 0 ≤ i → i + m = N → z.toNat < 2 ^ w.toNat → ∃ z', mj N w K m z i = K z' ∧ z'.toNat = (z.toNat * 2 ^ m) % 2 ^ w.toNat
 | 0, z, i, h0, hi, hz => ⟨z, by rw [mj], by rw [Nat.pow_zero, Nat.mul_one, Nat.mod_eq_of_lt hz]⟩
 | m + 1, z, i, h0, hi, hz => by
   have e : (ee (2#64 * BitVec.setWidth 64 z) w).toNat = (2 * z.toNat) % 2 ^ w.toNat := by
    rw [sy h, BitVec.toNat_mul, uv, Nat.mod_mod_of_dvd _ (pdvd h 64 (by omega))]
    rfl
   obtain ⟨z', e1, e2⟩ := ar9 h N hN K m (ee (2#64 * BitVec.setWidth 64 z) w) (i + 1) (by omega) (by omega) (by rw [e]; exact Nat.mod_lt _ (Nat.two_pow_pos _))
   refine ⟨z', ?_, ?_⟩
   ·rw [mj, if_pos (by simp; omega)]
    exact e1
   ·rw [e2, e, Nat.mul_mod, Nat.mod_mod, ← Nat.mul_mod, Nat.pow_succ]
    congr 1
    rw [Nat.mul_comm 2, Nat.mul_assoc, Nat.mul_comm 2]
theorem az3 {w N : Int} (h : 1 ≤ w ∧ w ≤ 32) (hN : 0 ≤ N ∧ N ≤ 31) (x : BitVec 32) : ug x N w = qx x N w := by
 unfold ug qx
 simp only [LET, se h]
 obtain ⟨z', e1, e2⟩ := ar9 h N hN.2 (fun z => z) (Int.toNat (N - 0)) (x &&& ca w) 0 (by omega) (by omega) (tq h x)
 rw [e1]
 apply BitVec.eq_of_toNat_eq
 show z'.toNat = _
 rw [e2, ml h, ml h, BitVec.toNat_shiftLeft, Nat.mod_mod_of_dvd _ (pdvd h 32 (by omega)), Nat.shiftLeft_eq, Nat.mul_mod, Nat.mod_mod, ← Nat.mul_mod, show (max N 0).toNat = (N - 0).toNat by omega]
theorem as8 (N : Int) (hN : N ≤ 31) (K : BitVec 32 → BitVec 32) : ∀ (m : Nat) (z : BitVec 32) (i : Int), 0 ≤ i → i + m = N → ∃ z', mh N K m z i = K z' ∧ z'.toNat = z.toNat / 2 ^ m
 | 0, z, i, h0, hi => ⟨z, by rw [mh], by rw [Nat.pow_zero, Nat.div_one]⟩
 | m + 1, z, i, h0, hi => by
   have e : (z / 2#32).toNat = z.toNat / 2 := by rw [BitVec.toNat_udiv]; rfl
   obtain ⟨z', e1, e2⟩ := as8 N hN K m (z / 2#32) (i + 1) (by omega) (by omega)
   refine ⟨z', ?_, ?_⟩
   ·rw [mh, if_pos (by simp; omega)]
    exact e1
   ·rw [e2, e, Nat.div_div_eq_div_mul, Nat.pow_succ, Nat.mul_comm]
theorem az4 {w N : Int} (h : 1 ≤ w ∧ w ≤ 32) (hN : 0 ≤ N ∧ N ≤ 31) (x : BitVec 32) : ue x N w = rc x N w := by
 unfold ue rc
 simp only [LET, se h]
 obtain ⟨z', e1, e2⟩ := as8 N hN.2 (fun z => z) (Int.toNat (N - 0)) (x &&& ca w) 0 (by omega) (by omega)
 rw [e1]
 apply BitVec.eq_of_toNat_eq
 show z'.toNat = _
 rw [e2, BitVec.toNat_ushiftRight, Nat.shiftRight_eq_div_pow, show (max N 0).toNat = (N - 0).toNat by omega]
theorem bx9 {w N : Int} (h : 1 ≤ w ∧ w ≤ 32) (x : BitVec 32) : sd x N w = pn x N w := by
 unfold sd pn
 simp only [LET, rv_t h, lq, decide_eq_true h]
 split
 ·rfl
 rename_i hc
 simp only [Bool.or_eq_true, decide_eq_true_eq, not_or, Bool.not_true, Bool.false_eq_true, not_false_eq_true, true_and] at hc
 rw [ek (by omega) (by omega)] at hc
 apply BitVec.eq_of_toNat_eq
 rw [sy h, ml h, BitVec.toNat_udiv, uv, rpow (by omega), BitVec.toNat_ushiftRight, Nat.shiftRight_eq_div_pow]
theorem dh7 {w : Int} (h : 1 ≤ w ∧ w ≤ 32) (x y : BitVec 32) : uf x y w = rl x y w := by
 unfold uf rl
 simp only [LET]
 apply BitVec.eq_of_toNat_eq
 rw [sy h, ml h, BitVec.toNat_add, BitVec.toNat_add, uv, uv, Nat.mod_mod_of_dvd _ (pdvd h 64 (by omega)), Nat.mod_mod_of_dvd _ (pdvd h 32 (by omega))]
theorem dp6 {w : Int} (h : 1 ≤ w ∧ w ≤ 32) {x y : BitVec 32} (hx : FV x w) (hy : FV y w) : uj x y w = rm x y w := by
 unfold uj rm
 simp only [LET, rv_t h, se h, qi h x hx, qi h y hy]
 rw [if_neg (by simp)]
 apply BitVec.eq_of_toNat_eq
 rw [sy h, ml h, BitVec.toNat_sub, BitVec.toNat_sub, BitVec.toNat_add, uv, uv, rpow (by omega), Nat.mod_mod_of_dvd _ (pdvd h 64 (by omega)), Nat.mod_mod_of_dvd _ (pdvd h 32 (by omega))]
 obtain ⟨c, hc⟩ := pdvd h 32 (by omega)
 obtain ⟨d, hd⟩ := pdvd h 64 (by omega)
 unfold FV at hx hy
 have hp : 0 < 2 ^ w.toNat := Nat.two_pow_pos _
 have h2 : 2 ^ w.toNat ≤ 2 ^ 32 := Nat.pow_le_pow_right (by omega) (by omega)
 have x32 := x.isLt
 have y32 := y.isLt
 have pred : ∀ c : Nat, 1 ≤ c → 2 ^ w.toNat * c = 2 ^ w.toNat * (c - 1) + 2 ^ w.toNat := fun c hc => by
  conv => lhs; rw [show c = (c - 1) + 1 by omega, Nat.mul_add, Nat.mul_one]
 have c1 : 1 ≤ c := by
  rcases Nat.eq_zero_or_pos c with h | h
  ·subst h; simp at hc
  ·exact h
 have d1 : 1 ≤ d := by
  rcases Nat.eq_zero_or_pos d with h | h
  ·subst h; simp at hd
  ·exact h
 have e1 : 2 ^ 32 - y.toNat + x.toNat = 2 ^ w.toNat * (c - 1) + (2 ^ w.toNat - y.toNat + x.toNat) := by have := pred c c1; omega
 have e0 : 2 ^ w.toNat + x.toNat < 2 ^ 64 := by omega
 have e2 : 2 ^ 64 - y.toNat + (2 ^ w.toNat + x.toNat) % 2 ^ 64 = 2 ^ w.toNat * d + (2 ^ w.toNat - y.toNat + x.toNat) := by rw [Nat.mod_eq_of_lt e0]; omega
 rw [e1, e2, Nat.mul_add_mod, Nat.mul_add_mod]
theorem bn3 {u v : Int} (hu : 1 ≤ u) (hv : 1 ≤ v) (h : u + v ≤ 32) {x y : BitVec 32} (hx : FV x u) (hy : FV y v) : (ph x u y v).1 = (mv x u y v).1 := by
 unfold ph mv
 simp only [LET, rv_t ⟨hu, show u ≤ 32 by omega⟩, rv_t ⟨hv, show v ≤ 32 by omega⟩, qu, ek (n := u + v) (by omega) (by omega)]
 rw [if_neg (by simp; omega), if_neg (by simp; omega)]
 show _ = (x &&& ca u) <<< v.toNat ||| y &&& ca v
 apply BitVec.eq_of_toNat_eq
 rw [se ⟨hu, by omega⟩, se ⟨hv, by omega⟩, qi ⟨hu, by omega⟩ _ hx, qi ⟨hv, by omega⟩ _ hy, BitVec.toNat_or, BitVec.toNat_shiftLeft, BitVec.toNat_add, BitVec.toNat_setWidth, BitVec.toNat_mul, uv, rpow (by omega)]
 unfold FV at hx hy
 have hlt : (x.toNat + 1) * 2 ^ v.toNat ≤ 2 ^ 32 := by
  have h1 : (x.toNat + 1) * 2 ^ v.toNat ≤ 2 ^ u.toNat * 2 ^ v.toNat := Nat.mul_le_mul_right _ hx
  have h2 : 2 ^ u.toNat * 2 ^ v.toNat ≤ 2 ^ 32 := by rw [← Nat.pow_add]; exact Nat.pow_le_pow_right (by omega) (by omega)
  omega
 rw [Nat.add_mul, Nat.one_mul] at hlt
 have h3 : x.toNat * 2 ^ v.toNat < 2 ^ 32 := by omega
 rw [Nat.shiftLeft_eq, Nat.mod_eq_of_lt h3, Nat.mod_eq_of_lt (a := x.toNat * 2 ^ v.toNat) (b := 2 ^ 64) (by omega), Nat.mod_eq_of_lt h3, Nat.mod_eq_of_lt (by omega), Nat.mul_comm x.toNat, Nat.two_pow_add_eq_or_of_lt hy]
theorem ce5 {x : aa} {y : am} (t : Int) (ho : 5 ≤ x.Op ∧ x.Op ≤ 8) (hw : 1 ≤ y.w ∧ y.w ≤ 32) (hy : FV y.v y.w) (hN : x.Op = 6 ∨ x.Op = 7 → 0 ≤ x.N ∧ x.N ≤ 31) (h8 : x.Op = 8 → 1 ≤ x.W ∧ x.W ≤ 32) : im x [{ V := y.v, W := y.w, To := t }] = (lw x y).v := by
 have e0 : ix [({ V := y.v, W := y.w, To := t } : az)] 0 = { V := y.v, W := y.w, To := t } := rfl
 unfold im lw
 simp only [LET, e0]
 have : x.Op = 5 ∨ x.Op = 6 ∨ x.Op = 7 ∨ x.Op = 8 := by omega
 rcases this with h | h | h | h
 ·simp only [h, decide_true, if_true]; exact dk8 hw hy
 ·simp [h]; exact az3 hw (hN (by omega)) _
 ·simp [h]; exact az4 hw (hN (by omega)) _
 ·simp [h]; exact bx9 (h8 h) _
theorem ce7 (x : aa) (h : x.Op = 17) (a b c : az) : im x [a, b, c] = if a.V = 1#32 then b.V else c.V := by
 have e0 : ix [a, b, c] 0 = a := rfl
 have e1 : ix [a, b, c] 1 = b := rfl
 have e2 : ix [a, b, c] 2 = c := rfl
 unfold im
 simp [h, e0, e1, e2, LET]
theorem bi7 (b : Bool) : (re b).v = pm b := by cases b <;> rfl
theorem bp9 {x : aa} {y z : am} (t u : Int) (ho : 9 ≤ x.Op ∧ x.Op ≤ 16) (hw : 1 ≤ y.w ∧ y.w ≤ 32) (hv : 1 ≤ z.w ∧ z.w ≤ 32) (hy : FV y.v y.w) (hz : FV z.v z.w) (he : ¬x.Op = 14 → y.w = z.w) (h14 : x.Op = 14 → y.w + z.w ≤ 32) : im x [{ V := y.v, W := y.w, To := t }, { V := z.v, W := z.w, To := u }] = (ke x.Op y z).v := by
 have e0 : ix [({ V := y.v, W := y.w, To := t } : az), { V := z.v, W := z.w, To := u }] 0 = { V := y.v, W := y.w, To := t } := rfl
 have e1 : ix [({ V := y.v, W := y.w, To := t } : az), { V := z.v, W := z.w, To := u }] 1 = { V := z.v, W := z.w, To := u } := rfl
 unfold im ke
 simp only [LET, e0, e1]
 have : x.Op = 9 ∨ x.Op = 10 ∨ x.Op = 11 ∨ x.Op = 12 ∨ x.Op = 13 ∨ x.Op = 14 ∨ x.Op = 15 ∨ x.Op = 16 := by omega
 rcases this with h | h | h | h | h | h | h | h
 ·simp [h]; exact dh7 hw _ _
 ·simp [h]; exact dp6 hw hy (by rw [he (by omega)]; exact hz)
 ·simp [h]
 ·simp [h]
 ·simp [h]
 ·simp [h]; exact bn3 hw.1 hv.1 (h14 h) hy hz
 ·simp [h, bi7]
 ·simp [h, bi7]
theorem dk4 (e : ai) (r : ak) : sn e r = ww e r := by
 unfold sn ww gb fx pf ii nl ga
 simp only [LET]
 obtain ⟨H, F⟩ := r
 have hq : ((⟨H, F⟩ : ak) = { Header := -1, Field := F }) ↔ H = -1 := by
  constructor
  ·intro h; injection h
  ·intro h; rw [h]
 by_cases h : H = -1
 ·simp only [decide_eq_true h, decide_eq_true (hq.mpr h), if_true]
 ·simp only [decide_eq_false h, decide_eq_false (fun hc => h (hq.mp hc)), if_false, Bool.false_eq_true]
  by_cases h1 : H < 0 ∨ (e.Fields.length : Int) ≤ H
  ·have c1 : (decide (0 ≤ H) && decide (H < (e.Fields.length : Int))) = false := by simp; omega
   have c2 : (decide (H < 0) || decide ((e.Fields.length : Int) ≤ H)) = true := by simpa using h1
   simp [c1, c2]
   intros
   omega
  ·have c1 : (decide (0 ≤ H) && decide (H < (e.Fields.length : Int))) = true := by simp; omega
   have c2 : (decide (H < 0) || decide ((e.Fields.length : Int) ≤ H)) = false := by simp; omega
   rw [c1, c2]
   simp only [Bool.true_and, if_false, Bool.false_eq_true]
   by_cases h2 : H < 0 ∨ (e.Valid.length : Int) ≤ H
   ·have c3 : (decide (0 ≤ H) && decide (H < (e.Valid.length : Int))) = false := by simp; omega
    have c4 : (decide (H < 0) || decide ((e.Valid.length : Int) ≤ H)) = true := by simpa using h2
    rw [c3, c4]
    simp
   ·have c3 : (decide (0 ≤ H) && decide (H < (e.Valid.length : Int))) = true := by simp; omega
    have c4 : (decide (H < 0) || decide ((e.Valid.length : Int) ≤ H)) = false := by simp; omega
    rw [c3, c4]
    simp only [Bool.true_and, if_false, Bool.false_eq_true]
    cases ix e.Valid H <;> cases (decide (0 ≤ F) && decide (F < ((ix e.Fields H).length : Int))) <;> rfl
theorem bu0 (b : Bool) (m : bg) (x : aa) {w : Int} (hw : 1 ≤ w ∧ w ≤ 32) : pm b = (if b = true then 1#32 &&& ca w else 0#32 &&& ca w) := by
 cases b
 ·simp [pm]
 ·rw [if_pos rfl, qi hw 1#32 (ax6 hw.1)]; rfl
theorem dh8 {s : aj} {n : List aa} {a : Int} (e : ai) (g : List (BitVec 32)) (h : Ok s n a) (ha : cj (ix n a).Op = 0) : lfv (ix n a) (wd s n a) e g = (vl s e g n a).v := by
 have ho := (op_of ha (by omega)).1 rfl
 obtain ⟨_, hp, hw', _⟩ := lf0 h ho
 have hw := ag4 h
 rw [dv5 e g h ha]
 unfold lfv dz
 have hs : (mch s e g n (a + 1)).scope = s := rfl
 simp only [LET, hs, ← hw']
 show _ = (if decide ((ix n a).Op = 1) = true then (({ v := BitVec.ofInt 32 (ix n a).N &&& ca (wd s n a), w := wd s n a } : am), mch s e g n (a + 1)) else if decide ((ix n a).Op = 2) = true then (({ v := ww e { Header := (ix n a).N, Field := (ix n a).W } &&& ca (wd s n a), w := wd s n a } : am), mch s e g n (a + 1)) else if decide ((ix n a).Op = 3) = true then (if decide ((ix n a).N < (g.length : Int)) = true then (({ v := ix g (ix n a).N &&& ca (wd s n a), w := wd s n a } : am), mch s e g n (a + 1)) else (({ v := 0#32 &&& ca (wd s n a), w := wd s n a } : am), mch s e g n (a + 1))) else if decide ((ix n a).Op = 4) = true then (if (decide ((ix n a).N < (e.Valid.length : Int)) && ix e.Valid (ix n a).N) = true then (({ v := 1#32 &&& ca (wd s n a), w := wd s n a } : am), mch s e g n (a + 1)) else (({ v := 0#32 &&& ca (wd s n a), w := wd s n a } : am), mch s e g n (a + 1))) else _).1.v
 by_cases h1 : (ix n a).Op = 1
 ·rw [if_pos h1, if_pos (by simpa using h1)]
  show _ = BitVec.ofInt 32 (ix n a).N &&& ca (wd s n a)
  rw [qi hw]
  have hp' := hp
  unfold cp at hp'
  rw [if_pos (by simpa using h1)] at hp'
  simp only [LET] at hp'
  split at hp'
  ·cases hp'
  ·rename_i hc
   have hww : wd s n a = (iv (ix n a).W).1 := by
    rw [hw']
    unfold cp
    rw [if_pos (by simpa using h1)]
    simp only [LET]
    rw [if_neg hc]
   have hp2 : (iv (ix n a).W).2 = 0 := hp'
   rw [← hww] at hc
   simp only [hp2, decide_true, Bool.true_and, Bool.or_eq_true, decide_eq_true_eq, not_or] at hc
   have hm := ud hw
   unfold FV
   rw [BitVec.toNat_ofInt]
   have : 2 ^ (wd s n a).toNat ≤ 2 ^ 32 := Nat.pow_le_pow_right (by omega) (by omega)
   have hp0 : 0 < 2 ^ (wd s n a).toNat := Nat.two_pow_pos _
   omega
 ·rw [if_neg h1, if_neg (show ¬decide ((ix n a).Op = 1) = true by simpa using h1)]
  by_cases h2 : (ix n a).Op = 2
  ·rw [if_pos h2, if_pos (by simpa using h2), se hw, dk4]
  ·rw [if_neg h2, if_neg (show ¬decide ((ix n a).Op = 2) = true by simpa using h2)]
   by_cases h3 : (ix n a).Op = 3
   ·rw [if_pos h3, if_pos (show decide ((ix n a).Op = 3) = true by simpa using h3)]
    by_cases h5 : (ix n a).N < (g.length : Int)
    ·rw [if_pos h5, if_pos (by simpa using h5), se hw]
    ·rw [if_neg h5, if_neg (show ¬decide ((ix n a).N < (g.length : Int)) = true by simpa using h5)]
     simp
   ·rw [if_neg h3, if_neg (show ¬decide ((ix n a).Op = 3) = true by simpa using h3), if_pos (show decide ((ix n a).Op = 4) = true by simp; omega), bu0 _ (mch s e g n a) (ix n a) hw]
    split <;> rfl
theorem te : ∀ (k : Nat) (n : List aa) (a : Int) (s : aj) (e : ai) (g : List (BitVec 32)), Ok s n a → n.length - a.toNat < k → fi k n a s e g = { V := (vl s e g n a).v, W := (vl s e g n a).w, To := nx s n a }
 | 0, n, a, s, e, g, h, hk => by omega
 | k + 1, n, a, s, e, g, h, hk => by
   have hlt := h.lt
   have hlo := h.lo
   have V := bb7 e g h
   rw [fi, V.2]
   rcases h.step with t | t | t | t
   ·rw [rB0 _ h t.1, dh8 e g h t.1]
   ·have o := (op_of t.1 (by omega)).2.1 rfl
    have w1 := ag4 t.2.1
    obtain ⟨f1, q1⟩ := bb7 e g t.2.1
    have hc := t.2.2.1
    rw [ny _ _ _ _ (by omega)] at hc
    rw [ec4 _ h t.1, te k n (a + 1) s e g t.2.1 (by omega), t.2.2.2.2, ec6 e g h t.1 t.2.1, ce5 _ o (by rw [q1]; exact w1) f1 ?_ ?_]
    ·intro h6
     rw [if_neg (by omega), if_pos h6] at hc
     split at hc
     ·cases hc
     ·omega
    ·intro h8
     rw [if_neg (by omega), if_neg (by omega), if_pos h8] at hc
     split at hc
     ·cases hc
     ·split at hc
      ·cases hc
      ·rename_i hd
       exact (sg (show (iv (ix n a).W).2 = 0 by omega)).2
   ·have o := (op_of t.1 (by omega)).2.2.1 rfl
    have g1 := t.2.1.gt
    have w1 := ag4 t.2.1
    obtain ⟨f1, q1⟩ := bb7 e g t.2.1
    have w2 := ag4 t.2.2.1
    obtain ⟨f2, q2⟩ := bb7 e g t.2.2.1
    have hc := t.2.2.2.1
    rw [ny _ _ _ _ (by omega), if_neg (by omega), if_neg (by omega), if_neg (by omega)] at hc
    rw [ec8 _ h t.1, te k n (a + 1) s e g t.2.1 (by omega)]
    show ({ V := im (ix n a) [_, fi k n (nx s n (a + 1)) s e g], W := wd s n a, To := (fi k n (nx s n (a + 1)) s e g).To } : az) = _
    rw [te k n (nx s n (a + 1)) s e g t.2.2.1 (by omega), t.2.2.2.2.2, dt8 e g h t.1 t.2.1 t.2.2.1, bp9 _ _ o (by rw [q1]; exact w1) (by rw [q2]; exact w2) f1 f2 ?_ ?_]
    ·intro h14
     rw [if_neg h14, if_neg (by omega)] at hc
     rw [q1, q2]
     split at hc
     ·cases hc
     ·omega
    ·intro h14
     rw [if_pos h14] at hc
     have := sg hc
     rw [ek (by omega) (by omega)] at this
     omega
   ·have o := (op_of t.1 (by omega)).2.2.2 rfl
    have g1 := t.2.1.gt
    have g2 := t.2.2.1.gt
    rw [dr8 _ h t.1, te k n (a + 1) s e g t.2.1 (by omega)]
    show ({ V := im (ix n a) [_, fi k n (nx s n (a + 1)) s e g, fi k n (fi k n (nx s n (a + 1)) s e g).To s e g], W := wd s n a, To := (fi k n (fi k n (nx s n (a + 1)) s e g).To s e g).To } : az) = _
    rw [te k n (nx s n (a + 1)) s e g t.2.2.1 (by omega)]
    show ({ V := im (ix n a) [_, _, fi k n (nx s n (nx s n (a + 1))) s e g], W := wd s n a, To := (fi k n (nx s n (nx s n (a + 1))) s e g).To } : az) = _
    rw [te k n (nx s n (nx s n (a + 1))) s e g t.2.2.2.1 (by omega), t.2.2.2.2.2.2, eg8 e g h t.1 t.2.1 t.2.2.1 t.2.2.2.1]
    congr 1
    rw [ce7 _ o]
    show (if (vl s e g n (a + 1)).v = 1#32 then _ else _) = _
    split <;> rfl
theorem cn1 (n : List aa) (s : aj) (e : ai) (g : List (BitVec 32)) : qc n s e g = rj n s e g := by
 unfold rj
 simp only [LET, wx]
 by_cases h : (jq n s).2 = 0
 ·obtain ⟨k1, k2, k3, k4⟩ := iu rfl h
  rw [Eval_ok _ _ _ _ h, if_neg (by simp [h])]
  unfold xy
  rw [te _ _ _ _ _ _ k2 (by omega)]
 ·rw [Eval_bad _ _ _ _ h, if_pos (by simp [h])]
end Go.Proofs.YtmonnlkagniolaaGreat
