import Derived.Test.YthdnpgpnodgicaaGreatKDef
import Derived.Test.YthdnpgpnodgicaaGreatPbP
import Derived.KernelRfl
set_option linter.unusedVariables false
set_option linter.unusedSimpArgs false
set_option maxRecDepth 100000
namespace Go.Proofs.YthdnpgpnodgicaaGreat
open Go Go.Pb Go.RowKit
def SR (r : av) : Prop := r.Entry.Keys.length ≤ 20 ∧ r.Entry.Call.Args.length ≤ 20
theorem dm0 {x : co} : ∀ (m : Nat) (i : Int), m = Int.toNat ((x.Rows.length : Int) - i) → ke x (fun _ => false) m i = false → ∀ j : Int, i ≤ j → j < x.Rows.length → SR (ix x.Rows j)
 | 0, i, hm, h, j, h1, h2 => by omega
 | m + 1, i, hm, h, j, h1, h2 => by
   rw [ke] at h
   split at h
   ·cases h
   ·rename_i hc
    simp only [Bool.or_eq_true, decide_eq_true_eq, not_or] at hc
    by_cases e : j = i
    ·subst e; exact ⟨by omega, by omega⟩
    ·exact dm0 m (i + 1) (by omega) h j (by omega) h2
theorem tl {x : co} {y : Bool} (h : kb x = y) (hy : y = false) : ∀ r ∈ x.Rows, SR r := by
 subst hy
 unfold kb at h
 simp only [LET] at h
 split at h
 ·cases h
 ·intro r hr
  obtain ⟨k, hk, rfl⟩ := List.getElem_of_mem hr
  have := dm0 _ 0 rfl h (k : Int) (by omega) (by omega)
  rwa [rx (by omega) (by omega)] at this
theorem oz (w : Int) : ja [w] = decide (1 ≤ w ∧ w ≤ 32) := by
 have h : ix [w] 0 = w := rfl
 unfold ja
 rw [show Int.toNat ((([w] : List Int).length : Int) - 0) = 0 + 1 from rfl, mh, h, mh]
 by_cases h1 : w < 1
 ·have : ¬(1 ≤ w ∧ w ≤ 32) := by omega
  simp [h1, this]
 ·by_cases h2 : 32 < w
  ·have : ¬(1 ≤ w ∧ w ≤ 32) := by omega
   simp [h2, this]
  ·have : (1 ≤ w ∧ w ≤ 32) := by omega
   simp [h1, h2, this]
theorem cs7 {w : Int} {b : Bool} (h : ja [w] = b) (h2 : b = true) : 0 ≤ wr (32 - w) := by
 rw [oz, h2] at h
 have h := of_decide_eq_true h
 rw [dg (by omega) (by omega)]; omega
theorem bx3 {p : ab} {t : Int} (h : (gx p t).2 = 0) : (0 ≤ t ∧ t < p.Tables.length) ∧ (ix p.Tables t).Keys.length ≤ 6 ∧ (ix p.Tables t).Actions.length ≤ 16 := by
 simp only [gx, LET] at h
 by_cases h1 : (decide (t < 0) || decide ((p.Tables.length : Int) ≤ t)) = true
 ·rw [if_pos h1] at h; simp at h
 ·rw [if_neg h1] at h
  split at h
  ·simp at h
  ·split at h
   ·simp at h
   ·rename_i h2
    simp only [Bool.or_eq_true, decide_eq_true_eq, not_or] at h1 h2
    omega
theorem tv {p : ab} {t : Int} {b : Bool} (h : gc p t = b) (hb : b = true) : (0 ≤ t ∧ t < p.Tables.length) ∧ (ix p.Tables t).Keys.length ≤ 6 ∧ (ix p.Tables t).Actions.length ≤ 16 := by
 subst hb
 exact bx3 (by simpa [gc, LET] using h)
theorem ut (p : ab) (t : Int) (K : List Int → List Int) : ∀ (m : Nat) (i : Int) (acc : List Int), kt p t K m i acc = K (acc ++ tabI i m fun j => ry p (ix (ix p.Tables t).Keys j).Field)
 | 0, i, acc => by simp [kt, tabI]
 | m + 1, i, acc => by simp [kt, LET, ut p t K m, tabI]
theorem xi (p : ab) (t : Int) : dj p t = if gc p t = true then tabI 0 (ix p.Tables t).Keys.length fun j => ry p (ix (ix p.Tables t).Keys j).Field else [] := by
 simp only [dj, LET, ut, List.nil_append]
 cases gc p t <;> simp
theorem rv {w : Int} {b : Bool} (h : fu w = b) (hb : b = true) : 1 ≤ w ∧ w ≤ 32 := by
 subst hb
 simpa [fu] using h
theorem ab3 {p : ab} {t : Int} (h : (fk p t).2 = 0) : (0 ≤ t ∧ t < p.Tables.length) ∧ (ix p.Tables t).Keys.length ≤ 6 ∧ (ix p.Tables t).Actions.length ≤ 16 := by
 simp only [fk, LET] at h
 by_cases h1 : (decide (t < 0) || decide ((p.Tables.length : Int) ≤ t)) = true
 ·rw [if_pos h1] at h; simp at h
 ·rw [if_neg h1] at h
  split at h
  ·simp at h
  ·split at h
   ·simp at h
   ·rename_i h2
    simp only [Bool.or_eq_true, decide_eq_true_eq, not_or] at h1 h2
    omega
theorem rtv {p : ab} {t : Int} {b : Bool} (h : fi p t = b) (hb : b = true) : (0 ≤ t ∧ t < p.Tables.length) ∧ (ix p.Tables t).Keys.length ≤ 6 ∧ (ix p.Tables t).Actions.length ≤ 16 := by
 subst hb
 exact ab3 (by simpa [fi, LET] using h)
theorem um (p : ab) (t : Int) (K : List Int → List Int) : ∀ (m : Nat) (i : Int) (acc : List Int), kw p t K m i acc = K (acc ++ tabI i m fun j => iv p (ix (ix p.Tables t).Keys j).Field)
 | 0, i, acc => by simp [kw, tabI]
 | m + 1, i, acc => by simp [kw, LET, um p t K m, tabI]
theorem pw (p : ab) (t : Int) : du p t = if fi p t = true then tabI 0 (ix p.Tables t).Keys.length fun j => iv p (ix (ix p.Tables t).Keys j).Field else [] := by
 simp only [du, LET, um, List.nil_append]
 cases fi p t <;> simp
theorem eck {p : ab} {t : Int} {y : Int × Int} {w : List Int} (h : gx p t = y) (h2 : y.2 = 0) (h3 : dj p t = w) : (0 ≤ t ∧ t < p.Tables.length) ∧ w.length = (ix p.Tables t).Keys.length ∧ w.length ≤ 6 := by
 subst h h3
 have hv : gc p t = true := by simp [gc, LET, h2]
 have := tv hv rfl
 rw [xi, if_pos hv, tp]
 omega
theorem reck {p : ab} {t : Int} {y : Int × Int} {w : List Int} (h : fk p t = y) (h2 : y.2 = 0) (h3 : du p t = w) : (0 ≤ t ∧ t < p.Tables.length) ∧ w.length = (ix p.Tables t).Keys.length ∧ w.length ≤ 6 := by
 subst h h3
 have hv : fi p t = true := by simp [fi, LET, h2]
 have := rtv hv rfl
 rw [pw, if_pos hv, tp]
 omega
theorem mv {w : Int} {b : Bool} (h : ja [w] = b) (h2 : b = true) : 1 ≤ w ∧ w ≤ 32 := by
 rw [oz, h2] at h
 exact of_decide_eq_true h
theorem tck {p : ab} {t : Int} {y : Int × Int} (h : gx p t = y) (h2 : y.2 = 0) : (0 ≤ t ∧ t < p.Tables.length) ∧ (ix p.Tables t).Keys.length ≤ 6 ∧ (ix p.Tables t).Actions.length ≤ 16 := by
 subst h; exact bx3 h2
theorem rtck {p : ab} {t : Int} {y : Int × Int} (h : fk p t = y) (h2 : y.2 = 0) : (0 ≤ t ∧ t < p.Tables.length) ∧ (ix p.Tables t).Keys.length ≤ 6 ∧ (ix p.Tables t).Actions.length ≤ 16 := by
 subst h; exact ab3 h2
theorem aw1 {a : au} {k : List (BitVec 32)} {b : Bool} (h : ll a k = b) (hb : b = true) : k.length = a.Keys.length := by
 subst hb
 unfold ll at h
 split at h
 ·cases h
 ·rename_i hc
  simp only [Bool.not_eq_true', decide_eq_false_iff_not, Decidable.not_not] at hc
  omega
theorem ak1 (w : Int) : ja [w] = fu w := by
 rw [oz]; simp [fu]
theorem wa (w : Int) : fu w = true ↔ 1 ≤ w ∧ w ≤ 32 := by simp [fu]
theorem cj9 : ∀ n : Fin 33, 1 ≤ n.val → fh (n.val : Int) = BitVec.ofNat 32 (2 ^ n.val - 1) ∧ kj (n.val : Int) = BitVec.ofNat 32 (2 ^ n.val - 1) := by decide +kernel
theorem bv2 : ∀ n : Fin 64, mn (n.val : Int) = BitVec.ofNat 64 (2 ^ n.val) := by decide +kernel
theorem at6 {w : Int} (h : 1 ≤ w ∧ w ≤ 32) : fh w = BitVec.ofNat 32 (2 ^ w.toNat - 1) ∧ kj w = BitVec.ofNat 32 (2 ^ w.toNat - 1) := by
 have := cj9 ⟨w.toNat, by omega⟩ (by simp only; omega)
 simp only at this
 rwa [show ((w.toNat : Nat) : Int) = w by omega] at this
theorem cc3 {w : Int} (h : 0 ≤ w ∧ w < 64) : mn w = BitVec.ofNat 64 (2 ^ w.toNat) := by
 have := bv2 ⟨w.toNat, by omega⟩
 simp only at this
 rwa [show ((w.toNat : Nat) : Int) = w by omega] at this
theorem aj5 {w : Int} (h : ¬(1 ≤ w ∧ w ≤ 32)) : fh w = 0#32 ∧ kj w = 0#32 := by
 have h1 : ja [w] = false := by rw [oz]; simpa using h
 have h2 : fu w = false := by rw [← ak1, h1]
 simp [fh, kj, LET, h1, h2]
theorem de6 (w : Int) : fh w = kj w := by
 by_cases h : 1 ≤ w ∧ w ≤ 32
 ·rw [(at6 h).1, (at6 h).2]
 ·rw [(aj5 h).1, (aj5 h).2]
theorem dl2 {n : Nat} (h : n ≤ 32) : 2 ^ n ≤ 4294967296 := Nat.pow_le_pow_right (n := 2) (by omega) h
theorem al9 {w : Int} (h : 1 ≤ w ∧ w ≤ 32) : (fh w).toNat = 2 ^ w.toNat - 1 := by
 have h1 := dl2 (n := w.toNat) (by omega)
 have h2 : 0 < 2 ^ w.toNat := Nat.pow_pos (by omega)
 rw [(at6 h).1, BitVec.toNat_ofNat, Nat.mod_eq_of_lt (by omega)]
theorem aq8 (w : Int) : fh w = 0#32 ↔ ¬(1 ≤ w ∧ w ≤ 32) := by
 constructor
 ·intro h hw
  have h1 := al9 hw
  have h2 : 2 ^ 1 ≤ 2 ^ w.toNat := Nat.pow_le_pow_right (by omega) (by omega)
  rw [h] at h1
  simp at h1
  omega
 ·exact fun h => (aj5 h).1
theorem bk0 (v : BitVec 32) (w : Int) : lv v w = oq v w := by
 simp only [lv, oq, LET, ak1]
 by_cases h : 1 ≤ w ∧ w ≤ 32
 ·rw [(wa w).2 h, Bool.true_and, Bool.true_and, Bool.eq_iff_iff, decide_eq_true_eq, decide_eq_true_eq, BitVec.le_def, BitVec.lt_def, al9 h, cc3 ⟨by omega, by omega⟩]
  have h1 := dl2 (n := w.toNat) (by omega)
  have h2 : 0 < 2 ^ w.toNat := Nat.pow_pos (by omega)
  have h3 := v.isLt
  rw [BitVec.toNat_setWidth, BitVec.toNat_ofNat, Nat.mod_eq_of_lt (by omega), Nat.mod_eq_of_lt (by omega)]
  omega
 ·have : fu w = false := by
   cases hv : fu w with
   | false => rfl
   | true => exact absurd ((wa w).1 hv) h
  rw [this]; rfl
theorem ba0 (s : List UInt8) : ∀ (m : Nat) (i : Int), m = Int.toNat ((s.length : Int) - i) → 0 ≤ i → i ≤ s.length → decide (mj s jx (fun x => x) m i = (s.length : Int)) = ig s (fun _ => true) m i
 | 0, i, hm, h0, h1 => by
   show decide (i = (s.length : Int)) = true
   simp; omega
 | m + 1, i, hm, h0, h1 => by
   simp only [mj, ig, LET]
   have hlt : i < s.length := by omega
   have e1 : nt = lw := rfl
   have e2 : qf = mq := rfl
   simp only [hlt, decide_true, Bool.true_and, jx, LET, e1, e2]
   have ih := ba0 s m (i + 1) (by omega) (by omega) (by omega)
   cases lw (ix s i) <;> cases mq (ix s i) <;> by_cases h : ix s i = 95 <;> simp [h, ih] <;> omega
theorem ci2 (s : List UInt8) : ng s = nd s := by
 have e1 : nt = lw := rfl
 have h0 : decide ((s.length : Int) = 0) = decide (s = []) := by
  rw [Bool.eq_iff_iff, decide_eq_true_eq, decide_eq_true_eq]; simp
 simp only [ng, nd, LET, e1, h0, ua]
 split
 ·rfl
 ·exact ba0 s _ 0 rfl (by omega) (by omega)
theorem ba7 (p : ab) (r : cp) : ry p r = iv p r := by
 have key : ∀ (l : List ck), (if fh (mw l r.Field).Width = 0#32 then 0 else (mw l r.Field).Width) =
  if ((r.Field < 0 ∨ (l.length : Int) ≤ r.Field) ∨ (ix l r.Field).Width < 1) ∨ 32 < (ix l r.Field).Width then 0 else (ix l r.Field).Width := by
  intro l
  simp only [mw, aq8]
  by_cases h : r.Field < 0 ∨ (l.length : Int) ≤ r.Field
  ·simp [h]
  ·have h' : (decide (r.Field < 0) || decide ((l.length : Int) ≤ r.Field)) = false := by simpa using h
   rw [h']
   simp only [Bool.false_eq_true, if_false, h, false_or]
   by_cases h2 : 1 ≤ (ix l r.Field).Width ∧ (ix l r.Field).Width ≤ 32
   ·rw [if_neg (by simpa using h2), if_neg (by omega)]
   ·rw [if_pos h2, if_pos (by omega)]
 simp only [ry, iv, LET, wq, decide_eq_true_eq, Bool.or_eq_true]
 rw [key]
 by_cases h1 : r.Header = -1
 ·have h2 : ¬(0 ≤ r.Header) := by omega
  have h3 : ¬(r.Header < -1) := by omega
  simp only [h1, if_true, if_false, Int.reduceNeg, Int.reduceLE, Int.reduceLT, false_or]
 ·simp only [h1, if_false]
  by_cases h2 : 0 ≤ r.Header
  ·have h3 : ¬(r.Header < -1) := by omega
   by_cases h4 : (p.Headers.length : Int) ≤ r.Header
   ·have h6 : (ik p.Headers r.Header).Fields = [] := by simp [ik, h4]
    rw [h6]
    simp only [h2, h4, if_true, List.length_nil]
    rw [if_pos]
    omega
   ·have h5 : ¬(r.Header < 0) := by omega
    have h6 : (ik p.Headers r.Header) = ix p.Headers r.Header := by simp [ik, h4, h5]
    rw [h6]
    simp only [h2, h3, h4, if_true, if_false, false_or]
  ·have h3 : r.Header < -1 := by omega
   have h5 : r.Header < 0 := by omega
   have h6 : (ik p.Headers r.Header).Fields = [] := by simp [ik, h5]
   rw [h6]
   simp only [h2, h3, if_true, if_false, true_or, List.length_nil]
   rw [if_pos]
   omega
theorem CheckCall_L1_eq (p : ab) (c : bh) (K : Unit → Int) : ∀ (m : Nat) (i : Int), jc p c K m i = jt p c K m i
 | 0, i => rfl
 | m + 1, i => by simp only [jc, jt, LET, bk0, CheckCall_L1_eq p c K m]
theorem CheckCall_eq (p : ab) (c : bh) : mr p c = nm p c := by
 simp only [mr, nm, CheckCall_L1_eq]
 split
 ·rfl
 ·split
  ·rfl
  ·rename_i h
   simp only [Bool.not_eq_true', decide_eq_false_iff_not, Decidable.not_not] at h
   rw [h]
theorem xj (p : ab) (x : az) (K : Int → Int → Int × Int) : ∀ (m : Nat) (a b i : Int), iu p x K m a b i = jz p x (fun b a => K a b) m b a i
 | 0, a, b, i => rfl
 | m + 1, a, b, i => by
   simp only [iu, jz, LET, ba7, xj p x K m]
   by_cases h1 : (ix x.Keys i).Kind = 1
   ·simp [h1]
   ·by_cases h2 : (ix x.Keys i).Kind = 2
    ·simp [h2]
    ·by_cases h3 : (ix x.Keys i).Kind = 3
     ·simp [h3]
     ·simp [h1, h2, h3]
theorem aw2 (p : ab) (x : az) : nq p x = rn p x := by
 simp only [nq, rn, xj]
theorem al3 {p : ab} {x : az} {K : Int → Int → Int × Int} : ∀ (m : Nat) (a b i : Int), m = Int.toNat ((x.Keys.length : Int) - i) → 0 ≤ i → (jz p x K m a b i).2 = 0 →
 (∀ j, i ≤ j → j < x.Keys.length → ((ix x.Keys j).Kind = 1 ∨ (ix x.Keys j).Kind = 2 ∨ (ix x.Keys j).Kind = 3) ∧ iv p (ix x.Keys j).Field ≠ 0) ∧ ∃ a' b', (K a' b').2 = 0
 | 0, a, b, i, hm, h0, h => ⟨fun j h1 h2 => by omega, a, b, h⟩
 | m + 1, a, b, i, hm, h0, h => by
   simp only [jz, LET] at h
   by_cases hw : iv p (ix x.Keys i).Field = 0
   ·simp [hw] at h
   ·rw [if_neg (by simpa using hw)] at h
    split at h
    ·simp at h
    ·rename_i hk
     have hk' : (ix x.Keys i).Kind = 1 ∨ (ix x.Keys i).Kind = 2 ∨ (ix x.Keys i).Kind = 3 := by
      simp at hk; omega
     split at h
     all_goals
      obtain ⟨h1, h2⟩ := al3 m _ _ (i + 1) (by omega) (by omega) h
      refine ⟨fun j h3 h4 => ?_, h2⟩
      by_cases e : j = i
      ·subst e; exact ⟨hk', hw⟩
      ·exact h1 j (by omega) h4
theorem zn (l : List Int) (a : Int) : ∀ (m : Nat) (i : Int), m = Int.toNat ((l.length : Int) - i) → 0 ≤ i → (ir l a (fun _ => -1) m i = -1 ∧ ∀ j, i ≤ j → j < l.length → ix l j ≠ a) ∨
 (i ≤ ir l a (fun _ => -1) m i ∧ ir l a (fun _ => -1) m i < l.length ∧ ix l (ir l a (fun _ => -1) m i) = a ∧ ∀ j, i ≤ j → j < ir l a (fun _ => -1) m i → ix l j ≠ a)
 | 0, i, hm, h0 => .inl ⟨rfl, fun j h1 h2 => by omega⟩
 | m + 1, i, hm, h0 => by
   simp only [ir]
   by_cases h : ix l i = a
   ·rw [if_pos (by simpa using h)]
    exact .inr ⟨by omega, by omega, h, fun j h1 h2 => by omega⟩
   ·rw [if_neg (by simpa using h)]
    rcases zn l a m (i + 1) (by omega) (by omega) with ⟨h1, h2⟩ | ⟨h1, h2, h3, h4⟩
    ·refine .inl ⟨h1, fun j h5 h6 => ?_⟩
     by_cases e : j = i
     ·subst e; exact h
     ·exact h2 j (by omega) h6
    ·refine .inr ⟨by omega, h2, h3, fun j h5 h6 => ?_⟩
     by_cases e : j = i
     ·subst e; exact h
     ·exact h4 j (by omega) h6
theorem al7 (l : List Int) (a : Int) : (gn l a = -1 ∧ ∀ j : Int, 0 ≤ j → j < l.length → ix l j ≠ a) ∨ (0 ≤ gn l a ∧ gn l a < l.length ∧ ix l (gn l a) = a ∧ ∀ j, 0 ≤ j → j < gn l a → ix l j ≠ a) :=
 zn l a _ 0 rfl (by omega)
theorem cj3 (l : List Int) (a i : Int) (h0 : 0 ≤ i) (h1 : i < l.length) (h : ix l i = a) : gn l a < i ↔ ∃ j, 0 ≤ j ∧ j < i ∧ ix l j = a := by
 rcases al7 l a with ⟨h2, h3⟩ | ⟨h2, h3, h4, h5⟩
 ·exact absurd h (h3 i h0 h1)
 ·constructor
  ·intro hlt; exact ⟨_, h2, hlt, h4⟩
  ·rintro ⟨j, h6, h7, h8⟩
   by_cases h9 : j < gn l a
   ·exact absurd h8 (h5 j h6 h9)
   ·omega
theorem ar5 (l : List Int) (a : Int) : gn l a < 0 ↔ ¬∃ j, 0 ≤ j ∧ j < (l.length : Int) ∧ ix l j = a := by
 rcases al7 l a with ⟨h2, h3⟩ | ⟨h2, h3, h4, h5⟩
 ·rw [h2]
  exact ⟨fun _ ⟨j, h6, h7, h8⟩ => h3 j h6 h7 h8, fun _ => by omega⟩
 ·exact ⟨fun h => by omega, fun h => absurd ⟨_, h2, h3, h4⟩ h⟩
def Seen (l : List Int) (i : Int) (z : List (Int × Bool)) : Prop := ∀ a, (mget z a).getD false = true ↔ ∃ j, 0 ≤ j ∧ j < i ∧ ix l j = a
theorem Seen.step {l : List Int} {i : Int} {z : List (Int × Bool)} (h : Seen l i z) (h0 : 0 ≤ i) : Seen l (i + 1) (mput z (ix l i) true) := fun a => by
 rw [bt3]
 by_cases e : ix l i = a
 ·simp only [e, if_true, Option.getD_some, true_iff]
  exact ⟨i, h0, by omega, e⟩
 ·simp only [e, if_false]
  rw [h a]
  constructor
  ·rintro ⟨j, h1, h2, h3⟩; exact ⟨j, h1, by omega, h3⟩
  ·rintro ⟨j, h1, h2, h3⟩
   have : j ≠ i := fun hj => e (by rw [← hj]; exact h3)
   exact ⟨j, h1, by omega, h3⟩
theorem uo (p : ab) (x : az) {K : List (Int × Bool) → Int} {K' : Unit → Int} (hK : ∀ z, Seen x.Actions x.Actions.length z → K z = K' ()) : ∀ (m : Nat) (i : Int) (z : List (Int × Bool)), m = Int.toNat ((x.Actions.length : Int) - i) → 0 ≤ i → i ≤ x.Actions.length → Seen x.Actions i z → gb p x K m i z = jv p x K' m i
 | 0, i, z, hm, h0, h1, hz => by
   have : i = x.Actions.length := by omega
   subst this
   simp only [gb, jv]
   exact hK z hz
 | m + 1, i, z, hm, h0, h1, hz => by
   have ih := uo p x hK m (i + 1) _ (by omega) (by omega) (by omega) (hz.step h0)
   simp only [gb, jv, LET]
   split
   ·rfl
   ·have hs := hz (ix x.Actions i)
    have hi := cj3 x.Actions _ i h0 (by omega) rfl
    have e : ((mget z (ix x.Actions i)).getD false) = decide (gn x.Actions (ix x.Actions i) < i) := by
     rw [Bool.eq_iff_iff, decide_eq_true_eq, hs, hi]
    rw [e, ih]
theorem ah3 (p : ab) (x : az) : nl p x = rl p x := by
 unfold nl rl
 refine uo p x (fun z hz => ?_) _ 0 [] rfl (by omega) (by omega) (fun a => by simp [cf3]; omega)
 have e : (!((mget z x.Default.Action).getD false)) = decide (gn x.Actions x.Default.Action < 0) := by
  rw [Bool.eq_iff_iff, decide_eq_true_eq, ar5, ← hz]; simp
 simp only [LET, e, CheckCall_eq]
theorem Check_eq (p : ab) (t : Int) : gx p t = fk p t := by
 simp only [gx, fk, LET, ci2, aw2, ah3]
theorem ae1 (p : ab) (t : Int) : gc p t = fi p t := by
 simp only [gc, fi, Check_eq]
theorem Widths_eq (p : ab) (t : Int) : dj p t = du p t := by
 rw [xi, pw, ae1]
 simp only [ba7]
theorem Bits_L1_eq (w : List Int) (K : Int → Int) : ∀ (m : Nat) (a i : Int), oi w K m a i = jl w K m a i
 | 0, a, i => rfl
 | m + 1, a, i => by simp only [oi, jl, Bits_L1_eq w K m]
theorem Bits_eq (p : ab) (t : Int) : ld p t = qp p t := by
 simp only [ld, qp, LET, Widths_eq, Bits_L1_eq]
theorem Kind_3 (p : ab) (t : Int) : ∀ (m : Nat) (i : Int), m = Int.toNat (((ix p.Tables t).Keys.length : Int) - i) → 0 ≤ i → (∀ j, i ≤ j → j < (ix p.Tables t).Keys.length → (ix (ix p.Tables t).Keys j).Kind ≤ 3) → li p t (fun x => x) m 3 i = 3
 | 0, i, _, _, _ => rfl
 | m + 1, i, hm, h0, h => by
   simp only [li]
   have := h i (by omega) (by omega)
   rw [show max 3 (ix (ix p.Tables t).Keys i).Kind = 3 by omega]
   exact Kind_3 p t m (i + 1) (by omega) (by omega) fun j h1 h2 => h j (by omega) h2
theorem Kind_L1_eq (p : ab) (t : Int) : ∀ (m : Nat) (k i : Int), m = Int.toNat (((ix p.Tables t).Keys.length : Int) - i) → 0 ≤ i → (k = 1 ∨ k = 2) → (∀ j, i ≤ j → j < (ix p.Tables t).Keys.length → (ix (ix p.Tables t).Keys j).Kind = 1 ∨ (ix (ix p.Tables t).Keys j).Kind = 2 ∨ (ix (ix p.Tables t).Keys j).Kind = 3) →
 mo p t (fun x => x) m k i = li p t (fun x => x) m k i
 | 0, k, i, _, _, _, _ => rfl
 | m + 1, k, i, hm, h0, hk, h => by
   simp only [mo, li]
   have hi := h i (by omega) (by omega)
   have h' : ∀ j, i + 1 ≤ j → j < (ix p.Tables t).Keys.length → _ := fun j h1 h2 => h j (by omega) h2
   rcases hi with e | e | e
   ·rw [if_neg (by simp [e]), if_neg (by simp [e]), e, show max k 1 = k by omega]
    exact Kind_L1_eq p t m k (i + 1) (by omega) (by omega) hk h'
   ·rw [if_neg (by simp [e]), if_pos (by simp [e]), e, show max k 2 = 2 by omega]
    exact Kind_L1_eq p t m 2 (i + 1) (by omega) (by omega) (.inr rfl) h'
   ·rw [if_pos (by simp [e]), e, show max k 3 = 3 by omega]
    exact (Kind_3 p t m (i + 1) (by omega) (by omega) fun j h1 h2 => by have := h' j h1 h2; omega).symm
theorem ah0 {p : ab} {t : Int} (h : fi p t = true) : ∀ j : Int, 0 ≤ j → j < (ix p.Tables t).Keys.length → ((ix (ix p.Tables t).Keys j).Kind = 1 ∨ (ix (ix p.Tables t).Keys j).Kind = 2 ∨ (ix (ix p.Tables t).Keys j).Kind = 3) ∧ iv p (ix (ix p.Tables t).Keys j).Field ≠ 0 := by
 have h : (fk p t).2 = 0 := by simpa [fi, LET] using h
 simp only [fk, LET] at h
 split at h
 ·simp at h
 ·split at h
  ·simp at h
  ·split at h
   ·simp at h
   ·split at h
    ·simp at h
    ·by_cases hk : (rn p (ix p.Tables t)).2 = 0
     ·exact (al3 _ 0 0 0 rfl (by omega) hk).1
     ·rw [if_pos (by simpa using hk)] at h
      exact absurd h hk
theorem Kind_eq (p : ab) (t : Int) : iw p t = qs p t := by
 simp only [iw, qs, LET, ae1]
 cases hv : fi p t with
 | false => rfl
 | true =>
   simp only [Bool.not_true, Bool.false_eq_true, if_false]
   exact Kind_L1_eq p t _ 1 0 rfl (by omega) (.inl rfl) fun j h1 h2 => (ah0 hv j h1 h2).1
theorem Allows_L1_spec (p : ab) (t a : Int) : ∀ (m : Nat) (i : Int), m = Int.toNat (((ix p.Tables t).Actions.length : Int) - i) → 0 ≤ i → (kp p t a (fun _ => false) m i = true ↔ ∃ j : Int, i ≤ j ∧ j < (ix p.Tables t).Actions.length ∧ ix (ix p.Tables t).Actions j = a)
 | 0, i, hm, h0 => by
   simp only [kp, Bool.false_eq_true, false_iff]
   rintro ⟨j, h1, h2, _⟩; omega
 | m + 1, i, hm, h0 => by
   have ih := Allows_L1_spec p t a m (i + 1) (by omega) (by omega)
   simp only [kp]
   by_cases h : ix (ix p.Tables t).Actions i = a
   ·rw [if_pos (by simpa using h)]
    exact ⟨fun _ => ⟨i, by omega, by omega, h⟩, fun _ => rfl⟩
   ·rw [if_neg (by simpa using h), ih]
    constructor
    ·rintro ⟨j, h1, h2, h3⟩; exact ⟨j, by omega, h2, h3⟩
    ·rintro ⟨j, h1, h2, h3⟩
     have : j ≠ i := fun e => h (by rw [← e]; exact h3)
     exact ⟨j, by omega, h2, h3⟩
theorem Allows_iff (p : ab) (t a : Int) : qx p t a = true ↔ gc p t = true ∧ ∃ j : Int, 0 ≤ j ∧ j < (ix p.Tables t).Actions.length ∧ ix (ix p.Tables t).Actions j = a := by
 simp only [qx, LET]
 cases hv : gc p t with
 | false => simp
 | true =>
   simp only [Bool.not_true, Bool.false_eq_true, if_false, true_and]
   exact Allows_L1_spec p t a _ 0 rfl (by omega)
theorem Allows_eq (p : ab) (t a : Int) : qx p t a = sj p t a := by
 rw [Bool.eq_iff_iff, Allows_iff]
 simp only [sj, LET, Bool.and_eq_true, decide_eq_true_eq, ae1]
 have := ar5 (ix p.Tables t).Actions a
 constructor
 ·rintro ⟨h1, h2⟩
  refine ⟨h1, ?_⟩
  by_cases h3 : gn (ix p.Tables t).Actions a < 0
  ·exact absurd h2 (this.1 h3)
  ·exact Int.not_lt.1 h3
 ·rintro ⟨h1, h2⟩
  refine ⟨h1, ?_⟩
  by_cases h3 : ∃ j : Int, 0 ≤ j ∧ j < (ix p.Tables t).Actions.length ∧ ix (ix p.Tables t).Actions j = a
  ·exact h3
  ·exact absurd (this.2 h3) (Int.not_lt.2 h2)
theorem SameKey_L1_eq (a b : au) (K : Unit → Bool) : ∀ (m : Nat) (i : Int), lc a b K m i = lg a b K m i
 | 0, i => rfl
 | m + 1, i => by simp only [lc, lg, SameKey_L1_eq a b K m]
theorem SameKey_eq (a b : au) : jm a b = mm a b := by
 simp only [jm, mm, SameKey_L1_eq, Bool.or_comm]
theorem OnesCount_L1_eq (x : BitVec 32) (K : Int → Int) : ∀ (m : Nat) (y : BitVec 32) (n i : Int), 0 ≤ i → y = x >>> i.toNat → jd x K m n i = jr K m y n i
 | 0, y, n, i, _, _ => rfl
 | m + 1, y, n, i, h0, hy => by
   simp only [jd, jr]
   have e1 : (x >>> i.toNat &&& 1#32).toNat = (y % 2#32).toNat := by
    rw [hy, BitVec.toNat_and, BitVec.toNat_umod]
    exact Nat.and_one_is_mod _
   have e2 : y / 2#32 = x >>> (i + 1).toNat := by
    apply BitVec.eq_of_toNat_eq
    rw [hy, BitVec.toNat_udiv, BitVec.toNat_ushiftRight, BitVec.toNat_ushiftRight, show (i + 1).toNat = i.toNat + 1 by omega, Nat.shiftRight_succ]
    rfl
   rw [e1, OnesCount_L1_eq x K m (y / 2#32) _ (i + 1) (by omega) e2]
theorem OnesCount_eq (x : BitVec 32) : pe x = pu x := by
 simp only [pe, pu]
 exact OnesCount_L1_eq x _ _ x 0 0 (by omega) (by simp)
theorem ad8 (p : ab) (t : Int) (x : au) (K : Unit → Int) : ∀ (m : Nat) (i : Int), mf p t x K m i = jf p t x K m i
 | 0, i => rfl
 | m + 1, i => by
   simp only [mf, jf, LET, OnesCount_eq, ad8 p t x K m]
   split
   ·by_cases h : i < x.Keys.length
    ·have h2 : ¬((x.Keys.length : Int) ≤ i) := by omega
     simp [h, h2]
    ·have h2 : (x.Keys.length : Int) ≤ i := by omega
     simp [h, h2]
   ·rfl
theorem bu3 (p : ab) (t : Int) (x : au) : lj p t x = mu p t x := by
 simp only [lj, mu, ad8]
theorem Precedes_eq (p : ab) (t : Int) (a b : av) : gi p t a b = pd p t a b := by
 simp only [gi, pd, LET, bu3]
theorem am9 : ∀ w : Fin 33, ∀ n : Fin 33, 1 ≤ w.val → n.val ≤ w.val → jg (n.val : Int) (w.val : Int) = pf (n.val : Int) (w.val : Int) := by decide +kernel
theorem PrefixLen_L1_eq (x : BitVec 32) (w : Int) (hw : 1 ≤ w ∧ w ≤ 32) (K : Unit → Int × Bool) : ∀ (m : Nat) (i : Int), m = Int.toNat (w + 1 - i) → 0 ≤ i → fc x w K m i = ip x w K m i
 | 0, i, _, _ => rfl
 | m + 1, i, hm, h0 => by
   simp only [fc, ip, LET]
   have h1 : i ≤ w := by omega
   have e : jg i w = pf i w := by
    have := am9 ⟨w.toNat, by omega⟩ ⟨i.toNat, by omega⟩ (by simp only; omega) (by simp only; omega)
    simp only at this
    rwa [show ((w.toNat : Nat) : Int) = w by omega, show ((i.toNat : Nat) : Int) = i by omega] at this
   rw [e, PrefixLen_L1_eq x w hw K m (i + 1) (by omega) (by omega)]
   simp [h1, (wa w).2 hw]
theorem PrefixLen_eq (x : BitVec 32) (w : Int) : ee x w = ko x w := by
 simp only [ee, ko, LET, ak1]
 by_cases h : 1 ≤ w ∧ w ≤ 32
 ·rw [(wa w).2 h, dg (by omega) (by omega)]
  simp only [Bool.not_true, Bool.false_eq_true, if_false, Int.sub_zero]
  exact PrefixLen_L1_eq x w h _ _ 0 (by simp) (by omega)
 ·have hv : fu w = false := by
   cases hv : fu w with
   | false => rfl
   | true => exact absurd ((wa w).1 hv) h
  rw [hv]
  simp only [Bool.not_false, if_true]
  generalize Int.toNat (w + 1 - 0) = m
  cases m with
  | zero => rfl
  | succ m => simp [ip, hv]
theorem bd2 (a b : BitVec 32) : decide (a &&& ~~~b = 0#32) = decide (a &&& b = a) := by
 rw [Bool.eq_iff_iff, decide_eq_true_eq, decide_eq_true_eq]
 constructor
 ·intro h
  apply BitVec.eq_of_getLsbD_eq
  intro i hi
  have := congrArg (fun v => v.getLsbD i) h
  simp [hi] at this ⊢
  exact this
 ·intro h
  apply BitVec.eq_of_getLsbD_eq
  intro i hi
  have := congrArg (fun v => v.getLsbD i) h
  simp [hi] at this ⊢
  exact this
theorem ay8 (m : ba) (k w : Int) : qh m k w = ka m w k := by
 simp only [qh, ka, LET, bk0, de6, bd2, PrefixLen_eq]
 split
 ·rfl
 ·split
  ·rfl
  ·by_cases h1 : k = 1
   ·by_cases h : m.Mask = kj w <;> simp [h1, h]
   ·by_cases h2 : k = 2
    ·cases h : (ko m.Mask w).2 <;> simp [h2, h]
    ·simp [h1, h2]
theorem ac7 (p : ab) (t : Int) (x : au) (w : List Int) (K : Unit → Int) : ∀ (m : Nat) (i : Int), mz p t x w K m i = kg p t x w K m i
 | 0, i => rfl
 | m + 1, i => by simp only [mz, kg, LET, ay8, ac7 p t x w K m]
theorem bu1 (p : ab) (t : Int) (x : au) : od p t x = ma p t x := by
 simp only [od, ma, LET, Check_eq, Widths_eq, Kind_eq, Allows_eq, CheckCall_eq, ac7]
 by_cases hc : (fk p t).2 = 0
 ·have hv : fi p t = true := by simp [fi, LET, hc]
  have hl : (du p t).length = (ix p.Tables t).Keys.length := by rw [pw, if_pos hv, tp]
  simp only [hc, hl, decide_true, Bool.not_true, Bool.false_eq_true, if_false]
  split
  ·rfl
  ·rename_i hlen
   simp only [Bool.not_eq_true', decide_eq_false_iff_not, Decidable.not_not] at hlen
   rw [hlen]
   congr 1
   funext u
   split
   ·rfl
   ·rename_i hp
    simp only [Bool.or_eq_true, decide_eq_true_eq, not_or] at hp
    have e : (!decide (x.Priority = 0)) = decide (0 < x.Priority) := by
     rw [Bool.eq_iff_iff]; simp; omega
    rw [e]
 ·simp only [hc, decide_false, Bool.not_false, if_true]
end Go.Proofs.YthdnpgpnodgicaaGreat
