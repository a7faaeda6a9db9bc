import Derived.Test.YthdnpgpnodgicaaGreatKDef
import Derived.Test.YthdnpgpnodgicaaGreatPbP
import Derived.KernelRfl
set_option linter.unusedVariables false
set_option linter.unusedSimpArgs false
set_option maxRecDepth 100000
namespace Go.Proofs.YthdnpgpnodgicaaGreat
open Go Go.Pb Go.RowKit
def SR (r : aj) : Prop := r.Entry.Keys.length ≤ 20 ∧ r.Entry.Call.Args.length ≤ 20
theorem cv3 {x : cg} : ∀ (m : Nat) (i : Int), m = Int.toNat ((x.Rows.length : Int) - i) → jf x (fun _ => false) m i = false → ∀ j : Int, i ≤ j → j < x.Rows.length → SR (ix x.Rows j)
 | 0, i, hm, h, j, h1, h2 => by omega
 | m + 1, i, hm, h, j, h1, h2 => by
   rw [jf] at h
   split at h
   ·cases h
   ·rename_i hc
    simp only [Bool.or_eq_true, decide_eq_true_eq, not_or] at hc
    by_cases e : j = i
    ·subst e; exact ⟨by omega, by omega⟩
    ·exact cv3 m (i + 1) (by omega) h j (by omega) h2
theorem tl {x : cg} {y : Bool} (h : me x = y) (hy : y = false) : ∀ r ∈ x.Rows, SR r := by
 subst hy
 unfold me at h
 simp only [LET] at h
 split at h
 ·cases h
 ·intro r hr
  obtain ⟨k, hk, rfl⟩ := List.getElem_of_mem hr
  have := cv3 _ 0 rfl h (k : Int) (by omega) (by omega)
  rwa [oe (by omega) (by omega)] at this
theorem ju (w : Int) : ii [w] = decide (1 ≤ w ∧ w ≤ 32) := by
 have h : ix [w] 0 = w := rfl
 unfold ii
 rw [show Int.toNat ((([w] : List Int).length : Int) - 0) = 0 + 1 from rfl, kh, h, kh]
 by_cases h1 : w < 1
 ·have : ¬(1 ≤ w ∧ w ≤ 32) := by omega
  simp [h1, this]
 ·by_cases h2 : 32 < w
  ·have : ¬(1 ≤ w ∧ w ≤ 32) := by omega
   simp [h2, this]
  ·have : (1 ≤ w ∧ w ≤ 32) := by omega
   simp [h1, h2, this]
theorem ce3 {w : Int} {b : Bool} (h : ii [w] = b) (h2 : b = true) : 0 ≤ wr (32 - w) := by
 rw [ju, h2] at h
 have h := of_decide_eq_true h
 rw [dw (by omega) (by omega)]; omega
theorem bp1 {p : aa} {t : Int} (h : (gj p t).2 = 0) : (0 ≤ t ∧ t < p.Tables.length) ∧ (ix p.Tables t).Keys.length ≤ 6 ∧ (ix p.Tables t).Actions.length ≤ 16 := by
 simp only [gj, LET] at h
 by_cases h1 : (decide (t < 0) || decide ((p.Tables.length : Int) ≤ t)) = true
 ·rw [if_pos h1] at h; simp at h
 ·rw [if_neg h1] at h
  split at h
  ·simp at h
  ·split at h
   ·simp at h
   ·rename_i h2
    simp only [Bool.or_eq_true, decide_eq_true_eq, not_or] at h1 h2
    omega
theorem tv {p : aa} {t : Int} {b : Bool} (h : fx p t = b) (hb : b = true) : (0 ≤ t ∧ t < p.Tables.length) ∧ (ix p.Tables t).Keys.length ≤ 6 ∧ (ix p.Tables t).Actions.length ≤ 16 := by
 subst hb
 exact bp1 (by simpa [fx, LET] using h)
theorem qt (p : aa) (t : Int) (K : List Int → List Int) : ∀ (m : Nat) (i : Int) (acc : List Int), jq p t K m i acc = K (acc ++ tabI i m fun j => oq p (ix (ix p.Tables t).Keys j).Field)
 | 0, i, acc => by simp [jq, tabI]
 | m + 1, i, acc => by simp [jq, LET, qt p t K m, tabI]
theorem tx (p : aa) (t : Int) : dn p t = if fx p t = true then tabI 0 (ix p.Tables t).Keys.length fun j => oq p (ix (ix p.Tables t).Keys j).Field else [] := by
 simp only [dn, LET, qt, List.nil_append]
 cases fx p t <;> simp
theorem rv {w : Int} {b : Bool} (h : fm w = b) (hb : b = true) : 1 ≤ w ∧ w ≤ 32 := by
 subst hb
 simpa [fm] using h
theorem yd {p : aa} {t : Int} (h : (fc p t).2 = 0) : (0 ≤ t ∧ t < p.Tables.length) ∧ (ix p.Tables t).Keys.length ≤ 6 ∧ (ix p.Tables t).Actions.length ≤ 16 := by
 simp only [fc, LET] at h
 by_cases h1 : (decide (t < 0) || decide ((p.Tables.length : Int) ≤ t)) = true
 ·rw [if_pos h1] at h; simp at h
 ·rw [if_neg h1] at h
  split at h
  ·simp at h
  ·split at h
   ·simp at h
   ·rename_i h2
    simp only [Bool.or_eq_true, decide_eq_true_eq, not_or] at h1 h2
    omega
theorem rtv {p : aa} {t : Int} {b : Bool} (h : fe p t = b) (hb : b = true) : (0 ≤ t ∧ t < p.Tables.length) ∧ (ix p.Tables t).Keys.length ≤ 6 ∧ (ix p.Tables t).Actions.length ≤ 16 := by
 subst hb
 exact yd (by simpa [fe, LET] using h)
theorem qu (p : aa) (t : Int) (K : List Int → List Int) : ∀ (m : Nat) (i : Int) (acc : List Int), jn p t K m i acc = K (acc ++ tabI i m fun j => jx p (ix (ix p.Tables t).Keys j).Field)
 | 0, i, acc => by simp [jn, tabI]
 | m + 1, i, acc => by simp [jn, LET, qu p t K m, tabI]
theorem py (p : aa) (t : Int) : db p t = if fe p t = true then tabI 0 (ix p.Tables t).Keys.length fun j => jx p (ix (ix p.Tables t).Keys j).Field else [] := by
 simp only [db, LET, qu, List.nil_append]
 cases fe p t <;> simp
theorem eck {p : aa} {t : Int} {y : Int × Int} {w : List Int} (h : gj p t = y) (h2 : y.2 = 0) (h3 : dn p t = w) : (0 ≤ t ∧ t < p.Tables.length) ∧ w.length = (ix p.Tables t).Keys.length ∧ w.length ≤ 6 := by
 subst h h3
 have hv : fx p t = true := by simp [fx, LET, h2]
 have := tv hv rfl
 rw [tx, if_pos hv, rx]
 omega
theorem reck {p : aa} {t : Int} {y : Int × Int} {w : List Int} (h : fc p t = y) (h2 : y.2 = 0) (h3 : db p t = w) : (0 ≤ t ∧ t < p.Tables.length) ∧ w.length = (ix p.Tables t).Keys.length ∧ w.length ≤ 6 := by
 subst h h3
 have hv : fe p t = true := by simp [fe, LET, h2]
 have := rtv hv rfl
 rw [py, if_pos hv, rx]
 omega
theorem mv {w : Int} {b : Bool} (h : ii [w] = b) (h2 : b = true) : 1 ≤ w ∧ w ≤ 32 := by
 rw [ju, h2] at h
 exact of_decide_eq_true h
theorem tck {p : aa} {t : Int} {y : Int × Int} (h : gj p t = y) (h2 : y.2 = 0) : (0 ≤ t ∧ t < p.Tables.length) ∧ (ix p.Tables t).Keys.length ≤ 6 ∧ (ix p.Tables t).Actions.length ≤ 16 := by
 subst h; exact bp1 h2
theorem rtck {p : aa} {t : Int} {y : Int × Int} (h : fc p t = y) (h2 : y.2 = 0) : (0 ≤ t ∧ t < p.Tables.length) ∧ (ix p.Tables t).Keys.length ≤ 6 ∧ (ix p.Tables t).Actions.length ≤ 16 := by
 subst h; exact yd h2
theorem bb {a : au} {k : List (BitVec 32)} {b : Bool} (h : cn a k = b) (hb : b = true) : k.length = a.Keys.length := by
 subst hb
 unfold cn at h
 split at h
 ·cases h
 ·rename_i hc
  simp only [Bool.not_eq_true', decide_eq_false_iff_not, Decidable.not_not] at hc
  omega
theorem ah3 (w : Int) : ii [w] = fm w := by
 rw [ju]; simp [fm]
theorem sn (w : Int) : fm w = true ↔ 1 ≤ w ∧ w ≤ 32 := by simp [fm]
theorem bv7 : ∀ n : Fin 33, 1 ≤ n.val → dq (n.val : Int) = BitVec.ofNat 32 (2 ^ n.val - 1) ∧ jh (n.val : Int) = BitVec.ofNat 32 (2 ^ n.val - 1) := by decide +kernel
theorem bl2 : ∀ n : Fin 64, kn (n.val : Int) = BitVec.ofNat 64 (2 ^ n.val) := by decide +kernel
theorem ab3 {w : Int} (h : 1 ≤ w ∧ w ≤ 32) : dq w = BitVec.ofNat 32 (2 ^ w.toNat - 1) ∧ jh w = BitVec.ofNat 32 (2 ^ w.toNat - 1) := by
 have := bv7 ⟨w.toNat, by omega⟩ (by simp only; omega)
 simp only at this
 rwa [show ((w.toNat : Nat) : Int) = w by omega] at this
theorem cc0 {w : Int} (h : 0 ≤ w ∧ w < 64) : kn w = BitVec.ofNat 64 (2 ^ w.toNat) := by
 have := bl2 ⟨w.toNat, by omega⟩
 simp only at this
 rwa [show ((w.toNat : Nat) : Int) = w by omega] at this
theorem ae1 {w : Int} (h : ¬(1 ≤ w ∧ w ≤ 32)) : dq w = 0#32 ∧ jh w = 0#32 := by
 have h1 : ii [w] = false := by rw [ju]; simpa using h
 have h2 : fm w = false := by rw [← ah3, h1]
 simp [dq, jh, LET, h1, h2]
theorem bh9 (w : Int) : dq w = jh w := by
 by_cases h : 1 ≤ w ∧ w ≤ 32
 ·rw [(ab3 h).1, (ab3 h).2]
 ·rw [(ae1 h).1, (ae1 h).2]
theorem cv6 {n : Nat} (h : n ≤ 32) : 2 ^ n ≤ 4294967296 := Nat.pow_le_pow_right (n := 2) (by omega) h
theorem wx {w : Int} (h : 1 ≤ w ∧ w ≤ 32) : (dq w).toNat = 2 ^ w.toNat - 1 := by
 have h1 := cv6 (n := w.toNat) (by omega)
 have h2 : 0 < 2 ^ w.toNat := Nat.pow_pos (by omega)
 rw [(ab3 h).1, BitVec.toNat_ofNat, Nat.mod_eq_of_lt (by omega)]
theorem al7 (w : Int) : dq w = 0#32 ↔ ¬(1 ≤ w ∧ w ≤ 32) := by
 constructor
 ·intro h hw
  have h1 := wx hw
  have h2 : 2 ^ 1 ≤ 2 ^ w.toNat := Nat.pow_le_pow_right (by omega) (by omega)
  rw [h] at h1
  simp at h1
  omega
 ·exact fun h => (ae1 h).1
theorem vw (v : BitVec 32) (w : Int) : gz v w = ku v w := by
 simp only [gz, ku, LET, ah3]
 by_cases h : 1 ≤ w ∧ w ≤ 32
 ·rw [(sn w).2 h, Bool.true_and, Bool.true_and, Bool.eq_iff_iff, decide_eq_true_eq, decide_eq_true_eq, BitVec.le_def, BitVec.lt_def, wx h, cc0 ⟨by omega, by omega⟩]
  have h1 := cv6 (n := w.toNat) (by omega)
  have h2 : 0 < 2 ^ w.toNat := Nat.pow_pos (by omega)
  have h3 := v.isLt
  rw [BitVec.toNat_setWidth, BitVec.toNat_ofNat, Nat.mod_eq_of_lt (by omega), Nat.mod_eq_of_lt (by omega)]
  omega
 ·have : fm w = false := by
   cases hv : fm w with
   | false => rfl
   | true => exact absurd ((sn w).1 hv) h
  rw [this]; rfl
theorem av9 (s : List UInt8) : ∀ (m : Nat) (i : Int), m = Int.toNat ((s.length : Int) - i) → 0 ≤ i → i ≤ s.length → decide (kg s jb (fun x => x) m i = (s.length : Int)) = gm s (fun _ => true) m i
 | 0, i, hm, h0, h1 => by
   show decide (i = (s.length : Int)) = true
   simp; omega
 | m + 1, i, hm, h0, h1 => by
   simp only [kg, gm, LET]
   have hlt : i < s.length := by omega
   have e1 : ly = jy := rfl
   have e2 : nr = ki := rfl
   simp only [hlt, decide_true, Bool.true_and, jb, LET, e1, e2]
   have ih := av9 s m (i + 1) (by omega) (by omega) (by omega)
   cases jy (ix s i) <;> cases ki (ix s i) <;> by_cases h : ix s i = 95 <;> simp [h, ih] <;> omega
theorem bv0 (s : List UInt8) : ld s = kw s := by
 have e1 : ly = jy := rfl
 have h0 : decide ((s.length : Int) = 0) = decide (s = []) := by
  rw [Bool.eq_iff_iff, decide_eq_true_eq, decide_eq_true_eq]; simp
 simp only [ld, kw, LET, e1, h0, qc]
 split
 ·rfl
 ·exact av9 s _ 0 rfl (by omega) (by omega)
theorem aw0 (p : aa) (r : cf) : oq p r = jx p r := by
 have key : ∀ (l : List bw), (if dq (kp l r.Field).Width = 0#32 then 0 else (kp l r.Field).Width) =
  if ((r.Field < 0 ∨ (l.length : Int) ≤ r.Field) ∨ (ix l r.Field).Width < 1) ∨ 32 < (ix l r.Field).Width then 0 else (ix l r.Field).Width := by
  intro l
  simp only [kp, al7]
  by_cases h : r.Field < 0 ∨ (l.length : Int) ≤ r.Field
  ·simp [h]
  ·have h' : (decide (r.Field < 0) || decide ((l.length : Int) ≤ r.Field)) = false := by simpa using h
   rw [h']
   simp only [Bool.false_eq_true, if_false, h, false_or]
   by_cases h2 : 1 ≤ (ix l r.Field).Width ∧ (ix l r.Field).Width ≤ 32
   ·rw [if_neg (by simpa using h2), if_neg (by omega)]
   ·rw [if_pos h2, if_pos (by omega)]
 simp only [oq, jx, LET, tp, decide_eq_true_eq, Bool.or_eq_true]
 rw [key]
 by_cases h1 : r.Header = -1
 ·have h2 : ¬(0 ≤ r.Header) := by omega
  have h3 : ¬(r.Header < -1) := by omega
  simp only [h1, if_true, if_false, Int.reduceNeg, Int.reduceLE, Int.reduceLT, false_or]
 ·simp only [h1, if_false]
  by_cases h2 : 0 ≤ r.Header
  ·have h3 : ¬(r.Header < -1) := by omega
   by_cases h4 : (p.Headers.length : Int) ≤ r.Header
   ·have h6 : (gn p.Headers r.Header).Fields = [] := by simp [gn, h4]
    rw [h6]
    simp only [h2, h4, if_true, List.length_nil]
    rw [if_pos]
    omega
   ·have h5 : ¬(r.Header < 0) := by omega
    have h6 : (gn p.Headers r.Header) = ix p.Headers r.Header := by simp [gn, h4, h5]
    rw [h6]
    simp only [h2, h3, h4, if_true, if_false, false_or]
  ·have h3 : r.Header < -1 := by omega
   have h5 : r.Header < 0 := by omega
   have h6 : (gn p.Headers r.Header).Fields = [] := by simp [gn, h5]
   rw [h6]
   simp only [h2, h3, if_true, if_false, true_or, List.length_nil]
   rw [if_pos]
   omega
theorem CheckCall_L1_eq (p : aa) (c : av) (K : Unit → Int) : ∀ (m : Nat) (i : Int), il p c K m i = iw p c K m i
 | 0, i => rfl
 | m + 1, i => by simp only [il, iw, LET, vw, CheckCall_L1_eq p c K m]
theorem CheckCall_eq (p : aa) (c : av) : kr p c = li p c := by
 simp only [kr, li, CheckCall_L1_eq]
 split
 ·rfl
 ·split
  ·rfl
  ·rename_i h
   simp only [Bool.not_eq_true', decide_eq_false_iff_not, Decidable.not_not] at h
   rw [h]
theorem tz (p : aa) (x : ax) (K : Int → Int → Int × Int) : ∀ (m : Nat) (a b i : Int), gu p x K m a b i = ie p x (fun b a => K a b) m b a i
 | 0, a, b, i => rfl
 | m + 1, a, b, i => by
   simp only [gu, ie, LET, aw0, tz p x K m]
   by_cases h1 : (ix x.Keys i).Kind = 1
   ·simp [h1]
   ·by_cases h2 : (ix x.Keys i).Kind = 2
    ·simp [h2]
    ·by_cases h3 : (ix x.Keys i).Kind = 3
     ·simp [h3]
     ·simp [h1, h2, h3]
theorem an8 (p : aa) (x : ax) : ll p x = nd p x := by
 simp only [ll, nd, tz]
theorem af4 {p : aa} {x : ax} {K : Int → Int → Int × Int} : ∀ (m : Nat) (a b i : Int), m = Int.toNat ((x.Keys.length : Int) - i) → 0 ≤ i → (ie p x K m a b i).2 = 0 →
 (∀ j, i ≤ j → j < x.Keys.length → ((ix x.Keys j).Kind = 1 ∨ (ix x.Keys j).Kind = 2 ∨ (ix x.Keys j).Kind = 3) ∧ jx p (ix x.Keys j).Field ≠ 0) ∧ ∃ a' b', (K a' b').2 = 0
 | 0, a, b, i, hm, h0, h => ⟨fun j h1 h2 => by omega, a, b, h⟩
 | m + 1, a, b, i, hm, h0, h => by
   simp only [ie, LET] at h
   by_cases hw : jx p (ix x.Keys i).Field = 0
   ·simp [hw] at h
   ·rw [if_neg (by simpa using hw)] at h
    split at h
    ·simp at h
    ·rename_i hk
     have hk' : (ix x.Keys i).Kind = 1 ∨ (ix x.Keys i).Kind = 2 ∨ (ix x.Keys i).Kind = 3 := by
      simp at hk; omega
     split at h
     all_goals
      obtain ⟨h1, h2⟩ := af4 m _ _ (i + 1) (by omega) (by omega) h
      refine ⟨fun j h3 h4 => ?_, h2⟩
      by_cases e : j = i
      ·subst e; exact ⟨hk', hw⟩
      ·exact h1 j (by omega) h4
theorem wm (l : List Int) (a : Int) : ∀ (m : Nat) (i : Int), m = Int.toNat ((l.length : Int) - i) → 0 ≤ i → (gx l a (fun _ => -1) m i = -1 ∧ ∀ j, i ≤ j → j < l.length → ix l j ≠ a) ∨
 (i ≤ gx l a (fun _ => -1) m i ∧ gx l a (fun _ => -1) m i < l.length ∧ ix l (gx l a (fun _ => -1) m i) = a ∧ ∀ j, i ≤ j → j < gx l a (fun _ => -1) m i → ix l j ≠ a)
 | 0, i, hm, h0 => .inl ⟨rfl, fun j h1 h2 => by omega⟩
 | m + 1, i, hm, h0 => by
   simp only [gx]
   by_cases h : ix l i = a
   ·rw [if_pos (by simpa using h)]
    exact .inr ⟨by omega, by omega, h, fun j h1 h2 => by omega⟩
   ·rw [if_neg (by simpa using h)]
    rcases wm l a m (i + 1) (by omega) (by omega) with ⟨h1, h2⟩ | ⟨h1, h2, h3, h4⟩
    ·refine .inl ⟨h1, fun j h5 h6 => ?_⟩
     by_cases e : j = i
     ·subst e; exact h
     ·exact h2 j (by omega) h6
    ·refine .inr ⟨by omega, h2, h3, fun j h5 h6 => ?_⟩
     by_cases e : j = i
     ·subst e; exact h
     ·exact h4 j (by omega) h6
theorem ag4 (l : List Int) (a : Int) : (gg l a = -1 ∧ ∀ j : Int, 0 ≤ j → j < l.length → ix l j ≠ a) ∨ (0 ≤ gg l a ∧ gg l a < l.length ∧ ix l (gg l a) = a ∧ ∀ j, 0 ≤ j → j < gg l a → ix l j ≠ a) :=
 wm l a _ 0 rfl (by omega)
theorem bs6 (l : List Int) (a i : Int) (h0 : 0 ≤ i) (h1 : i < l.length) (h : ix l i = a) : gg l a < i ↔ ∃ j, 0 ≤ j ∧ j < i ∧ ix l j = a := by
 rcases ag4 l a with ⟨h2, h3⟩ | ⟨h2, h3, h4, h5⟩
 ·exact absurd h (h3 i h0 h1)
 ·constructor
  ·intro hlt; exact ⟨_, h2, hlt, h4⟩
  ·rintro ⟨j, h6, h7, h8⟩
   by_cases h9 : j < gg l a
   ·exact absurd h8 (h5 j h6 h9)
   ·omega
theorem al4 (l : List Int) (a : Int) : gg l a < 0 ↔ ¬∃ j, 0 ≤ j ∧ j < (l.length : Int) ∧ ix l j = a := by
 rcases ag4 l a with ⟨h2, h3⟩ | ⟨h2, h3, h4, h5⟩
 ·rw [h2]
  exact ⟨fun _ ⟨j, h6, h7, h8⟩ => h3 j h6 h7 h8, fun _ => by omega⟩
 ·exact ⟨fun h => by omega, fun h => absurd ⟨_, h2, h3, h4⟩ h⟩
def Seen (l : List Int) (i : Int) (z : List (Int × Bool)) : Prop := ∀ a, (mget z a).getD false = true ↔ ∃ j, 0 ≤ j ∧ j < i ∧ ix l j = a
theorem Seen.step {l : List Int} {i : Int} {z : List (Int × Bool)} (h : Seen l i z) (h0 : 0 ≤ i) : Seen l (i + 1) (mput z (ix l i) true) := fun a => by
 rw [bl0]
 by_cases e : ix l i = a
 ·simp only [e, if_true, Option.getD_some, true_iff]
  exact ⟨i, h0, by omega, e⟩
 ·simp only [e, if_false]
  rw [h a]
  constructor
  ·rintro ⟨j, h1, h2, h3⟩; exact ⟨j, h1, by omega, h3⟩
  ·rintro ⟨j, h1, h2, h3⟩
   have : j ≠ i := fun hj => e (by rw [← hj]; exact h3)
   exact ⟨j, h1, by omega, h3⟩
theorem qo (p : aa) (x : ax) {K : List (Int × Bool) → Int} {K' : Unit → Int} (hK : ∀ z, Seen x.Actions x.Actions.length z → K z = K' ()) : ∀ (m : Nat) (i : Int) (z : List (Int × Bool)), m = Int.toNat ((x.Actions.length : Int) - i) → 0 ≤ i → i ≤ x.Actions.length → Seen x.Actions i z → fw p x K m i z = ja p x K' m i
 | 0, i, z, hm, h0, h1, hz => by
   have : i = x.Actions.length := by omega
   subst this
   simp only [fw, ja]
   exact hK z hz
 | m + 1, i, z, hm, h0, h1, hz => by
   have ih := qo p x hK m (i + 1) _ (by omega) (by omega) (by omega) (hz.step h0)
   simp only [fw, ja, LET]
   split
   ·rfl
   ·have hs := hz (ix x.Actions i)
    have hi := bs6 x.Actions _ i h0 (by omega) rfl
    have e : ((mget z (ix x.Actions i)).getD false) = decide (gg x.Actions (ix x.Actions i) < i) := by
     rw [Bool.eq_iff_iff, decide_eq_true_eq, hs, hi]
    rw [e, ih]
theorem aa6 (p : aa) (x : ax) : kx p x = oc p x := by
 unfold kx oc
 refine qo p x (fun z hz => ?_) _ 0 [] rfl (by omega) (by omega) (fun a => by simp [by0]; omega)
 have e : (!((mget z x.Default.Action).getD false)) = decide (gg x.Actions x.Default.Action < 0) := by
  rw [Bool.eq_iff_iff, decide_eq_true_eq, al4, ← hz]; simp
 simp only [LET, e, CheckCall_eq]
theorem Check_eq (p : aa) (t : Int) : gj p t = fc p t := by
 simp only [gj, fc, LET, bv0, an8, aa6]
theorem zr (p : aa) (t : Int) : fx p t = fe p t := by
 simp only [fx, fe, Check_eq]
theorem Widths_eq (p : aa) (t : Int) : dn p t = db p t := by
 rw [tx, py, zr]
 simp only [aw0]
theorem Kind_3 (p : aa) (t : Int) : ∀ (m : Nat) (i : Int), m = Int.toNat (((ix p.Tables t).Keys.length : Int) - i) → 0 ≤ i → (∀ j, i ≤ j → j < (ix p.Tables t).Keys.length → (ix (ix p.Tables t).Keys j).Kind ≤ 3) → fq p t (fun x => x) m 3 i = 3
 | 0, i, _, _, _ => rfl
 | m + 1, i, hm, h0, h => by
   simp only [fq]
   have := h i (by omega) (by omega)
   rw [show max 3 (ix (ix p.Tables t).Keys i).Kind = 3 by omega]
   exact Kind_3 p t m (i + 1) (by omega) (by omega) fun j h1 h2 => h j (by omega) h2
theorem Kind_L1_eq (p : aa) (t : Int) : ∀ (m : Nat) (k i : Int), m = Int.toNat (((ix p.Tables t).Keys.length : Int) - i) → 0 ≤ i → (k = 1 ∨ k = 2) → (∀ j, i ≤ j → j < (ix p.Tables t).Keys.length → (ix (ix p.Tables t).Keys j).Kind = 1 ∨ (ix (ix p.Tables t).Keys j).Kind = 2 ∨ (ix (ix p.Tables t).Keys j).Kind = 3) →
 kj p t (fun x => x) m k i = fq p t (fun x => x) m k i
 | 0, k, i, _, _, _, _ => rfl
 | m + 1, k, i, hm, h0, hk, h => by
   simp only [kj, fq]
   have hi := h i (by omega) (by omega)
   have h' : ∀ j, i + 1 ≤ j → j < (ix p.Tables t).Keys.length → _ := fun j h1 h2 => h j (by omega) h2
   rcases hi with e | e | e
   ·rw [if_neg (by simp [e]), if_neg (by simp [e]), e, show max k 1 = k by omega]
    exact Kind_L1_eq p t m k (i + 1) (by omega) (by omega) hk h'
   ·rw [if_neg (by simp [e]), if_pos (by simp [e]), e, show max k 2 = 2 by omega]
    exact Kind_L1_eq p t m 2 (i + 1) (by omega) (by omega) (.inr rfl) h'
   ·rw [if_pos (by simp [e]), e, show max k 3 = 3 by omega]
    exact (Kind_3 p t m (i + 1) (by omega) (by omega) fun j h1 h2 => by have := h' j h1 h2; omega).symm
theorem uj {p : aa} {t : Int} (h : fe p t = true) : ∀ j : Int, 0 ≤ j → j < (ix p.Tables t).Keys.length → ((ix (ix p.Tables t).Keys j).Kind = 1 ∨ (ix (ix p.Tables t).Keys j).Kind = 2 ∨ (ix (ix p.Tables t).Keys j).Kind = 3) ∧ jx p (ix (ix p.Tables t).Keys j).Field ≠ 0 := by
 have h : (fc p t).2 = 0 := by simpa [fe, LET] using h
 simp only [fc, LET] at h
 split at h
 ·simp at h
 ·split at h
  ·simp at h
  ·split at h
   ·simp at h
   ·split at h
    ·simp at h
    ·by_cases hk : (nd p (ix p.Tables t)).2 = 0
     ·exact (af4 _ 0 0 0 rfl (by omega) hk).1
     ·rw [if_pos (by simpa using hk)] at h
      exact absurd h hk
theorem Kind_eq (p : aa) (t : Int) : fb p t = lc p t := by
 simp only [fb, lc, LET, zr]
 cases hv : fe p t with
 | false => rfl
 | true =>
   simp only [Bool.not_true, Bool.false_eq_true, if_false]
   exact Kind_L1_eq p t _ 1 0 rfl (by omega) (.inl rfl) fun j h1 h2 => (uj hv j h1 h2).1
theorem Allows_L1_spec (p : aa) (t a : Int) : ∀ (m : Nat) (i : Int), m = Int.toNat (((ix p.Tables t).Actions.length : Int) - i) → 0 ≤ i → (jo p t a (fun _ => false) m i = true ↔ ∃ j : Int, i ≤ j ∧ j < (ix p.Tables t).Actions.length ∧ ix (ix p.Tables t).Actions j = a)
 | 0, i, hm, h0 => by
   simp only [jo, Bool.false_eq_true, false_iff]
   rintro ⟨j, h1, h2, _⟩; omega
 | m + 1, i, hm, h0 => by
   have ih := Allows_L1_spec p t a m (i + 1) (by omega) (by omega)
   simp only [jo]
   by_cases h : ix (ix p.Tables t).Actions i = a
   ·rw [if_pos (by simpa using h)]
    exact ⟨fun _ => ⟨i, by omega, by omega, h⟩, fun _ => rfl⟩
   ·rw [if_neg (by simpa using h), ih]
    constructor
    ·rintro ⟨j, h1, h2, h3⟩; exact ⟨j, by omega, h2, h3⟩
    ·rintro ⟨j, h1, h2, h3⟩
     have : j ≠ i := fun e => h (by rw [← e]; exact h3)
     exact ⟨j, by omega, h2, h3⟩
theorem Allows_iff (p : aa) (t a : Int) : nu p t a = true ↔ fx p t = true ∧ ∃ j : Int, 0 ≤ j ∧ j < (ix p.Tables t).Actions.length ∧ ix (ix p.Tables t).Actions j = a := by
 simp only [nu, LET]
 cases hv : fx p t with
 | false => simp
 | true =>
   simp only [Bool.not_true, Bool.false_eq_true, if_false, true_and]
   exact Allows_L1_spec p t a _ 0 rfl (by omega)
theorem Allows_eq (p : aa) (t a : Int) : nu p t a = pg p t a := by
 rw [Bool.eq_iff_iff, Allows_iff]
 simp only [pg, LET, Bool.and_eq_true, decide_eq_true_eq, zr]
 have := al4 (ix p.Tables t).Actions a
 constructor
 ·rintro ⟨h1, h2⟩
  refine ⟨h1, ?_⟩
  by_cases h3 : gg (ix p.Tables t).Actions a < 0
  ·exact absurd h2 (this.1 h3)
  ·exact Int.not_lt.1 h3
 ·rintro ⟨h1, h2⟩
  refine ⟨h1, ?_⟩
  by_cases h3 : ∃ j : Int, 0 ≤ j ∧ j < (ix p.Tables t).Actions.length ∧ ix (ix p.Tables t).Actions j = a
  ·exact h3
  ·exact absurd (this.2 h3) (Int.not_lt.2 h2)
theorem Matches_L1_eq (x : au) (k : List (BitVec 32)) (K : Unit → Bool) : ∀ (m : Nat) (i : Int), ij x k K m i = jt x k K m i
 | 0, i => rfl
 | m + 1, i => by simp only [ij, jt, Matches_L1_eq x k K m]
theorem Matches_eq (x : au) (k : List (BitVec 32)) : cn x k = od x k := by
 simp only [cn, od, Matches_L1_eq]
 by_cases h : k.length = x.Keys.length
 ·simp [h]
 ·have h1 : ¬((k.length : Int) = x.Keys.length) := by omega
  have h2 : ¬((x.Keys.length : Int) = k.length) := by omega
  simp [h1, h2]
theorem SameKey_L1_eq (a b : au) (K : Unit → Bool) : ∀ (m : Nat) (i : Int), js a b K m i = ga a b K m i
 | 0, i => rfl
 | m + 1, i => by simp only [js, ga, SameKey_L1_eq a b K m]
theorem SameKey_eq (a b : au) : iq a b = gb a b := by
 simp only [iq, gb, SameKey_L1_eq, Bool.or_comm]
theorem OnesCount_L1_eq (x : BitVec 32) (K : Int → Int) : ∀ (m : Nat) (y : BitVec 32) (n i : Int), 0 ≤ i → y = x >>> i.toNat → io x K m n i = iu K m y n i
 | 0, y, n, i, _, _ => rfl
 | m + 1, y, n, i, h0, hy => by
   simp only [io, iu]
   have e1 : (x >>> i.toNat &&& 1#32).toNat = (y % 2#32).toNat := by
    rw [hy, BitVec.toNat_and, BitVec.toNat_umod]
    exact Nat.and_one_is_mod _
   have e2 : y / 2#32 = x >>> (i + 1).toNat := by
    apply BitVec.eq_of_toNat_eq
    rw [hy, BitVec.toNat_udiv, BitVec.toNat_ushiftRight, BitVec.toNat_ushiftRight, show (i + 1).toNat = i.toNat + 1 by omega, Nat.shiftRight_succ]
    rfl
   rw [e1, OnesCount_L1_eq x K m (y / 2#32) _ (i + 1) (by omega) e2]
theorem OnesCount_eq (x : BitVec 32) : iy x = mu x := by
 simp only [iy, mu]
 exact OnesCount_L1_eq x _ _ x 0 0 (by omega) (by simp)
theorem yl (p : aa) (t : Int) (x : au) (K : Unit → Int) : ∀ (m : Nat) (i : Int), fj p t x K m i = ik p t x K m i
 | 0, i => rfl
 | m + 1, i => by
   simp only [fj, ik, LET, OnesCount_eq, yl p t x K m]
   split
   ·by_cases h : i < x.Keys.length
    ·have h2 : ¬((x.Keys.length : Int) ≤ i) := by omega
     simp [h, h2]
    ·have h2 : (x.Keys.length : Int) ≤ i := by omega
     simp [h, h2]
   ·rfl
theorem bj8 (p : aa) (t : Int) (x : au) : fk p t x = kt p t x := by
 simp only [fk, kt, yl]
theorem Precedes_eq (p : aa) (t : Int) (a b : aj) : di p t a b = kb p t a b := by
 simp only [di, kb, LET, bj8]
theorem af3 : ∀ w : Fin 33, ∀ n : Fin 33, 1 ≤ w.val → n.val ≤ w.val → fh (n.val : Int) (w.val : Int) = ma (n.val : Int) (w.val : Int) := by decide +kernel
theorem PrefixLen_L1_eq (x : BitVec 32) (w : Int) (hw : 1 ≤ w ∧ w ≤ 32) (K : Unit → Int × Bool) : ∀ (m : Nat) (i : Int), m = Int.toNat (w + 1 - i) → 0 ≤ i → ej x w K m i = gw x w K m i
 | 0, i, _, _ => rfl
 | m + 1, i, hm, h0 => by
   simp only [ej, gw, LET]
   have h1 : i ≤ w := by omega
   have e : fh i w = ma i w := by
    have := af3 ⟨w.toNat, by omega⟩ ⟨i.toNat, by omega⟩ (by simp only; omega) (by simp only; omega)
    simp only at this
    rwa [show ((w.toNat : Nat) : Int) = w by omega, show ((i.toNat : Nat) : Int) = i by omega] at this
   rw [e, PrefixLen_L1_eq x w hw K m (i + 1) (by omega) (by omega)]
   simp [h1, (sn w).2 hw]
theorem PrefixLen_eq (x : BitVec 32) (w : Int) : dk x w = jm x w := by
 simp only [dk, jm, LET, ah3]
 by_cases h : 1 ≤ w ∧ w ≤ 32
 ·rw [(sn w).2 h, dw (by omega) (by omega)]
  simp only [Bool.not_true, Bool.false_eq_true, if_false, Int.sub_zero]
  exact PrefixLen_L1_eq x w h _ _ 0 (by simp) (by omega)
 ·have hv : fm w = false := by
   cases hv : fm w with
   | false => rfl
   | true => exact absurd ((sn w).1 hv) h
  rw [hv]
  simp only [Bool.not_false, if_true]
  generalize Int.toNat (w + 1 - 0) = m
  cases m with
  | zero => rfl
  | succ m => simp [gw, hv]
theorem ar8 (a b : BitVec 32) : decide (a &&& ~~~b = 0#32) = decide (a &&& b = a) := by
 rw [Bool.eq_iff_iff, decide_eq_true_eq, decide_eq_true_eq]
 constructor
 ·intro h
  apply BitVec.eq_of_getLsbD_eq
  intro i hi
  have := congrArg (fun v => v.getLsbD i) h
  simp [hi] at this ⊢
  exact this
 ·intro h
  apply BitVec.eq_of_getLsbD_eq
  intro i hi
  have := congrArg (fun v => v.getLsbD i) h
  simp [hi] at this ⊢
  exact this
theorem av3 (m : ay) (k w : Int) : ng m k w = ji m w k := by
 simp only [ng, ji, LET, vw, bh9, ar8, PrefixLen_eq]
 split
 ·rfl
 ·split
  ·rfl
  ·by_cases h1 : k = 1
   ·by_cases h : m.Mask = jh w <;> simp [h1, h]
   ·by_cases h2 : k = 2
    ·cases h : (jm m.Mask w).2 <;> simp [h2, h]
    ·simp [h1, h2]
theorem xt (p : aa) (t : Int) (x : au) (w : List Int) (K : Unit → Int) : ∀ (m : Nat) (i : Int), lb p t x w K m i = jg p t x w K m i
 | 0, i => rfl
 | m + 1, i => by simp only [lb, jg, LET, av3, xt p t x w K m]
theorem bn5 (p : aa) (t : Int) (x : au) : lu p t x = ke p t x := by
 simp only [lu, ke, LET, Check_eq, Widths_eq, Kind_eq, Allows_eq, CheckCall_eq, xt]
 by_cases hc : (fc p t).2 = 0
 ·have hv : fe p t = true := by simp [fe, LET, hc]
  have hl : (db p t).length = (ix p.Tables t).Keys.length := by rw [py, if_pos hv, rx]
  simp only [hc, hl, decide_true, Bool.not_true, Bool.false_eq_true, if_false]
  split
  ·rfl
  ·rename_i hlen
   simp only [Bool.not_eq_true', decide_eq_false_iff_not, Decidable.not_not] at hlen
   rw [hlen]
   congr 1
   funext u
   split
   ·rfl
   ·rename_i hp
    simp only [Bool.or_eq_true, decide_eq_true_eq, not_or] at hp
    have e : (!decide (x.Priority = 0)) = decide (0 < x.Priority) := by
     rw [Bool.eq_iff_iff]; simp; omega
    rw [e]
 ·simp only [hc, decide_false, Bool.not_false, if_true]
end Go.Proofs.YthdnpgpnodgicaaGreat
