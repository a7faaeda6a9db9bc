import Derived.Test.YthdnpgpnodgicaaGreatKDef
import Derived.Test.YthdnpgpnodgicaaGreatPbP
import Derived.KernelRfl
set_option linter.unusedVariables false
set_option linter.unusedSimpArgs false
set_option maxRecDepth 100000
namespace Go.Proofs.YthdnpgpnodgicaaGreat
open Go Go.Pb Go.RowKit
def SR (r : am) : Prop := r.Entry.Keys.length ≤ 20 ∧ r.Entry.Call.Args.length ≤ 20
theorem dg1 {x : bm} : ∀ (m : Nat) (i : Int), m = Int.toNat ((x.Rows.length : Int) - i) → ka x (fun _ => false) m i = false → ∀ j : Int, i ≤ j → j < x.Rows.length → SR (ix x.Rows j)
 | 0, i, hm, h, j, h1, h2 => by omega
 | m + 1, i, hm, h, j, h1, h2 => by
   rw [ka] at h
   split at h
   ·cases h
   ·rename_i hc
    simp only [Bool.or_eq_true, decide_eq_true_eq, not_or] at hc
    by_cases e : j = i
    ·subst e; exact ⟨by omega, by omega⟩
    ·exact dg1 m (i + 1) (by omega) h j (by omega) h2
theorem tl {x : bm} {y : Bool} (h : gc x = y) (hy : y = false) : ∀ r ∈ x.Rows, SR r := by
 subst hy
 unfold gc at h
 simp only [LET] at h
 split at h
 ·cases h
 ·intro r hr
  obtain ⟨k, hk, rfl⟩ := List.getElem_of_mem hr
  have := dg1 _ 0 rfl h (k : Int) (by omega) (by omega)
  rwa [qv (by omega) (by omega)] at this
theorem lv (w : Int) : jc [w] = decide (1 ≤ w ∧ w ≤ 32) := by
 have h : ix [w] 0 = w := rfl
 unfold jc
 rw [show Int.toNat ((([w] : List Int).length : Int) - 0) = 0 + 1 from rfl, lh, h, lh]
 by_cases h1 : w < 1
 ·have : ¬(1 ≤ w ∧ w ≤ 32) := by omega
  simp [h1, this]
 ·by_cases h2 : 32 < w
  ·have : ¬(1 ≤ w ∧ w ≤ 32) := by omega
   simp [h2, this]
  ·have : (1 ≤ w ∧ w ≤ 32) := by omega
   simp [h1, h2, this]
theorem df5 {w : Int} {b : Bool} (h : jc [w] = b) (h2 : b = true) : 0 ≤ wr (32 - w) := by
 rw [lv, h2] at h
 have h := of_decide_eq_true h
 rw [dm (by omega) (by omega)]; omega
theorem ch7 {p : aa} {t : Int} (h : (ij p t).2 = 0) : (0 ≤ t ∧ t < p.Tables.length) ∧ (ix p.Tables t).Keys.length ≤ 6 ∧ (ix p.Tables t).Actions.length ≤ 16 := by
 simp only [ij, LET] at h
 by_cases h1 : (decide (t < 0) || decide ((p.Tables.length : Int) ≤ t)) = true
 ·rw [if_pos h1] at h; simp at h
 ·rw [if_neg h1] at h
  split at h
  ·simp at h
  ·split at h
   ·simp at h
   ·rename_i h2
    simp only [Bool.or_eq_true, decide_eq_true_eq, not_or] at h1 h2
    omega
theorem tv {p : aa} {t : Int} {b : Bool} (h : gq p t = b) (hb : b = true) : (0 ≤ t ∧ t < p.Tables.length) ∧ (ix p.Tables t).Keys.length ≤ 6 ∧ (ix p.Tables t).Actions.length ≤ 16 := by
 subst hb
 exact ch7 (by simpa [gq, LET] using h)
theorem uh (p : aa) (t : Int) (K : List Int → List Int) : ∀ (m : Nat) (i : Int) (acc : List Int), kg p t K m i acc = K (acc ++ tabI i m fun j => qs p (ix (ix p.Tables t).Keys j).Field)
 | 0, i, acc => by simp [kg, tabI]
 | m + 1, i, acc => by simp [kg, LET, uh p t K m, tabI]
theorem xm (p : aa) (t : Int) : du p t = if gq p t = true then tabI 0 (ix p.Tables t).Keys.length fun j => qs p (ix (ix p.Tables t).Keys j).Field else [] := by
 simp only [du, LET, uh, List.nil_append]
 cases gq p t <;> simp
theorem rv {w : Int} {b : Bool} (h : ie w = b) (hb : b = true) : 1 ≤ w ∧ w ≤ 32 := by
 subst hb
 simpa [ie] using h
theorem ai0 {p : aa} {t : Int} (h : (gz p t).2 = 0) : (0 ≤ t ∧ t < p.Tables.length) ∧ (ix p.Tables t).Keys.length ≤ 6 ∧ (ix p.Tables t).Actions.length ≤ 16 := by
 simp only [gz, LET] at h
 by_cases h1 : (decide (t < 0) || decide ((p.Tables.length : Int) ≤ t)) = true
 ·rw [if_pos h1] at h; simp at h
 ·rw [if_neg h1] at h
  split at h
  ·simp at h
  ·split at h
   ·simp at h
   ·rename_i h2
    simp only [Bool.or_eq_true, decide_eq_true_eq, not_or] at h1 h2
    omega
theorem rtv {p : aa} {t : Int} {b : Bool} (h : gb p t = b) (hb : b = true) : (0 ≤ t ∧ t < p.Tables.length) ∧ (ix p.Tables t).Keys.length ≤ 6 ∧ (ix p.Tables t).Actions.length ≤ 16 := by
 subst hb
 exact ai0 (by simpa [gb, LET] using h)
theorem uo (p : aa) (t : Int) (K : List Int → List Int) : ∀ (m : Nat) (i : Int) (acc : List Int), ke p t K m i acc = K (acc ++ tabI i m fun j => iv p (ix (ix p.Tables t).Keys j).Field)
 | 0, i, acc => by simp [ke, tabI]
 | m + 1, i, acc => by simp [ke, LET, uo p t K m, tabI]
theorem ol (p : aa) (t : Int) : br p t = if gb p t = true then tabI 0 (ix p.Tables t).Keys.length fun j => iv p (ix (ix p.Tables t).Keys j).Field else [] := by
 simp only [br, LET, uo, List.nil_append]
 cases gb p t <;> simp
theorem eck {p : aa} {t : Int} {y : Int × Int} {w : List Int} (h : ij p t = y) (h2 : y.2 = 0) (h3 : du p t = w) : (0 ≤ t ∧ t < p.Tables.length) ∧ w.length = (ix p.Tables t).Keys.length ∧ w.length ≤ 6 := by
 subst h h3
 have hv : gq p t = true := by simp [gq, LET, h2]
 have := tv hv rfl
 rw [xm, if_pos hv, sn]
 omega
theorem reck {p : aa} {t : Int} {y : Int × Int} {w : List Int} (h : gz p t = y) (h2 : y.2 = 0) (h3 : br p t = w) : (0 ≤ t ∧ t < p.Tables.length) ∧ w.length = (ix p.Tables t).Keys.length ∧ w.length ≤ 6 := by
 subst h h3
 have hv : gb p t = true := by simp [gb, LET, h2]
 have := rtv hv rfl
 rw [ol, if_pos hv, sn]
 omega
theorem mv {w : Int} {b : Bool} (h : jc [w] = b) (h2 : b = true) : 1 ≤ w ∧ w ≤ 32 := by
 rw [lv, h2] at h
 exact of_decide_eq_true h
theorem tck {p : aa} {t : Int} {y : Int × Int} (h : ij p t = y) (h2 : y.2 = 0) : (0 ≤ t ∧ t < p.Tables.length) ∧ (ix p.Tables t).Keys.length ≤ 6 ∧ (ix p.Tables t).Actions.length ≤ 16 := by
 subst h; exact ch7 h2
theorem rtck {p : aa} {t : Int} {y : Int × Int} (h : gz p t = y) (h2 : y.2 = 0) : (0 ≤ t ∧ t < p.Tables.length) ∧ (ix p.Tables t).Keys.length ≤ 6 ∧ (ix p.Tables t).Actions.length ≤ 16 := by
 subst h; exact ai0 h2
theorem bn {a : aw} {k : List (BitVec 32)} {b : Bool} (h : cq a k = b) (hb : b = true) : k.length = a.Keys.length := by
 subst hb
 unfold cq at h
 split at h
 ·cases h
 ·rename_i hc
  simp only [Bool.not_eq_true', decide_eq_false_iff_not, Decidable.not_not] at hc
  omega
theorem ak8 (w : Int) : jc [w] = ie w := by
 rw [lv]; simp [ie]
theorem wa (w : Int) : ie w = true ↔ 1 ≤ w ∧ w ≤ 32 := by simp [ie]
theorem cg7 : ∀ n : Fin 33, 1 ≤ n.val → fc (n.val : Int) = BitVec.ofNat 32 (2 ^ n.val - 1) ∧ pt (n.val : Int) = BitVec.ofNat 32 (2 ^ n.val - 1) := by decide +kernel
theorem bs3 : ∀ n : Fin 64, ll (n.val : Int) = BitVec.ofNat 64 (2 ^ n.val) := by decide +kernel
theorem ai5 {w : Int} (h : 1 ≤ w ∧ w ≤ 32) : fc w = BitVec.ofNat 32 (2 ^ w.toNat - 1) ∧ pt w = BitVec.ofNat 32 (2 ^ w.toNat - 1) := by
 have := cg7 ⟨w.toNat, by omega⟩ (by simp only; omega)
 simp only at this
 rwa [show ((w.toNat : Nat) : Int) = w by omega] at this
theorem ce4 {w : Int} (h : 0 ≤ w ∧ w < 64) : ll w = BitVec.ofNat 64 (2 ^ w.toNat) := by
 have := bs3 ⟨w.toNat, by omega⟩
 simp only at this
 rwa [show ((w.toNat : Nat) : Int) = w by omega] at this
theorem an2 {w : Int} (h : ¬(1 ≤ w ∧ w ≤ 32)) : fc w = 0#32 ∧ pt w = 0#32 := by
 have h1 : jc [w] = false := by rw [lv]; simpa using h
 have h2 : ie w = false := by rw [← ak8, h1]
 simp [fc, pt, LET, h1, h2]
theorem cw7 (w : Int) : fc w = pt w := by
 by_cases h : 1 ≤ w ∧ w ≤ 32
 ·rw [(ai5 h).1, (ai5 h).2]
 ·rw [(an2 h).1, (an2 h).2]
theorem dg4 {n : Nat} (h : n ≤ 32) : 2 ^ n ≤ 4294967296 := Nat.pow_le_pow_right (n := 2) (by omega) h
theorem zp {w : Int} (h : 1 ≤ w ∧ w ≤ 32) : (fc w).toNat = 2 ^ w.toNat - 1 := by
 have h1 := dg4 (n := w.toNat) (by omega)
 have h2 : 0 < 2 ^ w.toNat := Nat.pow_pos (by omega)
 rw [(ai5 h).1, BitVec.toNat_ofNat, Nat.mod_eq_of_lt (by omega)]
theorem ap5 (w : Int) : fc w = 0#32 ↔ ¬(1 ≤ w ∧ w ≤ 32) := by
 constructor
 ·intro h hw
  have h1 := zp hw
  have h2 : 2 ^ 1 ≤ 2 ^ w.toNat := Nat.pow_le_pow_right (by omega) (by omega)
  rw [h] at h1
  simp at h1
  omega
 ·exact fun h => (an2 h).1
theorem at4 (v : BitVec 32) (w : Int) : kf v w = md v w := by
 simp only [kf, md, LET, ak8]
 by_cases h : 1 ≤ w ∧ w ≤ 32
 ·rw [(wa w).2 h, Bool.true_and, Bool.true_and, Bool.eq_iff_iff, decide_eq_true_eq, decide_eq_true_eq, BitVec.le_def, BitVec.lt_def, zp h, ce4 ⟨by omega, by omega⟩]
  have h1 := dg4 (n := w.toNat) (by omega)
  have h2 : 0 < 2 ^ w.toNat := Nat.pow_pos (by omega)
  have h3 := v.isLt
  rw [BitVec.toNat_setWidth, BitVec.toNat_ofNat, Nat.mod_eq_of_lt (by omega), Nat.mod_eq_of_lt (by omega)]
  omega
 ·have : ie w = false := by
   cases hv : ie w with
   | false => rfl
   | true => exact absurd ((wa w).1 hv) h
  rw [this]; rfl
theorem ay3 (s : List UInt8) : ∀ (m : Nat) (i : Int), m = Int.toNat ((s.length : Int) - i) → 0 ≤ i → i ≤ s.length → decide (lj s jv (fun x => x) m i = (s.length : Int)) = im s (fun _ => true) m i
 | 0, i, hm, h0, h1 => by
   show decide (i = (s.length : Int)) = true
   simp; omega
 | m + 1, i, hm, h0, h1 => by
   simp only [lj, im, LET]
   have hlt : i < s.length := by omega
   have e1 : mu = ku := rfl
   have e2 : pw = lq := rfl
   simp only [hlt, decide_true, Bool.true_and, jv, LET, e1, e2]
   have ih := ay3 s m (i + 1) (by omega) (by omega) (by omega)
   cases ku (ix s i) <;> cases lq (ix s i) <;> by_cases h : ix s i = 95 <;> simp [h, ih] <;> omega
theorem cd7 (s : List UInt8) : mc s = mf s := by
 have e1 : mu = ku := rfl
 have h0 : decide ((s.length : Int) = 0) = decide (s = []) := by
  rw [Bool.eq_iff_iff, decide_eq_true_eq, decide_eq_true_eq]; simp
 simp only [mc, mf, LET, e1, h0, sy]
 split
 ·rfl
 ·exact ay3 s _ 0 rfl (by omega) (by omega)
theorem ba4 (p : aa) (r : cm) : qs p r = iv p r := by
 have key : ∀ (l : List bz), (if fc (lu l r.Field).Width = 0#32 then 0 else (lu l r.Field).Width) =
  if ((r.Field < 0 ∨ (l.length : Int) ≤ r.Field) ∨ (ix l r.Field).Width < 1) ∨ 32 < (ix l r.Field).Width then 0 else (ix l r.Field).Width := by
  intro l
  simp only [lu, ap5]
  by_cases h : r.Field < 0 ∨ (l.length : Int) ≤ r.Field
  ·simp [h]
  ·have h' : (decide (r.Field < 0) || decide ((l.length : Int) ≤ r.Field)) = false := by simpa using h
   rw [h']
   simp only [Bool.false_eq_true, if_false, h, false_or]
   by_cases h2 : 1 ≤ (ix l r.Field).Width ∧ (ix l r.Field).Width ≤ 32
   ·rw [if_neg (by simpa using h2), if_neg (by omega)]
   ·rw [if_pos h2, if_pos (by omega)]
 simp only [qs, iv, LET, wx, decide_eq_true_eq, Bool.or_eq_true]
 rw [key]
 by_cases h1 : r.Header = -1
 ·have h2 : ¬(0 ≤ r.Header) := by omega
  have h3 : ¬(r.Header < -1) := by omega
  simp only [h1, if_true, if_false, Int.reduceNeg, Int.reduceLE, Int.reduceLT, false_or]
 ·simp only [h1, if_false]
  by_cases h2 : 0 ≤ r.Header
  ·have h3 : ¬(r.Header < -1) := by omega
   by_cases h4 : (p.Headers.length : Int) ≤ r.Header
   ·have h6 : (iq p.Headers r.Header).Fields = [] := by simp [iq, h4]
    rw [h6]
    simp only [h2, h4, if_true, List.length_nil]
    rw [if_pos]
    omega
   ·have h5 : ¬(r.Header < 0) := by omega
    have h6 : (iq p.Headers r.Header) = ix p.Headers r.Header := by simp [iq, h4, h5]
    rw [h6]
    simp only [h2, h3, h4, if_true, if_false, false_or]
  ·have h3 : r.Header < -1 := by omega
   have h5 : r.Header < 0 := by omega
   have h6 : (iq p.Headers r.Header).Fields = [] := by simp [iq, h5]
   rw [h6]
   simp only [h2, h3, if_true, if_false, true_or, List.length_nil]
   rw [if_pos]
   omega
theorem CheckCall_L1_eq (p : aa) (c : bb) (K : Unit → Int) : ∀ (m : Nat) (i : Int), jf p c K m i = jr p c K m i
 | 0, i => rfl
 | m + 1, i => by simp only [jf, jr, LET, at4, CheckCall_L1_eq p c K m]
theorem CheckCall_eq (p : aa) (c : bb) : lr p c = mj p c := by
 simp only [lr, mj, CheckCall_L1_eq]
 split
 ·rfl
 ·split
  ·rfl
  ·rename_i h
   simp only [Bool.not_eq_true', decide_eq_false_iff_not, Decidable.not_not] at h
   rw [h]
theorem xn (p : aa) (x : ax) (K : Int → Int → Int × Int) : ∀ (m : Nat) (a b i : Int), iu p x K m a b i = jz p x (fun b a => K a b) m b a i
 | 0, a, b, i => rfl
 | m + 1, a, b, i => by
   simp only [iu, jz, LET, ba4, xn p x K m]
   by_cases h1 : (ix x.Keys i).Kind = 1
   ·simp [h1]
   ·by_cases h2 : (ix x.Keys i).Kind = 2
    ·simp [h2]
    ·by_cases h3 : (ix x.Keys i).Kind = 3
     ·simp [h3]
     ·simp [h1, h2, h3]
theorem aw1 (p : aa) (x : ax) : mh p x = qp p x := by
 simp only [mh, qp, xn]
theorem ak0 {p : aa} {x : ax} {K : Int → Int → Int × Int} : ∀ (m : Nat) (a b i : Int), m = Int.toNat ((x.Keys.length : Int) - i) → 0 ≤ i → (jz p x K m a b i).2 = 0 →
 (∀ j, i ≤ j → j < x.Keys.length → ((ix x.Keys j).Kind = 1 ∨ (ix x.Keys j).Kind = 2 ∨ (ix x.Keys j).Kind = 3) ∧ iv p (ix x.Keys j).Field ≠ 0) ∧ ∃ a' b', (K a' b').2 = 0
 | 0, a, b, i, hm, h0, h => ⟨fun j h1 h2 => by omega, a, b, h⟩
 | m + 1, a, b, i, hm, h0, h => by
   simp only [jz, LET] at h
   by_cases hw : iv p (ix x.Keys i).Field = 0
   ·simp [hw] at h
   ·rw [if_neg (by simpa using hw)] at h
    split at h
    ·simp at h
    ·rename_i hk
     have hk' : (ix x.Keys i).Kind = 1 ∨ (ix x.Keys i).Kind = 2 ∨ (ix x.Keys i).Kind = 3 := by
      simp at hk; omega
     split at h
     all_goals
      obtain ⟨h1, h2⟩ := ak0 m _ _ (i + 1) (by omega) (by omega) h
      refine ⟨fun j h3 h4 => ?_, h2⟩
      by_cases e : j = i
      ·subst e; exact ⟨hk', hw⟩
      ·exact h1 j (by omega) h4
theorem zj (l : List Int) (a : Int) : ∀ (m : Nat) (i : Int), m = Int.toNat ((l.length : Int) - i) → 0 ≤ i → (iw l a (fun _ => -1) m i = -1 ∧ ∀ j, i ≤ j → j < l.length → ix l j ≠ a) ∨
 (i ≤ iw l a (fun _ => -1) m i ∧ iw l a (fun _ => -1) m i < l.length ∧ ix l (iw l a (fun _ => -1) m i) = a ∧ ∀ j, i ≤ j → j < iw l a (fun _ => -1) m i → ix l j ≠ a)
 | 0, i, hm, h0 => .inl ⟨rfl, fun j h1 h2 => by omega⟩
 | m + 1, i, hm, h0 => by
   simp only [iw]
   by_cases h : ix l i = a
   ·rw [if_pos (by simpa using h)]
    exact .inr ⟨by omega, by omega, h, fun j h1 h2 => by omega⟩
   ·rw [if_neg (by simpa using h)]
    rcases zj l a m (i + 1) (by omega) (by omega) with ⟨h1, h2⟩ | ⟨h1, h2, h3, h4⟩
    ·refine .inl ⟨h1, fun j h5 h6 => ?_⟩
     by_cases e : j = i
     ·subst e; exact h
     ·exact h2 j (by omega) h6
    ·refine .inr ⟨by omega, h2, h3, fun j h5 h6 => ?_⟩
     by_cases e : j = i
     ·subst e; exact h
     ·exact h4 j (by omega) h6
theorem am5 (l : List Int) (a : Int) : (ik l a = -1 ∧ ∀ j : Int, 0 ≤ j → j < l.length → ix l j ≠ a) ∨ (0 ≤ ik l a ∧ ik l a < l.length ∧ ix l (ik l a) = a ∧ ∀ j, 0 ≤ j → j < ik l a → ix l j ≠ a) :=
 zj l a _ 0 rfl (by omega)
theorem bz1 (l : List Int) (a i : Int) (h0 : 0 ≤ i) (h1 : i < l.length) (h : ix l i = a) : ik l a < i ↔ ∃ j, 0 ≤ j ∧ j < i ∧ ix l j = a := by
 rcases am5 l a with ⟨h2, h3⟩ | ⟨h2, h3, h4, h5⟩
 ·exact absurd h (h3 i h0 h1)
 ·constructor
  ·intro hlt; exact ⟨_, h2, hlt, h4⟩
  ·rintro ⟨j, h6, h7, h8⟩
   by_cases h9 : j < ik l a
   ·exact absurd h8 (h5 j h6 h9)
   ·omega
theorem ar9 (l : List Int) (a : Int) : ik l a < 0 ↔ ¬∃ j, 0 ≤ j ∧ j < (l.length : Int) ∧ ix l j = a := by
 rcases am5 l a with ⟨h2, h3⟩ | ⟨h2, h3, h4, h5⟩
 ·rw [h2]
  exact ⟨fun _ ⟨j, h6, h7, h8⟩ => h3 j h6 h7 h8, fun _ => by omega⟩
 ·exact ⟨fun h => by omega, fun h => absurd ⟨_, h2, h3, h4⟩ h⟩
def Seen (l : List Int) (i : Int) (z : List (Int × Bool)) : Prop := ∀ a, (mget z a).getD false = true ↔ ∃ j, 0 ≤ j ∧ j < i ∧ ix l j = a
theorem Seen.step {l : List Int} {i : Int} {z : List (Int × Bool)} (h : Seen l i z) (h0 : 0 ≤ i) : Seen l (i + 1) (mput z (ix l i) true) := fun a => by
 rw [bs2]
 by_cases e : ix l i = a
 ·simp only [e, if_true, Option.getD_some, true_iff]
  exact ⟨i, h0, by omega, e⟩
 ·simp only [e, if_false]
  rw [h a]
  constructor
  ·rintro ⟨j, h1, h2, h3⟩; exact ⟨j, h1, by omega, h3⟩
  ·rintro ⟨j, h1, h2, h3⟩
   have : j ≠ i := fun hj => e (by rw [← hj]; exact h3)
   exact ⟨j, h1, by omega, h3⟩
theorem ue (p : aa) (x : ax) {K : List (Int × Bool) → Int} {K' : Unit → Int} (hK : ∀ z, Seen x.Actions x.Actions.length z → K z = K' ()) : ∀ (m : Nat) (i : Int) (z : List (Int × Bool)), m = Int.toNat ((x.Actions.length : Int) - i) → 0 ≤ i → i ≤ x.Actions.length → Seen x.Actions i z → gu p x K m i z = jx p x K' m i
 | 0, i, z, hm, h0, h1, hz => by
   have : i = x.Actions.length := by omega
   subst this
   simp only [gu, jx]
   exact hK z hz
 | m + 1, i, z, hm, h0, h1, hz => by
   have ih := ue p x hK m (i + 1) _ (by omega) (by omega) (by omega) (hz.step h0)
   simp only [gu, jx, LET]
   split
   ·rfl
   ·have hs := hz (ix x.Actions i)
    have hi := bz1 x.Actions _ i h0 (by omega) rfl
    have e : ((mget z (ix x.Actions i)).getD false) = decide (ik x.Actions (ix x.Actions i) < i) := by
     rw [Bool.eq_iff_iff, decide_eq_true_eq, hs, hi]
    rw [e, ih]
theorem ag8 (p : aa) (x : ax) : ly p x = ql p x := by
 unfold ly ql
 refine ue p x (fun z hz => ?_) _ 0 [] rfl (by omega) (by omega) (fun a => by simp [bx5]; omega)
 have e : (!((mget z x.Default.Action).getD false)) = decide (ik x.Actions x.Default.Action < 0) := by
  rw [Bool.eq_iff_iff, decide_eq_true_eq, ar9, ← hz]; simp
 simp only [LET, e, CheckCall_eq]
theorem Check_eq (p : aa) (t : Int) : ij p t = gz p t := by
 simp only [ij, gz, LET, cd7, aw1, ag8]
theorem ae3 (p : aa) (t : Int) : gq p t = gb p t := by
 simp only [gq, gb, Check_eq]
theorem Widths_eq (p : aa) (t : Int) : du p t = br p t := by
 rw [xm, ol, ae3]
 simp only [ba4]
theorem Bits_L1_eq (w : List Int) (K : Int → Int) : ∀ (m : Nat) (a i : Int), na w K m a i = fe w K m a i
 | 0, a, i => rfl
 | m + 1, a, i => by simp only [na, fe, Bits_L1_eq w K m]
theorem Bits_eq (p : aa) (t : Int) : jk p t = fx p t := by
 simp only [jk, fx, LET, Widths_eq, Bits_L1_eq]
theorem Kind_3 (p : aa) (t : Int) : ∀ (m : Nat) (i : Int), m = Int.toNat (((ix p.Tables t).Keys.length : Int) - i) → 0 ≤ i → (∀ j, i ≤ j → j < (ix p.Tables t).Keys.length → (ix (ix p.Tables t).Keys j).Kind ≤ 3) → ot p t (fun x => x) m 3 i = 3
 | 0, i, _, _, _ => rfl
 | m + 1, i, hm, h0, h => by
   simp only [ot]
   have := h i (by omega) (by omega)
   rw [show max 3 (ix (ix p.Tables t).Keys i).Kind = 3 by omega]
   exact Kind_3 p t m (i + 1) (by omega) (by omega) fun j h1 h2 => h j (by omega) h2
theorem Kind_L1_eq (p : aa) (t : Int) : ∀ (m : Nat) (k i : Int), m = Int.toNat (((ix p.Tables t).Keys.length : Int) - i) → 0 ≤ i → (k = 1 ∨ k = 2) → (∀ j, i ≤ j → j < (ix p.Tables t).Keys.length → (ix (ix p.Tables t).Keys j).Kind = 1 ∨ (ix (ix p.Tables t).Keys j).Kind = 2 ∨ (ix (ix p.Tables t).Keys j).Kind = 3) →
 lm p t (fun x => x) m k i = ot p t (fun x => x) m k i
 | 0, k, i, _, _, _, _ => rfl
 | m + 1, k, i, hm, h0, hk, h => by
   simp only [lm, ot]
   have hi := h i (by omega) (by omega)
   have h' : ∀ j, i + 1 ≤ j → j < (ix p.Tables t).Keys.length → _ := fun j h1 h2 => h j (by omega) h2
   rcases hi with e | e | e
   ·rw [if_neg (by simp [e]), if_neg (by simp [e]), e, show max k 1 = k by omega]
    exact Kind_L1_eq p t m k (i + 1) (by omega) (by omega) hk h'
   ·rw [if_neg (by simp [e]), if_pos (by simp [e]), e, show max k 2 = 2 by omega]
    exact Kind_L1_eq p t m 2 (i + 1) (by omega) (by omega) (.inr rfl) h'
   ·rw [if_pos (by simp [e]), e, show max k 3 = 3 by omega]
    exact (Kind_3 p t m (i + 1) (by omega) (by omega) fun j h1 h2 => by have := h' j h1 h2; omega).symm
theorem af8 {p : aa} {t : Int} (h : gb p t = true) : ∀ j : Int, 0 ≤ j → j < (ix p.Tables t).Keys.length → ((ix (ix p.Tables t).Keys j).Kind = 1 ∨ (ix (ix p.Tables t).Keys j).Kind = 2 ∨ (ix (ix p.Tables t).Keys j).Kind = 3) ∧ iv p (ix (ix p.Tables t).Keys j).Field ≠ 0 := by
 have h : (gz p t).2 = 0 := by simpa [gb, LET] using h
 simp only [gz, LET] at h
 split at h
 ·simp at h
 ·split at h
  ·simp at h
  ·split at h
   ·simp at h
   ·split at h
    ·simp at h
    ·by_cases hk : (qp p (ix p.Tables t)).2 = 0
     ·exact (ak0 _ 0 0 0 rfl (by omega) hk).1
     ·rw [if_pos (by simpa using hk)] at h
      exact absurd h hk
theorem Kind_eq (p : aa) (t : Int) : iz p t = ud p t := by
 simp only [iz, ud, LET, ae3]
 cases hv : gb p t with
 | false => rfl
 | true =>
   simp only [Bool.not_true, Bool.false_eq_true, if_false]
   exact Kind_L1_eq p t _ 1 0 rfl (by omega) (.inl rfl) fun j h1 h2 => (af8 hv j h1 h2).1
theorem Allows_L1_spec (p : aa) (t a : Int) : ∀ (m : Nat) (i : Int), m = Int.toNat (((ix p.Tables t).Actions.length : Int) - i) → 0 ≤ i → (ki p t a (fun _ => false) m i = true ↔ ∃ j : Int, i ≤ j ∧ j < (ix p.Tables t).Actions.length ∧ ix (ix p.Tables t).Actions j = a)
 | 0, i, hm, h0 => by
   simp only [ki, Bool.false_eq_true, false_iff]
   rintro ⟨j, h1, h2, _⟩; omega
 | m + 1, i, hm, h0 => by
   have ih := Allows_L1_spec p t a m (i + 1) (by omega) (by omega)
   simp only [ki]
   by_cases h : ix (ix p.Tables t).Actions i = a
   ·rw [if_pos (by simpa using h)]
    exact ⟨fun _ => ⟨i, by omega, by omega, h⟩, fun _ => rfl⟩
   ·rw [if_neg (by simpa using h), ih]
    constructor
    ·rintro ⟨j, h1, h2, h3⟩; exact ⟨j, by omega, h2, h3⟩
    ·rintro ⟨j, h1, h2, h3⟩
     have : j ≠ i := fun e => h (by rw [← e]; exact h3)
     exact ⟨j, by omega, h2, h3⟩
theorem Allows_iff (p : aa) (t a : Int) : py p t a = true ↔ gq p t = true ∧ ∃ j : Int, 0 ≤ j ∧ j < (ix p.Tables t).Actions.length ∧ ix (ix p.Tables t).Actions j = a := by
 simp only [py, LET]
 cases hv : gq p t with
 | false => simp
 | true =>
   simp only [Bool.not_true, Bool.false_eq_true, if_false, true_and]
   exact Allows_L1_spec p t a _ 0 rfl (by omega)
theorem Allows_eq (p : aa) (t a : Int) : py p t a = wz p t a := by
 rw [Bool.eq_iff_iff, Allows_iff]
 simp only [wz, LET, Bool.and_eq_true, decide_eq_true_eq, ae3]
 have := ar9 (ix p.Tables t).Actions a
 constructor
 ·rintro ⟨h1, h2⟩
  refine ⟨h1, ?_⟩
  by_cases h3 : ik (ix p.Tables t).Actions a < 0
  ·exact absurd h2 (this.1 h3)
  ·exact Int.not_lt.1 h3
 ·rintro ⟨h1, h2⟩
  refine ⟨h1, ?_⟩
  by_cases h3 : ∃ j : Int, 0 ≤ j ∧ j < (ix p.Tables t).Actions.length ∧ ix (ix p.Tables t).Actions j = a
  ·exact h3
  ·exact absurd (this.2 h3) (Int.not_lt.2 h2)
theorem Matches_L1_eq (x : aw) (k : List (BitVec 32)) (K : Unit → Bool) : ∀ (m : Nat) (i : Int), jb x k K m i = qg x k K m i
 | 0, i => rfl
 | m + 1, i => by simp only [jb, qg, Matches_L1_eq x k K m]
theorem Matches_eq (x : aw) (k : List (BitVec 32)) : cq x k = vn x k := by
 simp only [cq, vn, Matches_L1_eq]
 by_cases h : k.length = x.Keys.length
 ·simp [h]
 ·have h1 : ¬((k.length : Int) = x.Keys.length) := by omega
  have h2 : ¬((x.Keys.length : Int) = k.length) := by omega
  simp [h1, h2]
theorem SameKey_L1_eq (a b : aw) (K : Unit → Bool) : ∀ (m : Nat) (i : Int), kr a b K m i = px a b K m i
 | 0, i => rfl
 | m + 1, i => by simp only [kr, px, SameKey_L1_eq a b K m]
theorem SameKey_eq (a b : aw) : jo a b = qh a b := by
 simp only [jo, qh, SameKey_L1_eq, Bool.or_comm]
theorem OnesCount_L1_eq (x : BitVec 32) (K : Int → Int) : ∀ (m : Nat) (y : BitVec 32) (n i : Int), 0 ≤ i → y = x >>> i.toNat → jg x K m n i = og K m y n i
 | 0, y, n, i, _, _ => rfl
 | m + 1, y, n, i, h0, hy => by
   simp only [jg, og]
   have e1 : (x >>> i.toNat &&& 1#32).toNat = (y % 2#32).toNat := by
    rw [hy, BitVec.toNat_and, BitVec.toNat_umod]
    exact Nat.and_one_is_mod _
   have e2 : y / 2#32 = x >>> (i + 1).toNat := by
    apply BitVec.eq_of_toNat_eq
    rw [hy, BitVec.toNat_udiv, BitVec.toNat_ushiftRight, BitVec.toNat_ushiftRight, show (i + 1).toNat = i.toNat + 1 by omega, Nat.shiftRight_succ]
    rfl
   rw [e1, OnesCount_L1_eq x K m (y / 2#32) _ (i + 1) (by omega) e2]
theorem OnesCount_eq (x : BitVec 32) : nm x = su x := by
 simp only [nm, su]
 exact OnesCount_L1_eq x _ _ x 0 0 (by omega) (by simp)
theorem ab2 (p : aa) (t : Int) (x : aw) (K : Unit → Int) : ∀ (m : Nat) (i : Int), li p t x K m i = ng p t x K m i
 | 0, i => rfl
 | m + 1, i => by
   simp only [li, ng, LET, OnesCount_eq, ab2 p t x K m]
   split
   ·by_cases h : i < x.Keys.length
    ·have h2 : ¬((x.Keys.length : Int) ≤ i) := by omega
     simp [h, h2]
    ·have h2 : (x.Keys.length : Int) ≤ i := by omega
     simp [h, h2]
   ·rfl
theorem bv6 (p : aa) (t : Int) (x : aw) : jp p t x = qb p t x := by
 simp only [jp, qb, ab2]
theorem Precedes_eq (p : aa) (t : Int) (a b : am) : de p t a b = rp p t a b := by
 simp only [de, rp, LET, bv6]
theorem ak2 : ∀ w : Fin 33, ∀ n : Fin 33, 1 ≤ w.val → n.val ≤ w.val → jn (n.val : Int) (w.val : Int) = sg (n.val : Int) (w.val : Int) := by decide +kernel
theorem PrefixLen_L1_eq (x : BitVec 32) (w : Int) (hw : 1 ≤ w ∧ w ≤ 32) (K : Unit → Int × Bool) : ∀ (m : Nat) (i : Int), m = Int.toNat (w + 1 - i) → 0 ≤ i → fk x w K m i = mb x w K m i
 | 0, i, _, _ => rfl
 | m + 1, i, hm, h0 => by
   simp only [fk, mb, LET]
   have h1 : i ≤ w := by omega
   have e : jn i w = sg i w := by
    have := ak2 ⟨w.toNat, by omega⟩ ⟨i.toNat, by omega⟩ (by simp only; omega) (by simp only; omega)
    simp only at this
    rwa [show ((w.toNat : Nat) : Int) = w by omega, show ((i.toNat : Nat) : Int) = i by omega] at this
   rw [e, PrefixLen_L1_eq x w hw K m (i + 1) (by omega) (by omega)]
   simp [h1, (wa w).2 hw]
theorem PrefixLen_eq (x : BitVec 32) (w : Int) : ej x w = oo x w := by
 simp only [ej, oo, LET, ak8]
 by_cases h : 1 ≤ w ∧ w ≤ 32
 ·rw [(wa w).2 h, dm (by omega) (by omega)]
  simp only [Bool.not_true, Bool.false_eq_true, if_false, Int.sub_zero]
  exact PrefixLen_L1_eq x w h _ _ 0 (by simp) (by omega)
 ·have hv : ie w = false := by
   cases hv : ie w with
   | false => rfl
   | true => exact absurd ((wa w).1 hv) h
  rw [hv]
  simp only [Bool.not_false, if_true]
  generalize Int.toNat (w + 1 - 0) = m
  cases m with
  | zero => rfl
  | succ m => simp [mb, hv]
theorem bc8 (a b : BitVec 32) : decide (a &&& ~~~b = 0#32) = decide (a &&& b = a) := by
 rw [Bool.eq_iff_iff, decide_eq_true_eq, decide_eq_true_eq]
 constructor
 ·intro h
  apply BitVec.eq_of_getLsbD_eq
  intro i hi
  have := congrArg (fun v => v.getLsbD i) h
  simp [hi] at this ⊢
  exact this
 ·intro h
  apply BitVec.eq_of_getLsbD_eq
  intro i hi
  have := congrArg (fun v => v.getLsbD i) h
  simp [hi] at this ⊢
  exact this
theorem bc1 (m : ba) (k w : Int) : pp m k w = lw m w k := by
 simp only [pp, lw, LET, at4, cw7, bc8, PrefixLen_eq]
 split
 ·rfl
 ·split
  ·rfl
  ·by_cases h1 : k = 1
   ·by_cases h : m.Mask = pt w <;> simp [h1, h]
   ·by_cases h2 : k = 2
    ·cases h : (oo m.Mask w).2 <;> simp [h2, h]
    ·simp [h1, h2]
theorem ac5 (p : aa) (t : Int) (x : aw) (w : List Int) (K : Unit → Int) : ∀ (m : Nat) (i : Int), ma p t x w K m i = nk p t x w K m i
 | 0, i => rfl
 | m + 1, i => by simp only [ma, nk, LET, bc1, ac5 p t x w K m]
theorem bt0 (p : aa) (t : Int) (x : aw) : mr p t x = nu p t x := by
 simp only [mr, nu, LET, Check_eq, Widths_eq, Kind_eq, Allows_eq, CheckCall_eq, ac5]
 by_cases hc : (gz p t).2 = 0
 ·have hv : gb p t = true := by simp [gb, LET, hc]
  have hl : (br p t).length = (ix p.Tables t).Keys.length := by rw [ol, if_pos hv, sn]
  simp only [hc, hl, decide_true, Bool.not_true, Bool.false_eq_true, if_false]
  split
  ·rfl
  ·rename_i hlen
   simp only [Bool.not_eq_true', decide_eq_false_iff_not, Decidable.not_not] at hlen
   rw [hlen]
   congr 1
   funext u
   split
   ·rfl
   ·rename_i hp
    simp only [Bool.or_eq_true, decide_eq_true_eq, not_or] at hp
    have e : (!decide (x.Priority = 0)) = decide (0 < x.Priority) := by
     rw [Bool.eq_iff_iff]; simp; omega
    rw [e]
 ·simp only [hc, decide_false, Bool.not_false, if_true]
end Go.Proofs.YthdnpgpnodgicaaGreat
