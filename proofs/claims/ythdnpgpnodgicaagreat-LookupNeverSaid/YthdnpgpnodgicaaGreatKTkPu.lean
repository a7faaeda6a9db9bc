import Derived.Test.YthdnpgpnodgicaaGreatKDef
import Derived.Test.YthdnpgpnodgicaaGreatPbP
import Derived.KernelRfl
set_option linter.all false
set_option maxRecDepth 100000
namespace Go.Proofs.YthdnpgpnodgicaaGreat
open Go Go.Pb Go.RowKit
def SR (r : ak) : Prop := r.Entry.Keys.length ≤ 20 ∧ r.Entry.Call.Args.length ≤ 20
theorem dg5 {x : bm} : ∀ (m : Nat) (i : Int), m = Int.toNat ((x.Rows.length : Int) - i) → ke x (fun _ => false) m i = false → ∀ j : Int, i ≤ j → j < x.Rows.length → SR (ix x.Rows j)
 | 0, i, hm, h, j, h1, h2 => by omega
 | m + 1, i, hm, h, j, h1, h2 => by
   rw [ke] at h
   split at h
   ·cases h
   ·rename_i hc
    simp only [Bool.or_eq_true, decide_eq_true_eq, not_or] at hc
    by_cases e : j = i
    ·subst e; exact ⟨by omega, by omega⟩
    ·exact dg5 m (i + 1) (by omega) h j (by omega) h2
theorem tl {x : bm} {y : Bool} (h : im x = y) (hy : y = false) : ∀ r ∈ x.Rows, SR r := by
 subst hy
 unfold im at h
 simp only [LET] at h
 split at h
 ·cases h
 ·intro r hr
  obtain ⟨k, hk, rfl⟩ := List.getElem_of_mem hr
  have := dg5 _ 0 rfl h (k : Int) (by omega) (by omega)
  rwa [px (by omega) (by omega)] at this
theorem me (w : Int) : ja [w] = decide (1 ≤ w ∧ w ≤ 32) := by
 have h : ix [w] 0 = w := rfl
 unfold ja
 rw [show Int.toNat ((([w] : List Int).length : Int) - 0) = 0 + 1 from rfl, ll, h, ll]
 by_cases h1 : w < 1
 ·have : ¬(1 ≤ w ∧ w ≤ 32) := by omega
  simp [h1, this]
 ·by_cases h2 : 32 < w
  ·have : ¬(1 ≤ w ∧ w ≤ 32) := by omega
   simp [h2, this]
  ·have : (1 ≤ w ∧ w ≤ 32) := by omega
   simp [h1, h2, this]
theorem dd1 {w : Int} {b : Bool} (h : ja [w] = b) (h2 : b = true) : 0 ≤ wr (32 - w) := by
 rw [me, h2] at h
 have h := of_decide_eq_true h
 rw [du (by omega) (by omega)]; omega
theorem cg2 {p : aa} {t : Int} (h : (gy p t).2 = 0) : (0 ≤ t ∧ t < p.Tables.length) ∧ (ix p.Tables t).Keys.length ≤ 6 ∧ (ix p.Tables t).Actions.length ≤ 16 := by
 simp only [gy, LET] at h
 by_cases h1 : (decide (t < 0) || decide ((p.Tables.length : Int) ≤ t)) = true
 ·rw [if_pos h1] at h; simp at h
 ·rw [if_neg h1] at h
  split at h
  ·simp at h
  ·split at h
   ·simp at h
   ·rename_i h2
    simp only [Bool.or_eq_true, decide_eq_true_eq, not_or] at h1 h2
    omega
theorem tv {p : aa} {t : Int} {b : Bool} (h : gh p t = b) (hb : b = true) : (0 ≤ t ∧ t < p.Tables.length) ∧ (ix p.Tables t).Keys.length ≤ 6 ∧ (ix p.Tables t).Actions.length ≤ 16 := by
 subst hb
 exact cg2 (by simpa [gh, LET] using h)
theorem ui (p : aa) (t : Int) (K : List Int → List Int) : ∀ (m : Nat) (i : Int) (acc : List Int), ki p t K m i acc = K (acc ++ tabI i m fun j => qy p (ix (ix p.Tables t).Keys j).Field)
 | 0, i, acc => by simp [ki, tabI]
 | m + 1, i, acc => by simp [ki, LET, ui p t K m, tabI]
theorem xt (p : aa) (t : Int) : ee p t = if gh p t = true then tabI 0 (ix p.Tables t).Keys.length fun j => qy p (ix (ix p.Tables t).Keys j).Field else [] := by
 simp only [ee, LET, ui, List.nil_append]
 cases gh p t <;> simp
theorem rv {w : Int} {b : Bool} (h : gm w = b) (hb : b = true) : 1 ≤ w ∧ w ≤ 32 := by
 subst hb
 simpa [gm] using h
theorem ai7 {p : aa} {t : Int} (h : (gn p t).2 = 0) : (0 ≤ t ∧ t < p.Tables.length) ∧ (ix p.Tables t).Keys.length ≤ 6 ∧ (ix p.Tables t).Actions.length ≤ 16 := by
 simp only [gn, LET] at h
 by_cases h1 : (decide (t < 0) || decide ((p.Tables.length : Int) ≤ t)) = true
 ·rw [if_pos h1] at h; simp at h
 ·rw [if_neg h1] at h
  split at h
  ·simp at h
  ·split at h
   ·simp at h
   ·rename_i h2
    simp only [Bool.or_eq_true, decide_eq_true_eq, not_or] at h1 h2
    omega
theorem rtv {p : aa} {t : Int} {b : Bool} (h : fu p t = b) (hb : b = true) : (0 ≤ t ∧ t < p.Tables.length) ∧ (ix p.Tables t).Keys.length ≤ 6 ∧ (ix p.Tables t).Actions.length ≤ 16 := by
 subst hb
 exact ai7 (by simpa [fu, LET] using h)
theorem ut (p : aa) (t : Int) (K : List Int → List Int) : ∀ (m : Nat) (i : Int) (acc : List Int), kg p t K m i acc = K (acc ++ tabI i m fun j => iq p (ix (ix p.Tables t).Keys j).Field)
 | 0, i, acc => by simp [kg, tabI]
 | m + 1, i, acc => by simp [kg, LET, ut p t K m, tabI]
theorem pf (p : aa) (t : Int) : bp p t = if fu p t = true then tabI 0 (ix p.Tables t).Keys.length fun j => iq p (ix (ix p.Tables t).Keys j).Field else [] := by
 simp only [bp, LET, ut, List.nil_append]
 cases fu p t <;> simp
theorem eck {p : aa} {t : Int} {y : Int × Int} {w : List Int} (h : gy p t = y) (h2 : y.2 = 0) (h3 : ee p t = w) : (0 ≤ t ∧ t < p.Tables.length) ∧ w.length = (ix p.Tables t).Keys.length ∧ w.length ≤ 6 := by
 subst h h3
 have hv : gh p t = true := by simp [gh, LET, h2]
 have := tv hv rfl
 rw [xt, if_pos hv, tf]
 omega
theorem reck {p : aa} {t : Int} {y : Int × Int} {w : List Int} (h : gn p t = y) (h2 : y.2 = 0) (h3 : bp p t = w) : (0 ≤ t ∧ t < p.Tables.length) ∧ w.length = (ix p.Tables t).Keys.length ∧ w.length ≤ 6 := by
 subst h h3
 have hv : fu p t = true := by simp [fu, LET, h2]
 have := rtv hv rfl
 rw [pf, if_pos hv, tf]
 omega
theorem mv {w : Int} {b : Bool} (h : ja [w] = b) (h2 : b = true) : 1 ≤ w ∧ w ≤ 32 := by
 rw [me, h2] at h
 exact of_decide_eq_true h
theorem tck {p : aa} {t : Int} {y : Int × Int} (h : gy p t = y) (h2 : y.2 = 0) : (0 ≤ t ∧ t < p.Tables.length) ∧ (ix p.Tables t).Keys.length ≤ 6 ∧ (ix p.Tables t).Actions.length ≤ 16 := by
 subst h; exact cg2 h2
theorem rtck {p : aa} {t : Int} {y : Int × Int} (h : gn p t = y) (h2 : y.2 = 0) : (0 ≤ t ∧ t < p.Tables.length) ∧ (ix p.Tables t).Keys.length ≤ 6 ∧ (ix p.Tables t).Actions.length ≤ 16 := by
 subst h; exact ai7 h2
theorem bn {a : av} {k : List (BitVec 32)} {b : Bool} (h : cq a k = b) (hb : b = true) : k.length = a.Keys.length := by
 subst hb
 unfold cq at h
 split at h
 ·cases h
 ·rename_i hc
  simp only [Bool.not_eq_true', decide_eq_false_iff_not, Decidable.not_not] at hc
  omega
theorem aj8 (w : Int) : ja [w] = gm w := by
 rw [me]; simp [gm]
theorem wd (w : Int) : gm w = true ↔ 1 ≤ w ∧ w ≤ 32 := by simp [gm]
theorem cn7 : ∀ n : Fin 33, 1 ≤ n.val → fa (n.val : Int) = BitVec.ofNat 32 (2 ^ n.val - 1) ∧ qd (n.val : Int) = BitVec.ofNat 32 (2 ^ n.val - 1) := by decide +kernel
theorem bt3 : ∀ n : Fin 64, lz (n.val : Int) = BitVec.ofNat 64 (2 ^ n.val) := by decide +kernel
theorem ai5 {w : Int} (h : 1 ≤ w ∧ w ≤ 32) : fa w = BitVec.ofNat 32 (2 ^ w.toNat - 1) ∧ qd w = BitVec.ofNat 32 (2 ^ w.toNat - 1) := by
 have := cn7 ⟨w.toNat, by omega⟩ (by simp only; omega)
 simp only at this
 rwa [show ((w.toNat : Nat) : Int) = w by omega] at this
theorem bw8 {w : Int} (h : 0 ≤ w ∧ w < 64) : lz w = BitVec.ofNat 64 (2 ^ w.toNat) := by
 have := bt3 ⟨w.toNat, by omega⟩
 simp only at this
 rwa [show ((w.toNat : Nat) : Int) = w by omega] at this
theorem aj5 {w : Int} (h : ¬(1 ≤ w ∧ w ≤ 32)) : fa w = 0#32 ∧ qd w = 0#32 := by
 have h1 : ja [w] = false := by rw [me]; simpa using h
 have h2 : gm w = false := by rw [← aj8, h1]
 simp [fa, qd, LET, h1, h2]
theorem cr4 (w : Int) : fa w = qd w := by
 by_cases h : 1 ≤ w ∧ w ≤ 32
 ·rw [(ai5 h).1, (ai5 h).2]
 ·rw [(aj5 h).1, (aj5 h).2]
theorem dh7 {n : Nat} (h : n ≤ 32) : 2 ^ n ≤ 4294967296 := Nat.pow_le_pow_right (n := 2) (by omega) h
theorem aa6 {w : Int} (h : 1 ≤ w ∧ w ≤ 32) : (fa w).toNat = 2 ^ w.toNat - 1 := by
 have h1 := dh7 (n := w.toNat) (by omega)
 have h2 : 0 < 2 ^ w.toNat := Nat.pow_pos (by omega)
 rw [(ai5 h).1, BitVec.toNat_ofNat, Nat.mod_eq_of_lt (by omega)]
theorem aq7 (w : Int) : fa w = 0#32 ↔ ¬(1 ≤ w ∧ w ≤ 32) := by
 constructor
 ·intro h hw
  have h1 := aa6 hw
  have h2 : 2 ^ 1 ≤ 2 ^ w.toNat := Nat.pow_le_pow_right (by omega) (by omega)
  rw [h] at h1
  simp at h1
  omega
 ·exact fun h => (aj5 h).1
theorem aw7 (v : BitVec 32) (w : Int) : kh v w = mh v w := by
 simp only [kh, mh, LET, aj8]
 by_cases h : 1 ≤ w ∧ w ≤ 32
 ·rw [(wd w).2 h, Bool.true_and, Bool.true_and, Bool.eq_iff_iff, decide_eq_true_eq, decide_eq_true_eq, BitVec.le_def, BitVec.lt_def, aa6 h, bw8 ⟨by omega, by omega⟩]
  have h1 := dh7 (n := w.toNat) (by omega)
  have h2 : 0 < 2 ^ w.toNat := Nat.pow_pos (by omega)
  have h3 := v.isLt
  rw [BitVec.toNat_setWidth, BitVec.toNat_ofNat, Nat.mod_eq_of_lt (by omega), Nat.mod_eq_of_lt (by omega)]
  omega
 ·have : gm w = false := by
   cases hv : gm w with
   | false => rfl
   | true => exact absurd ((wd w).1 hv) h
  rw [this]; rfl
theorem az8 (s : List UInt8) : ∀ (m : Nat) (i : Int), m = Int.toNat ((s.length : Int) - i) → 0 ≤ i → i ≤ s.length → decide (lq s jt (fun x => x) m i = (s.length : Int)) = gz s (fun _ => true) m i
 | 0, i, hm, h0, h1 => by
   show decide (i = (s.length : Int)) = true
   simp; omega
 | m + 1, i, hm, h0, h1 => by
   simp only [lq, gz, LET]
   have hlt : i < s.length := by omega
   have e1 : nd = lg := rfl
   have e2 : qf = mb := rfl
   simp only [hlt, decide_true, Bool.true_and, jt, LET, e1, e2]
   have ih := az8 s m (i + 1) (by omega) (by omega) (by omega)
   cases lg (ix s i) <;> cases mb (ix s i) <;> by_cases h : ix s i = 95 <;> simp [h, ih] <;> omega
theorem cd7 (s : List UInt8) : mq s = mg s := by
 have e1 : nd = lg := rfl
 have h0 : decide ((s.length : Int) = 0) = decide (s = []) := by
  rw [Bool.eq_iff_iff, decide_eq_true_eq, decide_eq_true_eq]; simp
 simp only [mq, mg, LET, e1, h0, uc]
 split
 ·rfl
 ·exact az8 s _ 0 rfl (by omega) (by omega)
theorem bd3 (p : aa) (r : cm) : qy p r = iq p r := by
 have key : ∀ (l : List cd), (if fa (md l r.Field).Width = 0#32 then 0 else (md l r.Field).Width) =
  if ((r.Field < 0 ∨ (l.length : Int) ≤ r.Field) ∨ (ix l r.Field).Width < 1) ∨ 32 < (ix l r.Field).Width then 0 else (ix l r.Field).Width := by
  intro l
  simp only [md, aq7]
  by_cases h : r.Field < 0 ∨ (l.length : Int) ≤ r.Field
  ·simp [h]
  ·have h' : (decide (r.Field < 0) || decide ((l.length : Int) ≤ r.Field)) = false := by simpa using h
   rw [h']
   simp only [Bool.false_eq_true, if_false, h, false_or]
   by_cases h2 : 1 ≤ (ix l r.Field).Width ∧ (ix l r.Field).Width ≤ 32
   ·rw [if_neg (by simpa using h2), if_neg (by omega)]
   ·rw [if_pos h2, if_pos (by omega)]
 simp only [qy, iq, LET, ww, decide_eq_true_eq, Bool.or_eq_true]
 rw [key]
 by_cases h1 : r.Header = -1
 ·have h2 : ¬(0 ≤ r.Header) := by omega
  have h3 : ¬(r.Header < -1) := by omega
  simp only [h1, if_true, if_false, Int.reduceNeg, Int.reduceLE, Int.reduceLT, false_or]
 ·simp only [h1, if_false]
  by_cases h2 : 0 ≤ r.Header
  ·have h3 : ¬(r.Header < -1) := by omega
   by_cases h4 : (p.Headers.length : Int) ≤ r.Header
   ·have h6 : (ie p.Headers r.Header).Fields = [] := by simp [ie, h4]
    rw [h6]
    simp only [h2, h4, if_true, List.length_nil]
    rw [if_pos]
    omega
   ·have h5 : ¬(r.Header < 0) := by omega
    have h6 : (ie p.Headers r.Header) = ix p.Headers r.Header := by simp [ie, h4, h5]
    rw [h6]
    simp only [h2, h3, h4, if_true, if_false, false_or]
  ·have h3 : r.Header < -1 := by omega
   have h5 : r.Header < 0 := by omega
   have h6 : (ie p.Headers r.Header).Fields = [] := by simp [ie, h5]
   rw [h6]
   simp only [h2, h3, if_true, if_false, true_or, List.length_nil]
   rw [if_pos]
   omega
theorem CheckCall_L1_eq (p : aa) (c : ax) (K : Unit → Int) : ∀ (m : Nat) (i : Int), jf p c K m i = js p c K m i
 | 0, i => rfl
 | m + 1, i => by simp only [jf, js, LET, aw7, CheckCall_L1_eq p c K m]
theorem CheckCall_eq (p : aa) (c : ax) : mc p c = mz p c := by
 simp only [mc, mz, CheckCall_L1_eq]
 split
 ·rfl
 ·split
  ·rfl
  ·rename_i h
   simp only [Bool.not_eq_true', decide_eq_false_iff_not, Decidable.not_not] at h
   rw [h]
theorem xu (p : aa) (x : az) (K : Int → Int → Int × Int) : ∀ (m : Nat) (a b i : Int), ik p x K m a b i = ka p x (fun b a => K a b) m b a i
 | 0, a, b, i => rfl
 | m + 1, a, b, i => by
   simp only [ik, ka, LET, bd3, xu p x K m]
   by_cases h1 : (ix x.Keys i).Kind = 1
   ·simp [h1]
   ·by_cases h2 : (ix x.Keys i).Kind = 2
    ·simp [h2]
    ·by_cases h3 : (ix x.Keys i).Kind = 3
     ·simp [h3]
     ·simp [h1, h2, h3]
theorem aw9 (p : aa) (x : az) : mu p x = qv p x := by
 simp only [mu, qv, xu]
theorem an2 {p : aa} {x : az} {K : Int → Int → Int × Int} : ∀ (m : Nat) (a b i : Int), m = Int.toNat ((x.Keys.length : Int) - i) → 0 ≤ i → (ka p x K m a b i).2 = 0 →
 (∀ j, i ≤ j → j < x.Keys.length → ((ix x.Keys j).Kind = 1 ∨ (ix x.Keys j).Kind = 2 ∨ (ix x.Keys j).Kind = 3) ∧ iq p (ix x.Keys j).Field ≠ 0) ∧ ∃ a' b', (K a' b').2 = 0
 | 0, a, b, i, hm, h0, h => ⟨fun j h1 h2 => by omega, a, b, h⟩
 | m + 1, a, b, i, hm, h0, h => by
   simp only [ka, LET] at h
   by_cases hw : iq p (ix x.Keys i).Field = 0
   ·simp [hw] at h
   ·rw [if_neg (by simpa using hw)] at h
    split at h
    ·simp at h
    ·rename_i hk
     have hk' : (ix x.Keys i).Kind = 1 ∨ (ix x.Keys i).Kind = 2 ∨ (ix x.Keys i).Kind = 3 := by
      simp at hk; omega
     split at h
     all_goals
      obtain ⟨h1, h2⟩ := an2 m _ _ (i + 1) (by omega) (by omega) h
      refine ⟨fun j h3 h4 => ?_, h2⟩
      by_cases e : j = i
      ·subst e; exact ⟨hk', hw⟩
      ·exact h1 j (by omega) h4
theorem zo (l : List Int) (a : Int) : ∀ (m : Nat) (i : Int), m = Int.toNat ((l.length : Int) - i) → 0 ≤ i → (ir l a (fun _ => -1) m i = -1 ∧ ∀ j, i ≤ j → j < l.length → ix l j ≠ a) ∨
 (i ≤ ir l a (fun _ => -1) m i ∧ ir l a (fun _ => -1) m i < l.length ∧ ix l (ir l a (fun _ => -1) m i) = a ∧ ∀ j, i ≤ j → j < ir l a (fun _ => -1) m i → ix l j ≠ a)
 | 0, i, hm, h0 => .inl ⟨rfl, fun j h1 h2 => by omega⟩
 | m + 1, i, hm, h0 => by
   simp only [ir]
   by_cases h : ix l i = a
   ·rw [if_pos (by simpa using h)]
    exact .inr ⟨by omega, by omega, h, fun j h1 h2 => by omega⟩
   ·rw [if_neg (by simpa using h)]
    rcases zo l a m (i + 1) (by omega) (by omega) with ⟨h1, h2⟩ | ⟨h1, h2, h3, h4⟩
    ·refine .inl ⟨h1, fun j h5 h6 => ?_⟩
     by_cases e : j = i
     ·subst e; exact h
     ·exact h2 j (by omega) h6
    ·refine .inr ⟨by omega, h2, h3, fun j h5 h6 => ?_⟩
     by_cases e : j = i
     ·subst e; exact h
     ·exact h4 j (by omega) h6
theorem am7 (l : List Int) (a : Int) : (gw l a = -1 ∧ ∀ j : Int, 0 ≤ j → j < l.length → ix l j ≠ a) ∨ (0 ≤ gw l a ∧ gw l a < l.length ∧ ix l (gw l a) = a ∧ ∀ j, 0 ≤ j → j < gw l a → ix l j ≠ a) :=
 zo l a _ 0 rfl (by omega)
theorem ch7 (l : List Int) (a i : Int) (h0 : 0 ≤ i) (h1 : i < l.length) (h : ix l i = a) : gw l a < i ↔ ∃ j, 0 ≤ j ∧ j < i ∧ ix l j = a := by
 rcases am7 l a with ⟨h2, h3⟩ | ⟨h2, h3, h4, h5⟩
 ·exact absurd h (h3 i h0 h1)
 ·constructor
  ·intro hlt; exact ⟨_, h2, hlt, h4⟩
  ·rintro ⟨j, h6, h7, h8⟩
   by_cases h9 : j < gw l a
   ·exact absurd h8 (h5 j h6 h9)
   ·omega
theorem aq4 (l : List Int) (a : Int) : gw l a < 0 ↔ ¬∃ j, 0 ≤ j ∧ j < (l.length : Int) ∧ ix l j = a := by
 rcases am7 l a with ⟨h2, h3⟩ | ⟨h2, h3, h4, h5⟩
 ·rw [h2]
  exact ⟨fun _ ⟨j, h6, h7, h8⟩ => h3 j h6 h7 h8, fun _ => by omega⟩
 ·exact ⟨fun h => by omega, fun h => absurd ⟨_, h2, h3, h4⟩ h⟩
def Seen (l : List Int) (i : Int) (z : List (Int × Bool)) : Prop := ∀ a, (mget z a).getD false = true ↔ ∃ j, 0 ≤ j ∧ j < i ∧ ix l j = a
theorem Seen.step {l : List Int} {i : Int} {z : List (Int × Bool)} (h : Seen l i z) (h0 : 0 ≤ i) : Seen l (i + 1) (mput z (ix l i) true) := fun a => by
 rw [bu8]
 by_cases e : ix l i = a
 ·simp only [e, if_true, Option.getD_some, true_iff]
  exact ⟨i, h0, by omega, e⟩
 ·simp only [e, if_false]
  rw [h a]
  constructor
  ·rintro ⟨j, h1, h2, h3⟩; exact ⟨j, h1, by omega, h3⟩
  ·rintro ⟨j, h1, h2, h3⟩
   have : j ≠ i := fun hj => e (by rw [← hj]; exact h3)
   exact ⟨j, h1, by omega, h3⟩
theorem uw (p : aa) (x : az) {K : List (Int × Bool) → Int} {K' : Unit → Int} (hK : ∀ z, Seen x.Actions x.Actions.length z → K z = K' ()) : ∀ (m : Nat) (i : Int) (z : List (Int × Bool)), m = Int.toNat ((x.Actions.length : Int) - i) → 0 ≤ i → i ≤ x.Actions.length → Seen x.Actions i z → gi p x K m i z = jy p x K' m i
 | 0, i, z, hm, h0, h1, hz => by
   have : i = x.Actions.length := by omega
   subst this
   simp only [gi, jy]
   exact hK z hz
 | m + 1, i, z, hm, h0, h1, hz => by
   have ih := uw p x hK m (i + 1) _ (by omega) (by omega) (by omega) (hz.step h0)
   simp only [gi, jy, LET]
   split
   ·rfl
   ·have hs := hz (ix x.Actions i)
    have hi := ch7 x.Actions _ i h0 (by omega) rfl
    have e : ((mget z (ix x.Actions i)).getD false) = decide (gw x.Actions (ix x.Actions i) < i) := by
     rw [Bool.eq_iff_iff, decide_eq_true_eq, hs, hi]
    rw [e, ih]
theorem ah2 (p : aa) (x : az) : mo p x = qt p x := by
 unfold mo qt
 refine uw p x (fun z hz => ?_) _ 0 [] rfl (by omega) (by omega) (fun a => by simp [cn0]; omega)
 have e : (!((mget z x.Default.Action).getD false)) = decide (gw x.Actions x.Default.Action < 0) := by
  rw [Bool.eq_iff_iff, decide_eq_true_eq, aq4, ← hz]; simp
 simp only [LET, e, CheckCall_eq]
theorem Check_eq (p : aa) (t : Int) : gy p t = gn p t := by
 simp only [gy, gn, LET, cd7, aw9, ah2]
theorem af3 (p : aa) (t : Int) : gh p t = fu p t := by
 simp only [gh, fu, Check_eq]
theorem Widths_eq (p : aa) (t : Int) : ee p t = bp p t := by
 rw [xt, pf, af3]
 simp only [bd3]
theorem Bits_L1_eq (w : List Int) (K : Int → Int) : ∀ (m : Nat) (a i : Int), nk w K m a i = gc w K m a i
 | 0, a, i => rfl
 | m + 1, a, i => by simp only [nk, gc, Bits_L1_eq w K m]
theorem Bits_eq (p : aa) (t : Int) : lm p t = uj p t := by
 simp only [lm, uj, LET, Widths_eq, Bits_L1_eq]
theorem Kind_3 (p : aa) (t : Int) : ∀ (m : Nat) (i : Int), m = Int.toNat (((ix p.Tables t).Keys.length : Int) - i) → 0 ≤ i → (∀ j, i ≤ j → j < (ix p.Tables t).Keys.length → (ix (ix p.Tables t).Keys j).Kind ≤ 3) → pm p t (fun x => x) m 3 i = 3
 | 0, i, _, _, _ => rfl
 | m + 1, i, hm, h0, h => by
   simp only [pm]
   have := h i (by omega) (by omega)
   rw [show max 3 (ix (ix p.Tables t).Keys i).Kind = 3 by omega]
   exact Kind_3 p t m (i + 1) (by omega) (by omega) fun j h1 h2 => h j (by omega) h2
theorem Kind_L1_eq (p : aa) (t : Int) : ∀ (m : Nat) (k i : Int), m = Int.toNat (((ix p.Tables t).Keys.length : Int) - i) → 0 ≤ i → (k = 1 ∨ k = 2) → (∀ j, i ≤ j → j < (ix p.Tables t).Keys.length → (ix (ix p.Tables t).Keys j).Kind = 1 ∨ (ix (ix p.Tables t).Keys j).Kind = 2 ∨ (ix (ix p.Tables t).Keys j).Kind = 3) →
 lw p t (fun x => x) m k i = pm p t (fun x => x) m k i
 | 0, k, i, _, _, _, _ => rfl
 | m + 1, k, i, hm, h0, hk, h => by
   simp only [lw, pm]
   have hi := h i (by omega) (by omega)
   have h' : ∀ j, i + 1 ≤ j → j < (ix p.Tables t).Keys.length → _ := fun j h1 h2 => h j (by omega) h2
   rcases hi with e | e | e
   ·rw [if_neg (by simp [e]), if_neg (by simp [e]), e, show max k 1 = k by omega]
    exact Kind_L1_eq p t m k (i + 1) (by omega) (by omega) hk h'
   ·rw [if_neg (by simp [e]), if_pos (by simp [e]), e, show max k 2 = 2 by omega]
    exact Kind_L1_eq p t m 2 (i + 1) (by omega) (by omega) (.inr rfl) h'
   ·rw [if_pos (by simp [e]), e, show max k 3 = 3 by omega]
    exact (Kind_3 p t m (i + 1) (by omega) (by omega) fun j h1 h2 => by have := h' j h1 h2; omega).symm
theorem ag1 {p : aa} {t : Int} (h : fu p t = true) : ∀ j : Int, 0 ≤ j → j < (ix p.Tables t).Keys.length → ((ix (ix p.Tables t).Keys j).Kind = 1 ∨ (ix (ix p.Tables t).Keys j).Kind = 2 ∨ (ix (ix p.Tables t).Keys j).Kind = 3) ∧ iq p (ix (ix p.Tables t).Keys j).Field ≠ 0 := by
 have h : (gn p t).2 = 0 := by simpa [fu, LET] using h
 simp only [gn, LET] at h
 split at h
 ·simp at h
 ·split at h
  ·simp at h
  ·split at h
   ·simp at h
   ·split at h
    ·simp at h
    ·by_cases hk : (qv p (ix p.Tables t)).2 = 0
     ·exact (an2 _ 0 0 0 rfl (by omega) hk).1
     ·rw [if_pos (by simpa using hk)] at h
      exact absurd h hk
theorem Kind_eq (p : aa) (t : Int) : il p t = uo p t := by
 simp only [il, uo, LET, af3]
 cases hv : fu p t with
 | false => rfl
 | true =>
   simp only [Bool.not_true, Bool.false_eq_true, if_false]
   exact Kind_L1_eq p t _ 1 0 rfl (by omega) (.inl rfl) fun j h1 h2 => (ag1 hv j h1 h2).1
theorem Allows_L1_spec (p : aa) (t a : Int) : ∀ (m : Nat) (i : Int), m = Int.toNat (((ix p.Tables t).Actions.length : Int) - i) → 0 ≤ i → (kn p t a (fun _ => false) m i = true ↔ ∃ j : Int, i ≤ j ∧ j < (ix p.Tables t).Actions.length ∧ ix (ix p.Tables t).Actions j = a)
 | 0, i, hm, h0 => by
   simp only [kn, Bool.false_eq_true, false_iff]
   rintro ⟨j, h1, h2, _⟩; omega
 | m + 1, i, hm, h0 => by
   have ih := Allows_L1_spec p t a m (i + 1) (by omega) (by omega)
   simp only [kn]
   by_cases h : ix (ix p.Tables t).Actions i = a
   ·rw [if_pos (by simpa using h)]
    exact ⟨fun _ => ⟨i, by omega, by omega, h⟩, fun _ => rfl⟩
   ·rw [if_neg (by simpa using h), ih]
    constructor
    ·rintro ⟨j, h1, h2, h3⟩; exact ⟨j, by omega, h2, h3⟩
    ·rintro ⟨j, h1, h2, h3⟩
     have : j ≠ i := fun e => h (by rw [← e]; exact h3)
     exact ⟨j, by omega, h2, h3⟩
theorem Allows_iff (p : aa) (t a : Int) : qn p t a = true ↔ gh p t = true ∧ ∃ j : Int, 0 ≤ j ∧ j < (ix p.Tables t).Actions.length ∧ ix (ix p.Tables t).Actions j = a := by
 simp only [qn, LET]
 cases hv : gh p t with
 | false => simp
 | true =>
   simp only [Bool.not_true, Bool.false_eq_true, if_false, true_and]
   exact Allows_L1_spec p t a _ 0 rfl (by omega)
theorem Allows_eq (p : aa) (t a : Int) : qn p t a = xl p t a := by
 rw [Bool.eq_iff_iff, Allows_iff]
 simp only [xl, LET, Bool.and_eq_true, decide_eq_true_eq, af3]
 have := aq4 (ix p.Tables t).Actions a
 constructor
 ·rintro ⟨h1, h2⟩
  refine ⟨h1, ?_⟩
  by_cases h3 : gw (ix p.Tables t).Actions a < 0
  ·exact absurd h2 (this.1 h3)
  ·exact Int.not_lt.1 h3
 ·rintro ⟨h1, h2⟩
  refine ⟨h1, ?_⟩
  by_cases h3 : ∃ j : Int, 0 ≤ j ∧ j < (ix p.Tables t).Actions.length ∧ ix (ix p.Tables t).Actions j = a
  ·exact h3
  ·exact absurd (this.2 h3) (Int.not_lt.2 h2)
theorem Matches_L1_eq (x : av) (k : List (BitVec 32)) (K : Unit → Bool) : ∀ (m : Nat) (i : Int), iy x k K m i = ql x k K m i
 | 0, i => rfl
 | m + 1, i => by simp only [iy, ql, Matches_L1_eq x k K m]
theorem Matches_eq (x : av) (k : List (BitVec 32)) : cq x k = vz x k := by
 simp only [cq, vz, Matches_L1_eq]
 by_cases h : k.length = x.Keys.length
 ·simp [h]
 ·have h1 : ¬((k.length : Int) = x.Keys.length) := by omega
  have h2 : ¬((x.Keys.length : Int) = k.length) := by omega
  simp [h1, h2]
theorem SameKey_L1_eq (a b : av) (K : Unit → Bool) : ∀ (m : Nat) (i : Int), ku a b K m i = jc a b K m i
 | 0, i => rfl
 | m + 1, i => by simp only [ku, jc, SameKey_L1_eq a b K m]
theorem SameKey_eq (a b : av) : jp a b = ly a b := by
 simp only [jp, ly, SameKey_L1_eq, Bool.or_comm]
theorem OnesCount_L1_eq (x : BitVec 32) (K : Int → Int) : ∀ (m : Nat) (y : BitVec 32) (n i : Int), 0 ≤ i → y = x >>> i.toNat → ji x K m n i = oq K m y n i
 | 0, y, n, i, _, _ => rfl
 | m + 1, y, n, i, h0, hy => by
   simp only [ji, oq]
   have e1 : (x >>> i.toNat &&& 1#32).toNat = (y % 2#32).toNat := by
    rw [hy, BitVec.toNat_and, BitVec.toNat_umod]
    exact Nat.and_one_is_mod _
   have e2 : y / 2#32 = x >>> (i + 1).toNat := by
    apply BitVec.eq_of_toNat_eq
    rw [hy, BitVec.toNat_udiv, BitVec.toNat_ushiftRight, BitVec.toNat_ushiftRight, show (i + 1).toNat = i.toNat + 1 by omega, Nat.shiftRight_succ]
    rfl
   rw [e1, OnesCount_L1_eq x K m (y / 2#32) _ (i + 1) (by omega) e2]
theorem OnesCount_eq (x : BitVec 32) : ny x = tj x := by
 simp only [ny, tj]
 exact OnesCount_L1_eq x _ _ x 0 0 (by omega) (by simp)
theorem ad3 (p : aa) (t : Int) (x : av) (K : Unit → Int) : ∀ (m : Nat) (i : Int), lj p t x K m i = nr p t x K m i
 | 0, i => rfl
 | m + 1, i => by
   simp only [lj, nr, LET, OnesCount_eq, ad3 p t x K m]
   split
   ·by_cases h : i < x.Keys.length
    ·have h2 : ¬((x.Keys.length : Int) ≤ i) := by omega
     simp [h, h2]
    ·have h2 : (x.Keys.length : Int) ≤ i := by omega
     simp [h, h2]
   ·rfl
theorem br8 (p : aa) (t : Int) (x : av) : jq p t x = qi p t x := by
 simp only [jq, qi, ad3]
theorem Precedes_eq (p : aa) (t : Int) (a b : ak) : dk p t a b = rj p t a b := by
 simp only [dk, rj, LET, br8]
theorem al4 : ∀ w : Fin 33, ∀ n : Fin 33, 1 ≤ w.val → n.val ≤ w.val → jo (n.val : Int) (w.val : Int) = sv (n.val : Int) (w.val : Int) := by decide +kernel
theorem PrefixLen_L1_eq (x : BitVec 32) (w : Int) (hw : 1 ≤ w ∧ w ≤ 32) (K : Unit → Int × Bool) : ∀ (m : Nat) (i : Int), m = Int.toNat (w + 1 - i) → 0 ≤ i → fk x w K m i = mf x w K m i
 | 0, i, _, _ => rfl
 | m + 1, i, hm, h0 => by
   simp only [fk, mf, LET]
   have h1 : i ≤ w := by omega
   have e : jo i w = sv i w := by
    have := al4 ⟨w.toNat, by omega⟩ ⟨i.toNat, by omega⟩ (by simp only; omega) (by simp only; omega)
    simp only at this
    rwa [show ((w.toNat : Nat) : Int) = w by omega, show ((i.toNat : Nat) : Int) = i by omega] at this
   rw [e, PrefixLen_L1_eq x w hw K m (i + 1) (by omega) (by omega)]
   simp [h1, (wd w).2 hw]
theorem PrefixLen_eq (x : BitVec 32) (w : Int) : ej x w = pe x w := by
 simp only [ej, pe, LET, aj8]
 by_cases h : 1 ≤ w ∧ w ≤ 32
 ·rw [(wd w).2 h, du (by omega) (by omega)]
  simp only [Bool.not_true, Bool.false_eq_true, if_false, Int.sub_zero]
  exact PrefixLen_L1_eq x w h _ _ 0 (by simp) (by omega)
 ·have hv : gm w = false := by
   cases hv : gm w with
   | false => rfl
   | true => exact absurd ((wd w).1 hv) h
  rw [hv]
  simp only [Bool.not_false, if_true]
  generalize Int.toNat (w + 1 - 0) = m
  cases m with
  | zero => rfl
  | succ m => simp [mf, hv]
theorem bd2 (a b : BitVec 32) : decide (a &&& ~~~b = 0#32) = decide (a &&& b = a) := by
 rw [Bool.eq_iff_iff, decide_eq_true_eq, decide_eq_true_eq]
 constructor
 ·intro h
  apply BitVec.eq_of_getLsbD_eq
  intro i hi
  have := congrArg (fun v => v.getLsbD i) h
  simp [hi] at this ⊢
  exact this
 ·intro h
  apply BitVec.eq_of_getLsbD_eq
  intro i hi
  have := congrArg (fun v => v.getLsbD i) h
  simp [hi] at this ⊢
  exact this
theorem bb2 (m : bb) (k w : Int) : qb m k w = mm m w k := by
 simp only [qb, mm, LET, aw7, cr4, bd2, PrefixLen_eq]
 split
 ·rfl
 ·split
  ·rfl
  ·by_cases h1 : k = 1
   ·by_cases h : m.Mask = qd w <;> simp [h1, h]
   ·by_cases h2 : k = 2
    ·cases h : (pe m.Mask w).2 <;> simp [h2, h]
    ·simp [h1, h2]
theorem ac4 (p : aa) (t : Int) (x : av) (w : List Int) (K : Unit → Int) : ∀ (m : Nat) (i : Int), ml p t x w K m i = od p t x w K m i
 | 0, i => rfl
 | m + 1, i => by simp only [ml, od, LET, bb2, ac4 p t x w K m]
theorem bu4 (p : aa) (t : Int) (x : av) : na p t x = ol p t x := by
 simp only [na, ol, LET, Check_eq, Widths_eq, Kind_eq, Allows_eq, CheckCall_eq, ac4]
 by_cases hc : (gn p t).2 = 0
 ·have hv : fu p t = true := by simp [fu, LET, hc]
  have hl : (bp p t).length = (ix p.Tables t).Keys.length := by rw [pf, if_pos hv, tf]
  simp only [hc, hl, decide_true, Bool.not_true, Bool.false_eq_true, if_false]
  split
  ·rfl
  ·rename_i hlen
   simp only [Bool.not_eq_true', decide_eq_false_iff_not, Decidable.not_not] at hlen
   rw [hlen]
   congr 1
   funext u
   split
   ·rfl
   ·rename_i hp
    simp only [Bool.or_eq_true, decide_eq_true_eq, not_or] at hp
    have e : (!decide (x.Priority = 0)) = decide (0 < x.Priority) := by
     rw [Bool.eq_iff_iff]; simp; omega
    rw [e]
 ·simp only [hc, decide_false, Bool.not_false, if_true]
end Go.Proofs.YthdnpgpnodgicaaGreat
