import Derived.Test.YthdnpgpnodgicaaGreatKDef
import Derived.Test.YthdnpgpnodgicaaGreatPbP
import Derived.KernelRfl
set_option linter.unusedVariables false
set_option linter.unusedSimpArgs false
set_option maxRecDepth 100000
namespace Go.Proofs.YthdnpgpnodgicaaGreat
open Go Go.Pb Go.RowKit
def SR (r : am) : Prop := r.Entry.Keys.length ≤ 20 ∧ r.Entry.Call.Args.length ≤ 20
theorem cv7 {x : cb} : ∀ (m : Nat) (i : Int), m = Int.toNat ((x.Rows.length : Int) - i) → jb x (fun _ => false) m i = false → ∀ j : Int, i ≤ j → j < x.Rows.length → SR (ix x.Rows j)
 | 0, i, hm, h, j, h1, h2 => by omega
 | m + 1, i, hm, h, j, h1, h2 => by
   rw [jb] at h
   split at h
   ·cases h
   ·rename_i hc
    simp only [Bool.or_eq_true, decide_eq_true_eq, not_or] at hc
    by_cases e : j = i
    ·subst e; exact ⟨by omega, by omega⟩
    ·exact cv7 m (i + 1) (by omega) h j (by omega) h2
theorem tl {x : cb} {y : Bool} (h : jy x = y) (hy : y = false) : ∀ r ∈ x.Rows, SR r := by
 subst hy
 unfold jy at h
 simp only [LET] at h
 split at h
 ·cases h
 ·intro r hr
  obtain ⟨k, hk, rfl⟩ := List.getElem_of_mem hr
  have := cv7 _ 0 rfl h (k : Int) (by omega) (by omega)
  rwa [oz (by omega) (by omega)] at this
theorem jq (w : Int) : gz [w] = decide (1 ≤ w ∧ w ≤ 32) := by
 have h : ix [w] 0 = w := rfl
 unfold gz
 rw [show Int.toNat ((([w] : List Int).length : Int) - 0) = 0 + 1 from rfl, ke, h, ke]
 by_cases h1 : w < 1
 ·have : ¬(1 ≤ w ∧ w ≤ 32) := by omega
  simp [h1, this]
 ·by_cases h2 : 32 < w
  ·have : ¬(1 ≤ w ∧ w ≤ 32) := by omega
   simp [h2, this]
  ·have : (1 ≤ w ∧ w ≤ 32) := by omega
   simp [h1, h2, this]
theorem ci2 {w : Int} {b : Bool} (h : gz [w] = b) (h2 : b = true) : 0 ≤ wr (32 - w) := by
 rw [jq, h2] at h
 have h := of_decide_eq_true h
 rw [dt (by omega) (by omega)]; omega
theorem ca0 {p : aa} {t : Int} (h : (gc p t).2 = 0) : (0 ≤ t ∧ t < p.Tables.length) ∧ (ix p.Tables t).Keys.length ≤ 6 ∧ (ix p.Tables t).Actions.length ≤ 16 := by
 simp only [gc, LET] at h
 by_cases h1 : (decide (t < 0) || decide ((p.Tables.length : Int) ≤ t)) = true
 ·rw [if_pos h1] at h; simp at h
 ·rw [if_neg h1] at h
  split at h
  ·simp at h
  ·split at h
   ·simp at h
   ·rename_i h2
    simp only [Bool.or_eq_true, decide_eq_true_eq, not_or] at h1 h2
    omega
theorem tv {p : aa} {t : Int} {b : Bool} (h : fm p t = b) (hb : b = true) : (0 ≤ t ∧ t < p.Tables.length) ∧ (ix p.Tables t).Keys.length ≤ 6 ∧ (ix p.Tables t).Actions.length ≤ 16 := by
 subst hb
 exact ca0 (by simpa [fm, LET] using h)
theorem qn (p : aa) (t : Int) (K : List Int → List Int) : ∀ (m : Nat) (i : Int) (acc : List Int), jk p t K m i acc = K (acc ++ tabI i m fun j => oe p (ix (ix p.Tables t).Keys j).Field)
 | 0, i, acc => by simp [jk, tabI]
 | m + 1, i, acc => by simp [jk, LET, qn p t K m, tabI]
theorem tj (p : aa) (t : Int) : dj p t = if fm p t = true then tabI 0 (ix p.Tables t).Keys.length fun j => oe p (ix (ix p.Tables t).Keys j).Field else [] := by
 simp only [dj, LET, qn, List.nil_append]
 cases fm p t <;> simp
theorem rv {w : Int} {b : Bool} (h : fh w = b) (hb : b = true) : 1 ≤ w ∧ w ≤ 32 := by
 subst hb
 simpa [fh] using h
theorem xe {p : aa} {t : Int} (h : (ep p t).2 = 0) : (0 ≤ t ∧ t < p.Tables.length) ∧ (ix p.Tables t).Keys.length ≤ 6 ∧ (ix p.Tables t).Actions.length ≤ 16 := by
 simp only [ep, LET] at h
 by_cases h1 : (decide (t < 0) || decide ((p.Tables.length : Int) ≤ t)) = true
 ·rw [if_pos h1] at h; simp at h
 ·rw [if_neg h1] at h
  split at h
  ·simp at h
  ·split at h
   ·simp at h
   ·rename_i h2
    simp only [Bool.or_eq_true, decide_eq_true_eq, not_or] at h1 h2
    omega
theorem rtv {p : aa} {t : Int} {b : Bool} (h : fb p t = b) (hb : b = true) : (0 ≤ t ∧ t < p.Tables.length) ∧ (ix p.Tables t).Keys.length ≤ 6 ∧ (ix p.Tables t).Actions.length ≤ 16 := by
 subst hb
 exact xe (by simpa [fb, LET] using h)
theorem ql (p : aa) (t : Int) (K : List Int → List Int) : ∀ (m : Nat) (i : Int) (acc : List Int), jh p t K m i acc = K (acc ++ tabI i m fun j => ka p (ix (ix p.Tables t).Keys j).Field)
 | 0, i, acc => by simp [jh, tabI]
 | m + 1, i, acc => by simp [jh, LET, ql p t K m, tabI]
theorem pv (p : aa) (t : Int) : cx p t = if fb p t = true then tabI 0 (ix p.Tables t).Keys.length fun j => ka p (ix (ix p.Tables t).Keys j).Field else [] := by
 simp only [cx, LET, ql, List.nil_append]
 cases fb p t <;> simp
theorem eck {p : aa} {t : Int} {y : Int × Int} {w : List Int} (h : gc p t = y) (h2 : y.2 = 0) (h3 : dj p t = w) : (0 ≤ t ∧ t < p.Tables.length) ∧ w.length = (ix p.Tables t).Keys.length ∧ w.length ≤ 6 := by
 subst h h3
 have hv : fm p t = true := by simp [fm, LET, h2]
 have := tv hv rfl
 rw [tj, if_pos hv, qx]
 omega
theorem reck {p : aa} {t : Int} {y : Int × Int} {w : List Int} (h : ep p t = y) (h2 : y.2 = 0) (h3 : cx p t = w) : (0 ≤ t ∧ t < p.Tables.length) ∧ w.length = (ix p.Tables t).Keys.length ∧ w.length ≤ 6 := by
 subst h h3
 have hv : fb p t = true := by simp [fb, LET, h2]
 have := rtv hv rfl
 rw [pv, if_pos hv, qx]
 omega
theorem mv {w : Int} {b : Bool} (h : gz [w] = b) (h2 : b = true) : 1 ≤ w ∧ w ≤ 32 := by
 rw [jq, h2] at h
 exact of_decide_eq_true h
theorem tck {p : aa} {t : Int} {y : Int × Int} (h : gc p t = y) (h2 : y.2 = 0) : (0 ≤ t ∧ t < p.Tables.length) ∧ (ix p.Tables t).Keys.length ≤ 6 ∧ (ix p.Tables t).Actions.length ≤ 16 := by
 subst h; exact ca0 h2
theorem rtck {p : aa} {t : Int} {y : Int × Int} (h : ep p t = y) (h2 : y.2 = 0) : (0 ≤ t ∧ t < p.Tables.length) ∧ (ix p.Tables t).Keys.length ≤ 6 ∧ (ix p.Tables t).Actions.length ≤ 16 := by
 subst h; exact xe h2
theorem bc {a : au} {k : List (BitVec 32)} {b : Bool} (h : cm a k = b) (hb : b = true) : k.length = a.Keys.length := by
 subst hb
 unfold cm at h
 split at h
 ·cases h
 ·rename_i hc
  simp only [Bool.not_eq_true', decide_eq_false_iff_not, Decidable.not_not] at hc
  omega
theorem af3 (w : Int) : gz [w] = fh w := by
 rw [jq]; simp [fh]
theorem rx (w : Int) : fh w = true ↔ 1 ≤ w ∧ w ≤ 32 := by simp [fh]
theorem bw7 : ∀ n : Fin 33, 1 ≤ n.val → dl (n.val : Int) = BitVec.ofNat 32 (2 ^ n.val - 1) ∧ je (n.val : Int) = BitVec.ofNat 32 (2 ^ n.val - 1) := by decide +kernel
theorem bm3 : ∀ n : Fin 64, ki (n.val : Int) = BitVec.ofNat 64 (2 ^ n.val) := by decide +kernel
theorem aa8 {w : Int} (h : 1 ≤ w ∧ w ≤ 32) : dl w = BitVec.ofNat 32 (2 ^ w.toNat - 1) ∧ je w = BitVec.ofNat 32 (2 ^ w.toNat - 1) := by
 have := bw7 ⟨w.toNat, by omega⟩ (by simp only; omega)
 simp only at this
 rwa [show ((w.toNat : Nat) : Int) = w by omega] at this
theorem ca4 {w : Int} (h : 0 ≤ w ∧ w < 64) : ki w = BitVec.ofNat 64 (2 ^ w.toNat) := by
 have := bm3 ⟨w.toNat, by omega⟩
 simp only at this
 rwa [show ((w.toNat : Nat) : Int) = w by omega] at this
theorem ae6 {w : Int} (h : ¬(1 ≤ w ∧ w ≤ 32)) : dl w = 0#32 ∧ je w = 0#32 := by
 have h1 : gz [w] = false := by rw [jq]; simpa using h
 have h2 : fh w = false := by rw [← af3, h1]
 simp [dl, je, LET, h1, h2]
theorem bf9 (w : Int) : dl w = je w := by
 by_cases h : 1 ≤ w ∧ w ≤ 32
 ·rw [(aa8 h).1, (aa8 h).2]
 ·rw [(ae6 h).1, (ae6 h).2]
theorem cu7 {n : Nat} (h : n ≤ 32) : 2 ^ n ≤ 4294967296 := Nat.pow_le_pow_right (n := 2) (by omega) h
theorem wc {w : Int} (h : 1 ≤ w ∧ w ≤ 32) : (dl w).toNat = 2 ^ w.toNat - 1 := by
 have h1 := cu7 (n := w.toNat) (by omega)
 have h2 : 0 < 2 ^ w.toNat := Nat.pow_pos (by omega)
 rw [(aa8 h).1, BitVec.toNat_ofNat, Nat.mod_eq_of_lt (by omega)]
theorem ah7 (w : Int) : dl w = 0#32 ↔ ¬(1 ≤ w ∧ w ≤ 32) := by
 constructor
 ·intro h hw
  have h1 := wc hw
  have h2 : 2 ^ 1 ≤ 2 ^ w.toNat := Nat.pow_le_pow_right (by omega) (by omega)
  rw [h] at h1
  simp at h1
  omega
 ·exact fun h => (ae6 h).1
theorem ux (v : BitVec 32) (w : Int) : gj v w = kw v w := by
 simp only [gj, kw, LET, af3]
 by_cases h : 1 ≤ w ∧ w ≤ 32
 ·rw [(rx w).2 h, Bool.true_and, Bool.true_and, Bool.eq_iff_iff, decide_eq_true_eq, decide_eq_true_eq, BitVec.le_def, BitVec.lt_def, wc h, ca4 ⟨by omega, by omega⟩]
  have h1 := cu7 (n := w.toNat) (by omega)
  have h2 : 0 < 2 ^ w.toNat := Nat.pow_pos (by omega)
  have h3 := v.isLt
  rw [BitVec.toNat_setWidth, BitVec.toNat_ofNat, Nat.mod_eq_of_lt (by omega), Nat.mod_eq_of_lt (by omega)]
  omega
 ·have : fh w = false := by
   cases hv : fh w with
   | false => rfl
   | true => exact absurd ((rx w).1 hv) h
  rw [this]; rfl
theorem aw1 (s : List UInt8) : ∀ (m : Nat) (i : Int), m = Int.toNat ((s.length : Int) - i) → 0 ≤ i → i ≤ s.length → decide (kf s iq (fun x => x) m i = (s.length : Int)) = gg s (fun _ => true) m i
 | 0, i, hm, h0, h1 => by
   show decide (i = (s.length : Int)) = true
   simp; omega
 | m + 1, i, hm, h0, h1 => by
   simp only [kf, gg, LET]
   have hlt : i < s.length := by omega
   have e1 : lm = jx := rfl
   have e2 : nk = kj := rfl
   simp only [hlt, decide_true, Bool.true_and, iq, LET, e1, e2]
   have ih := aw1 s m (i + 1) (by omega) (by omega) (by omega)
   cases jx (ix s i) <;> cases kj (ix s i) <;> by_cases h : ix s i = 95 <;> simp [h, ih] <;> omega
theorem bv2 (s : List UInt8) : lb s = kt s := by
 have e1 : lm = jx := rfl
 have h0 : decide ((s.length : Int) = 0) = decide (s = []) := by
  rw [Bool.eq_iff_iff, decide_eq_true_eq, decide_eq_true_eq]; simp
 simp only [lb, kt, LET, e1, h0, pz]
 split
 ·rfl
 ·exact aw1 s _ 0 rfl (by omega) (by omega)
theorem av5 (p : aa) (r : cd) : oe p r = ka p r := by
 have key : ∀ (l : List bw), (if dl (kp l r.Field).Width = 0#32 then 0 else (kp l r.Field).Width) =
  if ((r.Field < 0 ∨ (l.length : Int) ≤ r.Field) ∨ (ix l r.Field).Width < 1) ∨ 32 < (ix l r.Field).Width then 0 else (ix l r.Field).Width := by
  intro l
  simp only [kp, ah7]
  by_cases h : r.Field < 0 ∨ (l.length : Int) ≤ r.Field
  ·simp [h]
  ·have h' : (decide (r.Field < 0) || decide ((l.length : Int) ≤ r.Field)) = false := by simpa using h
   rw [h']
   simp only [Bool.false_eq_true, if_false, h, false_or]
   by_cases h2 : 1 ≤ (ix l r.Field).Width ∧ (ix l r.Field).Width ≤ 32
   ·rw [if_neg (by simpa using h2), if_neg (by omega)]
   ·rw [if_pos h2, if_pos (by omega)]
 simp only [oe, ka, LET, th, decide_eq_true_eq, Bool.or_eq_true]
 rw [key]
 by_cases h1 : r.Header = -1
 ·have h2 : ¬(0 ≤ r.Header) := by omega
  have h3 : ¬(r.Header < -1) := by omega
  simp only [h1, if_true, if_false, Int.reduceNeg, Int.reduceLE, Int.reduceLT, false_or]
 ·simp only [h1, if_false]
  by_cases h2 : 0 ≤ r.Header
  ·have h3 : ¬(r.Header < -1) := by omega
   by_cases h4 : (p.Headers.length : Int) ≤ r.Header
   ·have h6 : (gh p.Headers r.Header).Fields = [] := by simp [gh, h4]
    rw [h6]
    simp only [h2, h4, if_true, List.length_nil]
    rw [if_pos]
    omega
   ·have h5 : ¬(r.Header < 0) := by omega
    have h6 : (gh p.Headers r.Header) = ix p.Headers r.Header := by simp [gh, h4, h5]
    rw [h6]
    simp only [h2, h3, h4, if_true, if_false, false_or]
  ·have h3 : r.Header < -1 := by omega
   have h5 : r.Header < 0 := by omega
   have h6 : (gh p.Headers r.Header).Fields = [] := by simp [gh, h5]
   rw [h6]
   simp only [h2, h3, if_true, if_false, true_or, List.length_nil]
   rw [if_pos]
   omega
theorem CheckCall_L1_eq (p : aa) (c : av) (K : Unit → Int) : ∀ (m : Nat) (i : Int), ii p c K m i = io p c K m i
 | 0, i => rfl
 | m + 1, i => by simp only [ii, io, LET, ux, CheckCall_L1_eq p c K m]
theorem CheckCall_eq (p : aa) (c : av) : kn p c = lf p c := by
 simp only [kn, lf, CheckCall_L1_eq]
 split
 ·rfl
 ·split
  ·rfl
  ·rename_i h
   simp only [Bool.not_eq_true', decide_eq_false_iff_not, Decidable.not_not] at h
   rw [h]
theorem tn (p : aa) (x : ax) (K : Int → Int → Int × Int) : ∀ (m : Nat) (a b i : Int), gu p x K m a b i = gy p x (fun b a => K a b) m b a i
 | 0, a, b, i => rfl
 | m + 1, a, b, i => by
   simp only [gu, gy, LET, av5, tn p x K m]
   by_cases h1 : (ix x.Keys i).Kind = 1
   ·simp [h1]
   ·by_cases h2 : (ix x.Keys i).Kind = 2
    ·simp [h2]
    ·by_cases h3 : (ix x.Keys i).Kind = 3
     ·simp [h3]
     ·simp [h1, h2, h3]
theorem an0 (p : aa) (x : ax) : lg p x = nh p x := by
 simp only [lg, nh, tn]
theorem ae0 {p : aa} {x : ax} {K : Int → Int → Int × Int} : ∀ (m : Nat) (a b i : Int), m = Int.toNat ((x.Keys.length : Int) - i) → 0 ≤ i → (gy p x K m a b i).2 = 0 →
 (∀ j, i ≤ j → j < x.Keys.length → ((ix x.Keys j).Kind = 1 ∨ (ix x.Keys j).Kind = 2 ∨ (ix x.Keys j).Kind = 3) ∧ ka p (ix x.Keys j).Field ≠ 0) ∧ ∃ a' b', (K a' b').2 = 0
 | 0, a, b, i, hm, h0, h => ⟨fun j h1 h2 => by omega, a, b, h⟩
 | m + 1, a, b, i, hm, h0, h => by
   simp only [gy, LET] at h
   by_cases hw : ka p (ix x.Keys i).Field = 0
   ·simp [hw] at h
   ·rw [if_neg (by simpa using hw)] at h
    split at h
    ·simp at h
    ·rename_i hk
     have hk' : (ix x.Keys i).Kind = 1 ∨ (ix x.Keys i).Kind = 2 ∨ (ix x.Keys i).Kind = 3 := by
      simp at hk; omega
     split at h
     all_goals
      obtain ⟨h1, h2⟩ := ae0 m _ _ (i + 1) (by omega) (by omega) h
      refine ⟨fun j h3 h4 => ?_, h2⟩
      by_cases e : j = i
      ·subst e; exact ⟨hk', hw⟩
      ·exact h1 j (by omega) h4
theorem wb (l : List Int) (a : Int) : ∀ (m : Nat) (i : Int), m = Int.toNat ((l.length : Int) - i) → 0 ≤ i → (gm l a (fun _ => -1) m i = -1 ∧ ∀ j, i ≤ j → j < l.length → ix l j ≠ a) ∨
 (i ≤ gm l a (fun _ => -1) m i ∧ gm l a (fun _ => -1) m i < l.length ∧ ix l (gm l a (fun _ => -1) m i) = a ∧ ∀ j, i ≤ j → j < gm l a (fun _ => -1) m i → ix l j ≠ a)
 | 0, i, hm, h0 => .inl ⟨rfl, fun j h1 h2 => by omega⟩
 | m + 1, i, hm, h0 => by
   simp only [gm]
   by_cases h : ix l i = a
   ·rw [if_pos (by simpa using h)]
    exact .inr ⟨by omega, by omega, h, fun j h1 h2 => by omega⟩
   ·rw [if_neg (by simpa using h)]
    rcases wb l a m (i + 1) (by omega) (by omega) with ⟨h1, h2⟩ | ⟨h1, h2, h3, h4⟩
    ·refine .inl ⟨h1, fun j h5 h6 => ?_⟩
     by_cases e : j = i
     ·subst e; exact h
     ·exact h2 j (by omega) h6
    ·refine .inr ⟨by omega, h2, h3, fun j h5 h6 => ?_⟩
     by_cases e : j = i
     ·subst e; exact h
     ·exact h4 j (by omega) h6
theorem ae4 (l : List Int) (a : Int) : (fy l a = -1 ∧ ∀ j : Int, 0 ≤ j → j < l.length → ix l j ≠ a) ∨ (0 ≤ fy l a ∧ fy l a < l.length ∧ ix l (fy l a) = a ∧ ∀ j, 0 ≤ j → j < fy l a → ix l j ≠ a) :=
 wb l a _ 0 rfl (by omega)
theorem bu1 (l : List Int) (a i : Int) (h0 : 0 ≤ i) (h1 : i < l.length) (h : ix l i = a) : fy l a < i ↔ ∃ j, 0 ≤ j ∧ j < i ∧ ix l j = a := by
 rcases ae4 l a with ⟨h2, h3⟩ | ⟨h2, h3, h4, h5⟩
 ·exact absurd h (h3 i h0 h1)
 ·constructor
  ·intro hlt; exact ⟨_, h2, hlt, h4⟩
  ·rintro ⟨j, h6, h7, h8⟩
   by_cases h9 : j < fy l a
   ·exact absurd h8 (h5 j h6 h9)
   ·omega
theorem ak1 (l : List Int) (a : Int) : fy l a < 0 ↔ ¬∃ j, 0 ≤ j ∧ j < (l.length : Int) ∧ ix l j = a := by
 rcases ae4 l a with ⟨h2, h3⟩ | ⟨h2, h3, h4, h5⟩
 ·rw [h2]
  exact ⟨fun _ ⟨j, h6, h7, h8⟩ => h3 j h6 h7 h8, fun _ => by omega⟩
 ·exact ⟨fun h => by omega, fun h => absurd ⟨_, h2, h3, h4⟩ h⟩
def Seen (l : List Int) (i : Int) (z : List (Int × Bool)) : Prop := ∀ a, (mget z a).getD false = true ↔ ∃ j, 0 ≤ j ∧ j < i ∧ ix l j = a
theorem Seen.step {l : List Int} {i : Int} {z : List (Int × Bool)} (h : Seen l i z) (h0 : 0 ≤ i) : Seen l (i + 1) (mput z (ix l i) true) := fun a => by
 rw [bl0]
 by_cases e : ix l i = a
 ·simp only [e, if_true, Option.getD_some, true_iff]
  exact ⟨i, h0, by omega, e⟩
 ·simp only [e, if_false]
  rw [h a]
  constructor
  ·rintro ⟨j, h1, h2, h3⟩; exact ⟨j, h1, by omega, h3⟩
  ·rintro ⟨j, h1, h2, h3⟩
   have : j ≠ i := fun hj => e (by rw [← hj]; exact h3)
   exact ⟨j, h1, by omega, h3⟩
theorem qi (p : aa) (x : ax) {K : List (Int × Bool) → Int} {K' : Unit → Int} (hK : ∀ z, Seen x.Actions x.Actions.length z → K z = K' ()) : ∀ (m : Nat) (i : Int) (z : List (Int × Bool)), m = Int.toNat ((x.Actions.length : Int) - i) → 0 ≤ i → i ≤ x.Actions.length → Seen x.Actions i z → fq p x K m i z = ir p x K' m i
 | 0, i, z, hm, h0, h1, hz => by
   have : i = x.Actions.length := by omega
   subst this
   simp only [fq, ir]
   exact hK z hz
 | m + 1, i, z, hm, h0, h1, hz => by
   have ih := qi p x hK m (i + 1) _ (by omega) (by omega) (by omega) (hz.step h0)
   simp only [fq, ir, LET]
   split
   ·rfl
   ·have hs := hz (ix x.Actions i)
    have hi := bu1 x.Actions _ i h0 (by omega) rfl
    have e : ((mget z (ix x.Actions i)).getD false) = decide (fy x.Actions (ix x.Actions i) < i) := by
     rw [Bool.eq_iff_iff, decide_eq_true_eq, hs, hi]
    rw [e, ih]
theorem zy (p : aa) (x : ax) : ku p x = nt p x := by
 unfold ku nt
 refine qi p x (fun z hz => ?_) _ 0 [] rfl (by omega) (by omega) (fun a => by simp [bs2]; omega)
 have e : (!((mget z x.Default.Action).getD false)) = decide (fy x.Actions x.Default.Action < 0) := by
  rw [Bool.eq_iff_iff, decide_eq_true_eq, ak1, ← hz]; simp
 simp only [LET, e, CheckCall_eq]
theorem Check_eq (p : aa) (t : Int) : gc p t = ep p t := by
 simp only [gc, ep, LET, bv2, an0, zy]
theorem zi (p : aa) (t : Int) : fm p t = fb p t := by
 simp only [fm, fb, Check_eq]
theorem Widths_eq (p : aa) (t : Int) : dj p t = cx p t := by
 rw [tj, pv, zi]
 simp only [av5]
theorem Kind_3 (p : aa) (t : Int) : ∀ (m : Nat) (i : Int), m = Int.toNat (((ix p.Tables t).Keys.length : Int) - i) → 0 ≤ i → (∀ j, i ≤ j → j < (ix p.Tables t).Keys.length → (ix (ix p.Tables t).Keys j).Kind ≤ 3) → fj p t (fun x => x) m 3 i = 3
 | 0, i, _, _, _ => rfl
 | m + 1, i, hm, h0, h => by
   simp only [fj]
   have := h i (by omega) (by omega)
   rw [show max 3 (ix (ix p.Tables t).Keys i).Kind = 3 by omega]
   exact Kind_3 p t m (i + 1) (by omega) (by omega) fun j h1 h2 => h j (by omega) h2
theorem Kind_L1_eq (p : aa) (t : Int) : ∀ (m : Nat) (k i : Int), m = Int.toNat (((ix p.Tables t).Keys.length : Int) - i) → 0 ≤ i → (k = 1 ∨ k = 2) → (∀ j, i ≤ j → j < (ix p.Tables t).Keys.length → (ix (ix p.Tables t).Keys j).Kind = 1 ∨ (ix (ix p.Tables t).Keys j).Kind = 2 ∨ (ix (ix p.Tables t).Keys j).Kind = 3) →
 kh p t (fun x => x) m k i = fj p t (fun x => x) m k i
 | 0, k, i, _, _, _, _ => rfl
 | m + 1, k, i, hm, h0, hk, h => by
   simp only [kh, fj]
   have hi := h i (by omega) (by omega)
   have h' : ∀ j, i + 1 ≤ j → j < (ix p.Tables t).Keys.length → _ := fun j h1 h2 => h j (by omega) h2
   rcases hi with e | e | e
   ·rw [if_neg (by simp [e]), if_neg (by simp [e]), e, show max k 1 = k by omega]
    exact Kind_L1_eq p t m k (i + 1) (by omega) (by omega) hk h'
   ·rw [if_neg (by simp [e]), if_pos (by simp [e]), e, show max k 2 = 2 by omega]
    exact Kind_L1_eq p t m 2 (i + 1) (by omega) (by omega) (.inr rfl) h'
   ·rw [if_pos (by simp [e]), e, show max k 3 = 3 by omega]
    exact (Kind_3 p t m (i + 1) (by omega) (by omega) fun j h1 h2 => by have := h' j h1 h2; omega).symm
theorem tx {p : aa} {t : Int} (h : fb p t = true) : ∀ j : Int, 0 ≤ j → j < (ix p.Tables t).Keys.length → ((ix (ix p.Tables t).Keys j).Kind = 1 ∨ (ix (ix p.Tables t).Keys j).Kind = 2 ∨ (ix (ix p.Tables t).Keys j).Kind = 3) ∧ ka p (ix (ix p.Tables t).Keys j).Field ≠ 0 := by
 have h : (ep p t).2 = 0 := by simpa [fb, LET] using h
 simp only [ep, LET] at h
 split at h
 ·simp at h
 ·split at h
  ·simp at h
  ·split at h
   ·simp at h
   ·split at h
    ·simp at h
    ·by_cases hk : (nh p (ix p.Tables t)).2 = 0
     ·exact (ae0 _ 0 0 0 rfl (by omega) hk).1
     ·rw [if_pos (by simpa using hk)] at h
      exact absurd h hk
theorem Kind_eq (p : aa) (t : Int) : en p t = ky p t := by
 simp only [en, ky, LET, zi]
 cases hv : fb p t with
 | false => rfl
 | true =>
   simp only [Bool.not_true, Bool.false_eq_true, if_false]
   exact Kind_L1_eq p t _ 1 0 rfl (by omega) (.inl rfl) fun j h1 h2 => (tx hv j h1 h2).1
theorem Allows_L1_spec (p : aa) (t a : Int) : ∀ (m : Nat) (i : Int), m = Int.toNat (((ix p.Tables t).Actions.length : Int) - i) → 0 ≤ i → (jl p t a (fun _ => false) m i = true ↔ ∃ j : Int, i ≤ j ∧ j < (ix p.Tables t).Actions.length ∧ ix (ix p.Tables t).Actions j = a)
 | 0, i, hm, h0 => by
   simp only [jl, Bool.false_eq_true, false_iff]
   rintro ⟨j, h1, h2, _⟩; omega
 | m + 1, i, hm, h0 => by
   have ih := Allows_L1_spec p t a m (i + 1) (by omega) (by omega)
   simp only [jl]
   by_cases h : ix (ix p.Tables t).Actions i = a
   ·rw [if_pos (by simpa using h)]
    exact ⟨fun _ => ⟨i, by omega, by omega, h⟩, fun _ => rfl⟩
   ·rw [if_neg (by simpa using h), ih]
    constructor
    ·rintro ⟨j, h1, h2, h3⟩; exact ⟨j, by omega, h2, h3⟩
    ·rintro ⟨j, h1, h2, h3⟩
     have : j ≠ i := fun e => h (by rw [← e]; exact h3)
     exact ⟨j, by omega, h2, h3⟩
theorem Allows_iff (p : aa) (t a : Int) : nm p t a = true ↔ fm p t = true ∧ ∃ j : Int, 0 ≤ j ∧ j < (ix p.Tables t).Actions.length ∧ ix (ix p.Tables t).Actions j = a := by
 simp only [nm, LET]
 cases hv : fm p t with
 | false => simp
 | true =>
   simp only [Bool.not_true, Bool.false_eq_true, if_false, true_and]
   exact Allows_L1_spec p t a _ 0 rfl (by omega)
theorem Allows_eq (p : aa) (t a : Int) : nm p t a = oo p t a := by
 rw [Bool.eq_iff_iff, Allows_iff]
 simp only [oo, LET, Bool.and_eq_true, decide_eq_true_eq, zi]
 have := ak1 (ix p.Tables t).Actions a
 constructor
 ·rintro ⟨h1, h2⟩
  refine ⟨h1, ?_⟩
  by_cases h3 : fy (ix p.Tables t).Actions a < 0
  ·exact absurd h2 (this.1 h3)
  ·exact Int.not_lt.1 h3
 ·rintro ⟨h1, h2⟩
  refine ⟨h1, ?_⟩
  by_cases h3 : ∃ j : Int, 0 ≤ j ∧ j < (ix p.Tables t).Actions.length ∧ ix (ix p.Tables t).Actions j = a
  ·exact h3
  ·exact absurd (this.2 h3) (Int.not_lt.2 h2)
theorem Matches_L1_eq (x : au) (k : List (BitVec 32)) (K : Unit → Bool) : ∀ (m : Nat) (i : Int), ib x k K m i = jn x k K m i
 | 0, i => rfl
 | m + 1, i => by simp only [ib, jn, Matches_L1_eq x k K m]
theorem Matches_eq (x : au) (k : List (BitVec 32)) : cm x k = nr x k := by
 simp only [cm, nr, Matches_L1_eq]
 by_cases h : k.length = x.Keys.length
 ·simp [h]
 ·have h1 : ¬((k.length : Int) = x.Keys.length) := by omega
  have h2 : ¬((x.Keys.length : Int) = k.length) := by omega
  simp [h1, h2]
theorem SameKey_L1_eq (a b : au) (K : Unit → Bool) : ∀ (m : Nat) (i : Int), jp a b K m i = fu a b K m i
 | 0, i => rfl
 | m + 1, i => by simp only [jp, fu, SameKey_L1_eq a b K m]
theorem SameKey_eq (a b : au) : il a b = gx a b := by
 simp only [il, gx, SameKey_L1_eq, Bool.or_comm]
theorem OnesCount_L1_eq (x : BitVec 32) (K : Int → Int) : ∀ (m : Nat) (y : BitVec 32) (n i : Int), 0 ≤ i → y = x >>> i.toNat → ie x K m n i = ip K m y n i
 | 0, y, n, i, _, _ => rfl
 | m + 1, y, n, i, h0, hy => by
   simp only [ie, ip]
   have e1 : (x >>> i.toNat &&& 1#32).toNat = (y % 2#32).toNat := by
    rw [hy, BitVec.toNat_and, BitVec.toNat_umod]
    exact Nat.and_one_is_mod _
   have e2 : y / 2#32 = x >>> (i + 1).toNat := by
    apply BitVec.eq_of_toNat_eq
    rw [hy, BitVec.toNat_udiv, BitVec.toNat_ushiftRight, BitVec.toNat_ushiftRight, show (i + 1).toNat = i.toNat + 1 by omega, Nat.shiftRight_succ]
    rfl
   rw [e1, OnesCount_L1_eq x K m (y / 2#32) _ (i + 1) (by omega) e2]
theorem OnesCount_eq (x : BitVec 32) : iv x = mm x := by
 simp only [iv, mm]
 exact OnesCount_L1_eq x _ _ x 0 0 (by omega) (by simp)
theorem xc (p : aa) (t : Int) (x : au) (K : Unit → Int) : ∀ (m : Nat) (i : Int), fg p t x K m i = ik p t x K m i
 | 0, i => rfl
 | m + 1, i => by
   simp only [fg, ik, LET, OnesCount_eq, xc p t x K m]
   split
   ·by_cases h : i < x.Keys.length
    ·have h2 : ¬((x.Keys.length : Int) ≤ i) := by omega
     simp [h, h2]
    ·have h2 : (x.Keys.length : Int) ≤ i := by omega
     simp [h, h2]
   ·rfl
theorem bm1 (p : aa) (t : Int) (x : au) : fi p t x = ko p t x := by
 simp only [fi, ko, xc]
theorem Precedes_eq (p : aa) (t : Int) (a b : am) : de p t a b = jt p t a b := by
 simp only [de, jt, LET, bm1]
theorem ag3 : ∀ w : Fin 33, ∀ n : Fin 33, 1 ≤ w.val → n.val ≤ w.val → fd (n.val : Int) (w.val : Int) = lw (n.val : Int) (w.val : Int) := by decide +kernel
theorem PrefixLen_L1_eq (x : BitVec 32) (w : Int) (hw : 1 ≤ w ∧ w ≤ 32) (K : Unit → Int × Bool) : ∀ (m : Nat) (i : Int), m = Int.toNat (w + 1 - i) → 0 ≤ i → eb x w K m i = gn x w K m i
 | 0, i, _, _ => rfl
 | m + 1, i, hm, h0 => by
   simp only [eb, gn, LET]
   have h1 : i ≤ w := by omega
   have e : fd i w = lw i w := by
    have := ag3 ⟨w.toNat, by omega⟩ ⟨i.toNat, by omega⟩ (by simp only; omega) (by simp only; omega)
    simp only at this
    rwa [show ((w.toNat : Nat) : Int) = w by omega, show ((i.toNat : Nat) : Int) = i by omega] at this
   rw [e, PrefixLen_L1_eq x w hw K m (i + 1) (by omega) (by omega)]
   simp [h1, (rx w).2 hw]
theorem PrefixLen_eq (x : BitVec 32) (w : Int) : dh x w = ji x w := by
 simp only [dh, ji, LET, af3]
 by_cases h : 1 ≤ w ∧ w ≤ 32
 ·rw [(rx w).2 h, dt (by omega) (by omega)]
  simp only [Bool.not_true, Bool.false_eq_true, if_false, Int.sub_zero]
  exact PrefixLen_L1_eq x w h _ _ 0 (by simp) (by omega)
 ·have hv : fh w = false := by
   cases hv : fh w with
   | false => rfl
   | true => exact absurd ((rx w).1 hv) h
  rw [hv]
  simp only [Bool.not_false, if_true]
  generalize Int.toNat (w + 1 - 0) = m
  cases m with
  | zero => rfl
  | succ m => simp [gn, hv]
theorem at9 (a b : BitVec 32) : decide (a &&& ~~~b = 0#32) = decide (a &&& b = a) := by
 rw [Bool.eq_iff_iff, decide_eq_true_eq, decide_eq_true_eq]
 constructor
 ·intro h
  apply BitVec.eq_of_getLsbD_eq
  intro i hi
  have := congrArg (fun v => v.getLsbD i) h
  simp [hi] at this ⊢
  exact this
 ·intro h
  apply BitVec.eq_of_getLsbD_eq
  intro i hi
  have := congrArg (fun v => v.getLsbD i) h
  simp [hi] at this ⊢
  exact this
theorem ar0 (m : ay) (k w : Int) : nb m k w = ja m w k := by
 simp only [nb, ja, LET, ux, bf9, at9, PrefixLen_eq]
 split
 ·rfl
 ·split
  ·rfl
  ·by_cases h1 : k = 1
   ·by_cases h : m.Mask = je w <;> simp [h1, h]
   ·by_cases h2 : k = 2
    ·cases h : (ji m.Mask w).2 <;> simp [h2, h]
    ·simp [h1, h2]
theorem xv (p : aa) (t : Int) (x : au) (w : List Int) (K : Unit → Int) : ∀ (m : Nat) (i : Int), lc p t x w K m i = jd p t x w K m i
 | 0, i => rfl
 | m + 1, i => by simp only [lc, jd, LET, ar0, xv p t x w K m]
theorem bj2 (p : aa) (t : Int) (x : au) : li p t x = jv p t x := by
 simp only [li, jv, LET, Check_eq, Widths_eq, Kind_eq, Allows_eq, CheckCall_eq, xv]
 by_cases hc : (ep p t).2 = 0
 ·have hv : fb p t = true := by simp [fb, LET, hc]
  have hl : (cx p t).length = (ix p.Tables t).Keys.length := by rw [pv, if_pos hv, qx]
  simp only [hc, hl, decide_true, Bool.not_true, Bool.false_eq_true, if_false]
  split
  ·rfl
  ·rename_i hlen
   simp only [Bool.not_eq_true', decide_eq_false_iff_not, Decidable.not_not] at hlen
   rw [hlen]
   congr 1
   funext u
   split
   ·rfl
   ·rename_i hp
    simp only [Bool.or_eq_true, decide_eq_true_eq, not_or] at hp
    have e : (!decide (x.Priority = 0)) = decide (0 < x.Priority) := by
     rw [Bool.eq_iff_iff]; simp; omega
    rw [e]
 ·simp only [hc, decide_false, Bool.not_false, if_true]
end Go.Proofs.YthdnpgpnodgicaaGreat
