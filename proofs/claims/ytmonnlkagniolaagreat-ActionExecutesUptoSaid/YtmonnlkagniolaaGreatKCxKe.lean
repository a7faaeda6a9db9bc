import Derived.Test.YtmonnlkagniolaaGreatKExEv
import Derived.Test.YtmonnlkagniolaaGreatKPmKpKx
set_option linter.unusedVariables false
set_option linter.unusedSimpArgs false
set_option maxRecDepth 100000
namespace Go.Proofs.YtmonnlkagniolaaGreat
open Go Go.Pb Go.RowKit
theorem as1 (s : List UInt8) : ∀ (m : Nat) (i : Int), m = Int.toNat ((s.length : Int) - i) → 0 ≤ i → i ≤ s.length → decide (lf s jt (fun x => x) m i = (s.length : Int)) = ip s (fun _ => true) m i
 | 0, i, hm, h0, h1 => by
   show decide (i = (s.length : Int)) = true
   simp; omega
 | m + 1, i, hm, h0, h1 => by
   simp only [lf, ip, LET]
   have hlt : i < s.length := by omega
   have e1 : mn = ky := rfl
   have e2 : ou = ll := rfl
   simp only [hlt, decide_true, Bool.true_and, jt, LET, e1, e2]
   have ih := as1 s m (i + 1) (by omega) (by omega) (by omega)
   cases ky (ix s i) <;> cases ll (ix s i) <;> by_cases h : ix s i = 95 <;> simp [h, ih] <;> omega
theorem au1 (s : List UInt8) : jp s = iy s := by
 have e1 : mn = ky := rfl
 have h0 : decide ((s.length : Int) = 0) = decide (s = []) := by
  rw [Bool.eq_iff_iff, decide_eq_true_eq, decide_eq_true_eq]; simp
 simp only [jp, iy, LET, e1, h0, si]
 split
 ·rfl
 ·exact as1 s _ 0 rfl (by omega) (by omega)
theorem bq7 (p : af) (r : ak) : md p r = pq p r := rfl
theorem bw0 (sc : aj) (n : List aa) (w : Int) : pz n sc w = je { scope := sc } n w := by
 unfold pz je
 simp only [LET, wx]
theorem cw1 (s : av) (sc : aj) : od sc.Program s sc = fu { scope := sc } s := by
 unfold od fu
 simp only [LET, wx, bq7, bw0]
 by_cases k1 : s.Kind = 1
 ·simp [k1]
 simp only [k1, decide_false, Bool.false_eq_true, if_false]
 by_cases k2 : s.Kind = 2
 ·simp [k2]
 by_cases k3 : s.Kind = 3
 ·simp [k3]
 by_cases k4 : s.Kind = 4
 ·simp only [k4, decide_true, decide_false, Bool.false_eq_true, if_false, if_true, Bool.true_and, Int.reduceEq, Bool.not_true, Bool.or_comm]
  split
  ·rfl
  ·by_cases h : (jq s.Index sc).2 = 0
   ·by_cases q : (pq sc.Program s.Dst).1 = (ix sc.Program.Registers s.Register).Width <;> simp [h, q]
   ·simp [h]
 by_cases k5 : s.Kind = 5
 ·simp [k5]
 simp [k2, k3, k4, k5]
theorem by9 (l : List aw) (i : Int) (hi : i ≤ l.length) (K : Unit → Int) : ∀ (m : Nat) (j : Int), m = Int.toNat (i - j) → 0 ≤ j → kb l i K m j = if 0 ≤ dk (sub l 0 i) (fun a_ => fk a_ (ix l i)) (fun _ => -1) m j then 7 else K ()
 | 0, j, hm, h0 => by
   rw [kb, dk, if_neg (by omega)]
 | m + 1, j, hm, h0 => by
   have e : ix (sub l 0 i) j = ix l j := by
    simp only [ix, sub, Int.toNat_zero, List.drop_zero, Nat.sub_zero, List.getD_eq_getElem?_getD]
    rw [List.getElem?_take_of_lt (by omega)]
   rw [kb, dk, e]
   by_cases h : (ix l j).Name = (ix l i).Name
   ·have h2 : fk (ix l j) (ix l i) = true := by simp [fk, h]
    rw [if_pos (by simp [h]), if_pos h2, if_pos h0]
   ·have h2 : fk (ix l j) (ix l i) = false := by simp [fk, h]
    rw [if_neg (by simp [h] : ¬(decide ((ix l j).Name = (ix l i).Name) = true)), if_neg (by simp [h2] : ¬((fun a_ => fk a_ (ix l i)) (ix l j) = true))]
    exact by9 l i hi K m (j + 1) (by omega) (by omega)
theorem ak8 (a : bz) : ∀ (m : Nat) (i : Int), m = Int.toNat ((a.Params.length : Int) - i) → 0 ≤ i → kh a.Params (fun _ => 0) m i = gj a (fun _ => 0) m i
 | 0, i, hm, h0 => rfl
 | m + 1, i, hm, h0 => by
   rw [kh, gj]
   simp only [LET, au1]
   have hl := be4 (l := a.Params) (a := 0) (b := i) (by omega) (by omega) (by omega)
   have e := by9 a.Params i (by omega) (fun _ => kh a.Params (fun _ => 0) m (i + 1)) (Int.toNat (i - 0)) 0 rfl (Int.le_refl _)
   rw [e, ak8 a m (i + 1) (by omega) (by omega)]
   unfold ft gg
   simp only [LET]
   rw [show (((sub a.Params 0 i).length : Int) - 0).toNat = (i - 0).toNat by omega]
   simp only [decide_eq_true_eq]
theorem bp1 (a : bz) : pd a.Params = gj a (fun _ => 0) (Int.toNat ((a.Params.length : Int) - 0)) 0 := ak8 a _ 0 rfl (Int.le_refl _)
theorem am1 (p : af) (i : Int) (K : Unit → Int × Int) : ∀ (m : Nat) (j : Int), lx p i K m j = jo p i K m j
 | 0, j => rfl
 | m + 1, j => by
   rw [lx, jo]
   simp only [LET, am1 p i K m (j + 1)]
   have e := cw1 (ix (ix p.Actions i).Body j) (nm p i)
   have e2 : (nm p i).Program = p := rfl
   rw [e2] at e
   rw [e]
   rfl
theorem bo9 (p : af) (i : Int) : mi p i = jy p i := by
 unfold mi jy
 split
 ·rfl
 simp only [LET, am1, ← au1, bp1]
 unfold ly
 simp only [LET]
 split
 ·simp
 split
 ·simp
 ·rfl
theorem bx7 (w : Int) : iq [w] = en w := by
 rw [lq]; simp [en]
theorem ak1 (w : Int) : en w = true ↔ 1 ≤ w ∧ w ≤ 32 := by simp [en]
theorem bz6 : ∀ n : Fin 33, 1 ≤ n.val → ca (n.val : Int) = BitVec.ofNat 32 (2 ^ n.val - 1) := by decide +kernel
theorem bp4 : ∀ n : Fin 64, io (n.val : Int) = BitVec.ofNat 64 (2 ^ n.val) := by decide +kernel
theorem cx1 {w : Int} (h : 1 ≤ w ∧ w ≤ 32) : ca w = BitVec.ofNat 32 (2 ^ w.toNat - 1) := by
 have := bz6 ⟨w.toNat, by omega⟩ (by simp only; omega)
 simp only at this
 rwa [show ((w.toNat : Nat) : Int) = w by omega] at this
theorem bv0 {w : Int} (h : 0 ≤ w ∧ w < 64) : io w = BitVec.ofNat 64 (2 ^ w.toNat) := by
 have := bp4 ⟨w.toNat, by omega⟩
 simp only at this
 rwa [show ((w.toNat : Nat) : Int) = w by omega] at this
theorem cb3 {w : Int} (h : ¬(1 ≤ w ∧ w ≤ 32)) : ca w = 0#32 := by
 have h1 : iq [w] = false := by rw [lq]; simpa using h
 simp [ca, LET, h1]
theorem db9 {n : Nat} (h : n ≤ 32) : 2 ^ n ≤ 4294967296 := Nat.pow_le_pow_right (n := 2) (by omega) h
theorem ax3 {w : Int} (h : 1 ≤ w ∧ w ≤ 32) : (ca w).toNat = 2 ^ w.toNat - 1 := by
 have h1 := db9 (n := w.toNat) (by omega)
 have h2 : 0 < 2 ^ w.toNat := Nat.pow_pos (by omega)
 rw [cx1 h, BitVec.toNat_ofNat, Nat.mod_eq_of_lt (by omega)]
theorem cs0 (v : BitVec 32) (w : Int) : sa v w = tc v w := by
 simp only [sa, tc, LET, bx7]
 by_cases h : 1 ≤ w ∧ w ≤ 32
 ·rw [(ak1 w).2 h, Bool.true_and, Bool.true_and, Bool.eq_iff_iff, decide_eq_true_eq, decide_eq_true_eq, BitVec.le_def, BitVec.lt_def, ax3 h, bv0 ⟨by omega, by omega⟩]
  have h1 := db9 (n := w.toNat) (by omega)
  have h2 : 0 < 2 ^ w.toNat := Nat.pow_pos (by omega)
  have h3 := v.isLt
  rw [BitVec.toNat_setWidth, BitVec.toNat_ofNat, Nat.mod_eq_of_lt (by omega), Nat.mod_eq_of_lt (by omega)]
  omega
 ·have : en w = false := by
   cases hv : en w with
   | false => rfl
   | true => exact absurd ((ak1 w).1 hv) h
  rw [this]; rfl
theorem CheckCall_L1_eq (p : af) (c : bm) (K : Unit → Int) : ∀ (m : Nat) (i : Int), ji p c K m i = jr p c K m i
 | 0, i => rfl
 | m + 1, i => by simp only [ji, jr, LET, cs0, CheckCall_L1_eq p c K m]
theorem CheckCall_eq (p : af) (c : bm) : ik p c = gn p c := by
 simp only [ik, gn, CheckCall_L1_eq]
 split
 ·rfl
 ·split
  ·rfl
  ·rename_i h
   simp only [Bool.not_eq_true', decide_eq_false_iff_not, Decidable.not_not] at h
   rw [h]
theorem ac2 {w : Int} : ca w = 0#32 ↔ ¬(1 ≤ w ∧ w ≤ 32) := by
 constructor
 ·intro e h
  have h1 := ud h
  have h2 : 2 ^ 1 ≤ 2 ^ w.toNat := Nat.pow_le_pow_right (by omega) (by omega)
  rw [e] at h1
  have h3 : (0#32).toNat = 0 := rfl
  omega
 ·exact cb3
theorem cg7 {l : List aw} {f : Int} (h : f < 0 ∨ (l.length : Int) ≤ f) : gu l f = { Name := [], Width := 0 } := by
 unfold gu; rw [if_pos (by simpa using h)]
theorem dn9 {l : List aw} {f : Int} (h : ¬(f < 0 ∨ (l.length : Int) ≤ f)) : gu l f = ix l f := by
 unfold gu; rw [if_neg (by simpa using h)]
theorem wat (l : List aw) (f : Int) : (if ca (gu l f).Width = 0#32 then 0 else (gu l f).Width) = if ((f < 0 ∨ (l.length : Int) ≤ f) ∨ (ix l f).Width < 1) ∨ 32 < (ix l f).Width then 0 else (ix l f).Width := by
 by_cases h : f < 0 ∨ (l.length : Int) ≤ f
 ·rw [cg7 h, if_pos (show ((f < 0 ∨ (l.length : Int) ≤ f) ∨ (ix l f).Width < 1) ∨ 32 < (ix l f).Width from .inl (.inl h))]
  split <;> rfl
 ·rw [dn9 h]
  by_cases hw : 1 ≤ (ix l f).Width ∧ (ix l f).Width ≤ 32
  ·rw [if_neg (fun e => ac2.1 e hw), if_neg (by omega)]
  ·rw [if_pos (ac2.2 hw), if_pos (by omega)]
theorem bx1 (p : af) (r : ak) : ks p r = fa p r := by
 have e : ks p r = if ca (gu (nt p r.Header) r.Field).Width = 0#32 then 0 else (gu (nt p r.Header) r.Field).Width := by
  unfold ks; simp only [LET, decide_eq_true_eq]
 rw [e, wat]
 unfold fa
 simp only [LET, decide_eq_true_eq, Bool.or_eq_true]
 by_cases h1 : r.Header = -1
 ·have e1 : nt p r.Header = p.Metadata := by unfold nt; rw [if_pos (by simpa using h1)]
  have e2 : ¬(0 ≤ r.Header) := by omega
  rw [e1, if_neg e2]
  split <;> split <;> first | rfl | omega
 ·have e1 : nt p r.Header = (jk p.Headers r.Header).Fields := by unfold nt; simp only [LET]; rw [if_neg (by simpa using h1)]
  rw [e1]
  by_cases h2 : r.Header < 0 ∨ (p.Headers.length : Int) ≤ r.Header
  ·have e2 : jk p.Headers r.Header = { Name := [], Fields := [] } := by unfold jk; rw [if_pos (by simpa using h2)]
   rw [e2, if_pos (show ((r.Field < 0 ∨ (([] : List aw).length : Int) ≤ r.Field) ∨ (ix ([] : List aw) r.Field).Width < 1) ∨ 32 < (ix ([] : List aw) r.Field).Width by simp only [List.length_nil]; omega)]
   split <;> split <;> first | rfl | omega
  ·have e2 : jk p.Headers r.Header = ix p.Headers r.Header := by unfold jk; rw [if_neg (by simpa using h2)]
   have e3 : 0 ≤ r.Header := by omega
   have e4 : ¬(p.Headers.length : Int) ≤ r.Header := by omega
   rw [e2, if_pos e3, if_neg e4]
   split <;> split <;> first | rfl | omega
theorem bv8 {w : Int} (hw : w ≤ 32) (K : BitVec 64 → BitVec 32) : ∀ (m : Nat) (y : BitVec 64) (i : Int), m = Int.toNat (w - i) → i ≤ w → PW y i → ∃ z, PW z w ∧ kf K m y i = K z
 | 0, y, i, hm, hi, h => ⟨y, by rw [show w = i by omega]; exact h, rfl⟩
 | m + 1, y, i, hm, hi, h => by
   obtain ⟨z, h1, h2⟩ := bv8 hw K m (2#64 * y) (i + 1) (by omega) (by omega) (pw1 h (by omega))
   exact ⟨z, h1, by rw [kf, h2]⟩
theorem aw0 {w : Int} (h : 1 ≤ w ∧ w ≤ 32) (v : BitVec 32) : gz v w = v &&& ca w := by
 unfold gz
 obtain ⟨z, h1, h2⟩ := bv8 h.2 (fun y => BitVec.setWidth 32 (BitVec.setWidth 64 v % y)) (Int.toNat (w - 0)) 1#64 0 rfl (by omega) pw0
 rw [h2]
 apply BitVec.eq_of_toNat_eq
 rw [ml h, BitVec.toNat_setWidth, BitVec.toNat_umod, uv, h1.eq]
 have h3 := v.isLt
 have h4 : v.toNat % 2 ^ w.toNat ≤ v.toNat := Nat.mod_le _ _
 exact Nat.mod_eq_of_lt (by omega)
theorem bu6 (p : af) (rs : List (List (BitVec 32))) (r : Int) (i : BitVec 32) : fb { p := p, cells := rs } r i = ma p rs r i := by
 unfold fb ma
 by_cases h : (r < 0 ∨ (p.Registers.length : Int) ≤ r) ∨ (rs.length : Int) ≤ r
 ·rw [if_pos (by simpa using h)]
  symm
  rw [Bool.and_eq_false_imp]
  intro h1
  simp only [Bool.and_eq_true, decide_eq_true_eq] at h1
  omega
 ·rw [if_neg (by simpa using h)]
  have e : ((decide (0 ≤ r) && decide (r < (p.Registers.length : Int))) && decide (r < (rs.length : Int))) = true := by
   simp only [Bool.and_eq_true, decide_eq_true_eq]
   omega
  rw [e, Bool.true_and]
theorem by4 (p : af) (rs : List (List (BitVec 32))) (r : Int) (i : BitVec 32) : pt p rs r i = sv p rs r i := by
 unfold pt sv
 rw [bu6]
theorem be0 (r : cg) : lp r = 0 ↔ ¬(1 ≤ r.Width ∧ r.Width ≤ 32) := by
 unfold lp
 simp only [Bool.or_eq_true, decide_eq_true_eq]
 split <;> omega
theorem bp8 (p : af) (rs : List (List (BitVec 32))) (r : Int) (i v : BitVec 32) : jn p rs r i v = lm p rs r i v := by
 unfold jn lm
 rw [bu6]
 have e : decide (0#32 < ca (ix p.Registers r).Width) = !decide (lp (ix p.Registers r) = 0) := by
  rw [Bool.eq_iff_iff]
  simp only [Bool.not_eq_true', decide_eq_true_eq, decide_eq_false_iff_not, be0, ← ac2]
  rw [BitVec.lt_def, ← BitVec.toNat_inj]
  show 0 < _ ↔ ¬_ = 0
  omega
 rw [e]
 cases h1 : ma p rs r i
 ·simp
 ·by_cases h2 : lp (ix p.Registers r) = 0
  ·simp [h2]
  ·have h3 : 1 ≤ (ix p.Registers r).Width ∧ (ix p.Registers r).Width ≤ 32 := Decidable.not_not.1 fun h => h2 ((be0 _).2 h)
   rw [if_pos (by simp [h2]), if_neg (by simp [h2]), aw0 h3]
theorem di0 (e : ai) (r : ak) : (fx e r).2 = (gb e r && (decide (r.Header = -1) || pf e r.Header)) := by
 have ec : (r = ({ Header := -1, Field := r.Field } : ak)) ↔ r.Header = -1 := by
  cases r; simp [ak.mk.injEq]
 unfold fx gb pf
 simp only [LET, decide_eq_true_eq, ec]
 by_cases h : r.Header = -1
 ·rw [if_pos h, if_pos h]
  simp [h, ga]
 ·rw [if_neg h, if_neg h]
  simp only [h, decide_false, Bool.false_or]
  unfold nl ii ga
  by_cases h1 : r.Header < 0 ∨ (e.Valid.length : Int) ≤ r.Header
  ·rw [if_pos (by simpa using h1)]
   symm
   rw [Bool.false_and, Bool.and_eq_false_imp]
   intro _
   rw [Bool.and_eq_false_imp]
   intro h2
   simp only [Bool.and_eq_true, decide_eq_true_eq] at h2
   omega
  ·rw [if_neg (by simpa using h1)]
   by_cases h2 : (e.Fields.length : Int) ≤ r.Header
   ·rw [if_pos (by simp [h2])]
    have e1 : decide (r.Header < (e.Fields.length : Int)) = false := by simp; omega
    rw [e1]
    have e2 : (decide (0 ≤ r.Field) && decide (r.Field < (([] : List (BitVec 32)).length : Int))) = false := by
     rw [Bool.and_eq_false_imp]; simp
    rw [e2]
    simp
   ·rw [if_neg (by simp; omega)]
    have e1 : decide (r.Header < (e.Fields.length : Int)) = true := by simp; omega
    have e2 : decide (0 ≤ r.Header) = true := by simp; omega
    have e3 : decide (r.Header < (e.Valid.length : Int)) = true := by simp; omega
    rw [e1, e2, e3]
    simp only [Bool.true_and]
    rw [Bool.and_comm]
theorem dq0 (p : af) (r : ak) (h : ¬fa p r = 0) : 1 ≤ fa p r ∧ fa p r ≤ 32 := by
 rw [← bx1] at h ⊢
 unfold ks at h ⊢
 simp only [LET, decide_eq_true_eq] at h ⊢
 split at h
 ·exact absurd rfl h
 ·rename_i hc
  rw [if_neg hc]
  exact Decidable.not_not.1 fun h => hc (ac2.2 h)
theorem dl8 (p : af) (e : ai) (r : ak) (v : BitVec 32) : ql p e r v = nh p e r v := by
 unfold ql nh
 rw [bx1, di0]
 by_cases hz : fa p r = 0
 ·rw [if_neg (by simp [hz]), if_pos (by simp [hz])]
 ·have hw := dq0 p r hz
  cases gb e r
  ·simp
  ·rw [aw0 hw]
   by_cases hm : r.Header = -1
   ·simp [hm, hz]
    omega
   ·cases pf e r.Header
    ·simp [hm]
    ·simp [hm, hz]
     omega
theorem cp6 (p : af) (e : ai) (i : Int) : pu p e i = lg p e i := by
 unfold pu lg ju ir ln lz rv
 cases ix e.Valid i
 ·simp only [LET, Bool.or_eq_true, Bool.not_eq_true', Bool.and_eq_true, Bool.and_eq_false_imp, decide_eq_true_eq, decide_eq_false_iff_not, true_and, Bool.false_eq_true, or_false]
  split <;> split <;> first | rfl | (exfalso; omega)
 ·simp [LET]
theorem df5 (p : af) (e : ai) (i : Int) : nf p e i = js p e i := by
 unfold nf js ju ir ln lz rv
 simp only [LET, Bool.or_eq_true, Bool.not_eq_true', Bool.and_eq_true, Bool.and_eq_false_imp, decide_eq_true_eq, decide_eq_false_iff_not, Bool.false_eq_true, false_and, or_false]
 split <;> split <;> first | rfl | (exfalso; omega)
theorem ct8 {c : dh} {s : av} (h : fu c s = 0) : 1 ≤ s.Kind ∧ s.Kind ≤ 5 := by
 by_cases k1 : s.Kind = 1
 ·omega
 by_cases k2 : s.Kind = 2
 ·omega
 by_cases k3 : s.Kind = 3
 ·omega
 by_cases k4 : s.Kind = 4
 ·omega
 by_cases k5 : s.Kind = 5
 ·omega
 unfold fu at h
 simp only [LET, k1, k2, k3, k4, k5, decide_false, Bool.false_eq_true, if_false] at h
 cases h
theorem da2 {p : af} {a : Int} : ∀ (m : Nat) (i : Int), m = Int.toNat ((((ix p.Actions a).Body).length : Int) - i) → (jo p a (fun _ => (0, 0)) m i).2 = 0 → ∀ j : Int, i ≤ j → j < (ix p.Actions a).Body.length → 1 ≤ (ix (ix p.Actions a).Body j).Kind ∧ (ix (ix p.Actions a).Body j).Kind ≤ 5
 | 0, i, hm, h, j, h1, h2 => by omega
 | m + 1, i, hm, h, j, h1, h2 => by
   rw [jo] at h
   simp only [LET] at h
   split at h
   ·rename_i hc
    simp only [Bool.not_eq_true', decide_eq_false_iff_not] at hc
    exact absurd h hc
   ·rename_i hc
    simp only [Bool.not_eq_true', decide_eq_false_iff_not, Decidable.not_not] at hc
    by_cases e : j = i
    ·subst e; exact ct8 hc
    ·exact da2 m (i + 1) (by omega) h j (by omega) h2
theorem ch9 {p : af} {a : Int} (h : (jy p a).2 = 0) : ∀ j : Int, 0 ≤ j → j < (ix p.Actions a).Body.length → 1 ≤ (ix (ix p.Actions a).Body j).Kind ∧ (ix (ix p.Actions a).Body j).Kind ≤ 5 := by
 unfold jy at h
 split at h
 ·cases h
 ·simp only [LET] at h
  split at h
  ·rename_i hc
   simp only [Bool.not_eq_true', decide_eq_false_iff_not] at hc
   exact absurd h hc
  ·exact fun j h0 h1 => da2 _ 0 rfl h j h0 h1
theorem da5 {p : af} {c : bm} {s : aj} (hs : s.Program = p) (hk : ∀ j : Int, 0 ≤ j → j < (ix p.Actions c.Action).Body.length → 1 ≤ (ix (ix p.Actions c.Action).Body j).Kind ∧ (ix (ix p.Actions c.Action).Body j).Kind ≤ 5) :
 ∀ (m : Nat) (i : Int) (e : ai) (rs : List (List (BitVec 32))), m = Int.toNat ((((ix p.Actions c.Action).Body).length : Int) - i) → 0 ≤ i →
   gf p c (fun z => (z.env, z.regs)) m i { scope := s, args := c.Args, env := e, regs := rs } = gq p c s (fun rs e => (e, rs)) m rs i e
 | 0, i, e, rs, hm, h0 => rfl
 | m + 1, i, e, rs, hm, h0 => by
   have ih := da5 hs hk m (i + 1)
   rw [gf, gq]
   have k := hk i h0 (by omega)
   simp only [LET, decide_eq_true_eq, jw, jh, ig, kx, km, iz, hs, cn1, dl8, cp6, df5, by4, bp8]
   have hx : (ix (ix p.Actions c.Action).Body i).Kind = 1 ∨ (ix (ix p.Actions c.Action).Body i).Kind = 2 ∨ (ix (ix p.Actions c.Action).Body i).Kind = 3 ∨ (ix (ix p.Actions c.Action).Body i).Kind = 4 ∨ (ix (ix p.Actions c.Action).Body i).Kind = 5 := by omega
   rcases hx with h | h | h | h | h <;> simp only [h, Int.reduceEq, if_true, if_false] <;> exact ih _ _ (by omega) (by omega)
theorem ci7 (p : af) (c : bm) (e : ai) (rs : List (List (BitVec 32))) : mf p c e rs = mq p c e rs := by
 unfold mf mq
 simp only [LET, bo9, CheckCall_eq]
 split
 ·rfl
 ·rename_i hc
  simp only [Bool.or_eq_true, Bool.not_eq_true', decide_eq_false_iff_not, not_or, Decidable.not_not] at hc
  exact da5 (s := nm p c.Action) rfl (ch9 hc.1) _ 0 e rs rfl (by omega)
theorem ca4 (l : List (BitVec 32)) : ∀ (m : Nat) (i : Int), jb l l (fun _ => true) m i = true
 | 0, i => rfl
 | m + 1, i => by
   rw [jb, if_neg (by simp)]
   exact ca4 l m _
theorem ai2 (l : List (BitVec 32)) : ka l l = true := by
 unfold ka
 rw [if_neg (by simp)]
 exact ca4 l _ _
theorem bb0 (l : List (List (BitVec 32))) : ∀ (m : Nat) (i : Int), mb l l (fun _ => true) m i = true
 | 0, i => rfl
 | m + 1, i => by
   rw [mb]
   simp only [LET, ai2]
   exact bb0 l m _
theorem bq8 (l : List (List (BitVec 32))) : nn l l = true := by
 unfold nn
 rw [if_neg (by simp)]
 exact bb0 l _ _
theorem bc0 (e : ai) (K : Unit → Bool) (hK : K () = true) : ∀ (m : Nat) (i : Int), me e e K m i = true
 | 0, i => hK
 | m + 1, i => by
   rw [me, if_neg (by simp)]
   exact bc0 e K hK m _
theorem bb3 (e : ai) (K : Unit → Bool) (hK : K () = true) : ∀ (m : Nat) (i : Int), lu e e K m i = true
 | 0, i => hK
 | m + 1, i => by
   rw [lu]
   simp only [LET, ai2]
   exact bb3 e K hK m _
theorem bo1 (e : ai) : sb e e = true := by
 unfold sb
 rw [if_neg (by simp)]
 exact bc0 e _ (bb3 e _ (by simp only [LET, ai2]) _ _) _ _
theorem ActionExecutes_law (x0 : dm) (hE : EB x0.E) (hR : RB x0.Regs) : ku x0 = true := by
 unfold ku
 simp only [LET]
 split
 ·rfl
 ·rw [ci7, bo1, bq8]
  rfl
end Go.Proofs.YtmonnlkagniolaaGreat
