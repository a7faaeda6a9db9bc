import Derived.Test.YtmonnlkagniolaaGreatKCkFe
import Derived.Test.YtmonnlkagniolaaGreatKCkFe
set_option linter.unusedVariables false
set_option linter.unusedSimpArgs false
set_option maxRecDepth 100000
namespace Go.Proofs.YtmonnlkagniolaaGreat
open Go Go.Pb Go.RowKit
def st (z : bd) : ah := { Fields := insF z.fields [], Headers := insI z.headers [], Registers := insI z.registers [] }
theorem yt (a b l : List aa) : insF (a ++ b) l = insF b (insF a l) := by unfold insF; rw [List.foldl_append]
theorem qm (a b l : List Int) : insI (a ++ b) l = insI b (insI a l) := by unfold insI; rw [List.foldl_append]
theorem bp3 (l : List aa) : dz l = l.mergeSort fun x y => !gi y x := by
 unfold dz
 congr 1
 funext x y
 rw [um]
 have := ai8 y x
 unfold Go.Proofs.ltOf at this
 rw [this]
theorem rc (z : bd) : ct z = ((st z).Fields, (st z).Headers, (st z).Registers) := by
 unfold ct
 simp only [LET]
 show (cpt (dz z.fields), cpt (dq z.headers), cpt (dq z.registers)) = _
 rw [bp3, xw, xw, rz am0, rz ac9, rz ac9]
 rfl
theorem ao3 (z : bd) (n : List ab) : kh (st z) n = st (cw z n) := by
 rw [yv]
 unfold cw st
 simp only [LET, yt, qm]
theorem bn1 (f : List aa) (h r : List Int) (x : Int) : ({ Fields := (st ⟨f, h, r⟩).Fields, Headers := ep (st ⟨f, h, r⟩).Headers x, Registers := (st ⟨f, h, r⟩).Registers } : ah) = st ⟨f, h ++ [x], r⟩ := by
 simp only [st, qm, AddInt_ins]
 rfl
theorem cb6 {c : ck} {s : aj} (h : di c s = 0) : 1 ≤ s.Kind ∧ s.Kind ≤ 5 := by
 by_cases k1 : s.Kind = 1
 ·omega
 by_cases k2 : s.Kind = 2
 ·omega
 by_cases k3 : s.Kind = 3
 ·omega
 by_cases k4 : s.Kind = 4
 ·omega
 by_cases k5 : s.Kind = 5
 ·omega
 unfold di at h
 simp [LET, k1, k2, k3, k4, k5] at h
theorem bi1 (p : af) (i : Int) : ∀ (m : Nat) (j : Int) (z : bd), jc p i (fun a => (a.Fields, a.Headers, a.Registers)) m j (st z) = gb (ix p.Actions i).Body (fun z => ((ct z).1, (ct z).2.1, (ct z).2.2)) m j z
 | 0, j, z => by
   rw [jc, gb, rc]
 | m + 1, j, ⟨zf, zh, zr⟩ => by
   have ih := fun z => bi1 p i m (j + 1) z
   rw [jc, gb]
   simp only [LET]
   generalize ix (ix p.Actions i).Body j = s
   by_cases k1 : s.Kind = 1
   ·simp only [k1, Int.reduceEq, decide_true, decide_false, Bool.or_false, Bool.false_or, Bool.true_or, Bool.or_true, Bool.true_and, if_true, if_false, Bool.false_eq_true, Bool.or_self, ao3]
    generalize cw ⟨zf, zh, zr⟩ s.Value = w
    obtain ⟨wf, wh, wr⟩ := w
    split
    ·rw [← ih]; congr 1; exact bn1 _ _ _ _
    ·exact ih _
   by_cases k2 : s.Kind = 2
   ·simp only [k2, Int.reduceEq, decide_true, decide_false, Bool.or_false, Bool.false_or, Bool.true_or, Bool.or_true, Bool.true_and, Bool.false_and, if_true, if_false, Bool.false_eq_true, Bool.or_self]
    rw [← ih]; congr 1; exact bn1 _ _ _ _
   by_cases k4 : s.Kind = 4
   ·simp only [k4, Int.reduceEq, decide_true, decide_false, Bool.or_false, Bool.false_or, Bool.true_or, Bool.or_true, Bool.true_and, Bool.false_and, if_true, if_false, Bool.false_eq_true, Bool.or_self, ao3]
    generalize cw ⟨zf, zh, zr⟩ s.Index = w
    obtain ⟨wf, wh, wr⟩ := w
    split
    ·rw [← ih]; congr 1; simp only [st, qm, AddInt_ins]; rfl
    ·rw [← ih]; congr 1; simp only [st, qm, AddInt_ins]; rfl
   by_cases k5 : s.Kind = 5
   ·simp only [k5, Int.reduceEq, decide_true, decide_false, Bool.or_false, Bool.false_or, Bool.true_or, Bool.or_true, Bool.true_and, Bool.false_and, if_true, if_false, Bool.false_eq_true, Bool.or_self, ao3]
    exact ih _
   simp only [k1, k2, k4, k5, decide_false, Bool.or_false, Bool.false_and, if_false, Bool.false_eq_true, Bool.or_self]
   exact ih _
theorem ba8 (p : af) (i : Int) : lx p i = lg p i := by
 unfold lx lg jh
 simp only [LET, sn]
 split
 ·simp only [List.length_nil]
  show _ = gb [] _ 0 0 _
  rw [gb, rc]
  rfl
 ·exact bi1 p i _ _ ⟨[], [], []⟩
theorem bi9 (p : af) (i j : Int) (f : List aa) (h r : List Int) (K1 : ah → List aa × List Int × List Int) (K2 : List Int → List Int → List aa → List aa × List Int × List Int) (hK : ∀ f, K1 ⟨insF f [], insI h [], insI r []⟩ = K2 r (h ++ [(ix (ix p.Actions i).Body j).Header]) f) : ∀ (m : Nat) (x : Int) (f : List aa), jg p i j K1 m x ⟨insF f [], insI h [], insI r []⟩ = ip (ix p.Actions i).Body j K2 m x r (h ++ [(ix (ix p.Actions i).Body j).Header]) f
 | 0, x, f => by rw [jg, ip]; exact hK f
 | m + 1, x, f' => by
   rw [jg, ip]
   simp only [LET]
   rw [← bi9 p i j f h r K1 K2 hK m (x + 1) _]
   congr 1
   simp only [yt, AddField_ins]
   rfl
theorem bi2 (p : af) (i : Int) (hk : ∀ k : Int, 0 ≤ k → k < (ix p.Actions i).Body.length → 1 ≤ (ix (ix p.Actions i).Body k).Kind ∧ (ix (ix p.Actions i).Body k).Kind ≤ 5) : ∀ (m : Nat) (j : Int) (f : List aa) (h r : List Int), m = Int.toNat (((ix p.Actions i).Body.length : Int) - j) → 0 ≤ j → fh p i (fun a => (a.Fields, a.Headers, a.Registers)) m j ⟨insF f [], insI h [], insI r []⟩ = du p (ix p.Actions i).Body (fun r h f => ((ct ⟨f, h, r⟩).1, (ct ⟨f, h, r⟩).2.1, (ct ⟨f, h, r⟩).2.2)) m j r h f
 | 0, j, f, h, r, hm, h0 => by
   rw [fh, du, rc]
   rfl
 | m + 1, j, f, h, r, hm, h0 => by
   have ih := fun f h r => bi2 p i hk m (j + 1) f h r (by omega) (by omega)
   have kk := hk j h0 (by omega)
   rw [fh, du]
   simp only [LET]
   have eF : ∀ x, ia (insF f []) x = insF (f ++ [x]) [] := fun x => by rw [yt, AddField_ins]; rfl
   have eR : ∀ x, ep (insI r []) x = insI (r ++ [x]) [] := fun x => by rw [qm, AddInt_ins]; rfl
   have eH : ∀ x, ep (insI h []) x = insI (h ++ [x]) [] := fun x => by rw [qm, AddInt_ins]; rfl
   by_cases k1 : (ix (ix p.Actions i).Body j).Kind = 1
   ·simp only [k1, decide_true, if_true, eF]; exact ih _ _ _
   by_cases k4 : (ix (ix p.Actions i).Body j).Kind = 4
   ·simp only [k4, Int.reduceEq, decide_true, decide_false, if_true, if_false, Bool.false_eq_true, eF]; exact ih _ _ _
   by_cases k2 : (ix (ix p.Actions i).Body j).Kind = 2 ∨ (ix (ix p.Actions i).Body j).Kind = 3
   ·have e := bi9 p i j f h r (fun a => fh p i (fun a => (a.Fields, a.Headers, a.Registers)) m (j + 1) ⟨a.Fields, ep a.Headers (ix (ix p.Actions i).Body j).Header, a.Registers⟩) (fun a b c => du p (ix p.Actions i).Body (fun r h f => ((ct ⟨f, h, r⟩).1, (ct ⟨f, h, r⟩).2.1, (ct ⟨f, h, r⟩).2.2)) m (j + 1) a b c) (fun f' => by
     show fh p i _ m (j + 1) ⟨insF f' [], ep (insI h []) _, insI r []⟩ = _
     rw [eH]; exact ih _ _ _) (Int.toNat ((((ix p.Headers (ix (ix p.Actions i).Body j).Header).Fields).length : Int) - 0)) 0 f
    rcases k2 with k | k
    ·simp only [k, Int.reduceEq, decide_true, decide_false, if_true, if_false, Bool.false_eq_true]; exact e
    ·simp only [k, Int.reduceEq, decide_true, decide_false, if_true, if_false, Bool.false_eq_true]; exact e
   have k5 : (ix (ix p.Actions i).Body j).Kind = 5 := by omega
   simp only [k5, Int.reduceEq, decide_true, decide_false, if_true, if_false, Bool.false_eq_true, eR]
   exact ih _ _ _
theorem an4 (p : af) (i : Int) : lj p i = kd p i := by
 unfold lj kd jh
 simp only [LET, sn]
 split
 ·simp only [List.length_nil]
  show _ = du p [] _ 0 0 _ _ _
  rw [du, rc]
  rfl
 ·rename_i hc
  simp at hc
  refine bi2 p i ?_ _ 0 [] [] [] rfl (Int.le_refl _)
  intro k k0 k1
  unfold iz at hc
  split at hc
  ·simp at hc
  simp only [LET] at hc
  split at hc
  ·rename_i h3
   simp at h3
   exact absurd hc h3
  ·exact cb6 (bo5 p i _ 0 rfl hc k k0 k1)
theorem bf5 (w : Int) : li [w] = im w := by
 rw [od]; simp [im]
theorem ab9 (w : Int) : im w = true ↔ 1 ≤ w ∧ w ≤ 32 := by simp [im]
theorem bl9 : ∀ n : Fin 33, 1 ≤ n.val → gv (n.val : Int) = BitVec.ofNat 32 (2 ^ n.val - 1) := by decide +kernel
theorem ba2 : ∀ n : Fin 64, lr (n.val : Int) = BitVec.ofNat 64 (2 ^ n.val) := by decide +kernel
theorem ch2 {w : Int} (h : 1 ≤ w ∧ w ≤ 32) : gv w = BitVec.ofNat 32 (2 ^ w.toNat - 1) := by
 have := bl9 ⟨w.toNat, by omega⟩ (by simp only; omega)
 simp only at this
 rwa [show ((w.toNat : Nat) : Int) = w by omega] at this
theorem be7 {w : Int} (h : 0 ≤ w ∧ w < 64) : lr w = BitVec.ofNat 64 (2 ^ w.toNat) := by
 have := ba2 ⟨w.toNat, by omega⟩
 simp only at this
 rwa [show ((w.toNat : Nat) : Int) = w by omega] at this
theorem cj9 {n : Nat} (h : n ≤ 32) : 2 ^ n ≤ 4294967296 := Nat.pow_le_pow_right (n := 2) (by omega) h
theorem ap7 {w : Int} (h : 1 ≤ w ∧ w ≤ 32) : (gv w).toNat = 2 ^ w.toNat - 1 := by
 have h1 := cj9 (n := w.toNat) (by omega)
 have h2 : 0 < 2 ^ w.toNat := Nat.pow_pos (by omega)
 rw [ch2 h, BitVec.toNat_ofNat, Nat.mod_eq_of_lt (by omega)]
theorem bq2 (v : BitVec 32) (w : Int) : ow v w = pp v w := by
 simp only [ow, pp, LET, bf5]
 by_cases h : 1 ≤ w ∧ w ≤ 32
 ·rw [(ab9 w).2 h, Bool.true_and, Bool.true_and, Bool.eq_iff_iff, decide_eq_true_eq, decide_eq_true_eq, BitVec.le_def, BitVec.lt_def, ap7 h, be7 ⟨by omega, by omega⟩]
  have h1 := cj9 (n := w.toNat) (by omega)
  have h2 : 0 < 2 ^ w.toNat := Nat.pow_pos (by omega)
  have h3 := v.isLt
  rw [BitVec.toNat_setWidth, BitVec.toNat_ofNat, Nat.mod_eq_of_lt (by omega), Nat.mod_eq_of_lt (by omega)]
  omega
 ·have : im w = false := by
   cases hv : im w with
   | false => rfl
   | true => exact absurd ((ab9 w).1 hv) h
  rw [this]; rfl
theorem CheckCall_L1_eq (p : af) (c : bb) (K : Unit → Int) : ∀ (m : Nat) (i : Int), gz p c K m i = ij p c K m i
 | 0, i => rfl
 | m + 1, i => by simp only [gz, ij, LET, bq2, CheckCall_L1_eq p c K m]
theorem CheckCall_eq (p : af) (c : bb) : kp p c = ld p c := by
 simp only [kp, ld, CheckCall_L1_eq]
 split
 ·rfl
 ·split
  ·rfl
  ·rename_i h
   simp only [Bool.not_eq_true', decide_eq_false_iff_not, Decidable.not_not] at h
   rw [h]
theorem zn (l : List Int) : ∀ (m : Nat) (i : Int), gq l l (fun _ => true) m i = true
 | 0, i => by rw [gq]
 | m + 1, i => by
   rw [gq, if_neg (by simp)]
   exact zn l m _
theorem ai0 (l : List Int) : bt l l = true := by
 unfold bt
 rw [if_neg (by simp)]
 exact zn l _ _
theorem ar4 (l : List aa) : ∀ (m : Nat) (i : Int), fk l l (fun _ => true) m i = true
 | 0, i => by rw [fk]
 | m + 1, i => by
   rw [fk, if_neg (by simp)]
   exact ar4 l m _
theorem ba1 (l : List aa) : dv l l = true := by
 unfold dv
 rw [if_neg (by simp)]
 exact ar4 l _ _
theorem be6 {p : af} {x : Int} {K : Unit → Bool} : ∀ (m : Nat) (i : Int), kw p x K m i = true → K () = true
 | 0, i, h => h
 | m + 1, i, h => by
   rw [kw] at h
   split at h
   ·cases h
   ·exact be6 m _ h
theorem bm5 {p : af} {K : Unit → Bool} : ∀ (m : Nat) (i : Int), ku p K m i = true → K () = true
 | 0, i, h => h
 | m + 1, i, h => by
   rw [ku] at h
   split at h
   ·cases h
   ·exact bm5 m _ (be6 _ _ h)
theorem bf0 {p : af} {K : Unit → Bool} : ∀ (m : Nat) (i : Int), m = Int.toNat ((p.Headers.length : Int) - i) → kt p K m i = true → ∀ k : Int, i ≤ k → k < p.Headers.length → (ix p.Headers k).Fields.length ≤ 40
 | 0, i, hm, h, k, h1, h2 => by omega
 | m + 1, i, hm, h, k, h1, h2 => by
   rw [kt] at h
   split at h
   ·cases h
   ·rename_i hc
    simp only [decide_eq_true_eq] at hc
    by_cases e : k = i
    ·subst e; omega
    ·exact bf0 m (i + 1) (by omega) h k (by omega) h2
theorem bu7 {p : af} {b : Bool} (h : ot p = b) (hb : b = true) : SmH p := by
 subst hb
 unfold ot at h
 split at h
 ·cases h
 ·intro k h0 h1
  have h2 := bf0 _ 0 rfl (bm5 _ _ h) k h0 h1
  omega
theorem ActionChecks_law (p : af) (i : Int) (c : bb) : kv p i c = true := by
 unfold kv
 simp only [LET]
 split
 ·rfl
 ·rw [sn, ba8, an4, CheckCall_eq]
  simp [ba1, ai0, oq]
end Go.Proofs.YtmonnlkagniolaaGreat
