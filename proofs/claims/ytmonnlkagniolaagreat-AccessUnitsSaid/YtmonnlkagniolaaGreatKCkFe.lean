import Derived.Test.YtmonnlkagniolaaGreatKExAEx
import Derived.Test.YtmonnlkagniolaaGreatKFcFrBd
import Derived.Test.YtmonnlkagniolaaGreatKFcFrBd
set_option linter.unusedVariables false
set_option linter.unusedSimpArgs false
set_option maxRecDepth 100000
namespace Go.Proofs.YtmonnlkagniolaaGreat
open Go Go.Pb Go.RowKit
theorem ar7 (s : List UInt8) : ∀ (m : Nat) (i : Int), m = Int.toNat ((s.length : Int) - i) → 0 ≤ i → i ≤ s.length → decide (lq s jp (fun x => x) m i = (s.length : Int)) = io s (fun _ => true) m i
 | 0, i, hm, h0, h1 => by
   show decide (i = (s.length : Int)) = true
   simp; omega
 | m + 1, i, hm, h0, h1 => by
   simp only [lq, io, LET]
   have hlt : i < s.length := by omega
   have e1 : na = lh := rfl
   have e2 : ot = lz := rfl
   simp only [hlt, decide_true, Bool.true_and, jp, LET, e1, e2]
   have ih := ar7 s m (i + 1) (by omega) (by omega) (by omega)
   cases lh (ix s i) <;> cases lz (ix s i) <;> by_cases h : ix s i = 95 <;> simp [h, ih] <;> omega
theorem as2 (s : List UInt8) : jm s = ir s := by
 have e1 : na = lh := rfl
 have h0 : decide ((s.length : Int) = 0) = decide (s = []) := by
  rw [Bool.eq_iff_iff, decide_eq_true_eq, decide_eq_true_eq]; simp
 simp only [jm, ir, LET, e1, h0, qw]
 split
 ·rfl
 ·exact ar7 s _ 0 rfl (by omega) (by omega)
theorem bh9 (p : ab) (r : aa) : mi p r = pd p r := rfl
theorem bu1 (sc : av) (n : List ae) (w : Int) : pm n sc w = gh { scope := sc } n w := by
 unfold pm gh
 simp only [LET, ag8]
theorem cm9 (s : aq) (sc : av) : ob sc.Program s sc = dw { scope := sc } s := by
 unfold ob dw
 simp only [LET, ag8, bh9, bu1]
 by_cases k1 : s.Kind = 1
 ·simp [k1]
 simp only [k1, decide_false, Bool.false_eq_true, if_false]
 by_cases k2 : s.Kind = 2
 ·simp [k2]
 by_cases k3 : s.Kind = 3
 ·simp [k3]
 by_cases k4 : s.Kind = 4
 ·simp only [k4, decide_true, decide_false, Bool.false_eq_true, if_false, if_true, Bool.true_and, Int.reduceEq, Bool.not_true, Bool.or_comm]
  split
  ·rfl
  ·by_cases h : (nd s.Index sc).2 = 0
   ·by_cases q : (pd sc.Program s.Dst).1 = (ix sc.Program.Registers s.Register).Width <;> simp [h, q]
   ·simp [h]
 by_cases k5 : s.Kind = 5
 ·simp [k5]
 simp [k2, k3, k4, k5]
theorem bz3 (l : List ay) (i : Int) (hi : i ≤ l.length) (K : Unit → Int) : ∀ (m : Nat) (j : Int), m = Int.toNat (i - j) → 0 ≤ j → kg l i K m j = if 0 ≤ df (sub l 0 i) (fun a_ => fi a_ (ix l i)) (fun _ => -1) m j then 7 else K ()
 | 0, j, hm, h0 => by
   rw [kg, df, if_neg (by omega)]
 | m + 1, j, hm, h0 => by
   have e : ix (sub l 0 i) j = ix l j := by
    simp only [ix, sub, Int.toNat_zero, List.drop_zero, Nat.sub_zero, List.getD_eq_getElem?_getD]
    rw [List.getElem?_take_of_lt (by omega)]
   rw [kg, df, e]
   by_cases h : (ix l j).Name = (ix l i).Name
   ·have h2 : fi (ix l j) (ix l i) = true := by simp [fi, h]
    rw [if_pos (by simp [h]), if_pos h2, if_pos h0]
   ·have h2 : fi (ix l j) (ix l i) = false := by simp [fi, h]
    rw [if_neg (by simp [h] : ¬(decide ((ix l j).Name = (ix l i).Name) = true)), if_neg (by simp [h2] : ¬((fun a_ => fi a_ (ix l i)) (ix l j) = true))]
    exact bz3 l i hi K m (j + 1) (by omega) (by omega)
theorem ah3 (a : bc) : ∀ (m : Nat) (i : Int), m = Int.toNat ((a.Params.length : Int) - i) → 0 ≤ i → ki a.Params (fun _ => 0) m i = gk a (fun _ => 0) m i
 | 0, i, hm, h0 => rfl
 | m + 1, i, hm, h0 => by
   rw [ki, gk]
   simp only [LET, as2]
   have hl := uy (l := a.Params) (a := 0) (b := i) (by omega) (by omega) (by omega)
   have e := bz3 a.Params i (by omega) (fun _ => ki a.Params (fun _ => 0) m (i + 1)) (Int.toNat (i - 0)) 0 rfl (Int.le_refl _)
   rw [e, ah3 a m (i + 1) (by omega) (by omega)]
   unfold fq gf
   simp only [LET]
   rw [show (((sub a.Params 0 i).length : Int) - 0).toNat = (i - 0).toNat by omega]
   simp only [decide_eq_true_eq]
theorem bk9 (a : bc) : pb a.Params = gk a (fun _ => 0) (Int.toNat ((a.Params.length : Int) - 0)) 0 := ah3 a _ 0 rfl (Int.le_refl _)
theorem ah4 (p : ab) (i : Int) (K : Unit → Int × Int) : ∀ (m : Nat) (j : Int), mj p i K m j = jk p i K m j
 | 0, j => rfl
 | m + 1, j => by
   rw [mj, jk]
   simp only [LET, ah4 p i K m (j + 1)]
   have e := cm9 (ix (ix p.Actions i).Body j) (qo p i)
   have e2 : (qo p i).Program = p := rfl
   rw [e2] at e
   rw [e]
   rfl
theorem yx (p : ab) (i : Int) : li p i = lb p i := by
 unfold li lb
 split
 ·rfl
 simp only [LET, ah4, ← as2, bk9]
 unfold jl
 simp only [LET]
 split
 ·simp
 split
 ·simp
 ·rfl
theorem ck {p : ab} {i : Int} {y : Int × Int} (h : li p i = y) (h2 : y.2 = 0) : (0 ≤ i ∧ i < p.Actions.length) ∧ BO p (ix p.Actions i).Body := by
 rw [yx] at h
 refine ⟨bm5 h h2, ?_⟩
 have b := ti (p := p) (i := i) rfl
 unfold iz at b
 simp only [LET] at b
 rw [if_neg (by rw [h, h2]; simp)] at b
 exact b
theorem xu (x y : aa) : ip x y = decide (x.Header < y.Header ∨ (x.Header = y.Header ∧ x.Field < y.Field)) := by
 unfold ip
 rw [Bool.eq_iff_iff]
 simp
theorem ar2 : STO ip where
 irr x := by rw [xu]; simp
 trans x y z h1 h2 := by rw [xu] at *; simp at *; omega
 total x y h1 h2 := by
  rw [xu] at h1 h2
  obtain ⟨a, b⟩ := x
  obtain ⟨c, d⟩ := y
  simp at h1 h2
  have e1 : a = c := by omega
  subst e1
  have e2 : b = d := by omega
  subst e2
  rfl
theorem ab2 : STO (fun a b : Int => decide (a < b)) where
 irr x := by simp
 trans x y z h1 h2 := by simp at *; omega
 total x y h1 h2 := by simp at *; omega
theorem bh5 (l : List aa) : jn l = l.mergeSort fun x y => !ip y x := by
 unfold jn
 congr 1
 funext x y
 rw [xu]
 have := au6 y x
 unfold Go.Proofs.ltOf at this
 rw [this]
theorem yl (l : List Int) : di l = l.mergeSort fun x y => !(fun a b : Int => decide (a < b)) y x := by
 unfold di
 congr 1
 funext x y
 rw [Bool.eq_iff_iff]
 simp
theorem vx (x0 : List ae) : ∀ (m : Nat) (z : List aa) (i : Int), m = Int.toNat ((x0.length : Int) - i) → 0 ≤ i → ji x0 (fun z => z) m z i = (frs (x0.drop i.toNat)).foldl (fun acc x => insS ip x acc) z
 | 0, z, i, hm, h0 => by
   rw [ji, List.drop_eq_nil_of_le (by omega)]
   simp [frs]
 | m + 1, z, i, hm, h0 => by
   rw [ji, dropix (c := x0) (i := i) h0 (by omega)]
   simp only [LET, AddField_ins]
   unfold frs
   rw [List.filter_cons]
   split
   ·rw [vx x0 m _ (i + 1) (by omega) (by omega), List.map_cons, List.foldl_cons]
    rfl
   ·rw [vx x0 m _ (i + 1) (by omega) (by omega)]
    rfl
theorem tw (x0 : List ae) : ∀ (m : Nat) (z : List Int) (i : Int), m = Int.toNat ((x0.length : Int) - i) → 0 ≤ i → iw x0 (fun z => z) m z i = (hds (x0.drop i.toNat)).foldl (fun acc x => insS (fun a b : Int => decide (a < b)) x acc) z
 | 0, z, i, hm, h0 => by
   rw [iw, List.drop_eq_nil_of_le (by omega)]
   simp [hds]
 | m + 1, z, i, hm, h0 => by
   rw [iw, dropix (c := x0) (i := i) h0 (by omega)]
   simp only [LET, AddInt_ins]
   unfold hds
   rw [List.filter_cons]
   split
   ·rw [tw x0 m _ (i + 1) (by omega) (by omega), List.map_cons, List.foldl_cons]
    rfl
   ·rw [tw x0 m _ (i + 1) (by omega) (by omega)]
    rfl
theorem zg (x0 : List ae) : kf x0 = lw x0 := by
 rw [av5, bh5, sf ar2]
 unfold lw
 rw [vx x0 _ [] 0 rfl (by omega)]
 rfl
theorem vm (x0 : List ae) : jh x0 = kv x0 := by
 rw [au1, yl, sf ab2]
 unfold kv
 rw [tw x0 _ [] 0 rfl (by omega)]
 rfl
theorem zm {n : List ae} {y : List aa} (h : lw n = y) : y.length ≤ n.length := by rw [← h, ← zg]; exact pz n
theorem xk {n : List ae} {y : List Int} (h : kv n = y) : y.length ≤ n.length := by rw [← h, ← vm]; exact po n
def insF (l : List aa) (a : List aa) : List aa := l.foldl (fun acc x => insS ip x acc) a
def insI (l : List Int) (a : List Int) : List Int := l.foldl (fun acc x => insS (fun a b => decide (a < b)) x acc) a
theorem aq6 : ∀ (l a : List aa), (insF l a).length ≤ a.length + l.length
 | [], a => by simp [insF]
 | x :: l, a => by
   have h := aq6 l (insS ip x a)
   have h2 := rh ip x a
   show (insF l (insS ip x a)).length ≤ _
   simp only [List.length_cons]
   omega
theorem qp : ∀ (l a : List Int), (insI l a).length ≤ a.length + l.length
 | [], a => by simp [insI]
 | x :: l, a => by
   have h := qp l (insS (fun a b => decide (a < b)) x a)
   have h2 := rh (fun a b : Int => decide (a < b)) x a
   show (insI l (insS (fun a b => decide (a < b)) x a)).length ≤ _
   simp only [List.length_cons]
   omega
theorem ae3 (l : List Int) (K : am → am) : ∀ (m : Nat) (i : Int) (a : am), m = Int.toNat ((l.length : Int) - i) → 0 ≤ i → jq l K m i a = K { Fields := a.Fields, Headers := insI (l.drop i.toNat) a.Headers, Registers := a.Registers }
 | 0, i, a, hm, h0 => by
   rw [jq, List.drop_eq_nil_of_le (by omega)]
   rfl
 | m + 1, i, a, hm, h0 => by
   rw [jq]
   simp only [LET]
   rw [ae3 l K m (i + 1) _ (by omega) (by omega), dropix (c := l) (i := i) h0 (by omega), AddInt_ins]
   rfl
theorem ac7 (l : List aa) (K : am → am) : ∀ (m : Nat) (i : Int) (a : am), m = Int.toNat ((l.length : Int) - i) → 0 ≤ i → jr l K m i a = K { Fields := insF (l.drop i.toNat) a.Fields, Headers := a.Headers, Registers := a.Registers }
 | 0, i, a, hm, h0 => by
   rw [jr, List.drop_eq_nil_of_le (by omega)]
   rfl
 | m + 1, i, a, hm, h0 => by
   rw [jr]
   simp only [LET]
   rw [ac7 l K m (i + 1) _ (by omega) (by omega), dropix (c := l) (i := i) h0 (by omega), AddField_ins]
   rfl
theorem ad7 (a : am) (n : List ae) : me a n = { Fields := insF (kf n) a.Fields, Headers := insI (jh n) a.Headers, Registers := a.Registers } := by
 unfold me
 simp only [LET]
 rw [ac7 _ _ _ _ _ rfl (Int.le_refl _), ae3 _ _ _ _ _ rfl (Int.le_refl _), zg, vm]
 rfl
theorem zp {a y : am} {n : List ae} (h : me a n = y) : y.Fields.length ≤ a.Fields.length + n.length ∧ y.Headers.length ≤ a.Headers.length + n.length ∧ y.Registers.length = a.Registers.length := by
 subst h
 rw [ad7]
 have h1 := aq6 (kf n) a.Fields
 have h2 := qp (jh n) a.Headers
 have h3 := pz n
 have h4 := po n
 exact ⟨by show (insF _ _).length ≤ _; omega, by show (insI _ _).length ≤ _; omega, rfl⟩
theorem ak3 (l : List Int) (c : Int) (K : Int → List Int) : ∀ (k : List Int) (d : Nat) (m : Nat), l.drop d = k → m = l.length - d → d ≤ l.length → ∃ e : Nat, d ≤ e ∧ e ≤ l.length ∧ ke l c K m (d : Int) = K (e : Int) ∧ insS (fun a b => decide (a < b)) c k = (l.drop d).take (e - d) ++ (if e < l.length ∧ ix l (e : Int) = c then l.drop e else c :: l.drop e)
 | [], d, m, hk, hm, hd => by
   have e : l.length ≤ d := List.drop_eq_nil_iff.1 hk
   have e2 : m = 0 := by omega
   subst e2
   refine ⟨d, Nat.le_refl _, hd, by rw [ke], ?_⟩
   rw [insS, if_neg (by omega), hk]
   simp
 | x :: k, d, m, hk, hm, hd => by
   have hlt : d < l.length := by
    rcases Nat.lt_or_ge d l.length with h | h
    ·exact h
    ·rw [List.drop_eq_nil_of_le h] at hk; cases hk
   obtain ⟨m', rfl⟩ : ∃ m', m = m' + 1 := ⟨m - 1, by omega⟩
   have hx : ix l (d : Int) = x := by
    rw [zc hlt]
    rw [List.drop_eq_getElem_cons hlt] at hk
    exact (List.cons.inj hk).1
   have hk' : l.drop (d + 1) = k := by
    rw [List.drop_eq_getElem_cons hlt] at hk
    exact (List.cons.inj hk).2
   rw [ke, hx]
   by_cases h : x < c
   ·rw [if_pos (by simp [h]; omega)]
    obtain ⟨e, h1, h2, h3, h4⟩ := ak3 l c K k (d + 1) m' hk' (by omega) (by omega)
    refine ⟨e, by omega, h2, by rw [← h3]; rfl, ?_⟩
    rw [insS, if_pos (by simp [h]), h4, hk, hk', show e - d = (e - (d + 1)) + 1 by omega]
    rfl
   ·rw [if_neg (by simp [h])]
    refine ⟨d, Nat.le_refl _, hd, rfl, ?_⟩
    rw [insS, if_neg (by simp [h]), Nat.sub_self, List.take_zero, List.nil_append, hx, hk]
    by_cases e : x = c
    ·rw [if_pos e, if_pos ⟨hlt, e⟩]
    ·rw [if_neg e, if_neg (fun q => e q.2)]
theorem si (l : List Int) (c : Int) (hl : l.length ≤ 4611686018427387904) : kx l c = if c < 0 then l else insS (fun a b => decide (a < b)) c l := by
 unfold kx
 obtain ⟨e, h1, h2, h3, h4⟩ := ak3 l c (fun (x5_105 : Int) =>
  if ((decide (c < 0)) || ((decide (x5_105 < (l.length : Int))) && (decide ((ix l x5_105) = c)))) then
   l
  else
  (((sub l 0 x5_105) ++ ([c] : List Int)) ++ (sub l x5_105 (l.length : Int)))) l 0 (Int.toNat ((l.length : Int) - 0)) rfl (by omega) (Nat.zero_le _)
 rw [show ((0 : Nat) : Int) = 0 from rfl] at h3
 rw [h3, h4]
 simp only [List.drop_zero, Nat.sub_zero]
 by_cases hc : c < 0
 ·simp [hc]
 ·rw [if_neg hc]
  by_cases hq : e < l.length ∧ ix l (e : Int) = c
  ·rw [if_pos (by simp [hq.1, hq.2]), if_pos hq, List.take_append_drop]
  ·have hq2 : ¬((decide (c < 0) || decide ((e : Int) < (l.length : Int)) && decide (ix l (e : Int) = c)) = true) := by
    simp only [Bool.or_eq_true, Bool.and_eq_true, decide_eq_true_eq]
    rintro (h | ⟨h, h'⟩)
    ·exact hc h
    ·exact hq ⟨by omega, h'⟩
   rw [if_neg hq2, if_neg hq]
   have e9 : List.take (l.length - e) (List.drop e l) = List.drop e l := List.take_of_length_le (by rw [List.length_drop]; omega)
   simp [sub, e9]
theorem sq {l y : List Int} {c : Int} (h : kx l c = y) (hl : l.length ≤ 4611686018427387904) : y.length ≤ l.length + 1 := by
 rw [si l c hl] at h
 subst h
 split
 ·omega
 ·exact rh _ _ _
end Go.Proofs.YtmonnlkagniolaaGreat
