import Derived.Test.YtmonnlkagniolaaGreatKExAEx
import Derived.Test.YtmonnlkagniolaaGreatKFcFrBd
import Derived.Test.YtmonnlkagniolaaGreatKFcFrBd
set_option linter.unusedVariables false
set_option linter.unusedSimpArgs false
set_option maxRecDepth 100000
namespace Go.Proofs.YtmonnlkagniolaaGreat
open Go Go.Pb Go.RowKit
theorem aj0 (s : List UInt8) : ∀ (m : Nat) (i : Int), m = Int.toNat ((s.length : Int) - i) → 0 ≤ i → i ≤ s.length → decide (jy s io (fun x => x) m i = (s.length : Int)) = gj s (fun _ => true) m i
 | 0, i, hm, h0, h1 => by
   show decide (i = (s.length : Int)) = true
   simp; omega
 | m + 1, i, hm, h0, h1 => by
   simp only [jy, gj, LET]
   have hlt : i < s.length := by omega
   have e1 : lh = js := rfl
   have e2 : mm = km := rfl
   simp only [hlt, decide_true, Bool.true_and, io, LET, e1, e2]
   have ih := aj0 s m (i + 1) (by omega) (by omega) (by omega)
   cases js (ix s i) <;> cases km (ix s i) <;> by_cases h : ix s i = 95 <;> simp [h, ih] <;> omega
theorem am6 (s : List UInt8) : ik s = gn s := by
 have e1 : lh = js := rfl
 have h0 : decide ((s.length : Int) = 0) = decide (s = []) := by
  rw [Bool.eq_iff_iff, decide_eq_true_eq, decide_eq_true_eq]; simp
 simp only [ik, gn, LET, e1, h0, pe]
 split
 ·rfl
 ·exact aj0 s _ 0 rfl (by omega) (by omega)
theorem az9 (p : af) (r : aa) : ks p r = mv p r := rfl
theorem bl5 (sc : au) (n : List ab) (w : Int) : ni n sc w = fa { scope := sc } n w := by
 unfold ni fa
 simp only [LET, ac2]
theorem ca8 (s : aj) (sc : au) : mf sc.Program s sc = di { scope := sc } s := by
 unfold mf di
 simp only [LET, ac2, az9, bl5]
 by_cases k1 : s.Kind = 1
 ·simp [k1]
 simp only [k1, decide_false, Bool.false_eq_true, if_false]
 by_cases k2 : s.Kind = 2
 ·simp [k2]
 by_cases k3 : s.Kind = 3
 ·simp [k3]
 by_cases k4 : s.Kind = 4
 ·simp only [k4, decide_true, decide_false, Bool.false_eq_true, if_false, if_true, Bool.true_and, Int.reduceEq, Bool.not_true, Bool.or_comm]
  split
  ·rfl
  ·by_cases h : (lk s.Index sc).2 = 0
   ·by_cases q : (mv sc.Program s.Dst).1 = (ix sc.Program.Registers s.Register).Width <;> simp [h, q]
   ·simp [h]
 by_cases k5 : s.Kind = 5
 ·simp [k5]
 simp [k2, k3, k4, k5]
theorem bd5 (l : List ay) (i : Int) (hi : i ≤ l.length) (K : Unit → Int) : ∀ (m : Nat) (j : Int), m = Int.toNat (i - j) → 0 ≤ j → ji l i K m j = if 0 ≤ co (sub l 0 i) (fun a_ => dy a_ (ix l i)) (fun _ => -1) m j then 7 else K ()
 | 0, j, hm, h0 => by
   rw [ji, co, if_neg (by omega)]
 | m + 1, j, hm, h0 => by
   have e : ix (sub l 0 i) j = ix l j := by
    simp only [ix, sub, Int.toNat_zero, List.drop_zero, Nat.sub_zero, List.getD_eq_getElem?_getD]
    rw [List.getElem?_take_of_lt (by omega)]
   rw [ji, co, e]
   by_cases h : (ix l j).Name = (ix l i).Name
   ·have h2 : dy (ix l j) (ix l i) = true := by simp [dy, h]
    rw [if_pos (by simp [h]), if_pos h2, if_pos h0]
   ·have h2 : dy (ix l j) (ix l i) = false := by simp [dy, h]
    rw [if_neg (by simp [h] : ¬(decide ((ix l j).Name = (ix l i).Name) = true)), if_neg (by simp [h2] : ¬((fun a_ => dy a_ (ix l i)) (ix l j) = true))]
    exact bd5 l i hi K m (j + 1) (by omega) (by omega)
theorem ab4 (a : bg) : ∀ (m : Nat) (i : Int), m = Int.toNat ((a.Params.length : Int) - i) → 0 ≤ i → je a.Params (fun _ => 0) m i = fe a (fun _ => 0) m i
 | 0, i, hm, h0 => rfl
 | m + 1, i, hm, h0 => by
   rw [je, fe]
   simp only [LET, am6]
   have hl := as9 (l := a.Params) (a := 0) (b := i) (by omega) (by omega) (by omega)
   have e := bd5 a.Params i (by omega) (fun _ => je a.Params (fun _ => 0) m (i + 1)) (Int.toNat (i - 0)) 0 rfl (Int.le_refl _)
   rw [e, ab4 a m (i + 1) (by omega) (by omega)]
   unfold ee fb
   simp only [LET]
   rw [show (((sub a.Params 0 i).length : Int) - 0).toNat = (i - 0).toNat by omega]
   simp only [decide_eq_true_eq]
theorem az7 (a : bg) : mz a.Params = fe a (fun _ => 0) (Int.toNat ((a.Params.length : Int) - 0)) 0 := ab4 a _ 0 rfl (Int.le_refl _)
theorem aa5 (p : af) (i : Int) (K : Unit → Int × Int) : ∀ (m : Nat) (j : Int), kx p i K m j = ib p i K m j
 | 0, j => rfl
 | m + 1, j => by
   rw [kx, ib]
   simp only [LET, aa5 p i K m (j + 1)]
   have e := ca8 (ix (ix p.Actions i).Body j) (ov p i)
   have e2 : (ov p i).Program = p := rfl
   rw [e2] at e
   rw [e]
   rfl
theorem sn (p : af) (i : Int) : jf p i = iz p i := by
 unfold jf iz
 split
 ·rfl
 simp only [LET, aa5, ← am6, az7]
 unfold ii
 simp only [LET]
 split
 ·simp
 split
 ·simp
 ·rfl
theorem bn {p : af} {i : Int} {y : Int × Int} (h : jf p i = y) (h2 : y.2 = 0) : (0 ≤ i ∧ i < p.Actions.length) ∧ BO p (ix p.Actions i).Body := by
 rw [sn] at h
 refine ⟨bn4 h h2, ?_⟩
 have b := vv (p := p) (i := i) rfl
 unfold jh at b
 simp only [LET] at b
 rw [if_neg (by rw [h, h2]; simp)] at b
 exact b
theorem um (x y : aa) : gi x y = decide (x.Header < y.Header ∨ (x.Header = y.Header ∧ x.Field < y.Field)) := by
 unfold gi
 rw [Bool.eq_iff_iff]
 simp
theorem am0 : STO gi where
 irr x := by rw [um]; simp
 trans x y z h1 h2 := by rw [um] at *; simp at *; omega
 total x y h1 h2 := by
  rw [um] at h1 h2
  obtain ⟨a, b⟩ := x
  obtain ⟨c, d⟩ := y
  simp at h1 h2
  have e1 : a = c := by omega
  subst e1
  have e2 : b = d := by omega
  subst e2
  rfl
theorem ac9 : STO (fun a b : Int => decide (a < b)) where
 irr x := by simp
 trans x y z h1 h2 := by simp at *; omega
 total x y h1 h2 := by simp at *; omega
theorem bb9 (l : List aa) : il l = l.mergeSort fun x y => !gi y x := by
 unfold il
 congr 1
 funext x y
 rw [um]
 have := ah9 y x
 unfold Go.Proofs.ltOf at this
 rw [this]
theorem xw (l : List Int) : dq l = l.mergeSort fun x y => !(fun a b : Int => decide (a < b)) y x := by
 unfold dq
 congr 1
 funext x y
 rw [Bool.eq_iff_iff]
 simp
theorem ud (x0 : List ab) : ∀ (m : Nat) (z : List aa) (i : Int), m = Int.toNat ((x0.length : Int) - i) → 0 ≤ i → ie x0 (fun z => z) m z i = (frs (x0.drop i.toNat)).foldl (fun acc x => insS gi x acc) z
 | 0, z, i, hm, h0 => by
   rw [ie, List.drop_eq_nil_of_le (by omega)]
   simp [frs]
 | m + 1, z, i, hm, h0 => by
   rw [ie, dropix (c := x0) (i := i) h0 (by omega)]
   simp only [LET, AddField_ins]
   unfold frs
   rw [List.filter_cons]
   split
   ·rw [ud x0 m _ (i + 1) (by omega) (by omega), List.map_cons, List.foldl_cons]
    rfl
   ·rw [ud x0 m _ (i + 1) (by omega) (by omega)]
    rfl
theorem sb (x0 : List ab) : ∀ (m : Nat) (z : List Int) (i : Int), m = Int.toNat ((x0.length : Int) - i) → 0 ≤ i → gx x0 (fun z => z) m z i = (hds (x0.drop i.toNat)).foldl (fun acc x => insS (fun a b : Int => decide (a < b)) x acc) z
 | 0, z, i, hm, h0 => by
   rw [gx, List.drop_eq_nil_of_le (by omega)]
   simp [hds]
 | m + 1, z, i, hm, h0 => by
   rw [gx, dropix (c := x0) (i := i) h0 (by omega)]
   simp only [LET, AddInt_ins]
   unfold hds
   rw [List.filter_cons]
   split
   ·rw [sb x0 m _ (i + 1) (by omega) (by omega), List.map_cons, List.foldl_cons]
    rfl
   ·rw [sb x0 m _ (i + 1) (by omega) (by omega)]
    rfl
theorem ab5 (x0 : List ab) : jv x0 = lf x0 := by
 rw [an5, bb9, rz am0]
 unfold lf
 rw [ud x0 _ [] 0 rfl (by omega)]
 rfl
theorem zb (x0 : List ab) : jb x0 = ki x0 := by
 rw [ak9, xw, rz ac9]
 unfold ki
 rw [sb x0 _ [] 0 rfl (by omega)]
 rfl
theorem ak5 {n : List ab} {y : List aa} (h : lf n = y) : y.length ≤ n.length := by rw [← h, ← ab5]; exact qy n
theorem ae0 {n : List ab} {y : List Int} (h : ki n = y) : y.length ≤ n.length := by rw [← h, ← zb]; exact pw n
def insF (l : List aa) (a : List aa) : List aa := l.foldl (fun acc x => insS gi x acc) a
def insI (l : List Int) (a : List Int) : List Int := l.foldl (fun acc x => insS (fun a b => decide (a < b)) x acc) a
theorem ah6 : ∀ (l a : List aa), (insF l a).length ≤ a.length + l.length
 | [], a => by simp [insF]
 | x :: l, a => by
   have h := ah6 l (insS gi x a)
   have h2 := rq gi x a
   show (insF l (insS gi x a)).length ≤ _
   simp only [List.length_cons]
   omega
theorem al8 : ∀ (l a : List Int), (insI l a).length ≤ a.length + l.length
 | [], a => by simp [insI]
 | x :: l, a => by
   have h := al8 l (insS (fun a b => decide (a < b)) x a)
   have h2 := rq (fun a b : Int => decide (a < b)) x a
   show (insI l (insS (fun a b => decide (a < b)) x a)).length ≤ _
   simp only [List.length_cons]
   omega
theorem yp (l : List Int) (K : ah → ah) : ∀ (m : Nat) (i : Int) (a : ah), m = Int.toNat ((l.length : Int) - i) → 0 ≤ i → ir l K m i a = K { Fields := a.Fields, Headers := insI (l.drop i.toNat) a.Headers, Registers := a.Registers }
 | 0, i, a, hm, h0 => by
   rw [ir, List.drop_eq_nil_of_le (by omega)]
   rfl
 | m + 1, i, a, hm, h0 => by
   rw [ir]
   simp only [LET]
   rw [yp l K m (i + 1) _ (by omega) (by omega), dropix (c := l) (i := i) h0 (by omega), AddInt_ins]
   rfl
theorem yg (l : List aa) (K : ah → ah) : ∀ (m : Nat) (i : Int) (a : ah), m = Int.toNat ((l.length : Int) - i) → 0 ≤ i → iq l K m i a = K { Fields := insF (l.drop i.toNat) a.Fields, Headers := a.Headers, Registers := a.Registers }
 | 0, i, a, hm, h0 => by
   rw [iq, List.drop_eq_nil_of_le (by omega)]
   rfl
 | m + 1, i, a, hm, h0 => by
   rw [iq]
   simp only [LET]
   rw [yg l K m (i + 1) _ (by omega) (by omega), dropix (c := l) (i := i) h0 (by omega), AddField_ins]
   rfl
theorem yv (a : ah) (n : List ab) : kh a n = { Fields := insF (jv n) a.Fields, Headers := insI (jb n) a.Headers, Registers := a.Registers } := by
 unfold kh
 simp only [LET]
 rw [yg _ _ _ _ _ rfl (Int.le_refl _), yp _ _ _ _ _ rfl (Int.le_refl _), ab5, zb]
 rfl
theorem wy {a y : ah} {n : List ab} (h : kh a n = y) : y.Fields.length ≤ a.Fields.length + n.length ∧ y.Headers.length ≤ a.Headers.length + n.length ∧ y.Registers.length = a.Registers.length := by
 subst h
 rw [yv]
 have h1 := ah6 (jv n) a.Fields
 have h2 := al8 (jb n) a.Headers
 have h3 := qy n
 have h4 := pw n
 exact ⟨by show (insF _ _).length ≤ _; omega, by show (insI _ _).length ≤ _; omega, rfl⟩
end Go.Proofs.YtmonnlkagniolaaGreat
