import Derived.Test.YtmonnlkagniolaaGreatKCoFo
import Derived.Test.YtmonnlkagniolaaGreatPbV
import Derived.Test.YtmonnlkagniolaaGreatKDef
import Derived.Test.YtmonnlkagniolaaGreatPbV
import Derived.Test.YtmonnlkagniolaaGreatPbP
import Derived.Test.YtmonnlkagniolaaGreatPbV
set_option linter.unusedVariables false
set_option linter.unusedSimpArgs false
set_option maxRecDepth 100000
namespace Go.Proofs.YtmonnlkagniolaaGreat
open Go Go.Pb Go.RowKit
theorem dropix {α : Type} [Inhabited α] {c : List α} {i : Int} (h0 : 0 ≤ i) (h1 : i < c.length) : c.drop i.toNat = ix c i :: c.drop (i + 1).toNat := by
 rw [ar0 h0 h1, show (i + 1).toNat = i.toNat + 1 by omega]
 exact List.drop_eq_getElem_cons (by omega)
def frs (x0 : List ae) : List aa := (x0.filter fun x => decide (x.Op = 2)).map fun x => ({ Header := x.N, Field := x.W } : aa)
def hds (x0 : List ae) : List Int := (x0.filter fun x => decide (x.Op = 4)).map (·.N)
theorem yz (x0 : List ae) (K : List aa → List aa) : ∀ (m : Nat) (i : Int) (z : List aa), m = Int.toNat ((x0.length : Int) - i) → 0 ≤ i → ii x0 K m i z = K (z ++ frs (x0.drop i.toNat))
 | 0, i, z, hm, h0 => by
   rw [ii, List.drop_eq_nil_of_le (by omega)]
   simp [frs]
 | m + 1, i, z, hm, h0 => by
   rw [ii, dropix (c := x0) (i := i) h0 (by omega)]
   unfold frs
   rw [List.filter_cons]
   split
   ·rw [yz x0 K m (i + 1) _ (by omega) (by omega)]
    simp [frs]
   ·rw [yz x0 K m (i + 1) _ (by omega) (by omega)]
    simp [frs]
theorem xe (x0 : List ae) (K : List Int → List Int) : ∀ (m : Nat) (i : Int) (z : List Int), m = Int.toNat ((x0.length : Int) - i) → 0 ≤ i → gw x0 K m i z = K (z ++ hds (x0.drop i.toNat))
 | 0, i, z, hm, h0 => by
   rw [gw, List.drop_eq_nil_of_le (by omega)]
   simp [hds]
 | m + 1, i, z, hm, h0 => by
   rw [gw, dropix (c := x0) (i := i) h0 (by omega)]
   unfold hds
   rw [List.filter_cons]
   split
   ·rw [xe x0 K m (i + 1) _ (by omega) (by omega)]
    simp [hds]
   ·rw [xe x0 K m (i + 1) _ (by omega) (by omega)]
    simp [hds]
theorem av5 (x0 : List ae) : kf x0 = cpt (jn (frs x0)) := by
 unfold kf
 rw [yz x0 _ _ 0 [] rfl (by omega)]
 rfl
theorem au1 (x0 : List ae) : jh x0 = cpt (di (hds x0)) := by
 unfold jh
 rw [xe x0 _ _ 0 [] rfl (by omega)]
 rfl
theorem AddField_true (x0 : List aa) (x1 : aa) (K : Bool → List aa → List aa) : ∀ (m : Nat) (i : Int) (z : List aa), m = Int.toNat ((x0.length : Int) - i) → 0 ≤ i → fe x0 x1 K m true i z = K true (z ++ x0.drop i.toNat)
 | 0, i, z, hm, h0 => by
   rw [fe, List.drop_eq_nil_of_le (by omega), List.append_nil]
 | m + 1, i, z, hm, h0 => by
   rw [fe, if_neg (by simp), AddField_true x0 x1 K m (i + 1) _ (by omega) (by omega), dropix (c := x0) (i := i) h0 (by omega), List.append_assoc]
   rfl
theorem AddField_false (x0 : List aa) (x1 : aa) : ∀ (m : Nat) (i : Int) (z : List aa), m = Int.toNat ((x0.length : Int) - i) → 0 ≤ i → fe x0 x1 (fun p l => if (!p) = true then l ++ [x1] else l) m false i z = z ++ insS ip x1 (x0.drop i.toNat)
 | 0, i, z, hm, h0 => by
   rw [fe, List.drop_eq_nil_of_le (by omega), insS]
   rfl
 | m + 1, i, z, hm, h0 => by
   have e1 : (i + 1).toNat = i.toNat + 1 := by omega
   rw [fe, dropix (c := x0) (i := i) h0 (by omega), insS]
   by_cases hl : ip (ix x0 i) x1 = true
   ·rw [if_neg (by simp [hl]), if_pos hl, AddField_false x0 x1 m (i + 1) _ (by omega) (by omega), List.append_assoc]
    rfl
   ·have hl2 : ip (ix x0 i) x1 = false := by simpa using hl
    rw [if_pos (by simp [hl2]), if_neg hl]
    by_cases he : ix x0 i = x1
    ·rw [if_neg (by simp [he]), if_pos he, AddField_true x0 x1 _ m (i + 1) _ (by omega) (by omega), if_neg (by simp), List.append_assoc]
     rfl
    ·rw [if_pos (by simp [he]), if_neg he, AddField_true x0 x1 _ m (i + 1) _ (by omega) (by omega), if_neg (by simp), List.append_assoc, List.append_assoc]
     rfl
theorem AddField_ins (l : List aa) (x : aa) : jf l x = insS ip x l := by
 unfold jf
 rw [AddField_false l x _ 0 [] rfl (by omega)]
 simp
theorem AddField_len {l y : List aa} {x : aa} (h : jf l x = y) : y.length ≤ l.length + 1 := by
 rw [← h, AddField_ins]
 exact rh _ _ _
theorem AddInt_true (x0 : List Int) (x1 : Int) (K : Bool → List Int → List Int) : ∀ (m : Nat) (i : Int) (z : List Int), m = Int.toNat ((x0.length : Int) - i) → 0 ≤ i → ga x0 x1 K m true i z = K true (z ++ x0.drop i.toNat)
 | 0, i, z, hm, h0 => by
   rw [ga, List.drop_eq_nil_of_le (by omega), List.append_nil]
 | m + 1, i, z, hm, h0 => by
   rw [ga, if_neg (by simp), AddInt_true x0 x1 K m (i + 1) _ (by omega) (by omega), dropix (c := x0) (i := i) h0 (by omega), List.append_assoc]
   rfl
theorem AddInt_false (x0 : List Int) (x1 : Int) : ∀ (m : Nat) (i : Int) (z : List Int), m = Int.toNat ((x0.length : Int) - i) → 0 ≤ i → ga x0 x1 (fun p l => if (!p) = true then l ++ [x1] else l) m false i z = z ++ insS (fun a b => decide (a < b)) x1 (x0.drop i.toNat)
 | 0, i, z, hm, h0 => by
   rw [ga, List.drop_eq_nil_of_le (by omega), insS]
   rfl
 | m + 1, i, z, hm, h0 => by
   have e1 : (i + 1).toNat = i.toNat + 1 := by omega
   rw [ga, dropix (c := x0) (i := i) h0 (by omega), insS]
   by_cases hl : ix x0 i < x1
   ·have hl1 : (fun a b : Int => decide (a < b)) (ix x0 i) x1 = true := by simpa using hl
    rw [if_neg (by simp; omega), if_pos hl1, AddInt_false x0 x1 m (i + 1) _ (by omega) (by omega), List.append_assoc]
    rfl
   ·have hl2 : ¬ (fun a b : Int => decide (a < b)) (ix x0 i) x1 = true := by simpa using hl
    rw [if_pos (by simp; omega), if_neg hl2]
    by_cases he : ix x0 i = x1
    ·rw [if_neg (by simp [he]), if_pos he, AddInt_true x0 x1 _ m (i + 1) _ (by omega) (by omega), if_neg (by simp), List.append_assoc]
     rfl
    ·rw [if_pos (by simp [he]), if_neg he, AddInt_true x0 x1 _ m (i + 1) _ (by omega) (by omega), if_neg (by simp), List.append_assoc, List.append_assoc]
     rfl
theorem AddInt_ins (l : List Int) (x : Int) : gb l x = insS (fun a b => decide (a < b)) x l := by
 unfold gb
 rw [AddInt_false l x _ 0 [] rfl (by omega)]
 simp
theorem AddInt_len {l y : List Int} {x : Int} (h : gb l x = y) : y.length ≤ l.length + 1 := by
 rw [← h, AddInt_ins]
 exact rh _ _ _
theorem yc {α : Type} [Inhabited α] [DecidableEq α] (l : List α) : (cpt l).length ≤ l.length := aa7 l _
theorem bx6 {n : List ae} {s : av} (h : (nd n s).2 = 0) : n.length ≤ 24 := by
 unfold nd at h
 split at h
 ·simp at h
 ·rename_i h1
  simp at h1
  omega
theorem bb4 {c : db} {n : List ae} {w : Int} (h : gh c n w = 0) : n.length ≤ 24 := by
 unfold gh at h
 simp only [LET] at h
 split at h
 ·simp at h
 ·exact bx6 h
theorem ce5 {c : db} {s : aq} (h : dw c s = 0) : (s.Kind = 1 ∨ s.Kind = 5 → s.Value.length ≤ 24) ∧ (s.Kind = 4 ∨ s.Kind = 5 → s.Index.length ≤ 24) ∧ (s.Kind = 2 ∨ s.Kind = 3 → 0 ≤ s.Header ∧ s.Header < c.scope.Program.Headers.length) := by
 unfold dw at h
 simp only [LET] at h
 by_cases k1 : s.Kind = 1
 ·rw [if_pos (by simp [k1])] at h
  split at h
  ·simp at h
  ·exact ⟨fun _ => bb4 h, fun q => by omega, fun q => by omega⟩
 rw [if_neg (by simp [k1])] at h
 by_cases k2 : s.Kind = 2 ∨ s.Kind = 3
 ·have e : (if decide (s.Kind = 2) = true then (if (decide (s.Header < 0) || decide ((c.scope.Program.Headers.length : Int) ≤ s.Header)) = true then (8 : Int) else 0) else (if (decide (s.Header < 0) || decide ((c.scope.Program.Headers.length : Int) ≤ s.Header)) = true then 8 else 0)) = 0 := by
   rcases k2 with k2 | k2
   ·simpa [k2] using h
   ·simpa [k2] using h
  rw [ite_self] at e
  split at e
  ·simp at e
  ·rename_i h1
   simp at h1
   exact ⟨fun q => by omega, fun q => by omega, fun _ => by omega⟩
 by_cases k4 : s.Kind = 4
 ·rw [if_neg (by simp; omega), if_neg (by simp; omega), if_pos (by simp [k4]), if_pos (by simp [k4])] at h
  split at h
  ·simp at h
  split at h
  ·rename_i h1
   rw [h] at h1
   simp at h1
  ·rename_i h1
   simp at h1
   exact ⟨fun q => by omega, fun _ => bx6 h1, fun q => by omega⟩
 by_cases k5 : s.Kind = 5
 ·rw [if_neg (by simp; omega), if_neg (by simp; omega), if_neg (by simp; omega), if_pos (by simp [k5])] at h
  split at h
  ·simp at h
  split at h
  ·rename_i h1
   rw [h] at h1
   simp at h1
  ·rename_i h1
   simp at h1
   rw [if_pos (by simp [k5])] at h
   exact ⟨fun _ => bb4 h, fun _ => bx6 h1, fun q => by omega⟩
 exact ⟨fun q => by omega, fun q => by omega, fun q => by omega⟩
theorem bm8 (p : ab) (i : Int) : ∀ (m : Nat) (j : Int), m = Int.toNat (((ix p.Actions i).Body.length : Int) - j) → (jk p i (fun _ => (0, 0)) m j).2 = 0 → ∀ k, j ≤ k → k < ((ix p.Actions i).Body.length : Int) → dw { scope := { Program := p, Params := (ix p.Actions i).Params } } (ix (ix p.Actions i).Body k) = 0
 | 0, j, hm, h, k, h1, h2 => by omega
 | m + 1, j, hm, h, k, h1, h2 => by
   rw [jk] at h
   simp only [LET] at h
   split at h
   ·rename_i h3
    simp at h3
    exact absurd h h3
   ·rename_i h3
    simp at h3
    by_cases e : k = j
    ·subst e; exact h3
    ·exact bm8 p i m (j + 1) (by omega) h k (by omega) h2
theorem bm5 {p : ab} {i : Int} {y : Int × Int} (h : lb p i = y) (h2 : y.2 = 0) : 0 ≤ i ∧ i < p.Actions.length := by
 subst h
 unfold lb at h2
 split at h2
 ·simp at h2
 ·rename_i h1
  simp at h1
  omega
theorem cf8 {a : bc} (h : jl a = 0) : a.Body.length ≤ 12 := by
 unfold jl at h
 simp only [LET] at h
 split at h
 ·simp at h
 split at h
 ·simp at h
 ·rename_i h1
  simp at h1
  omega
def BO (p : ab) (l : List aq) : Prop := l.length ≤ 12 ∧ ∀ k : Int, 0 ≤ k → k < l.length → ((ix l k).Kind = 1 ∨ (ix l k).Kind = 5 → (ix l k).Value.length ≤ 24) ∧ ((ix l k).Kind = 4 ∨ (ix l k).Kind = 5 → (ix l k).Index.length ≤ 24) ∧ ((ix l k).Kind = 2 ∨ (ix l k).Kind = 3 → 0 ≤ (ix l k).Header ∧ (ix l k).Header < p.Headers.length)
theorem ti {p : ab} {i : Int} {y : List aq} (h : iz p i = y) : BO p y := by
 unfold iz at h
 simp only [LET] at h
 subst h
 split
 ·exact ⟨by simp, fun k h1 h2 => absurd h2 (by simp; omega)⟩
 ·rename_i h1
  simp at h1
  unfold lb at h1
  split at h1
  ·simp at h1
  simp only [LET] at h1
  split at h1
  ·rename_i h3
   simp at h3
   exact absurd h1 h3
  ·rename_i h3
   simp at h3
   exact ⟨cf8 h3, fun k k1 k2 => ce5 (bm8 p i _ 0 rfl h1 k k1 k2)⟩
theorem bo_v {p : ab} {l : List aq} {k : Int} (h : BO p l) (h0 : 0 ≤ k) (h1 : k < l.length) (hk : (ix l k).Kind = 1 ∨ (ix l k).Kind = 5) : (ix l k).Value.length ≤ 24 := (h.2 k h0 h1).1 hk
theorem bo_i {p : ab} {l : List aq} {k : Int} (h : BO p l) (h0 : 0 ≤ k) (h1 : k < l.length) (hk : (ix l k).Kind = 4 ∨ (ix l k).Kind = 5) : (ix l k).Index.length ≤ 24 := (h.2 k h0 h1).2.1 hk
theorem bo_h {p : ab} {l : List aq} {k : Int} (h : BO p l) (h0 : 0 ≤ k) (h1 : k < l.length) (hk : (ix l k).Kind = 2 ∨ (ix l k).Kind = 3) : 0 ≤ (ix l k).Header ∧ (ix l k).Header < p.Headers.length := (h.2 k h0 h1).2.2 hk
theorem jot {p q : Prop} [Decidable p] [Decidable q] {x : Bool} (h : x = (if decide p = true then decide p else decide q)) (hx : x = true) : p ∨ q := by
 subst h
 by_cases hp : p
 ·exact .inl hp
 ·simp [hp] at hx; exact .inr hx
theorem bw0 (n : List ae) (K : List aa → List aa) (b : Nat) (hK : ∀ l : List aa, l.length ≤ b → (K l).length ≤ b) : ∀ (m : Nat) (j : Int) (z : List aa), z.length + m ≤ b → (ii n K m j z).length ≤ b
 | 0, j, z, h => by rw [ii]; exact hK z (by omega)
 | m + 1, j, z, h => by
   rw [ii]
   split
   ·exact bw0 n K b hK m (j + 1) _ (by simp; omega)
   ·exact bw0 n K b hK m (j + 1) z (by omega)
theorem bz2 (n : List ae) (K : List Int → List Int) (b : Nat) (hK : ∀ l : List Int, l.length ≤ b → (K l).length ≤ b) : ∀ (m : Nat) (j : Int) (z : List Int), z.length + m ≤ b → (gw n K m j z).length ≤ b
 | 0, j, z, h => by rw [gw]; exact hK z (by omega)
 | m + 1, j, z, h => by
   rw [gw]
   split
   ·exact bz2 n K b hK m (j + 1) _ (by simp; omega)
   ·exact bz2 n K b hK m (j + 1) z (by omega)
theorem pz (n : List ae) : (kf n).length ≤ n.length := by
 unfold kf
 refine bw0 n _ n.length (fun l hl => ?_) _ _ _ (by simp)
 simp only [LET]
 refine Nat.le_trans (yc _) ?_
 rw [jn, List.length_mergeSort]
 exact hl
theorem po (n : List ae) : (jh n).length ≤ n.length := by
 unfold jh
 refine bz2 n _ n.length (fun l hl => ?_) _ _ _ (by simp)
 simp only [LET]
 refine Nat.le_trans (yc _) ?_
 rw [di, List.length_mergeSort]
 exact hl
theorem ll {a y : bq} {n : List ae} (h : dg a n = y) : y.fields.length ≤ a.fields.length + n.length ∧ y.headers.length ≤ a.headers.length + n.length ∧ y.registers.length = a.registers.length := by
 subst h
 unfold dg
 have h1 := pz n
 have h2 := po n
 refine ⟨?_, ?_, rfl⟩
 ·show (a.fields ++ kf n).length ≤ _
  rw [List.length_append]; omega
 ·show (a.headers ++ jh n).length ≤ _
  rw [List.length_append]; omega
theorem aa1 {a : bq} {y : List aa × List Int × List Int} (h : cm a = y) : y.1.length ≤ a.fields.length ∧ y.2.1.length ≤ a.headers.length ∧ y.2.2.length ≤ a.registers.length := by
 subst h
 unfold cm
 simp only [LET]
 refine ⟨Nat.le_trans (yc _) ?_, Nat.le_trans (yc _) ?_, Nat.le_trans (yc _) ?_⟩
 ·rw [en, List.length_mergeSort]; exact Nat.le_refl _
 ·rw [di, List.length_mergeSort]; exact Nat.le_refl _
 ·rw [di, List.length_mergeSort]; exact Nat.le_refl _
def SmH (p : ab) : Prop := ∀ k : Int, 0 ≤ k → k < p.Headers.length → (ix p.Headers k).Fields.length ≤ 1000
def AB (p : ab) : Prop := SmH p ∧ ∀ k : Int, 0 ≤ k → k < p.Tables.length → (ix p.Tables k).Keys.length ≤ 24 ∧ (ix p.Tables k).Actions.length ≤ 24
def nn (l : List Int) : List Int := l.filter fun x => decide (0 ≤ x)
theorem sy (l : List Int) : (nn l).length ≤ l.length := List.length_filter_le _ _
theorem aa8 (n : Int) (c : ai) : ff n c = { p := c.p, cells := c.cells ++ nn [n] } := by
 unfold ff nn
 by_cases h : 0 ≤ n <;> simp [h]
theorem ac8 {n : Int} {c y : ai} (h : ff n c = y) : y.cells.length ≤ c.cells.length + 1 := by
 subst h
 rw [aa8]
 show (c.cells ++ nn [n]).length ≤ _
 have := sy [n]
 rw [List.length_append]
 simpa using this
theorem bq6 (l : List aa) (K : ai → ai) : ∀ (m : Nat) (i : Int) (c : ai), m = Int.toNat ((l.length : Int) - i) → 0 ≤ i → fd l K m i c = K { p := c.p, cells := c.cells ++ nn ((l.drop i.toNat).map (il c.p)) }
 | 0, i, c, hm, h0 => by
   rw [fd, List.drop_eq_nil_of_le (by omega)]
   simp [nn]
 | m + 1, i, c, hm, h0 => by
   rw [fd]
   simp only [LET]
   rw [bq6 l K m (i + 1) _ (by omega) (by omega), aa8, dropix (c := l) (i := i) h0 (by omega)]
   simp only [nn, List.map_cons, List.append_assoc]
   rw [← List.filter_append]
   rfl
theorem bv8 (l : List Int) (K : ai → ai) : ∀ (m : Nat) (i : Int) (c : ai), m = Int.toNat ((l.length : Int) - i) → 0 ≤ i → fc l K m i c = K { p := c.p, cells := c.cells ++ nn ((l.drop i.toNat).map (iy c.p)) }
 | 0, i, c, hm, h0 => by
   rw [fc, List.drop_eq_nil_of_le (by omega)]
   simp [nn]
 | m + 1, i, c, hm, h0 => by
   rw [fc]
   simp only [LET]
   rw [bv8 l K m (i + 1) _ (by omega) (by omega), aa8, dropix (c := l) (i := i) h0 (by omega)]
   simp only [nn, List.map_cons, List.append_assoc]
   rw [← List.filter_append]
   rfl
theorem bx3 (l : List Int) (K : ai → ai) : ∀ (m : Nat) (i : Int) (c : ai), m = Int.toNat ((l.length : Int) - i) → 0 ≤ i → fb l K m i c = K { p := c.p, cells := c.cells ++ nn ((l.drop i.toNat).map (gn c.p)) }
 | 0, i, c, hm, h0 => by
   rw [fb, List.drop_eq_nil_of_le (by omega)]
   simp [nn]
 | m + 1, i, c, hm, h0 => by
   rw [fb]
   simp only [LET]
   rw [bx3 l K m (i + 1) _ (by omega) (by omega), aa8, dropix (c := l) (i := i) h0 (by omega)]
   simp only [nn, List.map_cons, List.append_assoc]
   rw [← List.filter_append]
   rfl
def cls (p : ab) (f : List aa) (h r : List Int) : List Int := nn (f.map (il p)) ++ (nn (h.map (iy p)) ++ nn (r.map (gn p)))
theorem bq2 (c : ai) (f : List aa) (h r : List Int) : ej c f h r = { p := c.p, cells := c.cells ++ cls c.p f h r } := by
 unfold ej
 rw [bq6 _ _ _ _ _ rfl (Int.le_refl _), bv8 _ _ _ _ _ rfl (Int.le_refl _), bx3 _ _ _ _ _ rfl (Int.le_refl _)]
 simp [cls]
theorem ab4 (p : ab) (f : List aa) (h r : List Int) : (cls p f h r).length ≤ f.length + h.length + r.length := by
 unfold cls
 have h1 := sy (f.map (il p))
 have h2 := sy (h.map (iy p))
 have h3 := sy (r.map (gn p))
 simp only [List.length_append, List.length_map] at *
 omega
theorem ac0 {c y : ai} {f : List aa} {h r : List Int} (e : ej c f h r = y) : y.cells.length ≤ c.cells.length + (f.length + h.length + r.length) := by
 subst e
 rw [bq2]
 show (c.cells ++ cls c.p f h r).length ≤ _
 have := ab4 c.p f h r
 rw [List.length_append]
 omega
def QL (r : List aa × List Int × List Int) : Prop := r.1.length ≤ 13000 ∧ r.2.1.length ≤ 13000 ∧ r.2.2.length ≤ 13000
theorem cr9 (p : ab) (y : List aq) (hb : BO p y) (K : bq → List aa × List Int × List Int) (Q : List aa × List Int × List Int → Prop) (B : Nat) (hK : ∀ z : bq, z.fields.length ≤ B → z.headers.length ≤ B → z.registers.length ≤ B → Q (K z)) : ∀ (m : Nat) (j : Int) (z : bq), m = Int.toNat ((y.length : Int) - j) → 0 ≤ j → z.fields.length + 50 * m ≤ B → z.headers.length + 50 * m ≤ B → z.registers.length + 50 * m ≤ B → Q (ft y K m j z)
 | 0, j, z, hm, h0, h1, h2, h3 => by rw [ft]; exact hK z (by omega) (by omega) (by omega)
 | m + 1, j, ⟨zf, zh, zr⟩, hm, h0, h1, h2, h3 => by
   have b := hb.2 j h0 (by omega)
   have rec_ := fun z' => cr9 p y hb K Q B hK m (j + 1) z' (by omega) (by omega)
   rw [ft]
   simp only [LET]
   dsimp only at h1 h2 h3
   have t1 : (ix y j).Kind = 1 → (ix y j).Value.length ≤ 24 := fun k => b.1 (.inl k)
   have t2 : (ix y j).Kind = 5 → (ix y j).Value.length ≤ 24 := fun k => b.1 (.inr k)
   have t3 : (ix y j).Kind = 4 → (ix y j).Index.length ≤ 24 := fun k => b.2.1 (.inl k)
   have t4 : (ix y j).Kind = 5 → (ix y j).Index.length ≤ 24 := fun k => b.2.1 (.inr k)
   split
   ·rename_i k
    have ev := ll (a := ⟨zf, zh, zr⟩) (n := (ix y j).Value) rfl
    have t := t1 (by simpa using k)
    dsimp only at ev
    split <;> (refine rec_ _ ?_ ?_ ?_ <;> (try simp only [List.length_append, List.length_cons, List.length_nil]) <;> (try dsimp only) <;> omega)
   split
   ·split <;> (refine rec_ _ ?_ ?_ ?_ <;> (try simp only [List.length_append, List.length_cons, List.length_nil]) <;> (try dsimp only) <;> omega)
   split
   ·rename_i k
    have ev := ll (a := ⟨zf, zh, zr⟩) (n := (ix y j).Index) rfl
    have t := t3 (by simpa using k)
    dsimp only at ev
    split <;> (refine rec_ _ ?_ ?_ ?_ <;> (try simp only [List.length_append, List.length_cons, List.length_nil]) <;> (try dsimp only) <;> omega)
   split
   ·rename_i k
    have ev := ll (a := ⟨zf, zh, zr⟩) (n := (ix y j).Index) rfl
    have ev2 := ll (a := dg ⟨zf, zh, zr⟩ (ix y j).Index) (n := (ix y j).Value) rfl
    have t := t4 (by simpa using k)
    have t' := t2 (by simpa using k)
    dsimp only at ev
    split <;> (refine rec_ _ ?_ ?_ ?_ <;> (try simp only [List.length_append, List.length_cons, List.length_nil]) <;> (try dsimp only) <;> omega)
   split <;> (refine rec_ _ ?_ ?_ ?_ <;> (try simp only [List.length_append, List.length_cons, List.length_nil]) <;> (try dsimp only) <;> omega)
theorem wu {p : ab} {i : Int} {y : List aa × List Int × List Int} (h : gm p i = y) : QL y := by
 subst h
 unfold gm
 simp only [LET]
 have hb : BO p (iz p i) := ti rfl
 refine cr9 p _ hb _ QL 600 (fun z h1 h2 h3 => ?_) _ 0 _ rfl (Int.le_refl _) ?_ ?_ ?_
 ·have := aa1 (a := z) rfl
  exact ⟨by show (cm _).1.length ≤ _; omega, by show (cm _).2.1.length ≤ _; omega, by show (cm _).2.2.length ≤ _; omega⟩
 all_goals (have := hb.1; simp only [List.length_nil]; omega)
theorem cq4 (y : List aq) (j : Int) (K : List Int → List Int → List aa → List aa × List Int × List Int) (Q : List aa × List Int × List Int → Prop) (a b : List Int) : ∀ (m : Nat) (i : Int) (c : List aa), (∀ c' : List aa, c'.length = c.length + m → Q (K a b c')) → Q (gx y j K m i a b c)
 | 0, i, c, h => by rw [gx]; exact h c rfl
 | m + 1, i, c, h => by
   rw [gx]
   exact cq4 y j K Q a b m (i + 1) _ fun c' hc => h c' (by rw [hc]; simp; omega)
theorem cs7 (p : ab) (hs : SmH p) (y : List aq) (hb : BO p y) (K : List Int → List Int → List aa → List aa × List Int × List Int) (Q : List aa × List Int × List Int → Prop) (B : Nat) (hK : ∀ (a b : List Int) (c : List aa), a.length ≤ B → b.length ≤ B → c.length ≤ B → Q (K a b c)) : ∀ (m : Nat) (j : Int) (a b : List Int) (c : List aa), m = Int.toNat ((y.length : Int) - j) → 0 ≤ j → a.length + 1001 * m ≤ B → b.length + 1001 * m ≤ B → c.length + 1001 * m ≤ B → Q (dt p y K m j a b c)
 | 0, j, a, b, c, hm, h0, h1, h2, h3 => by rw [dt]; exact hK a b c (by omega) (by omega) (by omega)
 | m + 1, j, a, b, c, hm, h0, h1, h2, h3 => by
   have bb := hb.2 j h0 (by omega)
   have rec_ := fun a' b' c' => cs7 p hs y hb K Q B hK m (j + 1) a' b' c' (by omega) (by omega)
   rw [dt]
   simp only [LET]
   by_cases k1 : (ix y j).Kind = 1 ∨ (ix y j).Kind = 4
   ·have e : (if decide ((ix y j).Kind = 1) = true then decide ((ix y j).Kind = 1) else decide ((ix y j).Kind = 4)) = true := by rcases k1 with k | k <;> simp [k]
    have := rec_ a b (c ++ [(ix y j).Dst]) (by omega) (by omega) (by simp; omega)
    rcases k1 with k | k
    ·rw [if_pos (by simp [k]), if_pos (by simp [k])]; exact this
    ·rw [if_neg (by simp [k]), if_pos (by simp [k])]; exact this
   have n1 : ¬((ix y j).Kind = 1) := fun e => k1 (.inl e)
   have n4 : ¬((ix y j).Kind = 4) := fun e => k1 (.inr e)
   rw [if_neg (by simp [n1]), if_neg (by simp [n4])]
   by_cases k2 : (ix y j).Kind = 2 ∨ (ix y j).Kind = 3
   ·have hh := bb.2.2 k2
    have sm := hs _ hh.1 hh.2
    have := cq4 y j (fun a b c => dt p y K m (j + 1) a b c) Q a (b ++ [(ix y j).Header]) (Int.toNat ((((ix p.Headers (ix y j).Header).Fields).length : Int) - 0)) 0 c fun c' hc => rec_ a (b ++ [(ix y j).Header]) c' (by omega) (by simp; omega) (by omega)
    rcases k2 with k | k
    ·rw [if_pos (by simp [k]), if_pos (by simp [k])]; exact this
    ·rw [if_neg (by simp [k]), if_pos (by simp [k])]; exact this
   have n2 : ¬((ix y j).Kind = 2) := fun e => k2 (.inl e)
   have n3 : ¬((ix y j).Kind = 3) := fun e => k2 (.inr e)
   rw [if_neg (by simp [n2]), if_neg (by simp [n3])]
   split
   ·exact rec_ _ _ _ (by simp; omega) (by omega) (by omega)
   ·exact rec_ _ _ _ (by omega) (by omega) (by omega)
theorem uh {p : ab} (hs : SmH p) {i : Int} {y : List aa × List Int × List Int} (h : fu p i = y) : QL y := by
 subst h
 unfold fu
 simp only [LET]
 have hb : BO p (iz p i) := ti rfl
 refine cs7 p hs _ hb _ QL 12500 (fun a b c h1 h2 h3 => ?_) _ 0 _ _ _ rfl (Int.le_refl _) ?_ ?_ ?_
 ·have := aa1 (a := ⟨c, b, a⟩) rfl
  dsimp only at this
  exact ⟨by show (cm _).1.length ≤ _; omega, by show (cm _).2.1.length ≤ _; omega, by show (cm _).2.2.length ≤ _; omega⟩
 all_goals (have := hb.1; simp only [List.length_nil]; omega)
theorem aa2 {p : ab} {u : ct} {y : bh × Bool} (h : fy p u = y) (hp : AB p) : y.1.Keys.length ≤ 24 ∧ y.1.Actions.length ≤ 24 := by
 subst h
 unfold fy
 split
 ·exact ⟨by simp, by simp⟩
 ·rename_i h1
  simp at h1
  exact hp.2 _ (by omega) (by omega)
theorem bk3 {h : bg} (e : qj h = true) : h.Fields.length ≤ 20 := by
 unfold qj at e
 split at e
 ·cases e
 ·rename_i hc
  simp only [Bool.or_eq_true, decide_eq_true_eq, not_or] at hc
  omega
theorem ct0 {p : ab} {K : Unit → Bool} : ∀ (m : Nat) (i : Int), m = Int.toNat ((p.Headers.length : Int) - i) → ja p K m i = false → (∀ j, i ≤ j → j < p.Headers.length → (ix p.Headers j).Fields.length ≤ 20) ∧ K () = false
 | 0, i, hm, h => ⟨fun j h1 h2 => by omega, by rw [ja] at h; exact h⟩
 | m + 1, i, hm, h => by
   rw [ja] at h
   simp only [LET] at h
   split at h
   ·cases h
   ·rename_i hc
    have r := ct0 m (i + 1) (by omega) h
    refine ⟨fun j h1 h2 => ?_, r.2⟩
    by_cases e : j = i
    ·subst e; exact bk3 (by simpa using hc)
    ·exact r.1 j (by omega) h2
theorem ct1 {p : ab} {K : Unit → Bool} : ∀ (m : Nat) (i : Int), jc p K m i = false → K () = false
 | 0, i, h => by rw [jc] at h; exact h
 | m + 1, i, h => by
   rw [jc] at h
   simp only [LET] at h
   split at h
   ·cases h
   ·exact ct1 m (i + 1) h
theorem cq1 {p : ab} {K : Unit → Bool} : ∀ (m : Nat) (i : Int), m = Int.toNat ((p.Tables.length : Int) - i) → jv p K m i = false → ∀ j, i ≤ j → j < p.Tables.length → (ix p.Tables j).Keys.length ≤ 24 ∧ (ix p.Tables j).Actions.length ≤ 24
 | 0, i, hm, h, j, h1, h2 => by omega
 | m + 1, i, hm, h, j, h1, h2 => by
   rw [jv] at h
   split at h
   ·cases h
   ·rename_i hc
    simp only [Bool.or_eq_true, decide_eq_true_eq, not_or] at hc
    by_cases e : j = i
    ·subst e; exact ⟨by omega, by omega⟩
    ·exact cq1 m (i + 1) (by omega) h j (by omega) h2
theorem tl {p : ab} {b : Bool} (h : mh p = b) (hb : b = false) : (p.Headers.length ≤ 16 ∧ p.Metadata.length ≤ 20 ∧ p.Registers.length ≤ 8) ∧ (∀ j : Int, 0 ≤ j → j < p.Headers.length → (ix p.Headers j).Fields.length ≤ 20) ∧ AB p := by
 subst hb
 unfold mh at h
 split at h
 ·cases h
 ·rename_i hc
  simp only [Bool.or_eq_true, decide_eq_true_eq, not_or] at hc
  have a := ct0 _ 0 rfl h
  have b := ct1 _ 0 a.2
  have c := cq1 _ 0 rfl b
  exact ⟨by omega, a.1, fun k k1 k2 => Nat.le_trans (a.1 k k1 k2) (by decide), c⟩
theorem tlAB {p : ab} {b : Bool} (h : mh p = b) (hb : b = false) : AB p := (tl h hb).2.2
end Go.Proofs.YtmonnlkagniolaaGreat
