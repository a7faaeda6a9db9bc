import Derived.Test.YtmonnlkagniolaaGreatKCoFo
import Derived.Test.YtmonnlkagniolaaGreatPbV
import Derived.Test.YtmonnlkagniolaaGreatKDef
import Derived.Test.YtmonnlkagniolaaGreatPbV
import Derived.Test.YtmonnlkagniolaaGreatPbP
import Derived.Test.YtmonnlkagniolaaGreatPbV
set_option linter.unusedVariables false
set_option linter.unusedSimpArgs false
set_option maxRecDepth 100000
namespace Go.Proofs.YtmonnlkagniolaaGreat
open Go Go.Pb Go.RowKit
theorem dropix {α : Type} [Inhabited α] {c : List α} {i : Int} (h0 : 0 ≤ i) (h1 : i < c.length) : c.drop i.toNat = ix c i :: c.drop (i + 1).toNat := by
 rw [am2 h0 h1, show (i + 1).toNat = i.toNat + 1 by omega]
 exact List.drop_eq_getElem_cons (by omega)
def frs (x0 : List ab) : List aa := (x0.filter fun x => decide (x.Op = 2)).map fun x => ({ Header := x.N, Field := x.W } : aa)
def hds (x0 : List ab) : List Int := (x0.filter fun x => decide (x.Op = 4)).map (·.N)
theorem wb (x0 : List ab) (K : List aa → List aa) : ∀ (m : Nat) (i : Int) (z : List aa), m = Int.toNat ((x0.length : Int) - i) → 0 ≤ i → ga x0 K m i z = K (z ++ frs (x0.drop i.toNat))
 | 0, i, z, hm, h0 => by
   rw [ga, List.drop_eq_nil_of_le (by omega)]
   simp [frs]
 | m + 1, i, z, hm, h0 => by
   rw [ga, dropix (c := x0) (i := i) h0 (by omega)]
   unfold frs
   rw [List.filter_cons]
   split
   ·rw [wb x0 K m (i + 1) _ (by omega) (by omega)]
    simp [frs]
   ·rw [wb x0 K m (i + 1) _ (by omega) (by omega)]
    simp [frs]
theorem tn (x0 : List ab) (K : List Int → List Int) : ∀ (m : Nat) (i : Int) (z : List Int), m = Int.toNat ((x0.length : Int) - i) → 0 ≤ i → fg x0 K m i z = K (z ++ hds (x0.drop i.toNat))
 | 0, i, z, hm, h0 => by
   rw [fg, List.drop_eq_nil_of_le (by omega)]
   simp [hds]
 | m + 1, i, z, hm, h0 => by
   rw [fg, dropix (c := x0) (i := i) h0 (by omega)]
   unfold hds
   rw [List.filter_cons]
   split
   ·rw [tn x0 K m (i + 1) _ (by omega) (by omega)]
    simp [hds]
   ·rw [tn x0 K m (i + 1) _ (by omega) (by omega)]
    simp [hds]
theorem an5 (x0 : List ab) : jv x0 = cpt (il (frs x0)) := by
 unfold jv
 rw [wb x0 _ _ 0 [] rfl (by omega)]
 rfl
theorem ak9 (x0 : List ab) : jb x0 = cpt (dq (hds x0)) := by
 unfold jb
 rw [tn x0 _ _ 0 [] rfl (by omega)]
 rfl
theorem AddField_true (x0 : List aa) (x1 : aa) (K : Bool → List aa → List aa) : ∀ (m : Nat) (i : Int) (z : List aa), m = Int.toNat ((x0.length : Int) - i) → 0 ≤ i → dt x0 x1 K m true i z = K true (z ++ x0.drop i.toNat)
 | 0, i, z, hm, h0 => by
   rw [dt, List.drop_eq_nil_of_le (by omega), List.append_nil]
 | m + 1, i, z, hm, h0 => by
   rw [dt, if_neg (by simp), AddField_true x0 x1 K m (i + 1) _ (by omega) (by omega), dropix (c := x0) (i := i) h0 (by omega), List.append_assoc]
   rfl
theorem AddField_false (x0 : List aa) (x1 : aa) : ∀ (m : Nat) (i : Int) (z : List aa), m = Int.toNat ((x0.length : Int) - i) → 0 ≤ i → dt x0 x1 (fun p l => if (!p) = true then l ++ [x1] else l) m false i z = z ++ insS gi x1 (x0.drop i.toNat)
 | 0, i, z, hm, h0 => by
   rw [dt, List.drop_eq_nil_of_le (by omega), insS]
   rfl
 | m + 1, i, z, hm, h0 => by
   have e1 : (i + 1).toNat = i.toNat + 1 := by omega
   rw [dt, dropix (c := x0) (i := i) h0 (by omega), insS]
   by_cases hl : gi (ix x0 i) x1 = true
   ·rw [if_neg (by simp [hl]), if_pos hl, AddField_false x0 x1 m (i + 1) _ (by omega) (by omega), List.append_assoc]
    rfl
   ·have hl2 : gi (ix x0 i) x1 = false := by simpa using hl
    rw [if_pos (by simp [hl2]), if_neg hl]
    by_cases he : ix x0 i = x1
    ·rw [if_neg (by simp [he]), if_pos he, AddField_true x0 x1 _ m (i + 1) _ (by omega) (by omega), if_neg (by simp), List.append_assoc]
     rfl
    ·rw [if_pos (by simp [he]), if_neg he, AddField_true x0 x1 _ m (i + 1) _ (by omega) (by omega), if_neg (by simp), List.append_assoc, List.append_assoc]
     rfl
theorem AddField_ins (l : List aa) (x : aa) : ia l x = insS gi x l := by
 unfold ia
 rw [AddField_false l x _ 0 [] rfl (by omega)]
 simp
theorem AddField_len {l y : List aa} {x : aa} (h : ia l x = y) : y.length ≤ l.length + 1 := by
 rw [← h, AddField_ins]
 exact rq _ _ _
theorem AddInt_true (x0 : List Int) (x1 : Int) (K : Bool → List Int → List Int) : ∀ (m : Nat) (i : Int) (z : List Int), m = Int.toNat ((x0.length : Int) - i) → 0 ≤ i → en x0 x1 K m true i z = K true (z ++ x0.drop i.toNat)
 | 0, i, z, hm, h0 => by
   rw [en, List.drop_eq_nil_of_le (by omega), List.append_nil]
 | m + 1, i, z, hm, h0 => by
   rw [en, if_neg (by simp), AddInt_true x0 x1 K m (i + 1) _ (by omega) (by omega), dropix (c := x0) (i := i) h0 (by omega), List.append_assoc]
   rfl
theorem AddInt_false (x0 : List Int) (x1 : Int) : ∀ (m : Nat) (i : Int) (z : List Int), m = Int.toNat ((x0.length : Int) - i) → 0 ≤ i → en x0 x1 (fun p l => if (!p) = true then l ++ [x1] else l) m false i z = z ++ insS (fun a b => decide (a < b)) x1 (x0.drop i.toNat)
 | 0, i, z, hm, h0 => by
   rw [en, List.drop_eq_nil_of_le (by omega), insS]
   rfl
 | m + 1, i, z, hm, h0 => by
   have e1 : (i + 1).toNat = i.toNat + 1 := by omega
   rw [en, dropix (c := x0) (i := i) h0 (by omega), insS]
   by_cases hl : ix x0 i < x1
   ·have hl1 : (fun a b : Int => decide (a < b)) (ix x0 i) x1 = true := by simpa using hl
    rw [if_neg (by simp; omega), if_pos hl1, AddInt_false x0 x1 m (i + 1) _ (by omega) (by omega), List.append_assoc]
    rfl
   ·have hl2 : ¬ (fun a b : Int => decide (a < b)) (ix x0 i) x1 = true := by simpa using hl
    rw [if_pos (by simp; omega), if_neg hl2]
    by_cases he : ix x0 i = x1
    ·rw [if_neg (by simp [he]), if_pos he, AddInt_true x0 x1 _ m (i + 1) _ (by omega) (by omega), if_neg (by simp), List.append_assoc]
     rfl
    ·rw [if_pos (by simp [he]), if_neg he, AddInt_true x0 x1 _ m (i + 1) _ (by omega) (by omega), if_neg (by simp), List.append_assoc, List.append_assoc]
     rfl
theorem AddInt_ins (l : List Int) (x : Int) : ep l x = insS (fun a b => decide (a < b)) x l := by
 unfold ep
 rw [AddInt_false l x _ 0 [] rfl (by omega)]
 simp
theorem AddInt_len {l y : List Int} {x : Int} (h : ep l x = y) : y.length ≤ l.length + 1 := by
 rw [← h, AddInt_ins]
 exact rq _ _ _
theorem au7 {α : Type} [Inhabited α] [DecidableEq α] (l : List α) : (cpt l).length ≤ l.length := xg l _
theorem bg0 {n : List ab} {s : au} (h : (lk n s).2 = 0) : n.length ≤ 24 := by
 unfold lk at h
 split at h
 ·simp at h
 ·rename_i h1
  simp at h1
  omega
theorem av1 {c : ck} {n : List ab} {w : Int} (h : fa c n w = 0) : n.length ≤ 24 := by
 unfold fa at h
 simp only [LET] at h
 split at h
 ·simp at h
 ·exact bg0 h
theorem br1 {c : ck} {s : aj} (h : di c s = 0) : (s.Kind = 1 ∨ s.Kind = 5 → s.Value.length ≤ 24) ∧ (s.Kind = 4 ∨ s.Kind = 5 → s.Index.length ≤ 24) ∧ (s.Kind = 2 ∨ s.Kind = 3 → 0 ≤ s.Header ∧ s.Header < c.scope.Program.Headers.length) := by
 unfold di at h
 simp only [LET] at h
 by_cases k1 : s.Kind = 1
 ·rw [if_pos (by simp [k1])] at h
  split at h
  ·simp at h
  ·exact ⟨fun _ => av1 h, fun q => by omega, fun q => by omega⟩
 rw [if_neg (by simp [k1])] at h
 by_cases k2 : s.Kind = 2 ∨ s.Kind = 3
 ·have e : (if decide (s.Kind = 2) = true then (if (decide (s.Header < 0) || decide ((c.scope.Program.Headers.length : Int) ≤ s.Header)) = true then (8 : Int) else 0) else (if (decide (s.Header < 0) || decide ((c.scope.Program.Headers.length : Int) ≤ s.Header)) = true then 8 else 0)) = 0 := by
   rcases k2 with k2 | k2
   ·simpa [k2] using h
   ·simpa [k2] using h
  rw [ite_self] at e
  split at e
  ·simp at e
  ·rename_i h1
   simp at h1
   exact ⟨fun q => by omega, fun q => by omega, fun _ => by omega⟩
 by_cases k4 : s.Kind = 4
 ·rw [if_neg (by simp; omega), if_neg (by simp; omega), if_pos (by simp [k4]), if_pos (by simp [k4])] at h
  split at h
  ·simp at h
  split at h
  ·rename_i h1
   rw [h] at h1
   simp at h1
  ·rename_i h1
   simp at h1
   exact ⟨fun q => by omega, fun _ => bg0 h1, fun q => by omega⟩
 by_cases k5 : s.Kind = 5
 ·rw [if_neg (by simp; omega), if_neg (by simp; omega), if_neg (by simp; omega), if_pos (by simp [k5])] at h
  split at h
  ·simp at h
  split at h
  ·rename_i h1
   rw [h] at h1
   simp at h1
  ·rename_i h1
   simp at h1
   rw [if_pos (by simp [k5])] at h
   exact ⟨fun _ => av1 h, fun _ => bg0 h1, fun q => by omega⟩
 exact ⟨fun q => by omega, fun q => by omega, fun q => by omega⟩
theorem bo5 (p : af) (i : Int) : ∀ (m : Nat) (j : Int), m = Int.toNat (((ix p.Actions i).Body.length : Int) - j) → (ib p i (fun _ => (0, 0)) m j).2 = 0 → ∀ k, j ≤ k → k < ((ix p.Actions i).Body.length : Int) → di { scope := { Program := p, Params := (ix p.Actions i).Params } } (ix (ix p.Actions i).Body k) = 0
 | 0, j, hm, h, k, h1, h2 => by omega
 | m + 1, j, hm, h, k, h1, h2 => by
   rw [ib] at h
   simp only [LET] at h
   split at h
   ·rename_i h3
    simp at h3
    exact absurd h h3
   ·rename_i h3
    simp at h3
    by_cases e : k = j
    ·subst e; exact h3
    ·exact bo5 p i m (j + 1) (by omega) h k (by omega) h2
theorem bn4 {p : af} {i : Int} {y : Int × Int} (h : iz p i = y) (h2 : y.2 = 0) : 0 ≤ i ∧ i < p.Actions.length := by
 subst h
 unfold iz at h2
 split at h2
 ·simp at h2
 ·rename_i h1
  simp at h1
  omega
theorem by2 {a : bg} (h : ii a = 0) : a.Body.length ≤ 12 := by
 unfold ii at h
 simp only [LET] at h
 split at h
 ·simp at h
 split at h
 ·simp at h
 ·rename_i h1
  simp at h1
  omega
def BO (p : af) (l : List aj) : Prop := l.length ≤ 12 ∧ ∀ k : Int, 0 ≤ k → k < l.length → ((ix l k).Kind = 1 ∨ (ix l k).Kind = 5 → (ix l k).Value.length ≤ 24) ∧ ((ix l k).Kind = 4 ∨ (ix l k).Kind = 5 → (ix l k).Index.length ≤ 24) ∧ ((ix l k).Kind = 2 ∨ (ix l k).Kind = 3 → 0 ≤ (ix l k).Header ∧ (ix l k).Header < p.Headers.length)
theorem vv {p : af} {i : Int} {y : List aj} (h : jh p i = y) : BO p y := by
 unfold jh at h
 simp only [LET] at h
 subst h
 split
 ·exact ⟨by simp, fun k h1 h2 => absurd h2 (by simp; omega)⟩
 ·rename_i h1
  simp at h1
  unfold iz at h1
  split at h1
  ·simp at h1
  simp only [LET] at h1
  split at h1
  ·rename_i h3
   simp at h3
   exact absurd h1 h3
  ·rename_i h3
   simp at h3
   exact ⟨by2 h3, fun k k1 k2 => br1 (bo5 p i _ 0 rfl h1 k k1 k2)⟩
theorem bo_v {p : af} {l : List aj} {k : Int} (h : BO p l) (h0 : 0 ≤ k) (h1 : k < l.length) (hk : (ix l k).Kind = 1 ∨ (ix l k).Kind = 5) : (ix l k).Value.length ≤ 24 := (h.2 k h0 h1).1 hk
theorem bo_i {p : af} {l : List aj} {k : Int} (h : BO p l) (h0 : 0 ≤ k) (h1 : k < l.length) (hk : (ix l k).Kind = 4 ∨ (ix l k).Kind = 5) : (ix l k).Index.length ≤ 24 := (h.2 k h0 h1).2.1 hk
theorem bo_h {p : af} {l : List aj} {k : Int} (h : BO p l) (h0 : 0 ≤ k) (h1 : k < l.length) (hk : (ix l k).Kind = 2 ∨ (ix l k).Kind = 3) : 0 ≤ (ix l k).Header ∧ (ix l k).Header < p.Headers.length := (h.2 k h0 h1).2.2 hk
theorem jot {p q : Prop} [Decidable p] [Decidable q] {x : Bool} (h : x = (if decide p = true then decide p else decide q)) (hx : x = true) : p ∨ q := by
 subst h
 by_cases hp : p
 ·exact .inl hp
 ·simp [hp] at hx; exact .inr hx
theorem bk9 (n : List ab) (K : List aa → List aa) (b : Nat) (hK : ∀ l : List aa, l.length ≤ b → (K l).length ≤ b) : ∀ (m : Nat) (j : Int) (z : List aa), z.length + m ≤ b → (ga n K m j z).length ≤ b
 | 0, j, z, h => by rw [ga]; exact hK z (by omega)
 | m + 1, j, z, h => by
   rw [ga]
   split
   ·exact bk9 n K b hK m (j + 1) _ (by simp; omega)
   ·exact bk9 n K b hK m (j + 1) z (by omega)
theorem bh9 (n : List ab) (K : List Int → List Int) (b : Nat) (hK : ∀ l : List Int, l.length ≤ b → (K l).length ≤ b) : ∀ (m : Nat) (j : Int) (z : List Int), z.length + m ≤ b → (fg n K m j z).length ≤ b
 | 0, j, z, h => by rw [fg]; exact hK z (by omega)
 | m + 1, j, z, h => by
   rw [fg]
   split
   ·exact bh9 n K b hK m (j + 1) _ (by simp; omega)
   ·exact bh9 n K b hK m (j + 1) z (by omega)
theorem qy (n : List ab) : (jv n).length ≤ n.length := by
 unfold jv
 refine bk9 n _ n.length (fun l hl => ?_) _ _ _ (by simp)
 simp only [LET]
 refine Nat.le_trans (au7 _) ?_
 rw [il, List.length_mergeSort]
 exact hl
theorem pw (n : List ab) : (jb n).length ≤ n.length := by
 unfold jb
 refine bh9 n _ n.length (fun l hl => ?_) _ _ _ (by simp)
 simp only [LET]
 refine Nat.le_trans (au7 _) ?_
 rw [dq, List.length_mergeSort]
 exact hl
theorem nl {a y : bd} {n : List ab} (h : cw a n = y) : y.fields.length ≤ a.fields.length + n.length ∧ y.headers.length ≤ a.headers.length + n.length ∧ y.registers.length = a.registers.length := by
 subst h
 unfold cw
 have h1 := qy n
 have h2 := pw n
 refine ⟨?_, ?_, rfl⟩
 ·show (a.fields ++ jv n).length ≤ _
  rw [List.length_append]; omega
 ·show (a.headers ++ jb n).length ≤ _
  rw [List.length_append]; omega
def SmH (p : af) : Prop := ∀ k : Int, 0 ≤ k → k < p.Headers.length → (ix p.Headers k).Fields.length ≤ 1000
def QL (r : List aa × List Int × List Int) : Prop := r.1.length ≤ 13000 ∧ r.2.1.length ≤ 13000 ∧ r.2.2.length ≤ 13000
end Go.Proofs.YtmonnlkagniolaaGreat
