import Derived.Test.YtmonnlkagniolaaGreatKDef
import Derived.Test.YtmonnlkagniolaaGreatPbV
import Derived.Test.YtmonnlkagniolaaGreatPbV
import Derived.Test.YtmonnlkagniolaaGreatPbP
set_option linter.unusedVariables false
set_option linter.unusedSimpArgs false
set_option maxRecDepth 100000
namespace Go.Proofs.YtmonnlkagniolaaGreat
open Go Go.Pb Go.RowKit
theorem dropix {α : Type} [Inhabited α] {c : List α} {i : Int} (h0 : 0 ≤ i) (h1 : i < c.length) : c.drop i.toNat = ix c i :: c.drop (i + 1).toNat := by
 rw [ut h0 h1, show (i + 1).toNat = i.toNat + 1 by omega]
 exact List.drop_eq_getElem_cons (by omega)
def frs (x0 : List af) : List aa := (x0.filter fun x => decide (x.Op = 2)).map fun x => ({ Header := x.N, Field := x.W } : aa)
def hds (x0 : List af) : List Int := (x0.filter fun x => decide (x.Op = 4)).map (·.N)
theorem aa4 (x0 : List af) (K : List aa → List aa) : ∀ (m : Nat) (i : Int) (z : List aa), m = Int.toNat ((x0.length : Int) - i) → 0 ≤ i → iz x0 K m i z = K (z ++ frs (x0.drop i.toNat))
 | 0, i, z, hm, h0 => by
   rw [iz, List.drop_eq_nil_of_le (by omega)]
   simp [frs]
 | m + 1, i, z, hm, h0 => by
   rw [iz, dropix (c := x0) (i := i) h0 (by omega)]
   unfold frs
   rw [List.filter_cons]
   split
   ·rw [aa4 x0 K m (i + 1) _ (by omega) (by omega)]
    simp [frs]
   ·rw [aa4 x0 K m (i + 1) _ (by omega) (by omega)]
    simp [frs]
theorem xq (x0 : List af) (K : List Int → List Int) : ∀ (m : Nat) (i : Int) (z : List Int), m = Int.toNat ((x0.length : Int) - i) → 0 ≤ i → ie x0 K m i z = K (z ++ hds (x0.drop i.toNat))
 | 0, i, z, hm, h0 => by
   rw [ie, List.drop_eq_nil_of_le (by omega)]
   simp [hds]
 | m + 1, i, z, hm, h0 => by
   rw [ie, dropix (c := x0) (i := i) h0 (by omega)]
   unfold hds
   rw [List.filter_cons]
   split
   ·rw [xq x0 K m (i + 1) _ (by omega) (by omega)]
    simp [hds]
   ·rw [xq x0 K m (i + 1) _ (by omega) (by omega)]
    simp [hds]
theorem az7 (x0 : List af) : jm x0 = cpt (mm (frs x0)) := by
 unfold jm
 rw [aa4 x0 _ _ 0 [] rfl (by omega)]
 rfl
theorem ax4 (x0 : List af) : ir x0 = cpt (jd (hds x0)) := by
 unfold ir
 rw [xq x0 _ _ 0 [] rfl (by omega)]
 rfl
theorem bj6 {α : Type} [Inhabited α] [DecidableEq α] (l : List α) : (cpt l).length ≤ l.length := ad6 l _
theorem bw4 {n : List af} {s : bd} (h : (mu n s).2 = 0) : n.length ≤ 24 := by
 unfold mu at h
 split at h
 ·simp at h
 ·rename_i h1
  simp at h1
  omega
theorem bd9 {c : da} {n : List af} {w : Int} (h : jr c n w = 0) : n.length ≤ 24 := by
 unfold jr at h
 simp only [LET] at h
 split at h
 ·simp at h
 ·exact bw4 h
theorem cu0 {c : da} {s : ak} (h : en c s = 0) : (s.Kind = 1 ∨ s.Kind = 5 → s.Value.length ≤ 24) ∧ (s.Kind = 4 ∨ s.Kind = 5 → s.Index.length ≤ 24) ∧ (s.Kind = 2 ∨ s.Kind = 3 → 0 ≤ s.Header ∧ s.Header < c.scope.Program.Headers.length) := by
 unfold en at h
 simp only [LET] at h
 by_cases k1 : s.Kind = 1
 ·rw [if_pos (by simp [k1])] at h
  split at h
  ·simp at h
  ·exact ⟨fun _ => bd9 h, fun q => by omega, fun q => by omega⟩
 rw [if_neg (by simp [k1])] at h
 by_cases k2 : s.Kind = 2 ∨ s.Kind = 3
 ·have e : (if decide (s.Kind = 2) = true then (if (decide (s.Header < 0) || decide ((c.scope.Program.Headers.length : Int) ≤ s.Header)) = true then (8 : Int) else 0) else (if (decide (s.Header < 0) || decide ((c.scope.Program.Headers.length : Int) ≤ s.Header)) = true then 8 else 0)) = 0 := by
   rcases k2 with k2 | k2
   ·simpa [k2] using h
   ·simpa [k2] using h
  rw [ite_self] at e
  split at e
  ·simp at e
  ·rename_i h1
   simp at h1
   exact ⟨fun q => by omega, fun q => by omega, fun _ => by omega⟩
 by_cases k4 : s.Kind = 4
 ·rw [if_neg (by simp; omega), if_neg (by simp; omega), if_pos (by simp [k4]), if_pos (by simp [k4])] at h
  split at h
  ·simp at h
  split at h
  ·rename_i h1
   rw [h] at h1
   simp at h1
  ·rename_i h1
   simp at h1
   exact ⟨fun q => by omega, fun _ => bw4 h1, fun q => by omega⟩
 by_cases k5 : s.Kind = 5
 ·rw [if_neg (by simp; omega), if_neg (by simp; omega), if_neg (by simp; omega), if_pos (by simp [k5])] at h
  split at h
  ·simp at h
  split at h
  ·rename_i h1
   rw [h] at h1
   simp at h1
  ·rename_i h1
   simp at h1
   rw [if_pos (by simp [k5])] at h
   exact ⟨fun _ => bd9 h, fun _ => bw4 h1, fun q => by omega⟩
 exact ⟨fun q => by omega, fun q => by omega, fun q => by omega⟩
theorem cx0 (p : ae) (i : Int) : ∀ (m : Nat) (j : Int), m = Int.toNat (((ix p.Actions i).Body.length : Int) - j) → (ig p i (fun _ => (0, 0)) m j).2 = 0 → ∀ k, j ≤ k → k < ((ix p.Actions i).Body.length : Int) → en { scope := { Program := p, Params := (ix p.Actions i).Params } } (ix (ix p.Actions i).Body k) = 0
 | 0, j, hm, h, k, h1, h2 => by omega
 | m + 1, j, hm, h, k, h1, h2 => by
   rw [ig] at h
   simp only [LET] at h
   split at h
   ·rename_i h3
    simp at h3
    exact absurd h h3
   ·rename_i h3
    simp at h3
    by_cases e : k = j
    ·subst e; exact h3
    ·exact cx0 p i m (j + 1) (by omega) h k (by omega) h2
theorem cw5 {p : ae} {i : Int} {y : Int × Int} (h : iu p i = y) (h2 : y.2 = 0) : 0 ≤ i ∧ i < p.Actions.length := by
 subst h
 unfold iu at h2
 split at h2
 ·simp at h2
 ·rename_i h1
  simp at h1
  omega
theorem ci5 {a : cb} (h : jy a = 0) : a.Body.length ≤ 12 := by
 unfold jy at h
 simp only [LET] at h
 split at h
 ·simp at h
 split at h
 ·simp at h
 ·rename_i h1
  simp at h1
  omega
def BO (p : ae) (l : List ak) : Prop := l.length ≤ 12 ∧ ∀ k : Int, 0 ≤ k → k < l.length → ((ix l k).Kind = 1 ∨ (ix l k).Kind = 5 → (ix l k).Value.length ≤ 24) ∧ ((ix l k).Kind = 4 ∨ (ix l k).Kind = 5 → (ix l k).Index.length ≤ 24) ∧ ((ix l k).Kind = 2 ∨ (ix l k).Kind = 3 → 0 ≤ (ix l k).Header ∧ (ix l k).Header < p.Headers.length)
theorem ad9 {p : ae} {i : Int} {y : List ak} (h : im p i = y) : BO p y := by
 unfold im at h
 simp only [LET] at h
 subst h
 split
 ·exact ⟨by simp, fun k h1 h2 => absurd h2 (by simp; omega)⟩
 ·rename_i h1
  simp at h1
  unfold iu at h1
  split at h1
  ·simp at h1
  simp only [LET] at h1
  split at h1
  ·rename_i h3
   simp at h3
   exact absurd h1 h3
  ·rename_i h3
   simp at h3
   exact ⟨ci5 h3, fun k k1 k2 => cu0 (cx0 p i _ 0 rfl h1 k k1 k2)⟩
theorem bo_v {p : ae} {l : List ak} {k : Int} (h : BO p l) (h0 : 0 ≤ k) (h1 : k < l.length) (hk : (ix l k).Kind = 1 ∨ (ix l k).Kind = 5) : (ix l k).Value.length ≤ 24 := (h.2 k h0 h1).1 hk
theorem bo_i {p : ae} {l : List ak} {k : Int} (h : BO p l) (h0 : 0 ≤ k) (h1 : k < l.length) (hk : (ix l k).Kind = 4 ∨ (ix l k).Kind = 5) : (ix l k).Index.length ≤ 24 := (h.2 k h0 h1).2.1 hk
theorem bo_h {p : ae} {l : List ak} {k : Int} (h : BO p l) (h0 : 0 ≤ k) (h1 : k < l.length) (hk : (ix l k).Kind = 2 ∨ (ix l k).Kind = 3) : 0 ≤ (ix l k).Header ∧ (ix l k).Header < p.Headers.length := (h.2 k h0 h1).2.2 hk
theorem jot {p q : Prop} [Decidable p] [Decidable q] {x : Bool} (h : x = (if decide p = true then decide p else decide q)) (hx : x = true) : p ∨ q := by
 subst h
 by_cases hp : p
 ·exact .inl hp
 ·simp [hp] at hx; exact .inr hx
theorem cf9 (n : List af) (K : List aa → List aa) (b : Nat) (hK : ∀ l : List aa, l.length ≤ b → (K l).length ≤ b) : ∀ (m : Nat) (j : Int) (z : List aa), z.length + m ≤ b → (iz n K m j z).length ≤ b
 | 0, j, z, h => by rw [iz]; exact hK z (by omega)
 | m + 1, j, z, h => by
   rw [iz]
   split
   ·exact cf9 n K b hK m (j + 1) _ (by simp; omega)
   ·exact cf9 n K b hK m (j + 1) z (by omega)
theorem ce2 (n : List af) (K : List Int → List Int) (b : Nat) (hK : ∀ l : List Int, l.length ≤ b → (K l).length ≤ b) : ∀ (m : Nat) (j : Int) (z : List Int), z.length + m ≤ b → (ie n K m j z).length ≤ b
 | 0, j, z, h => by rw [ie]; exact hK z (by omega)
 | m + 1, j, z, h => by
   rw [ie]
   split
   ·exact ce2 n K b hK m (j + 1) _ (by simp; omega)
   ·exact ce2 n K b hK m (j + 1) z (by omega)
theorem af8 (n : List af) : (jm n).length ≤ n.length := by
 unfold jm
 refine cf9 n _ n.length (fun l hl => ?_) _ _ _ (by simp)
 simp only [LET]
 refine Nat.le_trans (bj6 _) ?_
 rw [mm, List.length_mergeSort]
 exact hl
theorem ac1 (n : List af) : (ir n).length ≤ n.length := by
 unfold ir
 refine ce2 n _ n.length (fun l hl => ?_) _ _ _ (by simp)
 simp only [LET]
 refine Nat.le_trans (bj6 _) ?_
 rw [jd, List.length_mergeSort]
 exact hl
theorem qd {a y : bq} {n : List af} (h : fi a n = y) : y.fields.length ≤ a.fields.length + n.length ∧ y.headers.length ≤ a.headers.length + n.length ∧ y.registers.length = a.registers.length := by
 subst h
 unfold fi
 have h1 := af8 n
 have h2 := ac1 n
 refine ⟨?_, ?_, rfl⟩
 ·show (a.fields ++ jm n).length ≤ _
  rw [List.length_append]; omega
 ·show (a.headers ++ ir n).length ≤ _
  rw [List.length_append]; omega
def SmH (p : ae) : Prop := ∀ k : Int, 0 ≤ k → k < p.Headers.length → (ix p.Headers k).Fields.length ≤ 1000
def QL (r : List aa × List Int × List Int) : Prop := r.1.length ≤ 13000 ∧ r.2.1.length ≤ 13000 ∧ r.2.2.length ≤ 13000
end Go.Proofs.YtmonnlkagniolaaGreat
