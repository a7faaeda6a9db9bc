import Derived.Test.YtmonnlkagniolaaGreatKDef
import Derived.Test.YtmonnlkagniolaaGreatPbV
import Derived.Test.YtmonnlkagniolaaGreatPbV
import Derived.Test.YtmonnlkagniolaaGreatPbP
set_option linter.unusedVariables false
set_option linter.unusedSimpArgs false
set_option maxRecDepth 100000
namespace Go.Proofs.YtmonnlkagniolaaGreat
open Go Go.Pb Go.RowKit
def frs (x0 : List af) : List aa := (x0.filter fun x => decide (x.Op = 2)).map fun x => ({ Header := x.N, Field := x.W } : aa)
def hds (x0 : List af) : List Int := (x0.filter fun x => decide (x.Op = 4)).map (·.N)
theorem bx8 {n : List af} {s : bc} (h : (mf n s).2 = 0) : n.length ≤ 24 := by
 unfold mf at h
 split at h
 ·simp at h
 ·rename_i h1
  simp at h1
  omega
theorem bd8 {c : cz} {n : List af} {w : Int} (h : jc c n w = 0) : n.length ≤ 24 := by
 unfold jc at h
 simp only [LET] at h
 split at h
 ·simp at h
 ·exact bx8 h
theorem cs7 {c : cz} {s : ak} (h : ek c s = 0) : (s.Kind = 1 ∨ s.Kind = 5 → s.Value.length ≤ 24) ∧ (s.Kind = 4 ∨ s.Kind = 5 → s.Index.length ≤ 24) ∧ (s.Kind = 2 ∨ s.Kind = 3 → 0 ≤ s.Header ∧ s.Header < c.scope.Program.Headers.length) := by
 unfold ek at h
 simp only [LET] at h
 by_cases k1 : s.Kind = 1
 ·rw [if_pos (by simp [k1])] at h
  split at h
  ·simp at h
  ·exact ⟨fun _ => bd8 h, fun q => by omega, fun q => by omega⟩
 rw [if_neg (by simp [k1])] at h
 by_cases k2 : s.Kind = 2 ∨ s.Kind = 3
 ·have e : (if decide (s.Kind = 2) = true then (if (decide (s.Header < 0) || decide ((c.scope.Program.Headers.length : Int) ≤ s.Header)) = true then (8 : Int) else 0) else (if (decide (s.Header < 0) || decide ((c.scope.Program.Headers.length : Int) ≤ s.Header)) = true then 8 else 0)) = 0 := by
   rcases k2 with k2 | k2
   ·simpa [k2] using h
   ·simpa [k2] using h
  rw [ite_self] at e
  split at e
  ·simp at e
  ·rename_i h1
   simp at h1
   exact ⟨fun q => by omega, fun q => by omega, fun _ => by omega⟩
 by_cases k4 : s.Kind = 4
 ·rw [if_neg (by simp; omega), if_neg (by simp; omega), if_pos (by simp [k4]), if_pos (by simp [k4])] at h
  split at h
  ·simp at h
  split at h
  ·rename_i h1
   rw [h] at h1
   simp at h1
  ·rename_i h1
   simp at h1
   exact ⟨fun q => by omega, fun _ => bx8 h1, fun q => by omega⟩
 by_cases k5 : s.Kind = 5
 ·rw [if_neg (by simp; omega), if_neg (by simp; omega), if_neg (by simp; omega), if_pos (by simp [k5])] at h
  split at h
  ·simp at h
  split at h
  ·rename_i h1
   rw [h] at h1
   simp at h1
  ·rename_i h1
   simp at h1
   rw [if_pos (by simp [k5])] at h
   exact ⟨fun _ => bd8 h, fun _ => bx8 h1, fun q => by omega⟩
 exact ⟨fun q => by omega, fun q => by omega, fun q => by omega⟩
theorem cv7 (p : ab) (i : Int) : ∀ (m : Nat) (j : Int), m = Int.toNat (((ix p.Actions i).Body.length : Int) - j) → (gz p i (fun _ => (0, 0)) m j).2 = 0 → ∀ k, j ≤ k → k < ((ix p.Actions i).Body.length : Int) → ek { scope := { Program := p, Params := (ix p.Actions i).Params } } (ix (ix p.Actions i).Body k) = 0
 | 0, j, hm, h, k, h1, h2 => by omega
 | m + 1, j, hm, h, k, h1, h2 => by
   rw [gz] at h
   simp only [LET] at h
   split at h
   ·rename_i h3
    simp at h3
    exact absurd h h3
   ·rename_i h3
    simp at h3
    by_cases e : k = j
    ·subst e; exact h3
    ·exact cv7 p i m (j + 1) (by omega) h k (by omega) h2
theorem cx9 {p : ab} {i : Int} {y : Int × Int} (h : gw p i = y) (h2 : y.2 = 0) : 0 ≤ i ∧ i < p.Actions.length := by
 subst h
 unfold gw at h2
 split at h2
 ·simp at h2
 ·rename_i h1
  simp at h1
  omega
theorem cp5 {a : bp} (h : ji a = 0) : a.Body.length ≤ 12 := by
 unfold ji at h
 simp only [LET] at h
 split at h
 ·simp at h
 split at h
 ·simp at h
 ·rename_i h1
  simp at h1
  omega
def BO (p : ab) (l : List ak) : Prop := l.length ≤ 12 ∧ ∀ k : Int, 0 ≤ k → k < l.length → ((ix l k).Kind = 1 ∨ (ix l k).Kind = 5 → (ix l k).Value.length ≤ 24) ∧ ((ix l k).Kind = 4 ∨ (ix l k).Kind = 5 → (ix l k).Index.length ≤ 24) ∧ ((ix l k).Kind = 2 ∨ (ix l k).Kind = 3 → 0 ≤ (ix l k).Header ∧ (ix l k).Header < p.Headers.length)
theorem bk7 {p : ab} {i : Int} {y : List ak} (h : jm p i = y) : BO p y := by
 unfold jm at h
 simp only [LET] at h
 subst h
 split
 ·exact ⟨by simp, fun k h1 h2 => absurd h2 (by simp; omega)⟩
 ·rename_i h1
  simp at h1
  unfold gw at h1
  split at h1
  ·simp at h1
  simp only [LET] at h1
  split at h1
  ·rename_i h3
   simp at h3
   exact absurd h1 h3
  ·rename_i h3
   simp at h3
   exact ⟨cp5 h3, fun k k1 k2 => cs7 (cv7 p i _ 0 rfl h1 k k1 k2)⟩
theorem bo_h {p : ab} {l : List ak} {k : Int} (h : BO p l) (h0 : 0 ≤ k) (h1 : k < l.length) (hk : (ix l k).Kind = 2 ∨ (ix l k).Kind = 3) : 0 ≤ (ix l k).Header ∧ (ix l k).Header < p.Headers.length := (h.2 k h0 h1).2.2 hk
theorem jot {p q : Prop} [Decidable p] [Decidable q] {x : Bool} (h : x = (if decide p = true then decide p else decide q)) (hx : x = true) : p ∨ q := by
 subst h
 by_cases hp : p
 ·exact .inl hp
 ·simp [hp] at hx; exact .inr hx
def SmH (p : ab) : Prop := ∀ k : Int, 0 ≤ k → k < p.Headers.length → (ix p.Headers k).Fields.length ≤ 1000
def QL (r : List aa × List Int × List Int) : Prop := r.1.length ≤ 13000 ∧ r.2.1.length ≤ 13000 ∧ r.2.2.length ≤ 13000
end Go.Proofs.YtmonnlkagniolaaGreat
