import Derived.Test.YthdnpgpnodgicaaGreatPbEq
set_option linter.all false
namespace Go.Pb
open Go
def tabI {α : Type} (i : Int) (m : Nat) (f : Int → α) : List α := match m with
 | 0 => []
 | m + 1 => f i :: tabI (i + 1) m f
section
variable {α β : Type} {i : Int} {m : Nat} {f g : Int → α}
theorem tf : ∀ {m : Nat} {i : Int}, (tabI i m f).length = m
 | 0, _ => rfl
 | m + 1, i => by simp [tabI, tf (m := m)]
theorem am6 [Inhabited α] : ∀ {m : Nat} {i j : Int}, 0 ≤ j → j < m → ix (tabI i m f) j = f (i + j)
 | 0, i, j, h0, h1 => by omega
 | m + 1, i, j, h0, h1 => by
   by_cases h : j = 0
   ·subst h; simp [tabI, ix]
   ·have := am6 (m := m) (i := i + 1) (j := j - 1) (by omega) (by omega)
    have e : j.toNat = (j - 1).toNat + 1 := by omega
    simp only [ix] at this ⊢
    rw [e]
    simp only [tabI, List.getD_cons_succ]
    rw [this]
    congr 1; omega
end
section
variable {α : Type} [Inhabited α] [DecidableEq α] {l k : List α} {f : Nat → Int → Bool}
end
theorem bu8 {α : Type} (l : List (Int × α)) (k j : Int) (v : α) : mget (mput l k v) j = if k = j then some v else mget l j := by
 induction l with
 | nil => simp [mput, mget]
 | cons p l ih =>
   simp only [mput]
   by_cases h : p.1 = k
   ·simp only [h, if_true, mget]
    split
    ·rfl
    ·rename_i h2; simp [h2]
   ·simp only [h, if_false, mget, ih]
    by_cases h2 : p.1 = j
    ·have : ¬k = j := by omega
     simp [h2, this]
    ·simp [h2]
theorem cn0 {α : Type} (k : Int) : mget ([] : List (Int × α)) k = none := rfl
end Go.Pb
