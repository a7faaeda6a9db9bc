/-
  Plain library.
-/
import Derived.Test.YthdnpgpnodgicaaGreatPbEq
/-
  Plain library, part 32: facts on lists told by numbers, for the plain programs.
-/
set_option linter.unusedVariables false
set_option linter.unusedSimpArgs false
namespace Go.Pb
open Go

/-- The values of a function at i, i + 1, .. -/
def tabI {α : Type} (i : Int) (m : Nat) (f : Int → α) : List α := match m with
  | 0 => []
  | m + 1 => f i :: tabI (i + 1) m f
section
variable {α β : Type} {i : Int} {m : Nat} {f g : Int → α}
end
/-! Loops that compare two lists -/
section
variable {α : Type} [Inhabited α] [DecidableEq α] {l k : List α} {f : Nat → Int → Bool}
end
/-! Maps -/
theorem mget_mput {α : Type} (l : List (Int × α)) (k j : Int) (v : α) : mget (mput l k v) j = if k = j then some v else mget l j := by
  induction l with
  | nil => simp [mput, mget]
  | cons p l ih =>
    simp only [mput]
    by_cases h : p.1 = k
    · simp only [h, if_true, mget]
      split
      · rfl
      · rename_i h2; simp [h2]
    · simp only [h, if_false, mget, ih]
      by_cases h2 : p.1 = j
      · have : ¬k = j := by omega
        simp [h2, this]
      · simp [h2]
end Go.Pb
