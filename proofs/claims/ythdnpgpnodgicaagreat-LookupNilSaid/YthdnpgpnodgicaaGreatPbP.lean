/-
  Plain library.
-/
import Derived.Test.YthdnpgpnodgicaaGreatPbEq
/-
  Plain library, part 32: facts on lists told by numbers, for the plain programs.
-/
set_option linter.unusedVariables false
set_option linter.unusedSimpArgs false
namespace Go.Pb
open Go

/-- The values of a function at i, i + 1, .. -/
def tabI {α : Type} (i : Int) (m : Nat) (f : Int → α) : List α := match m with
  | 0 => []
  | m + 1 => f i :: tabI (i + 1) m f
section
variable {α β : Type} {i : Int} {m : Nat} {f g : Int → α}
end
/-! Loops that compare two lists -/
section
variable {α : Type} [Inhabited α] [DecidableEq α] {l k : List α} {f : Nat → Int → Bool}
end
/-! Maps -/
end Go.Pb
