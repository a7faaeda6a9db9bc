/-
  Plain library.
-/
import Derived.Test.YthdnpgpnodgicaaGreatPbT
/-
  Plain library, part 31: records of numbers compared.
-/
set_option linter.unusedVariables false
set_option linter.unusedSimpArgs false
namespace Go.Pb
open Go Go.RowKit

section
variable {P : Program} {t : TypeId} {ox oy : Operand}
end
end Go.Pb

/-
  Plain library, part 42: records of two or three numbers or truth values compared.
-/
set_option linter.unusedVariables false
set_option linter.unusedSimpArgs false
namespace Go.Pb
open Go Go.RowKit
section
variable {P : Program} {t : TypeId} {ox oy : Operand}
end
end Go.Pb
