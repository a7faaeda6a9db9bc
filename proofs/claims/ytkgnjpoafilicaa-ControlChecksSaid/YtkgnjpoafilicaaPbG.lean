/-
  Plain library, part 42: records of two or three numbers or truth values compared.
-/
import Derived.Test.YtkgnjpoafilicaaPbEq
set_option linter.unusedVariables false
set_option linter.unusedSimpArgs false
namespace Go.Pb
open Go Go.RowKit
section
variable {P : Program} {t : TypeId} {ox oy : Operand}
end
end Go.Pb
