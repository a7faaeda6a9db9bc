/-
  Plain library, part 31: records of numbers compared.
-/
import Derived.Test.YtkgnjpoafilicaaPbN
set_option linter.unusedVariables false
set_option linter.unusedSimpArgs false
namespace Go.Pb
open Go Go.RowKit

section
variable {P : Program} {t : TypeId} {ox oy : Operand}
end
end Go.Pb
