/-
  LookupNil: an index that is nil, or new, holds nothing.
-/
import Derived.Test.YthdnpgpnodgicaaGreatKDef
set_option linter.unusedVariables false
set_option linter.unusedSimpArgs false
set_option maxRecDepth 100000
namespace Go.Proofs.YthdnpgpnodgicaaGreat
open Go Go.Pb Go.RowKit
theorem LookupNil_law (x0 : List (BitVec 32)) : law24_LookupNil x0 = true := rfl
end Go.Proofs.YthdnpgpnodgicaaGreat
