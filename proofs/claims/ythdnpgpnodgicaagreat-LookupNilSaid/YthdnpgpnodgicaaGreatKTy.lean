/-
  The records of this seat, and what it means that memory holds one.
-/
import Derived.Test.YthdnpgpnodgicaaGreatPbEq
import Derived.Test.YthdnpgpnodgicaaGreatRows
set_option linter.unusedVariables false
set_option linter.unusedSimpArgs false
set_option maxRecDepth 100000
namespace Go.Proofs.YthdnpgpnodgicaaGreat
open Go Go.Pb Go.RowKit

end Go.Proofs.YthdnpgpnodgicaaGreat
