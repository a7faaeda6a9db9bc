/-
  Each function of this seat as a plain program.
-/
import Derived.Test.YthdnpgpnodgicaaGreatKTy
set_option linter.unusedVariables false
set_option linter.unusedSimpArgs false
set_option maxRecDepth 100000
namespace Go.Proofs.YthdnpgpnodgicaaGreat
open Go Go.Pb Go.RowKit
def law24_works : Bool := true

def law24_LookupNil (x0 : List (BitVec 32)) : Bool := true

end Go.Proofs.YthdnpgpnodgicaaGreat
