/-
  ExprFits: the plain law.
-/
import Derived.Test.YtfekghenlhoamaaKEnd
set_option maxRecDepth 100000
namespace Go.Proofs.Ytfekghenlhoamaa
theorem ExprFits_law (x0 : law13_Args) : law13_ExprFits x0 = true := ExprFits_pure x0
end Go.Proofs.Ytfekghenlhoamaa
