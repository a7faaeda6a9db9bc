/-
 From a plain law to its function.
-/
import Derived.Test.YtmonnlkagniolaaGreatL5Rd
import Derived.Test.YtmonnlkagniolaaGreatL5W12
set_option linter.all false
set_option maxRecDepth 100000
namespace Go.Proofs.YtmonnlkagniolaaGreat
open Go Go.Pb Go.RowKit
theorem DepsBuilds_row(H:∀(a0:ae)(a1:List ba),pj a0 a1=true)(css:List PV)(h:All2 (λt c=>IsArg Tryz.prog t c) [31,68] css):FnR Tryz.prog 5 css (.sc (.bool true)):=by
 match css,h with
 |[c0,c1],⟨h0,h1,_⟩=>
 obtain⟨a0,r0⟩:=dz5 h0;obtain⟨a1,r1⟩:=dx2 h1;have f:=ea8 r0 r1;rw[H]at f;exact f
end Go.Proofs.YtmonnlkagniolaaGreat
