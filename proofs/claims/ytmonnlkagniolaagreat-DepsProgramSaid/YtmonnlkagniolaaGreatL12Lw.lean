/-
 From a plain law to its function.
-/
import Derived.Test.YtmonnlkagniolaaGreatL12Rd
import Derived.Test.YtmonnlkagniolaaGreatL12W12
set_option linter.unusedVariables false
set_option linter.unusedSimpArgs false
set_option maxRecDepth 100000
namespace Go.Proofs.YtmonnlkagniolaaGreat
open Go Go.Pb Go.RowKit
theorem DepsProgram_row(H:∀(a0:af),qf a0=true)(css:List PV)(h:All2 (λt c=>IsArg Tryz.prog t c) [31] css):FnR Tryz.prog 12 css (.sc (.bool true)):=by
 match css,h with
 |[c0],⟨h0,_⟩=>
 obtain⟨a0,r0⟩:=em5 h0;have f:=dw4 r0;rw[H]at f;exact f
end Go.Proofs.YtmonnlkagniolaaGreat
