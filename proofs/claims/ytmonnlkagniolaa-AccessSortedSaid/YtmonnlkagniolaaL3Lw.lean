/-
 From a plain law to its function.
-/
import Derived.Test.YtmonnlkagniolaaL3Rd
import Derived.Test.YtmonnlkagniolaaL3W6
set_option linter.all false
set_option maxRecDepth 100000
namespace Go.Proofs.Ytmonnlkagniolaa
open Go Go.Pb Go.RowKit
theorem AccessSorted_row(H:∀(a0:y5q)(a1:y49q),law31_AccessSorted a0 a1=true)(css:List PV)(h:All2 (λt c=>IsArg Try.prog t c) [31,35] css):FnR Try.prog 3 css (.sc (.bool true)):=by
 match css,h with
 |[c0,c1],⟨h0,h1,_⟩=>
 obtain⟨a0,r0⟩:=arg31 h0;obtain⟨a1,r1⟩:=arg35 h1;have f:=f3_ok r0 r1;rw[H]at f;exact f
end Go.Proofs.Ytmonnlkagniolaa
