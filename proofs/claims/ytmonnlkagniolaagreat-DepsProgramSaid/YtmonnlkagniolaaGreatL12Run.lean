/-
 Functions without arguments,carried out.
-/
import Derived.Test.YtmonnlkagniolaaGreatPbK
import Derived.Test.YtmonnlkagniolaaGreatL12Text
set_option linter.unusedVariables false
set_option linter.unusedSimpArgs false
set_option maxRecDepth 100000
namespace Go.Proofs.YtmonnlkagniolaaGreat
open Go Go.Pb Go.RowKit
def tbl:List (FT Tryz.prog):=[⟨[],_,_,_,_,_,_,du9⟩,
 ⟨[],_,_,_,_,_,_,du6⟩,
 ⟨[],_,_,_,_,_,_,dp7⟩,
 ⟨[],_,_,_,_,_,_,dz6⟩,
 ⟨[],_,_,_,_,_,_,dz3⟩,
 ⟨[],_,_,_,_,_,_,cx0⟩,
 ⟨[],_,_,_,_,_,_,dy3⟩]
theorem em7:FnR Tryz.prog 29 [] (vb true):=ci2 (tb:=tbl) (n:=1000000) Y
end Go.Proofs.YtmonnlkagniolaaGreat
