/-
 Functions without arguments,carried out.
-/
import Derived.Test.YtmonnlkagniolaaGreatPbK
import Derived.Test.YtmonnlkagniolaaGreatL5Text
set_option linter.all false
set_option maxRecDepth 100000
namespace Go.Proofs.YtmonnlkagniolaaGreat
open Go Go.Pb Go.RowKit
def tbl:List (FT Tryz.prog):=[⟨[],_,_,_,_,_,_,dn7⟩,
 ⟨[],_,_,_,_,_,_,di9⟩,
 ⟨[],_,_,_,_,_,_,ci8⟩,
 ⟨[],_,_,_,_,_,_,bu3⟩,
 ⟨[],_,_,_,_,_,_,df3⟩,
 ⟨[],_,_,_,_,_,_,cm7⟩,
 ⟨[],_,_,_,_,_,_,dk4⟩]
theorem ec8:FnR Tryz.prog 29 [] (vb true):=cf2 (tb:=tbl) (n:=1000000) Y
end Go.Proofs.YtmonnlkagniolaaGreat
