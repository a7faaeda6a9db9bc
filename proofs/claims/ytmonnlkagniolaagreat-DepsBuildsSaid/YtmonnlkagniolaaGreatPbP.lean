import Derived.Test.YtmonnlkagniolaaGreatPbEq
set_option linter.all false
namespace Go.Pb
open Go
def tabI{α:Type}(i:Int)(m:Nat)(f:Int->α):List α:=match m with
 |0=>[]
 |m+1=>f i::tabI (i+1) m f
section
variable{α β:Type}{i:Int}{m:Nat}{f g:Int->α}
end
section
variable{α:Type}[Inhabited α][DecidableEq α]{l k:List α}{f:Nat->Int->Bool}
end
end Go.Pb
