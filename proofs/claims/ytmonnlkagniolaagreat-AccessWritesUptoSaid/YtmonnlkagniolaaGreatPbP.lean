import Derived.Test.YtmonnlkagniolaaGreatPbEq
set_option linter.all false
namespace Go.Pb
open Go
def tabI{α:Type}(i:Int)(m:Nat)(f:Int->α):List α:=match m with
 |0=>[]
 |m+1=>f i::tabI (i+1) m f
section
variable{α β:Type}{i:Int}{m:Nat}{f g:Int->α}
theorem aa1[Inhabited α]{l:List α}{i:Int}(h0:0<=i)(h1:i < l.length):ix l i∈l:=by
 rw[zf h0 h1];exact List.getElem_mem _
end
section
variable{α:Type}[Inhabited α][DecidableEq α]{l k:List α}{f:Nat->Int->Bool}
end
end Go.Pb
