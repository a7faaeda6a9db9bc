import Derived.Test.YtmonnlkagniolaaGreatPbMem
set_option linter.all false
namespace Go.Pb
open Go Go.RowKit
def tab{α:Type}(n:Nat)(f:Nat->α):List α:=(List.range n).map f
section
variable{α β:Type}{n:Nat}{f:Nat->α}
theorem ql:(tab n f).length=n:=by simp[tab]
theorem aa9{k:Nat}(h:k < n):(tab n f)[k]?=some (f k):=by simp[tab,h]
theorem cu2{v:α}:List.replicate n v=tab n λ_=>v:=by
 apply List.ext_getElem?;intro i;simp only[tab,List.getElem?_map,List.getElem?_replicate,List.getElem?_range];by_cases h:i < n
 ·simp[h]
 ·simp[h,List.getElem?_eq_none (show(List.range n).length<=i by simp;omega)]
def updF(f:Nat->α)(j:Nat)(x:α):Nat->α:=λk=>if k=j then x else f k
theorem bk0{j:Nat}{x:α}:updF f j x j=x:=by simp[updF]
theorem bl1{j k:Nat}{x:α}(h:k≠j):updF f j x k=f k:=by simp[updF,h]
theorem cv4{j:Nat}{x:α}:(tab n f).set j x=tab n (updF f j x):=by
 apply List.ext_getElem?;intro i;rw[List.getElem?_set];by_cases h:i < n
 ·by_cases e:j=i
  ·subst e;rw[if_pos rfl,if_pos (by rw[ql];exact h),aa9 h,bk0]
  ·rw[if_neg e,aa9 h,aa9 h,bl1 (λe'=>e e'.symm)]
 ·have h1:(tab n (updF f j x))[i]?=none:=List.getElem?_eq_none (by rw[ql];omega);have h2:(tab n f)[i]?=none:=List.getElem?_eq_none (by rw[ql];omega);rw[h1,h2,ql];simp;intro e;omega
end
theorem qw:∀{es cs:List PV},rowCells es=some cs->closedL cs=closedL es
 |[],cs,h=>by simp only[rowCells,Option.some.injEq]at h;subst h;rfl
 |e::es,cs,h=>by
  simp only[rowCells]at h;split at h
  ·rename_i c d hce hd;simp only[Option.some.injEq]at h;subst h;rw[th,sk hce,qw hd];rfl
  ·cases h
theorem bp6{h:Heap}{e:TypeId}{b n:Nat}{v:PV}{k k':IntKind}(hf:fits n b=true):mkSliceR h e b [v] (.sc (.int k (n:Int))) (.sc (.int k' (n:Int)))=some (.os h.bl.length h.nv 0 n,⟨h.nv+1,h.bl++[.cells h.nv e true (tab n λ_=>v)]⟩):=by
 rw[bp9 hf,cu2]
theorem dg8{h:Heap}{id ver off n:Nat}{ty:TypeId}{mt:Bool}{f:Nat->PV}(hb:h.bl[id]?=some (.cells ver ty mt (tab n f)))(hc:off < n)(ho:one (f off)=true):loadR h 1 false (.op id ver off)=some (f off):=
 ci4 hb (aa9 hc) ho
end Go.Pb
