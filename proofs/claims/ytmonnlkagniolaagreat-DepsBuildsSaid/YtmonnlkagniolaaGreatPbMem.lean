import Derived.Test.YtmonnlkagniolaaGreatPbEval
set_option linter.all false
namespace Go.Pb
open Go Go.RowKit
def ownR(h:Heap)(t:TypeId)(v:PV):Option (PV×Heap):=v.cellsOf.map λcs=>(.op h.bl.length h.nv 0,newBlk h t cs)
def bsliceO(h:Heap)(e:TypeId)(sz:Nat)(vs:List PV):Option (PV×Heap):=if vs.all (λv=>cnt v==some sz)then(rowCells vs).map λcs=>(.os h.bl.length h.nv 0 vs.length,newBlk h e cs)else none
def storeR(h:Heap)(sz:Nat)(a v:PV):Option (PV×Heap):=match a with
 | .op id ver off=>match h.bl[id]?,v.cellsOf with
   |some (.cells ver' ty true cs),some ds=>if ver'=ver/\ds.length=sz/\off+sz<=cs.length then some (.tup [],⟨h.nv,h.bl.set id (.cells ver ty true (spl cs off ds))⟩)else none
   |_,_=>none
 |_=>none
def mkSliceR(h:Heap)(e:TypeId)(bytes:Nat)(z:List PV)(l c:PV):Option (PV×Heap):=match l,c with
 | .sc (.int _ l),.sc (.int _ c)=>if 0<=l/\l<=c/\fits c.toNat bytes=true then
    some (.os h.bl.length h.nv 0 l.toNat,newBlk h e (repCells l.toNat z))else none
 |_,_=>none
def appendR(h:Heap)(e:TypeId)(sz bytes:Nat)(s x:PV):Option (PV×Heap):=match srcF h sz x with
 |some (m,news)=>appF h e sz bytes m news s
 |none=>none
section
variable{P:Program}{T:Nat->PV}{h:Heap}{hf:Bool}{dst:Option Tmp}{r:List AOper}{Q:Post}{S:List Fr}
theorem co5(sz x v):runO P (.store sz x v) hf dst r S Q T h=stL P (storeR h sz (ev T x) (ev T v)) dst r S Q T:=_root_.id O
theorem bq8(e sz b z l c):runO P (.mkSlice e sz b z l c) hf dst r S Q T h=stL P (mkSliceR h e b (z.cells.toList.map .sc) (ev T l) (ev T c)) dst r S Q T:=_root_.id O
theorem cd4(t e sz b s x):runO P (.append t e sz b s x) hf dst r S Q T h=stL P (appendR h e sz b (ev T s) (ev T x)) dst r S Q T:=_root_.id O
theorem dq1(t x):runO P (.box true t x) hf dst r S Q T h=stL P (ownR h t (ev T x)) dst r S Q T:=_root_.id O
theorem by9(t z):runO P (.alloc true t z) hf dst r S Q T h=stL P (ownR h t (.ofConst z)) dst r S Q T:=_root_.id O
theorem bo3(e sz z ps):runO P (.bslice true e sz z ps) hf dst r S Q T h=stL P (bsliceO h e sz (ps.map (ev T))) dst r S Q T:=by
 simp[runO,stL,OpD,AOp.kind,opL,bsliceO,OptK2]
end
attribute [simp] co5 bq8 cd4 dq1 by9 bo3
def one(v:PV):Bool:=match v with
 | .agg _=>false| .junk=>false| .tup _=>false|_=>true
theorem tk{v:PV}(h:one v=true):cnt v=some 1:=by cases v<;>first|rfl|cases h
theorem bm3{v:PV}(h:one v=true):v.isAgg=false:=by cases v<;>first|rfl|cases h
theorem wy{v:PV}(h:one v=true):v.cellsOf=some [v]:=by cases v<;>first|rfl|cases h
theorem rk:∀{l:List PV},l.all one=true->rowCells l=some l
 |[],_=>rfl
 |v::l,h=>by
  simp only[List.all_cons,Bool.and_eq_true]at h;simp[rowCells,wy h.1,rk h.2]
theorem cf7{P:Program}{t e:TypeId}(ht:P.underlying t=some (.slice e)){id ver off n:Nat}(ty:TypeId):biF P .len [t].toArray ty [.os id ver off n]=some (vi n):=by
 simp[biF,toVs,toV,ht]
theorem ci4{h:Heap}{id ver off:Nat}{ty:TypeId}{mt:Bool}{cs:List PV}{c:PV}(hb:h.bl[id]?=some (.cells ver ty mt cs))(hc:cs[off]?=some c)(ho:one c=true):loadR h 1 false (.op id ver off)=some c:=by
 have hlt:=(List.getElem?_eq_some_iff.1 hc).1;have:(cs.drop off).take 1=[c]:=by
  rw[List.drop_eq_getElem_cons hlt,(List.getElem?_eq_some_iff.1 hc).2];rfl
 simp only[loadR,hb,if_true,fieldOf];rw[if_pos V,this];simp[mkV,bm3 ho]
theorem av4(n:Nat)(v:PV):repCells n [v]=List.replicate n v:=by
 induction n with
 |zero=>rfl
 |succ n ih=>simp only[repCells]at ih;simp[repCells,List.replicate_succ,ih]
theorem bp9{h:Heap}{e:TypeId}{b n:Nat}{v:PV}{k k':IntKind}(hf:fits n b=true):mkSliceR h e b [v] (.sc (.int k (n:Int))) (.sc (.int k' (n:Int)))=some (.os h.bl.length h.nv 0 n,⟨h.nv+1,h.bl++[.cells h.nv e true (List.replicate n v)]⟩):=by
 simp[mkSliceR,hf,newBlk,av4]
theorem bu8{P:Program}{h:Heap}{id ver n:Nat}{ty:TypeId}{mt:Bool}{cs:List PV}(hb:h.bl[id]?=some (.cells ver ty mt cs))(hn:cs.length=n)(ho:cs.all one=true)(hc:closedL cs=true):Deep P h (.os id ver 0 n) (.fs false cs):=by
 refine bi5 (sz:=1) hb V hn ?_ ?_ hc
 ·rw[rk ho];simp[<-hn]
 ·rw[List.all_eq_true]at ho⊢;intro x hx;simp[tk (ho x hx)]
theorem IsL.eq{l:List Int}{v:PV}(h:IsL l v):(∃ad,v= .sc (.slice ad 0 0)/\l=[])\/∃t,v= .fs t (l.map vi):=by
 obtain⟨es,h1,h2⟩:=h;have:es=l.map vi:=by
  clear h1;induction l generalizing es with
  |nil=>cases es with|nil=>rfl|cons _ _=>simp[All2]at h2
  |cons a l ih=>cases es with
   |nil=>simp[All2]at h2
   |cons e es=>simp[All2,RInt]at h2;simp[h2.1,ih es h2.2]
 subst this;rcases h1 with⟨ad,rfl,h⟩|⟨t,rfl⟩
 ·left;exact⟨ad,O,by simpa using h⟩
 ·right;exact⟨t,O⟩
theorem cy4{P:Program}{k:IntKind}{a b:Int}(ats:Array TypeId)(ty:TypeId):biF P .max ats ty [.sc (.int k a),.sc (.int k b)]=some (.sc (.int k (max a b))):=by
 have:(if a < b then b else a)=max a b:=by omega
 simp[biF,toVs,toV,Builtin.max_,Builtin.max2,pureRun,List.foldlM,bind,pure,Sem.bind,Sem.instMonad,this]
theorem cz7{P:Program}{k:IntKind}{a b:Int}(ats:Array TypeId)(ty:TypeId):biF P .min ats ty [.sc (.int k a),.sc (.int k b)]=some (.sc (.int k (min a b))):=by
 have:(if b < a then b else a)=min a b:=by omega
 simp[biF,toVs,toV,Builtin.min_,Builtin.min2,pureRun,List.foldlM,bind,pure,Sem.bind,Sem.instMonad,this]
attribute [simp] cy4 cz7
noncomputable def tb(p:Prop):Bool:=@decide p (Classical.propDecidable p)
end Go.Pb
