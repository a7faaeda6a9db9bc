import Derived.Test.YtmonnlkagniolaaGreatPbTab
set_option linter.all false
namespace Go.Pb
open Go Go.RowKit
theorem dq2(v:Value):one (.sc v)=true:=_root_.id O
theorem dr9(a b c d):one (.os a b c d)=true:=_root_.id O
theorem dn5(a b c):one (.op a b c)=true:=_root_.id O
theorem dr7(t es):one (.fs t es)=true:=_root_.id O
theorem df0(x):one (.fp x)=true:=_root_.id O
theorem dp4(f a b):one (.fn f a b)=true:=_root_.id O
theorem cy7(t v):one (.ifc t v)=true:=_root_.id O
attribute [simp] dq2 dr9 dn5 dr7 df0 dp4 cy7
theorem SlOf.one{α:Type}{R:α->PV->Prop}{l:List α}{v:PV}(h:SlOf R l v):Pb.one v=true:=by
 obtain⟨es,h,_⟩:=h;rcases h with⟨ad,rfl,_⟩|⟨t,rfl⟩<;>rfl
def blk(h:Heap)(i:Nat):Option Blk:=h.bl[i]?
def hlen(h:Heap):Nat:=h.bl.length
def hnew(h:Heap)(b:Blk):Heap:=⟨h.nv+1,h.bl++[b]⟩
def hput(h:Heap)(i:Nat)(b:Blk):Heap:=⟨h.nv,h.bl.set i b⟩
def hgrow(h:Heap)(i:Nat)(b:Blk):Heap:=⟨h.nv+1,h.bl.set i b⟩
theorem dh9(nv bl i):blk ⟨nv,bl⟩ i=bl[i]?:=_root_.id O
theorem db4(nv bl):hlen ⟨nv,bl⟩=bl.length:=_root_.id O
theorem cz6(nv bl b):hnew ⟨nv,bl⟩ b=⟨nv+1,bl++[b]⟩:=_root_.id O
theorem ci9(nv bl i b):hput ⟨nv,bl⟩ i b=⟨nv,bl.set i b⟩:=_root_.id O
theorem bt0(nv bl i b):hgrow ⟨nv,bl⟩ i b=⟨nv+1,bl.set i b⟩:=_root_.id O
theorem bz4(h b):hlen (hnew h b)=hlen h+1:=by simp[hlen,hnew]
theorem cc4(h i b):hlen (hput h i b)=hlen h:=by simp[hlen,hput]
theorem bp0(h i b):hlen (hgrow h i b)=hlen h:=by simp[hlen,hgrow]
theorem dg9(h b):(hnew h b).nv=h.nv+1:=_root_.id O
theorem dj0(h i b):(hput h i b).nv=h.nv:=_root_.id O
theorem cl6(h i b):(hgrow h i b).nv=h.nv+1:=_root_.id O
theorem cx7(h i b)(hi:i=hlen h):blk (hnew h b) i=some b:=by subst hi;simp[blk,hlen,hnew]
theorem ct7(h i b)(hi:i < hlen h):blk (hnew h b) i=blk h i:=by simp only[blk,hnew];exact List.getElem?_append_left hi
theorem vd(h i b)(hi:i < hlen h):blk (hput h i b) i=some b:=by simp only[blk,hput];exact List.getElem?_set_self hi
theorem pa(h i j b)(hi:¬i=j):blk (hput h i b) j=blk h j:=by simp only[blk,hput];exact List.getElem?_set_ne hi
theorem bw9(h i b)(hi:i < hlen h):blk (hgrow h i b) i=some b:=by simp only[blk,hgrow];exact List.getElem?_set_self hi
theorem af4(h i j b)(hi:¬i=j):blk (hgrow h i b) j=blk h j:=by simp only[blk,hgrow];exact List.getElem?_set_ne hi
theorem qt{h i b}(hb:blk h i=some b):i < hlen h:=(List.getElem?_eq_some_iff.1 hb).1
attribute [simp] bk0 bl1
attribute [simp] dh9 db4 cz6 ci9 bt0 bz4 cc4 bp0 dg9 dj0 cl6 cx7 ct7 vd pa bw9 af4
def loadB(b:Option Blk)(sz:Nat)(agg:Bool)(ver off:Nat):Option PV:=match b with
 |some (.cells ver' _ _ cs)=>if ver'=ver then fieldOf off sz agg cs else none
 |_=>none
theorem am9(h:Heap)(sz:Nat)(agg:Bool)(id ver off:Nat):loadR h sz agg (.op id ver off)=loadB (blk h id) sz agg ver off:=by
 unfold loadR loadB;rfl
theorem bs7(h:Heap)(v:PV)(ho:one v=true):loadR h 1 false (.fp v)=some v:=bm1 (tk ho) (bm3 ho)
theorem ct4{ver off n:Nat}{ty:TypeId}{mt:Bool}{f:Nat->PV}(hc:off < n)(ho:one (f off)=true):loadB (some (.cells ver ty mt (tab n f))) 1 false ver off=some (f off):=by
 have:=dg8 (h:=⟨0,[.cells ver ty mt (tab n f)]⟩) (id:=0) O hc ho;simpa[am9]using this
def storeB(h:Heap)(id:Nat)(b:Option Blk)(sz ver off:Nat)(v:PV):Option (PV×Heap):=match b,v.cellsOf with
 |some (.cells ver' ty true cs),some ds=>if ver'=ver/\ds.length=sz/\off+sz<=cs.length then some (.tup [],hput h id (.cells ver ty true (spl cs off ds)))else none
 |_,_=>none
theorem ah2(h:Heap)(sz:Nat)(id ver off:Nat)(v:PV):storeR h sz (.op id ver off) v=storeB h id (blk h id) sz ver off v:=by
 unfold storeR storeB;rfl
theorem bv9{h:Heap}{id ver off n:Nat}{ty:TypeId}{f:Nat->PV}{c:PV}(hlt:off < n)(ho:one c=true):storeB h id (some (.cells ver ty true (tab n f))) 1 ver off c=some (.tup [],hput h id (.cells ver ty true (tab n (updF f off c)))):=by
 have:spl (tab n f) off [c]=(tab n f).set off c:=by
  rw[spl,List.set_eq_take_append_cons_drop,if_pos (by rw[ql];exact hlt)];rfl
 simp only[storeB,wy ho];rw[if_pos ⟨trivial,rfl,by rw[ql];omega⟩,this,cv4]
theorem qg{id ver off n:Nat}{i:Int}{k:IntKind}(sz:Nat)(h0:0<=i)(h1:i < n):idxR sz (.os id ver off n) (.sc (.int k i))=some (.op id ver (off+i.toNat*sz)):=by
 simp[idxR,h0,h1]
theorem cm4{t:Bool}{n:Nat}{f:Nat->PV}{i:Int}{k:IntKind}(h0:0<=i)(h1:i < n)(ho:one (f i.toNat)=true):idxR 1 (.fs t (tab n f)) (.sc (.int k i))=some (.fp (f i.toNat)):=by
 have:i.toNat < n:=by omega
 simp only[idxR,ql];rw[if_pos ⟨h0,h1⟩,aa9 this];simp[tk ho]
def slcB(d:Option TypeDesc):Bool:=match d with
 |some (.slice _)=>true
 |_=>false
theorem bf8(e:TypeId):slcB (some (.slice e))=true:=_root_.id O
theorem au8{d:Option TypeDesc}(h:slcB d=true):∃e,d=some (.slice e):=by
 unfold slcB at h;split at h
 ·exact⟨_,O⟩
 ·cases h
section
variable{P:Program}{t ty:TypeId}
theorem bi3{id ver off n:Nat}(h:slcB (P.underlying t)=true):biF P .len #[t] ty [.os id ver off n]=some (vi n):=by
 obtain⟨e,he⟩:=au8 h;exact cf7 he ty
theorem bi1{tt:Bool}{es:List PV}(h:slcB (P.underlying t)=true):biF P .len #[t] ty [.fs tt es]=some (vi es.length):=by
 obtain⟨e,he⟩:=au8 h;exact am0 he (.inr ⟨tt,O⟩) ty
theorem az9(h:slcB (P.underlying t)=true):biF P .len #[t] ty [nilS]=some (vi 0):=by
 obtain⟨e,he⟩:=au8 h;exact am0 he .nil ty
end
attribute [simp] bf8 bi3 bi1 az9
theorem n_mk{h:Heap}{e:TypeId}{b n:Nat}{v:PV}{k k':IntKind}(hf:fits n b=true):mkSliceR h e b [v] (.sc (.int k (n:Int))) (.sc (.int k' (n:Int)))=some (.os (hlen h) h.nv 0 n,hnew h (.cells h.nv e true (tab n λ_=>v))):=bp6 hf
attribute [simp] am9 bs7 ct4 ah2 bv9 qg cm4 n_mk ql
attribute [simp] Value.cells
def Acc(a:Nat)(e:TypeId)(h:Heap)(s:PV)(l:List PV):Prop:=
 a<=hlen h/\l.all one=true/\((s=nilS/\l=[])\/s= .fs true l\/∃id ver,s= .os id ver 0 l.length/\a<=id/\blk h id=some (.cells ver e true l))
theorem Acc.push{a:Nat}{e:TypeId}{h:Heap}{s v:PV}{l:List PV}{b:Nat}(H:Acc a e h s l)(ho:one v=true)(hf:fits (l.length+1) b=true)(t:Bool):
 ∃s' h',appendR h e 1 b s (.fs t [v])=some (s',h')/\Acc a e h' s' (l++[v])/\(∀i,i < a->blk h' i=blk h i)/\hlen h<=hlen h':=by
 obtain⟨h1,h2,h3⟩:=H;simp only[hlen,blk]at h1 h3⊢;simp only[Acc,hlen,blk];have hall:(l++[v]).all one=true:=by simp[h2,ho]
 have hsrc:srcF h 1 (.fs t [v])=some (1,[v]):=by simp[srcF,tk ho,rowCells,wy ho]
 have hcn:l.all (λv=>cnt v==some 1)=true:=by
  rw[List.all_eq_true]at h2⊢;intro x hx;simp[tk (h2 x hx)]
 rcases h3 with⟨rfl,rfl⟩|rfl|⟨id,ver,rfl,hid,hb⟩
 ·refine⟨.os h.bl.length h.nv 0 1,newBlk h e [v],?_,⟨by simp[newBlk];omega,hall,.inr (.inr ⟨h.bl.length,h.nv,rfl,h1,by simp[newBlk]⟩)⟩,λi hi=>?_,by simp[newBlk]⟩
  ·simp at hf;simp[appendR,hsrc,appF,hf]
  ·simp[newBlk,List.getElem?_append_left (show i < h.bl.length by omega)]
 ·refine⟨.os h.bl.length h.nv 0 (l.length+1),newBlk h e (l++[v]),?_,⟨by simp[newBlk];omega,hall,.inr (.inr ⟨h.bl.length,h.nv,by simp,h1,by simp[newBlk]⟩)⟩,λi hi=>?_,by simp[newBlk]⟩
  ·simp[appendR,hsrc,appF,hcn,hf,rk h2]
  ·simp[newBlk,List.getElem?_append_left (show i < h.bl.length by omega)]
 ·have hlt:=(List.getElem?_eq_some_iff.1 hb).1;refine⟨.os id h.nv 0 (l.length+1),⟨h.nv+1,h.bl.set id (.cells h.nv e true (l++[v]))⟩,?_,⟨by simp;omega,hall,.inr (.inr ⟨id,h.nv,by simp,hid,by simp[hlt]⟩)⟩,λi hi=>?_,by simp⟩
  ·simp[appendR,hsrc,appF,hb,hf]
  ·simp[List.getElem?_set,show¬id=i by omega]
theorem Acc.frame{a:Nat}{e:TypeId}{h h':Heap}{s:PV}{l:List PV}(H:Acc a e h s l)(hk:∀i,a<=i->i < hlen h->blk h' i=blk h i)(hl:hlen h<=hlen h'):Acc a e h' s l:=by
 obtain⟨h1,h2,h3⟩:=H;refine⟨by omega,h2,?_⟩;rcases h3 with h3|h3|⟨id,ver,h3,h4,h5⟩
 ·exact .inl h3
 ·exact .inr (.inl h3)
 ·exact .inr (.inr ⟨id,ver,h3,h4,by rw[hk id h4 (qt h5)];exact h5⟩)
theorem Acc.sl{a:Nat}{e:TypeId}{h:Heap}{s:PV}{l:List PV}(H:Acc a e h s l)(P:Program)(hc:closedL l=true):∃r,Deep P h s r/\IsSl r l:=by
 obtain⟨h1,h2,h3⟩:=H;rcases h3 with⟨rfl,rfl⟩|rfl|⟨id,ver,rfl,h4,h5⟩
 ·exact⟨nilS,bk8,.nil⟩
 ·exact⟨.fs true l,eh (by simpa[closed]using hc),.inr ⟨true,O⟩⟩
 ·exact⟨.fs false l,bu8 h5 O h2 hc,.inr ⟨false,O⟩⟩
end Go.Pb
