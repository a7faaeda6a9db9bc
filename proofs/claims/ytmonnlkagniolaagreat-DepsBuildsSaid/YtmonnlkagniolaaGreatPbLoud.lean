import Derived.Test.YtmonnlkagniolaaGreatPbQuiet
set_option linter.all false
namespace Go.Pb
open Go Go.RowKit
def fits(m bytes:Nat):Bool:=decide (m*bytes<=140737488355328/\m<=4611686018427387904)
def rowCells:List PV->Option (List PV)
 |[]=>some []
 |e::es=>match e.cellsOf,rowCells es with|some a,some b=>some (a++b)|_,_=>none
def srcF(h:Heap)(sz:Nat):PV->Option (Nat×List PV)
 | .sc (.slice _ 0 0)=>some (0,[])
 | .fs _ es=>if es.all (λv=>cnt v==some sz)then(rowCells es).map λcs=>(es.length,cs)else none
 | .os id ver off m=>match h.bl[id]? with
   |some (.cells ver' _ _ cs)=>if ver'=ver/\off+m*sz<=cs.length then some (m,(cs.drop off).take (m*sz))else none
   |_=>none
 |_=>none
def newBlk(h:Heap)(t:TypeId)(cs:List PV):Heap:=⟨h.nv+1,h.bl++[.cells h.nv t true cs]⟩
def appF(h:Heap)(e:TypeId)(sz bytes:Nat)(m:Nat)(news:List PV):PV->Option (PV×Heap)
 | .sc (.slice ad 0 0)=>if m=0 then some (.sc (.slice ad 0 0),h)else
    if fits m bytes=true then some (.os h.bl.length h.nv 0 m,newBlk h e news)else none
 | .fs tight es=>if m=0 then some (.fs tight es,h)else
    if tight=true/\es.all (λv=>cnt v==some sz)=true/\fits (es.length+m) bytes=true then(rowCells es).map λcs=>(.os h.bl.length h.nv 0 (es.length+m),newBlk h e (cs++news))else none
 | .os id ver 0 n=>if m=0 then some (.os id ver 0 n,h)else match h.bl[id]? with
   |some (.cells ver' ty true cs)=>if ver'=ver/\ty=e/\n*sz<=cs.length/\fits (n+m) bytes=true then
     some (.os id h.nv 0 (n+m),⟨h.nv+1,h.bl.set id (.cells h.nv e true (cs.take (n*sz)++news))⟩)else none
   |_=>none
 |_=>none
def repCells(n:Nat)(cs:List PV):List PV:=(List.replicate n cs).flatten
def isK(kk:IntKind)(a:Int):Value->Bool
 | .int k b=>k==kk&&b==a
 |_=>false
def kindK(kk:IntKind):Value->Bool
 | .int k _=>k==kk
 |_=>false
def getM(kk:IntKind)(a:Int):List (Value×PV)->Option PV
 |[]=>none
 |e::r=>bif isK kk a e.1 then some e.2 else getM kk a r
def putM(kk:IntKind)(a:Int)(v:PV):List (Value×PV)->List (Value×PV)
 |[]=>[(.int kk a,v)]
 |e::r=>bif isK kk a e.1 then(.int kk a,v)::r else e::putM kk a v r
def lookM(h:Heap)(z:Value)(ok:Bool)(m i:PV):Option (PV×Heap):=match m,i with
 | .om id ver,.sc (.int kk a)=>match h.bl[id]? with
   |some (.mp ver' es)=>if ver'=ver/\es.all (λe=>kindK kk e.1)=true then
     some (bif ok then .tup [((getM kk a es).getD (.ofConst z)),.sc (.bool (getM kk a es).isSome)]else(getM kk a es).getD (.ofConst z),h)else none
   |_=>none
 |_,_=>none
def updM(h:Heap)(m i v:PV):Option (PV×Heap):=match m,i with
 | .om id ver,.sc (.int kk a)=>match h.bl[id]? with
   |some (.mp ver' es)=>if ver'=ver/\es.all (λe=>kindK kk e.1)=true then some (.tup [],⟨h.nv,h.bl.set id (.mp ver (putM kk a v es))⟩)else none
   |_=>none
 |_,_=>none
def opL(T:Nat->PV)(h:Heap):AOp->Option (PV×Heap)
 | .box true t x=>(ev T x).cellsOf.map λcs=>(.op h.bl.length h.nv 0,newBlk h t cs)
 | .alloc true t z=>(PV.ofConst z).cellsOf.map λcs=>(.op h.bl.length h.nv 0,newBlk h t cs)
 | .bslice true e sz z parts=>if(parts.map (ev T)).all (λv=>cnt v==some sz)then(rowCells (parts.map (ev T))).map λcs=>(.os h.bl.length h.nv 0 parts.length,newBlk h e cs)else none
 | .store sz x v=>match ev T x with
   | .op id ver off=>match h.bl[id]?,(ev T v).cellsOf with
     |some (.cells ver' ty true cs),some ds=>if ver'=ver/\ds.length=sz/\off+sz<=cs.length then some (.tup [],⟨h.nv,h.bl.set id (.cells ver ty true (spl cs off ds))⟩)else none
     |_,_=>none
   |_=>none
 | .mkSlice e sz bytes z l c=>match ev T l,ev T c with
   | .sc (.int _ l),.sc (.int _ c)=>if 0<=l/\l<=c/\fits c.toNat bytes=true then
      some (.os h.bl.length h.nv 0 l.toNat,newBlk h e (repCells l.toNat (z.cells.toList.map .sc)))else none
   |_,_=>none
 | .append _ e sz bytes s x=>match srcF h sz (ev T x)with
   |some (m,news)=>appF h e sz bytes m news (ev T s)
   |none=>none
 | .mkMap _=>some (.om h.bl.length h.nv,⟨h.nv+1,h.bl++[.mp h.nv []]⟩)
 | .lookup _ _ _ z ok x i=>lookM h z ok (ev T x) (ev T i)
 | .mapUpdate _ _ m i v=>updM h (ev T m) (ev T i) (ev T v)
 | .clr sz z x=>match ev T x with
   | .sc (.slice _ 0 0)=>some (.tup [],h)
   | .fs _ []=>some (.tup [],h)
   | .os id ver off n=>match h.bl[id]? with
     |some (.cells ver' ty true cs)=>if ver'=ver/\0 < n/\off+n*sz<=cs.length then some (.tup [],⟨h.nv,h.bl.set id (.cells ver ty true (spl cs off (repCells n (z.cells.toList.map .sc))))⟩)else none
     |_=>none
   |_=>none
 |_=>none
section
variable{P:Program}{x:Cx}{w0:World}{F0:Nat->Prop}{h:Heap}{n:Nat}{T:Nat->PV}{a:Act}
def GoodL(P:Program)(w0:World)(F0:Nat->Prop)(a:Act)(x:Cx)(o:Oper)(nv:Nat)(r:PV)(h':Heap):Prop:=
 ∃nx v y,(execOp a.eval o).run P x.w= .ok nx y.w/\(nx= .value v\/(nx= .skip/\v=undef))/\RelP P w0 F0 h' y/\Ext x y/\VR P y r v/\∀id ver,ver < nv->x.J id ver=none->y.J id ver=none
def updJ(J:Nat->Nat->Option Nat)(id ver b:Nat):Nat->Nat->Option Nat:=λi v=>if i=id/\v=ver then some b else J i v
theorem px{J:Nat->Nat->Option Nat}{id ver b:Nat}:updJ J id ver b id ver=some b:=by simp[updJ]
theorem qn{J:Nat->Nat->Option Nat}{id ver b nv:Nat}(hv:J id ver≠none\/nv<=ver):∀i v,v < nv->J i v=none->updJ J id ver b i v=none:=by
 intro i v hlt hn;unfold updJ;rw[if_neg]
 ·exact hn
 ·rintro⟨rfl,rfl⟩;rcases hv with h|h
  ·exact h hn
  ·omega
theorem ba8{J:Nat->Nat->Option Nat}{id ver b i v c:Nat}(hn:J id ver=none)(h:J i v=some c):updJ J id ver b i v=some c:=by
 unfold updJ;split
 ·rename_i e;rw[e.1,e.2,hn]at h;cases h
 ·exact h
theorem VRL_ext'{x y:Cx}(e:Ext x y){cs:List PV}{us:List Value}(h:VRL P x cs us):VRL P y cs us:=VRL_ext e cs us h
theorem RelP.newOwnAt(R:RelP P w0 F0 h x){t:TypeId}{cs:List PV}{us:Array Value}{bl':List Blk}{id vr nv':Nat}(hl:cs.length<=us.size)(hv:VRL P x cs (us.toList.take cs.length))
 (hfr:x.J id vr=none)(hvn:vr < nv')(hnn:h.nv<=nv')
 (hbl:∀(k:Nat) blk,bl'[k]?=some blk->(k=id/\blk= .cells vr t true cs)\/(k≠id/\h.bl[k]?=some blk)):
 let y:Cx:=⟨x.w.alloc (.cells us t),x.F,updJ x.J id vr x.w.heap.size⟩
 RelP P w0 F0 ⟨nv',bl'⟩ y/\Ext x y:=by
 intro y;have hs:y.w.heap.size=x.w.heap.size+1:=World.size_alloc _ _;have hold:∀b,b < x.w.heap.size->y.w.heap[b]?=x.w.heap[b]?:=λb hb=>Below.heap_alloc _ _ b hb;have E:Ext x y:=by
  refine⟨by omega,λb hb=>⟨hb,hold b (R.fnew b hb).1⟩,λi v b hb=>ba8 hfr hb,λb cur ty fr hb=>⟨cur,?_,rfl⟩⟩;rw[hold b (Array.getElem?_eq_some_iff.1 hb).1];exact hb
 have hJ:∀i v b,y.J i v=some b->(i=id/\v=vr/\b=x.w.heap.size)\/x.J i v=some b:=by
  intro i v b hb;show _\/_
  change updJ x.J id vr x.w.heap.size i v=some b at hb;unfold updJ at hb;split at hb
  ·rename_i e;simp only[Option.some.injEq]at hb;exact .inl ⟨e.1,e.2,hb.symm⟩
  ·exact .inr hb
 refine⟨⟨R.below.trans ((Bel.refl _ _).alloc R.below.size _),R.f0,R.fsub,λb hb=>⟨Nat.lt_of_lt_of_le (R.fnew b hb).1 V,(R.fnew b hb).2⟩,λi v b hb=>?_,λi v hv'=>?_,λi i' blk blk' b h1 h2 h3 h4=>?_,λk blk hk=>?_⟩,E⟩
 ·rcases hJ i v b hb with⟨_,_,rfl⟩|hb
  ·exact⟨R.below.size,by omega⟩
  ·have:=R.own i v b hb;exact⟨this.1,by omega⟩
 ·show updJ x.J id vr x.w.heap.size i v=none
  have hlt:nv'<=v:=hv';rw[show updJ x.J id vr x.w.heap.size i v=x.J i v by unfold updJ;rw[if_neg V]];exact R.fresh i v V
 ·rcases hJ _ _ _ h3 with⟨e1,e2,e3⟩|h3'
  ·rcases hJ _ _ _ h4 with⟨e4,e5,e6⟩|h4'
   ·rw[e1,e4]
   ·have:=(R.own _ _ _ h4').2;omega
  ·rcases hJ _ _ _ h4 with⟨e4,e5,e6⟩|h4'
   ·have:=(R.own _ _ _ h3').2;omega
   ·have k1:h.bl[i]?=some blk:=by
     rcases hbl i blk h1 with⟨e,rfl⟩|⟨_,e⟩
     ·rw[show Blk.ver (.cells vr t true cs)=vr from rfl,e,hfr]at h3';cases h3'
     ·exact e
    have k2:h.bl[i']?=some blk':=by
     rcases hbl i' blk' h2 with⟨e,rfl⟩|⟨_,e⟩
     ·rw[show Blk.ver (.cells vr t true cs)=vr from rfl,e,hfr]at h4';cases h4'
     ·exact e
    exact R.inj i i' blk blk' b k1 k2 h3' h4'
 ·rcases hbl k blk hk with⟨rfl,rfl⟩|⟨hne,hk'⟩
  ·intro b hb;have hb':b=x.w.heap.size:=by
    change updJ x.J k vr x.w.heap.size k vr=some b at hb;rw[px]at hb;simpa using hb.symm
   subst hb';refine⟨⟨us,heap_alloc_new _ _,hl,VRL_ext' E hv⟩,λhF=>?_⟩;exact absurd (R.fnew _ hF).1 (Nat.lt_irrefl _)
  ·refine BlkR_ext E ?_ (λb hj=>⟨hold b (R.own _ _ _ hj).2,Iff.rfl⟩) (R.hr k blk hk');show updJ x.J id vr x.w.heap.size k blk.ver=x.J k blk.ver
   unfold updJ;rw[if_neg (λe=>hne e.1)]
theorem RelP.newOwn(R:RelP P w0 F0 h x){t:TypeId}{cs:List PV}{us:Array Value}{bl':List Blk}{id:Nat}(hl:cs.length<=us.size)(hv:VRL P x cs (us.toList.take cs.length))
 (hbl:∀(k:Nat) blk,bl'[k]?=some blk->(k=id/\blk= .cells h.nv t true cs)\/(k≠id/\h.bl[k]?=some blk)):
 let y:Cx:=⟨x.w.alloc (.cells us t),x.F,updJ x.J id h.nv x.w.heap.size⟩
 RelP P w0 F0 ⟨h.nv+1,bl'⟩ y/\Ext x y:=R.newOwnAt hl hv (R.fresh id h.nv (Nat.le_refl _)) (Nat.lt_succ_self _) (Nat.le_succ _) hbl
theorem RelP.setOwn(R:RelP P w0 F0 h x){t:TypeId}{cs ds:List PV}{b ver id nv' ver':Nat}{cur us:Array Value}{bl':List Blk}(hb:h.bl[id]?=some (.cells ver t true cs))(hj:x.J id ver=some b)
 (hcur:x.w.heap[b]?=some (.cells cur t (0,0)))(hsz:us.size=cur.size)(hl:ds.length<=us.size)(hv:VRL P x ds (us.toList.take ds.length))
 (hn:(ver'=ver/\nv'=h.nv)\/(ver'=h.nv/\nv'=h.nv+1))
 (hbl:∀(k:Nat) blk,bl'[k]?=some blk->(k=id/\blk= .cells ver' t true ds)\/(k≠id/\h.bl[k]?=some blk)):
 let y:Cx:=⟨x.w.setRow b us,x.F,updJ x.J id ver' b⟩
 RelP P w0 F0 ⟨nv',bl'⟩ y/\Ext x y:=by
 intro y;have hs:y.w.heap.size=x.w.heap.size:=size_setRow _ _ _;have hbn:¬x.F b:=(R.hr id _ hb b hj).2;have hown:=R.own _ _ _ hj;have hold:∀c,c≠b->y.w.heap[c]?=x.w.heap[c]?:=λc hc=>setRow_other _ _ _ _ hc;have hnew:y.w.heap[b]?=some (.cells us t (0,0)):=setRow_heap _ _ _ _ _ _ hcur;have hJ:∀i v c,y.J i v=some c->(i=id/\v=ver'/\c=b)\/x.J i v=some c:=by
  intro i v c hc;change updJ x.J id ver' b i v=some c at hc;unfold updJ at hc;split at hc
  ·rename_i e;simp only[Option.some.injEq]at hc;exact .inl ⟨e.1,e.2,hc.symm⟩
  ·exact .inr hc
 have hJ':∀i v c,x.J i v=some c->y.J i v=some c:=by
  intro i v c hc;show updJ x.J id ver' b i v=some c
  unfold updJ;split
  ·rename_i e;rcases hn with⟨e1,_⟩|⟨e1,_⟩
   ·rw[e.1,e.2,e1,hj]at hc;exact hc
   ·rw[e.1,e.2,e1,R.fresh id h.nv (Nat.le_refl _)]at hc;cases hc
  ·exact hc
 have E:Ext x y:=by
  refine⟨by omega,λc hc=>⟨hc,hold c (λe=>hbn (e▸hc))⟩,hJ',λc cu ty fr hc=>?_⟩;by_cases e:c=b
  ·subst e;rw[hcur]at hc;simp only[Option.some.injEq,Obj.cells.injEq]at hc;obtain⟨rfl,rfl,rfl⟩:=hc;exact⟨us,hnew,hsz⟩
  ·exact⟨cu,by rw[hold c e];exact hc,O⟩
 refine⟨⟨?_,R.f0,R.fsub,λc hc=>⟨by rw[hs];exact(R.fnew c hc).1,(R.fnew c hc).2⟩,λi v c hc=>?_,λi v hv'=>?_,λi i' blk blk' c h1 h2 h3 h4=>?_,λk blk hk=>?_⟩,E⟩
 ·exact R.below.trans ⟨⟨O,O,O,by omega,λk hk=>hold k V⟩,Nat.le_refl _⟩
 ·rcases hJ i v c hc with⟨_,_,rfl⟩|hc
  ·exact⟨hown.1,by omega⟩
  ·have:=R.own i v c hc;exact⟨this.1,by omega⟩
 ·show updJ x.J id ver' b i v=none
  have hle:nv'<=v:=hv';have hne:¬(i=id/\v=ver'):=by
   rintro⟨rfl,rfl⟩;rcases hn with⟨e1,e2⟩|⟨e1,e2⟩
   ·rw[e1]at hle;rw[R.fresh i ver V]at hj;cases hj
   ·omega
  unfold updJ;rw[if_neg hne];exact R.fresh i v V
 ·have back:∀(k:Nat) bk,bl'[k]?=some bk->y.J k bk.ver=some c->∃bk',h.bl[k]?=some bk'/\x.J k bk'.ver=some c:=by
   intro k bk hk hc;rcases hbl k bk hk with⟨rfl,rfl⟩|⟨hne,hk'⟩
   ·refine⟨_,hb,?_⟩;have:c=b:=by
     change updJ x.J k ver' b k ver'=some c at hc;rw[px]at hc;simpa using hc.symm
    rw[this];exact hj
   ·refine⟨bk,hk',?_⟩;rcases hJ _ _ _ hc with⟨e,_,_⟩|h5
    ·exact absurd e hne
    ·exact h5
  obtain⟨b1,k1,k2⟩:=back i blk h1 h3;obtain⟨b2,k3,k4⟩:=back i' blk' h2 h4;exact R.inj i i' b1 b2 c k1 k3 k2 k4
 ·rcases hbl k blk hk with⟨rfl,rfl⟩|⟨hne,hk'⟩
  ·intro c hc;have hc':c=b:=by
    change updJ x.J k ver' b k ver'=some c at hc;rw[px]at hc;simpa using hc.symm
   subst hc';exact⟨⟨us,hnew,hl,VRL_ext' E hv⟩,hbn⟩
  ·have hyx:y.J k blk.ver=x.J k blk.ver:=by
    show updJ x.J id ver' b k blk.ver=x.J k blk.ver
    unfold updJ;rw[if_neg (λe=>hne e.1)]
   refine BlkR_ext E hyx (λc hc=>⟨hold c (λe=>?_),Iff.rfl⟩) (R.hr k blk hk');subst e;exact hne (R.inj k id blk _ c hk' hb hc hj)
theorem ru{h:Heap}{blk:Blk}:∀(k:Nat) b,(h.bl++[blk])[k]?=some b->(k=h.bl.length/\b=blk)\/(k≠h.bl.length/\h.bl[k]?=some b):=by
 intro k b hk;rw[List.getElem?_append]at hk;split at hk
 ·rename_i hlt;exact .inr ⟨by omega,hk⟩
 ·rename_i hge;have h1:k-h.bl.length=0:=by
   rcases Nat.eq_zero_or_pos (k-h.bl.length)with h1|h1
   ·exact h1
   ·rw[List.getElem?_eq_none (by simp;omega)]at hk;cases hk
  rw[h1]at hk;simp only[List.getElem?_cons_zero,Option.some.injEq]at hk;exact .inl ⟨by omega,hk.symm⟩
theorem wa{h:Heap}{blk:Blk}{id:Nat}:∀(k:Nat) b,(h.bl.set id blk)[k]?=some b->(k=id/\b=blk)\/(k≠id/\h.bl[k]?=some b):=by
 intro k b hk;rw[List.getElem?_set]at hk;split at hk
 ·rename_i e;split at hk
  ·simp only[Option.some.injEq]at hk;exact .inl ⟨e.symm,hk.symm⟩
  ·cases hk
 ·rename_i e;exact .inr ⟨λe'=>e e'.symm,hk⟩
end
end Go.Pb
namespace Go.Pb
open Go Go.RowKit
section
variable{P:Program}{x:Cx}{w0:World}{F0:Nat->Prop}{h:Heap}{n:Nat}{T:Nat->PV}{a:Act}
theorem RelP.newBlk(R:RelP P w0 F0 h x){t:TypeId}{cs:List PV}{us:Array Value}(hl:cs.length<=us.size)(hv:VRL P x cs (us.toList.take cs.length)):
 let y:Cx:=⟨x.w.alloc (.cells us t),x.F,updJ x.J h.bl.length h.nv x.w.heap.size⟩
 RelP P w0 F0 (newBlk h t cs) y/\Ext x y:=by
 have:=R.newOwn (t:=t) (id:=h.bl.length) (cs:=cs) (us:=us) hl hv (bl':=h.bl++[.cells h.nv t true cs]) ru;exact this
theorem VRL_take_self{cs:List PV}{us:List Value}(h:VRL P x cs us):VRL P x cs (us.take cs.length):=by
 rw[<-VRL_length h,List.take_length];exact h
theorem bp1{o:Oper}{t:TypeId}{y:Operand}{r:PV}{h':Heap}(R:RelP P w0 F0 h x)(hT:Temps P x n T a)(ho:o.op= .box t y)(hq:opL T h (.box true t y)=some (r,h')):GoodL P w0 F0 a x o h.nv r h':=by
 simp only[opL,Option.map_eq_some_iff,Prod.mk.injEq]at hq;obtain⟨cs,hcs,rfl,rfl⟩:=hq;have hc:=(VR_cells (hT.ev y) hcs).1;have hl:=VRL_length hc;obtain⟨R',E⟩:=R.newBlk (t:=t) (us:=(a.eval y).cells) (by rw[<-Array.length_toList,hl];exact Nat.le_refl _) (VRL_take_self hc);refine⟨_,.pointer (some ⟨x.w.heap.size,0,none⟩),_,?_,.inl O,R',E,?_⟩
 ·simp[execOp,ho,Instr.box,newVar,newRow]
 ·exact⟨⟨x.w.heap.size,px,O⟩,qn (.inr (Nat.le_refl _))⟩
theorem bc3{o:Oper}{t:TypeId}{z:Value}{i:TypeInfo}{r:PV}{h':Heap}(R:RelP P w0 F0 h x)(ho:o.op= .alloc t)(hi:P.info? t=some i)(hz:i.zero=some z)
 (hq:opL T h (.alloc true t z)=some (r,h')):GoodL P w0 F0 a x o h.nv r h':=by
 simp only[opL,Option.map_eq_some_iff,Prod.mk.injEq]at hq;obtain⟨cs,hcs,rfl,rfl⟩:=hq;have hc:=(VR_cells (VR_ofConst P x z) hcs).1;have hl:=VRL_length hc;obtain⟨R',E⟩:=R.newBlk (t:=t) (us:=z.cells) (by rw[<-Array.length_toList,hl];exact Nat.le_refl _) (VRL_take_self hc);refine⟨_,.pointer (some ⟨x.w.heap.size,0,none⟩),_,?_,.inl O,R',E,?_⟩
 ·simp[execOp,ho,Instr.alloc,newVar,newRow,zeroValue,typeInfo,hi,hz]
 ·exact⟨⟨x.w.heap.size,px,O⟩,qn (.inr (Nat.le_refl _))⟩
theorem um(hT:Temps P x n T a):∀(ps:List Operand){cs:List PV},rowCells (ps.map (ev T))=some cs->VRL P x cs (ps.map λp=>(a.eval p).cells.toList).flatten
 |[],cs,h=>by simp only[List.map_nil,rowCells,Option.some.injEq]at h;subst h;simp[VRL]
 |p::ps,cs,h=>by
  simp only[List.map_cons,rowCells]at h;split at h
  ·rename_i c d hc hd;simp only[Option.some.injEq]at h;subst h;simp only[List.map_cons,List.flatten_cons];exact VRL_append (VR_cells (hT.ev p) hc).1 (um hT ps hd)
  ·cases h
theorem lb{sz:Nat}{β:Type}:∀(l:List (List β)),(∀p∈l,p.length=sz)->l.flatten.length=l.length*sz
 |[],_=>by simp
 |p::l,h=>by
  simp only[List.flatten_cons,List.length_append,List.length_cons,Nat.add_mul,Nat.one_mul,h p (List.mem_cons_self ..),lb l λq hq=>h q (List.mem_cons_of_mem _ hq)];omega
theorem ad6(hT:Temps P x n T a){sz:Nat}:∀(ps:List Operand),(ps.map (ev T)).all (λv=>cnt v==some sz)=true->∀p∈(ps.map λp=>(a.eval p).cells.toList),p.length=sz
 |[],_,p,hp=>by cases hp
 |q::ps,hall,p,hp=>by
  simp only[List.map_cons,List.all_cons,Bool.and_eq_true,beq_iff_eq]at hall;simp only[List.map_cons,List.mem_cons]at hp;rcases hp with rfl|hp
  ·obtain⟨cs,hcs,hl⟩:=wn hall.1;rw[VRL_length (VR_cells (hT.ev q) hcs).1,hl]
  ·exact ad6 hT ps hall.2 p hp
theorem aw3{o:Oper}{own:List Tmp}{t:TypeId}{len:Nat}{parts:Array (Nat×Operand)}{ao:AOp}{r:PV}{h':Heap}(R:RelP P w0 F0 h x)(hT:Temps P x n T a)(ho:o.op= .buildSlice t len parts)
 (hc:compOp P own o.dst o.type (.buildSlice t len parts)=some ao)(hq:opL T h ao=some (r,h')):GoodL P w0 F0 a x o h.nv r h':=by
 simp only[compOp]at hc;split at hc
 ·rename_i e ht;simp only[Option.bind_eq_bind,Option.bind_eq_some_iff]at hc;obtain⟨m,hm,z,hz,ps,hps,hc⟩:=hc;split at hc
  ·rename_i hl;simp only[Option.pure_def,Option.some.injEq]at hc;subst hc;cases hown:(o.dst.any λd=>own.contains d)with
   |false=>rw[hown]at hq;simp[opL]at hq
   |true=>
    rw[hown]at hq;simp only[opL]at hq;split at hq
    ·rename_i hall;simp only[Option.map_eq_some_iff,Prod.mk.injEq]at hq;obtain⟨cs,hcs,rfl,rfl⟩:=hq;have hrun:=xn hT ht hm hz hps hl.1 hl.2.1 hl.2.2.2 hall;have hv:=um hT ps hcs;have hlen:=VRL_length hv;have hfl:=lb _ (ad6 hT ps hall);obtain⟨R',E⟩:=R.newBlk (t:=e) (us:=(ps.map λp=>(a.eval p).cells.toList).flatten.toArray) (by simp only[List.size_toArray,hlen];exact Nat.le_refl _) (VRL_take_self hv);refine⟨_,.slice (some ⟨x.w.heap.size,0,none⟩) len len,_,?_,.inl O,R',E,?_⟩
     ·simp only[execOp,ho,Sem.run_bind,hrun,Result.andThen_ok,Sem.run_pure]
     ·refine⟨?_,qn (.inr (Nat.le_refl _))⟩;refine⟨x.w.heap.size,len,px,by rw[hl.1],by omega,by simp only[maxLen];omega,λ_=>⟨_,e,(0,0),heap_alloc_new _ _,?_⟩⟩;simp only[List.size_toArray,hfl,List.length_map,hl.1,Program.cellsOf,hm,Option.map_some,Option.getD_some]
    ·cases hq
  ·cases hc
 ·cases hc
theorem az3{o:Oper}{t:TypeId}{y z:Operand}{i:TypeInfo}{r:PV}{h':Heap}(R:RelP P w0 F0 h x)(hT:Temps P x n T a)(ho:o.op= .store t y z)(hi:P.info? t=some i)
 (hq:opL T h (.store i.size y z)=some (r,h')):GoodL P w0 F0 a x o h.nv r h':=by
 simp only[opL]at hq;split at hq
 ·rename_i id ver off hv;split at hq
  ·rename_i ver' ty cs ds hb hds;split at hq
   ·rename_i hcond;obtain⟨rfl,hdl,hoff⟩:=hcond;simp only[Option.some.injEq,Prod.mk.injEq]at hq;obtain⟨rfl,rfl⟩:=hq;have hy:=hT.ev y;rw[hv]at hy;simp only[VR,AsVal,PV.isAgg,VRC,List.cons.injEq,and_true]at hy;obtain⟨b,hj,ey⟩:=hy;obtain⟨cur,hcur,hcl,hvr⟩:=lz R hb hj;have hz:=(VR_cells (hT.ev z) hds).1;have hzl:=VRL_length hz;have hone:=VRL_one hz;have hst:=run_storeCells_at P b off ty (a.eval z).cells.toList 0 cur x.w hcur (by rw[hzl];omega) hone;simp only[Nat.add_zero]at hst;have hsp:VRL P x (spl cs off ds) ((cur.toList.take off++(a.eval z).cells.toList++cur.toList.drop (off+(a.eval z).cells.toList.length)).take (spl cs off ds).length):=by
     have h1:=VRL_spl (off:=off) hvr hz;have h2:=VRL_take_self h1;have hlen:(spl cs off ds).length=cs.length:=by simp[spl];omega
     have e:(cur.toList.take cs.length).take off++((a.eval z).cells.toList++(cur.toList.take cs.length).drop (off+(a.eval z).cells.toList.length))=
      (cur.toList.take off++(a.eval z).cells.toList++cur.toList.drop (off+(a.eval z).cells.toList.length)).take (spl cs off ds).length:=by
      rw[hlen,hzl,List.take_take,Nat.min_eq_left V,List.append_assoc,List.take_append,List.take_append];have hcs:cs.length<=cur.toList.length:=by simpa using hcl
      rw[List.take_of_length_le (l:=cur.toList.take off) (by simp;omega),List.take_of_length_le (l:=(a.eval z).cells.toList) (by simp only[List.length_take];omega),List.drop_take]
      congr 2
      simp only[List.length_take]
      congr 1
      omega
     rwa [e]at h1
    obtain⟨R',E⟩:=R.setOwn (us:=(cur.toList.take off++(a.eval z).cells.toList++cur.toList.drop (off+(a.eval z).cells.toList.length)).toArray) hb hj hcur
     (by have hcs:cs.length<=cur.size:=hcl
         simp only[List.size_toArray,List.length_append,List.length_take,List.length_drop,Array.length_toList,hzl];omega)
     (by have hcs:cs.length<=cur.size:=hcl
         simp only[List.size_toArray,List.length_append,List.length_take,List.length_drop,Array.length_toList,hzl,spl];omega) hsp (.inl ⟨rfl,rfl⟩) (bl':=h.bl.set id (.cells ver' ty true (spl cs off ds))) wa
    refine⟨.skip,undef,_,?_,.inr ⟨O,O⟩,R',E,⟨[],O,by simp[VRV]⟩,qn (.inl (by rw[hj];simp))⟩;have hsz:(a.eval z).cells.size=i.size:=by rw[<-Array.length_toList,hzl,hdl]
    simp only[execOp,ho,Instr.storeAt,ey,Instr.sureAddr,Sem.run_bind,Sem.run_pure,Result.andThen_ok,storeVar,sizeOf,typeInfo,run_program,hi,hsz,ne_eq,not_true_eq_false,if_false,hst]
   ·cases hq
  ·cases hq
 ·cases hq
theorem VRL_rep{us:List Value}(h1:us.all (·.oneCell')=true):∀(k:Nat),VRL P x (repCells k (us.map .sc)) (List.replicate k us).flatten
 |0=>by simp[repCells,VRL]
 |k+1=>by
  have:=VRL_rep h1 k;simp only[repCells,List.replicate_succ,List.flatten_cons]at this⊢;exact VRL_append (VRL_sc P x us h1) this
theorem wq{zero:Array Value}:∀(k:Nat),((Array.range (k*zero.size)).map (zero[·%zero.size]!)).toList=(List.replicate k zero.toList).flatten
 |0=>by simp
 |k+1=>by
  have ih:=wq (zero:=zero) k;simp only[Array.toList_map,Array.toList_range]at ih⊢;rw[Nat.add_mul,Nat.one_mul,List.range_add,List.map_append,ih,List.replicate_succ',List.flatten_append]
  congr 1
  simp only[List.map_map,List.flatten_cons,List.flatten_nil,List.append_nil];apply List.ext_getElem
  ·simp
  ·intro j h1 h2;simp only[List.length_map,List.length_range]at h1;simp only[List.getElem_map,List.getElem_range,Function.comp_apply,Array.getElem_toList];rw[show(k*zero.size+j)%zero.size=j by rw[Nat.mul_comm,Nat.mul_add_mod,Nat.mod_eq_of_lt h1]];simp[h1]
theorem bo7{o:Oper}{t e:TypeId}{y:Operand}{as:Array Operand}{ats:Array TypeId}{i:TypeInfo}{z:Value}{r:PV}{h':Heap}(R:RelP P w0 F0 h x)(hT:Temps P x n T a)(ho:o.op= .call {callee:= .builtin .clear,args:=as,argTypes:=ats})(hat:ats[0]?=some t)(has:as.toList=[y])(ht:P.underlying t=some (.slice e))(hi:P.info? e=some i)(hz0:i.zero=some z)(hzs:z.cells.size=i.size)(hpos:0 < i.size)(hz1:z.cells.toList.all (·.oneCell')=true)
 (hq:opL T h (.clr i.size z y)=some (r,h')):GoodL P w0 F0 a x o h.nv r h':=by
 have hasz:as=#[y]:=by apply Array.ext';simpa using has
 subst hasz;have hu:∀w:World,(underlying t).run P w= .ok (.slice e) w:=λw=>run_underlying ht w;have hv:∀w:World,(zeroValue e).run P w= .ok z w:=λw=>by simp[zeroValue,typeInfo,hi,hz0]
 have key:∀u:Value,a.eval y=u->∀w',(Builtin.clear_ ats o.type #[u]).run P x.w= .ok (.tuple #[]) w'->(execOp a.eval o).run P x.w= .ok (.value (.tuple #[])) w':=λu eu w' hr=>by
  simp only[execOp,ho,resolve,Sem.run_bind,Sem.run_pure,Result.andThen_ok,invoke,builtin,List.map_toArray,List.map_cons,List.map_nil,eu,hr]
 simp only[opL]at hq;split at hq
 ·rename_i ad hv';simp only[Option.some.injEq,Prod.mk.injEq]at hq;obtain⟨rfl,rfl⟩:=hq;have hy:=hT.ev y;rw[hv']at hy;have ey:=qs hy;exact⟨_,.tuple #[],x,key _ ey x.w (by
   simp only[Builtin.clear_,hat,List.getElem?_toArray,List.getElem?_cons_zero,Sem.run_bind,hu,Result.andThen_ok,Sem.run_pure];cases ad<;>rfl),.inl rfl,R,Ext.refl x,⟨[],rfl,by simp[VRV]⟩,λ_ _ _ h=>h⟩
 ·rename_i tg hv';simp only[Option.some.injEq,Prod.mk.injEq]at hq;obtain⟨rfl,rfl⟩:=hq;have hy:=hT.ev y;rw[hv']at hy;simp only[VR,AsVal,PV.isAgg,VRC,List.cons.injEq,and_true,List.length_nil]at hy;obtain⟨b,o',cap,sz',ey, -, -, -, -⟩:=hy;exact⟨_,.tuple #[],x,key _ ey x.w (by
   simp only[Builtin.clear_,hat,List.getElem?_toArray,List.getElem?_cons_zero,Sem.run_bind,hu,Result.andThen_ok,Sem.run_pure]),.inl rfl,R,Ext.refl x,⟨[],rfl,by simp[VRV]⟩,λ_ _ _ h=>h⟩
 ·rename_i id ver off m hv';split at hq
  ·rename_i ver' ty cs hb;split at hq
   ·rename_i hcond;obtain⟨rfl,hm,hoff⟩:=hcond;simp only[Option.some.injEq,Prod.mk.injEq]at hq;obtain⟨rfl,rfl⟩:=hq;have hy:=hT.ev y;rw[hv']at hy;simp only[VR,AsVal,PV.isAgg,VRC,List.cons.injEq,and_true]at hy;obtain⟨b,cap,hj,ey, -, -, -⟩:=hy;obtain⟨cur,hcur,hcl,hvr⟩:=lz R hb hj;have hz:VRL P x (repCells m (z.cells.toList.map .sc)) (List.replicate m z.cells.toList).flatten:=VRL_rep hz1 m;have hzl:=VRL_length hz;have hone:=VRL_one hz;have hrl:(repCells m (z.cells.toList.map .sc)).length=m*i.size:=by
     rw[<-hzl,lb (sz:=i.size) _ (λp hp=>by rw[List.eq_of_mem_replicate hp];simpa using hzs)];simp
    generalize hus:(List.replicate m z.cells.toList).flatten=us at*;generalize hds:repCells m (z.cells.toList.map PV.sc)=ds at*;have hst:=run_storeCells_at P b off ty us 0 cur x.w hcur (by rw[hzl];omega) hone;simp only[Nat.add_zero]at hst;have hsp:VRL P x (spl cs off ds) ((cur.toList.take off++us++cur.toList.drop (off+us.length)).take (spl cs off ds).length):=by
     have h1:=VRL_spl (off:=off) hvr hz;have hlen:(spl cs off ds).length=cs.length:=by simp[spl];omega
     have e:(cur.toList.take cs.length).take off++(us++(cur.toList.take cs.length).drop (off+us.length))=
      (cur.toList.take off++us++cur.toList.drop (off+us.length)).take (spl cs off ds).length:=by
      rw[hlen,hzl,List.take_take,Nat.min_eq_left V,List.append_assoc,List.take_append,List.take_append];have hcs:cs.length<=cur.toList.length:=by simpa using hcl
      rw[List.take_of_length_le (l:=cur.toList.take off) (by simp;omega),List.take_of_length_le (l:=us) (by simp only[List.length_take];omega),List.drop_take]
      congr 2
      simp only[List.length_take]
      congr 1
      omega
     rwa [e]at h1
    obtain⟨R',E⟩:=R.setOwn (us:=(cur.toList.take off++us++cur.toList.drop (off+us.length)).toArray) hb hj hcur
     (by have hcs:cs.length<=cur.size:=hcl
         simp only[List.size_toArray,List.length_append,List.length_take,List.length_drop,Array.length_toList,hzl];omega)
     (by have hcs:cs.length<=cur.size:=hcl
         simp only[List.size_toArray,List.length_append,List.length_take,List.length_drop,Array.length_toList,hzl,spl];omega) hsp (.inl ⟨rfl,rfl⟩) (bl':=h.bl.set id (.cells ver' ty true (spl cs off ds))) wa
    refine⟨_,.tuple #[],_,key _ ey _ ?_,.inl O,R',E,⟨[],O,by simp[VRV]⟩,qn (.inl (by rw[hj];simp))⟩;have hzc:(Builtin.zeroCells z.cells m).toList=us:=by rw[<-hus,Builtin.zeroCells];exact wq m
    obtain⟨m',rfl⟩:∃m',m=m'+1:=⟨m-1,by omega⟩;simp only[Builtin.clear_,hat,List.getElem?_toArray,List.getElem?_cons_zero,Sem.run_bind,hu,hv,Result.andThen_ok,Sem.run_pure,hzc,hst]
   ·cases hq
  ·cases hq
 ·cases hq
theorem an6{o:Oper}{own:List Tmp}{t:TypeId}{l c:Operand}{ao:AOp}{r:PV}{h':Heap}(R:RelP P w0 F0 h x)(hT:Temps P x n T a)(ho:o.op= .makeSlice t l c)
 (hc:compOp P own o.dst o.type (.makeSlice t l c)=some ao)(hq:opL T h ao=some (r,h')):GoodL P w0 F0 a x o h.nv r h':=by
 simp only[compOp]at hc;split at hc
 ·rename_i e ht;simp only[Option.bind_eq_bind,Option.bind_eq_some_iff]at hc;obtain⟨m,hm,z,hz,hc⟩:=hc;split at hc
  ·rename_i hl;obtain⟨hzs,hpos,hone⟩:=hl;simp only[Option.pure_def,Option.some.injEq]at hc;subst hc;simp only[opL]at hq;split at hq
   ·rename_i kl l' kc c' hvl hvc;split at hq
    ·rename_i hcond;obtain⟨h0,h1,hf⟩:=hcond;simp only[Option.some.injEq,Prod.mk.injEq]at hq;obtain⟨rfl,rfl⟩:=hq;have el:=hT.ev l;rw[hvl]at el;have el:=qs el;have ec:=hT.ev c;rw[hvc]at ec;have ec:=qs ec;obtain⟨L,rfl⟩:=Int.eq_ofNat_of_zero_le h0;obtain⟨C,rfl⟩:=Int.eq_ofNat_of_zero_le (Int.le_trans h0 h1);simp only[Int.toNat_natCast]at hf⊢;simp only[fits,decide_eq_true_eq]at hf;have hLC:L<=C:=by omega
     have hwl:IntKind.i64.wrap (L:Int)=L:=IntWalk.i64_in _ V;have hwc:IntKind.i64.wrap (C:Int)=C:=IntWalk.i64_in _ V;have hbc:((m.bytes:Int)*(C:Int))=((C*m.bytes:Nat):Int):=by rw[Nat.mul_comm];exact(Int.natCast_mul _ _).symm
     have hbl:((m.bytes:Int)*(L:Int))=((L*m.bytes:Nat):Int):=by rw[Nat.mul_comm];exact(Int.natCast_mul _ _).symm
     have hlc:L*m.bytes<=C*m.bytes:=Nat.mul_le_mul_right _ hLC;have hrun:(Instr.makeSlice t (.int kl L) (.int kc C)).run P x.w= .ok (.slice (some ⟨x.w.heap.size,0,none⟩) L C) (x.w.alloc (.cells (List.replicate C z.cells.toList).flatten.toArray e)):=by
      have hz0:(zeroValue e).run P x.w= .ok z x.w:=by simp[zeroValue,typeInfo,hm,hz]
      have hn1:¬((C:Int) < 0):=by omega
      have hn2:¬((L:Int) < 0):=by omega
      have hn3:¬((L:Int)>(C:Int)):=by omega
      have hn4:¬((m.bytes:Int)*(C:Int)>2^48):=by rw[hbc];omega
      have hcs:(Array.map (λi=>z.cells[i%z.cells.size]!) (Array.range (C*m.size)))=(List.replicate C z.cells.toList).flatten.toArray:=by
       have:=wq (zero:=z.cells) C;rw[hzs]at this;rw[<-this,Array.toArray_toList,hzs]
      simp only[Instr.makeSlice,Sem.run_bind,run_underlying ht,Result.andThen_ok,asInt,asIntOf,Sem.run_pure,typeInfo,run_program,hm,hwl,hwc];simp only[hn1,hn2,hn3,hn4,decide_false,Bool.or_false,Bool.false_or,Bool.or_self,Bool.false_eq_true,if_false,Sem.run_bind,run_askRoom,Result.andThen_ok,sizeOf,typeInfo,run_program,hm,Sem.run_pure,Int.toNat_natCast];by_cases hz':C*m.size=0
      ·simp only[hz',if_true,Sem.run_bind,Sem.run_pure,Result.andThen_ok,newRow,run_newObj];have hC0:C=0:=by
        rcases Nat.mul_eq_zero.1 hz' with h|h
        ·exact h
        ·omega
       subst hC0;have hr0:∀(f:Nat->Value),Array.map f (Array.range 0)=#[]:=λf=>Array.eq_empty_of_size_eq_zero OZ;simp[hr0]
      ·simp only[hz',if_false,Sem.run_bind,hz0,Sem.run_pure,Result.andThen_ok,newRow,run_newObj,hcs];rfl
     have hall:z.cells.toList.all (·.oneCell')=true:=hone;have hfl:(List.replicate C z.cells.toList).flatten.length=C*m.size:=by
      rw[lb (sz:=m.size) _ (λp hp=>by rw[(List.mem_replicate.1 hp).2,Array.length_toList,hzs])];simp
     have hv:VRL P x (repCells L (z.cells.toList.map .sc)) ((List.replicate C z.cells.toList).flatten.take (repCells L (z.cells.toList.map .sc)).length):=by
      have h2:=VRL_rep (P:=P) (x:=x) hall L;have h3:=VRL_length h2;have:(List.replicate C z.cells.toList).flatten=(List.replicate L z.cells.toList).flatten++(List.replicate (C-L) z.cells.toList).flatten:=by
       rw[<-List.flatten_append,List.replicate_append_replicate,show L+(C-L)=C by omega]
      rw[this,List.take_append_of_le_length V,<-h3,List.take_length];exact h2
     have hrl:(repCells L (z.cells.toList.map .sc)).length=L*m.size:=by
      unfold repCells;rw[lb (sz:=m.size) _ (λp hp=>by rw[(List.mem_replicate.1 hp).2];simp[hzs])];simp
     obtain⟨R',E⟩:=R.newBlk (t:=e) (us:=(List.replicate C z.cells.toList).flatten.toArray) (by rw[List.size_toArray,hfl,hrl];exact Nat.mul_le_mul_right _ hLC) hv;refine⟨_,.slice (some ⟨x.w.heap.size,0,none⟩) L C,_,?_,.inl O,R',E,?_⟩
     ·simp only[execOp,ho,Sem.run_bind,el,ec,hrun,Result.andThen_ok,Sem.run_pure]
     ·refine⟨?_,qn (.inr (Nat.le_refl _))⟩;refine⟨x.w.heap.size,C,px,O,hLC,by simp only[maxLen];omega,λ_=>⟨_,e,(0,0),heap_alloc_new _ _,?_⟩⟩;simp only[List.size_toArray,hfl,Program.cellsOf,hm,Option.map_some,Option.getD_some]
    ·cases hq
   ·cases hq
  ·cases hc
 ·cases hc
def opA(T:Nat->PV):AOp->Option (TypeId×List PV×Option Nat)
 | .box true t x=>(ev T x).cellsOf.map λcs=>(t,cs,none)
 | .alloc true t z=>(PV.ofConst z).cellsOf.map λcs=>(t,cs,none)
 | .bslice true e sz z parts=>if(parts.map (ev T)).all (λv=>cnt v==some sz)then(rowCells (parts.map (ev T))).map λcs=>(e,cs,some parts.length)else none
 | .mkSlice e sz bytes z l c=>match ev T l,ev T c with
   | .sc (.int _ l),.sc (.int _ c)=>if 0<=l/\l<=c/\fits c.toNat bytes=true then some (e,repCells l.toNat (z.cells.toList.map .sc),some l.toNat)else none
   |_,_=>none
 |_=>none
def mkOwn:Option Nat->Nat->Nat->PV
 |none,id,ver=> .op id ver 0
 |some n,id,ver=> .os id ver 0 n
def AOp.isA:AOp->Bool
 | .box true _ _| .alloc true _ _| .bslice true _ _ _ _| .mkSlice _ _ _ _ _ _=>true
 |_=>false
theorem ux{ao:AOp}{r:PV}{h':Heap}(hi:ao.isA=true)(hq:opL T h ao=some (r,h')):∃t cs k,opA T ao=some (t,cs,k)/\r=mkOwn k h.bl.length h.nv/\h'=Pb.newBlk h t cs:=by
 unfold AOp.isA at hi;split at hi
 ·simp only[opL,Option.map_eq_some_iff,Prod.mk.injEq]at hq;obtain⟨cs,hcs,rfl,rfl⟩:=hq;exact⟨_,_,none,by simp only[opA,hcs,Option.map_some],rfl,rfl⟩
 ·simp only[opL,Option.map_eq_some_iff,Prod.mk.injEq]at hq;obtain⟨cs,hcs,rfl,rfl⟩:=hq;exact⟨_,_,none,by simp only[opA,hcs,Option.map_some],rfl,rfl⟩
 ·simp only[opL]at hq;split at hq
  ·rename_i hall;simp only[Option.map_eq_some_iff,Prod.mk.injEq]at hq;obtain⟨cs,hcs,rfl,rfl⟩:=hq;exact⟨_,_,some _,by simp only[opA,hall,if_true,hcs,Option.map_some],rfl,rfl⟩
  ·cases hq
 ·simp only[opL]at hq;split at hq
  ·rename_i hvl hvc;split at hq
   ·rename_i hcond;simp only[Option.some.injEq,Prod.mk.injEq]at hq;obtain⟨rfl,rfl⟩:=hq;exact⟨_,_,some _,by simp only[opA,hvl,hvc,hcond,and_self,if_true],rfl,rfl⟩
   ·cases hq
  ·cases hq
 ·cases hi
def MadeA(P:Program)(a:Act)(x:Cx)(o:Oper)(t:TypeId)(cs:List PV)(k:Option Nat):Prop:=
 ∃us v,(execOp a.eval o).run P x.w= .ok (.value v) (x.w.alloc (.cells us t))/\cs.length<=us.size/\VRL P x cs (us.toList.take cs.length)/\
  ∀(y:Cx) id ver,y.J id ver=some x.w.heap.size->y.w.heap[x.w.heap.size]?=some (.cells us t (0,0))->VR P y (mkOwn k id ver) v
theorem bq0{o:Oper}{t t':TypeId}{y:Operand}{cs:List PV}{k:Option Nat}(hT:Temps P x n T a)(ho:o.op= .box t y)(hq:opA T (.box true t y)=some (t',cs,k)):MadeA P a x o t' cs k:=by
 simp only[opA,Option.map_eq_some_iff,Prod.mk.injEq]at hq;obtain⟨cs,hcs,rfl,rfl,rfl⟩:=hq;have hc:=(VR_cells (hT.ev y) hcs).1;have hl:=VRL_length hc;refine⟨(a.eval y).cells,.pointer (some ⟨x.w.heap.size,0,none⟩),?_,by rw[<-Array.length_toList,hl];exact Nat.le_refl _,VRL_take_self hc,λy id ver hj _=>⟨_,hj,O⟩⟩;simp[execOp,ho,Instr.box,newVar,newRow]
theorem ax3{o:Oper}{t t':TypeId}{z:Value}{i:TypeInfo}{cs:List PV}{k:Option Nat}(ho:o.op= .alloc t)(hi:P.info? t=some i)(hz:i.zero=some z)
 (hq:opA T (.alloc true t z)=some (t',cs,k)):MadeA P a x o t' cs k:=by
 simp only[opA,Option.map_eq_some_iff,Prod.mk.injEq]at hq;obtain⟨cs,hcs,rfl,rfl,rfl⟩:=hq;have hc:=(VR_cells (VR_ofConst P x z) hcs).1;have hl:=VRL_length hc;refine⟨z.cells,.pointer (some ⟨x.w.heap.size,0,none⟩),?_,by rw[<-Array.length_toList,hl];exact Nat.le_refl _,VRL_take_self hc,λy id ver hj _=>⟨_,hj,O⟩⟩;simp[execOp,ho,Instr.alloc,newVar,newRow,zeroValue,typeInfo,hi,hz]
theorem aw6{o:Oper}{own:List Tmp}{t:TypeId}{len:Nat}{parts:Array (Nat×Operand)}{ao:AOp}{t':TypeId}{cs:List PV}{k:Option Nat}(hT:Temps P x n T a)(ho:o.op= .buildSlice t len parts)
 (hc:compOp P own o.dst o.type (.buildSlice t len parts)=some ao)(hq:opA T ao=some (t',cs,k)):MadeA P a x o t' cs k:=by
 simp only[compOp]at hc;split at hc
 ·rename_i e ht;simp only[Option.bind_eq_bind,Option.bind_eq_some_iff]at hc;obtain⟨m,hm,z,hz,ps,hps,hc⟩:=hc;split at hc
  ·rename_i hl;simp only[Option.pure_def,Option.some.injEq]at hc;subst hc;cases hown:(o.dst.any λd=>own.contains d)with
   |false=>rw[hown]at hq;simp[opA]at hq
   |true=>
    rw[hown]at hq;simp only[opA]at hq;split at hq
    ·rename_i hall;simp only[Option.map_eq_some_iff,Prod.mk.injEq]at hq;obtain⟨cs,hcs,rfl,rfl,rfl⟩:=hq;have hrun:=xn hT ht hm hz hps hl.1 hl.2.1 hl.2.2.2 hall;have hv:=um hT ps hcs;have hlen:=VRL_length hv;have hfl:=lb _ (ad6 hT ps hall);refine⟨(ps.map λp=>(a.eval p).cells.toList).flatten.toArray,.slice (some ⟨x.w.heap.size,0,none⟩) len len,?_,by simp only[List.size_toArray,hlen];exact Nat.le_refl _,VRL_take_self hv,λy id ver hj hcell=>?_⟩
     ·simp only[execOp,ho,Sem.run_bind,hrun,Result.andThen_ok,Sem.run_pure]
     ·refine⟨x.w.heap.size,len,hj,by rw[hl.1],by omega,by simp only[maxLen];omega,λ_=>⟨_,e,(0,0),hcell,?_⟩⟩;simp only[List.size_toArray,hfl,List.length_map,hl.1,Program.cellsOf,hm,Option.map_some,Option.getD_some]
    ·cases hq
  ·cases hc
 ·cases hc
theorem an1{o:Oper}{own:List Tmp}{t:TypeId}{l c:Operand}{ao:AOp}{t':TypeId}{cs:List PV}{k:Option Nat}(hT:Temps P x n T a)(ho:o.op= .makeSlice t l c)
 (hc:compOp P own o.dst o.type (.makeSlice t l c)=some ao)(hq:opA T ao=some (t',cs,k)):MadeA P a x o t' cs k:=by
 simp only[compOp]at hc;split at hc
 ·rename_i e ht;simp only[Option.bind_eq_bind,Option.bind_eq_some_iff]at hc;obtain⟨m,hm,z,hz,hc⟩:=hc;split at hc
  ·rename_i hl;obtain⟨hzs,hpos,hone⟩:=hl;simp only[Option.pure_def,Option.some.injEq]at hc;subst hc;simp only[opA]at hq;split at hq
   ·rename_i kl l' kc c' hvl hvc;split at hq
    ·rename_i hcond;obtain⟨h0,h1,hf⟩:=hcond;simp only[Option.some.injEq,Prod.mk.injEq]at hq;obtain⟨rfl,rfl,rfl⟩:=hq;have el:=hT.ev l;rw[hvl]at el;have el:=qs el;have ec:=hT.ev c;rw[hvc]at ec;have ec:=qs ec;obtain⟨L,rfl⟩:=Int.eq_ofNat_of_zero_le h0;obtain⟨C,rfl⟩:=Int.eq_ofNat_of_zero_le (Int.le_trans h0 h1);simp only[Int.toNat_natCast]at hf⊢;simp only[fits,decide_eq_true_eq]at hf;have hLC:L<=C:=by omega
     have hwl:IntKind.i64.wrap (L:Int)=L:=IntWalk.i64_in _ V;have hwc:IntKind.i64.wrap (C:Int)=C:=IntWalk.i64_in _ V;have hbc:((m.bytes:Int)*(C:Int))=((C*m.bytes:Nat):Int):=by rw[Nat.mul_comm];exact(Int.natCast_mul _ _).symm
     have hbl:((m.bytes:Int)*(L:Int))=((L*m.bytes:Nat):Int):=by rw[Nat.mul_comm];exact(Int.natCast_mul _ _).symm
     have hlc:L*m.bytes<=C*m.bytes:=Nat.mul_le_mul_right _ hLC;have hrun:(Instr.makeSlice t (.int kl L) (.int kc C)).run P x.w= .ok (.slice (some ⟨x.w.heap.size,0,none⟩) L C) (x.w.alloc (.cells (List.replicate C z.cells.toList).flatten.toArray e)):=by
      have hz0:(zeroValue e).run P x.w= .ok z x.w:=by simp[zeroValue,typeInfo,hm,hz]
      have hn1:¬((C:Int) < 0):=by omega
      have hn2:¬((L:Int) < 0):=by omega
      have hn3:¬((L:Int)>(C:Int)):=by omega
      have hn4:¬((m.bytes:Int)*(C:Int)>2^48):=by rw[hbc];omega
      have hcs:(Array.map (λi=>z.cells[i%z.cells.size]!) (Array.range (C*m.size)))=(List.replicate C z.cells.toList).flatten.toArray:=by
       have:=wq (zero:=z.cells) C;rw[hzs]at this;rw[<-this,Array.toArray_toList,hzs]
      simp only[Instr.makeSlice,Sem.run_bind,run_underlying ht,Result.andThen_ok,asInt,asIntOf,Sem.run_pure,typeInfo,run_program,hm,hwl,hwc];simp only[hn1,hn2,hn3,hn4,decide_false,Bool.or_false,Bool.false_or,Bool.or_self,Bool.false_eq_true,if_false,Sem.run_bind,run_askRoom,Result.andThen_ok,sizeOf,typeInfo,run_program,hm,Sem.run_pure,Int.toNat_natCast];by_cases hz':C*m.size=0
      ·simp only[hz',if_true,Sem.run_bind,Sem.run_pure,Result.andThen_ok,newRow,run_newObj];have hC0:C=0:=by
        rcases Nat.mul_eq_zero.1 hz' with h|h
        ·exact h
        ·omega
       subst hC0;have hr0:∀(f:Nat->Value),Array.map f (Array.range 0)=#[]:=λf=>Array.eq_empty_of_size_eq_zero OZ;simp[hr0]
      ·simp only[hz',if_false,Sem.run_bind,hz0,Sem.run_pure,Result.andThen_ok,newRow,run_newObj,hcs];rfl
     have hall:z.cells.toList.all (·.oneCell')=true:=hone;have hfl:(List.replicate C z.cells.toList).flatten.length=C*m.size:=by
      rw[lb (sz:=m.size) _ (λp hp=>by rw[(List.mem_replicate.1 hp).2,Array.length_toList,hzs])];simp
     have hv:VRL P x (repCells L (z.cells.toList.map .sc)) ((List.replicate C z.cells.toList).flatten.take (repCells L (z.cells.toList.map .sc)).length):=by
      have h2:=VRL_rep (P:=P) (x:=x) hall L;have h3:=VRL_length h2;have:(List.replicate C z.cells.toList).flatten=(List.replicate L z.cells.toList).flatten++(List.replicate (C-L) z.cells.toList).flatten:=by
       rw[<-List.flatten_append,List.replicate_append_replicate,show L+(C-L)=C by omega]
      rw[this,List.take_append_of_le_length V,<-h3,List.take_length];exact h2
     have hrl:(repCells L (z.cells.toList.map .sc)).length=L*m.size:=by
      unfold repCells;rw[lb (sz:=m.size) _ (λp hp=>by rw[(List.mem_replicate.1 hp).2];simp[hzs])];simp
     refine⟨(List.replicate C z.cells.toList).flatten.toArray,.slice (some ⟨x.w.heap.size,0,none⟩) L C,?_,by rw[List.size_toArray,hfl,hrl];exact Nat.mul_le_mul_right _ hLC,hv,λy id ver hj hcell=>?_⟩
     ·simp only[execOp,ho,Sem.run_bind,el,ec,hrun,Result.andThen_ok,Sem.run_pure]
     ·refine⟨x.w.heap.size,C,hj,O,hLC,by simp only[maxLen];omega,λ_=>⟨_,e,(0,0),hcell,?_⟩⟩;simp only[List.size_toArray,hfl,Program.cellsOf,hm,Option.map_some,Option.getD_some]
    ·cases hq
   ·cases hq
  ·cases hc
 ·cases hc
end
end Go.Pb
namespace Go.Pb
open Go Go.RowKit
section
variable{P:Program}{x:Cx}{w0:World}{F0:Nat->Prop}{h:Heap}{n:Nat}{T:Nat->PV}{a:Act}
theorem vv{w:World}{b o:Nat}:cellsAt w b o []:=λj u hj=>by simp at hj
theorem bc6{v:PV}{us:List Value}{cs:List PV}(h:VRC P x v us)(hc:v.cellsOf=some cs):VRL P x cs us:=by
 cases v with
 |agg ds=>simp only[PV.cellsOf,Option.some.injEq]at hc;subst hc;simpa[VRC]using h
 |junk=>simp[PV.cellsOf]at hc
 |tup vs=>simp[PV.cellsOf]at hc
 |_=>
  simp only[PV.cellsOf,Option.some.injEq]at hc;subst hc;have hl:=qm h O
  match us,hl with
  |[u],_=>simp only[VRL];exact⟨ak0 h O O,h,trivial⟩
theorem ak5{w:World}{b o:Nat}{xs ys:List Value}(h1:cellsAt w b o xs)(h2:cellsAt w b (o+xs.length) ys):cellsAt w b o (xs++ys):=by
 intro j u hj;rw[List.getElem?_append]at hj;split at hj
 ·exact h1 j u hj
 ·have:=h2 _ u hj
  rwa [show o+xs.length+(j-xs.length)=o+j by omega]at this
theorem VRM_rowCells{b sz:Nat}:∀{es:List PV}{cs:List PV}{o:Nat},VRM P x b sz es o->rowCells es=some cs->es.all (λv=>cnt v==some sz)=true->
 ∃xs,xs.length=es.length*sz/\cellsAt x.w b o xs/\VRL P x cs xs
 |[],cs,o,_,h,_=>by simp only[rowCells,Option.some.injEq]at h;subst h;exact⟨[],by simp,vv,by simp[VRL]⟩
 |e::es,cs,o,hm,h,ha=>by
  simp only[rowCells]at h;split at h
  ·rename_i c d hc hd;simp only[Option.some.injEq]at h;subst h;simp only[VRM]at hm;simp only[List.all_cons,Bool.and_eq_true]at ha;obtain⟨⟨hF,xs,hl,hcs,hr⟩,hm2⟩:=hm;obtain⟨ys,hyl,hyc,hyr⟩:=VRM_rowCells hm2 hd ha.2;refine⟨xs++ys,by simp only[List.length_append,List.length_cons,hl,hyl,Nat.add_mul];omega,ak5 hcs (by rw[hl];exact hyc),VRL_append (bc6 hr hc) hyr⟩
  ·cases h
theorem an9(R:RelP P w0 F0 h x){sz m:Nat}{v:PV}{u:Value}{news:List PV}(hv:VR P x v u)(hs:srcF h sz v=some (m,news)):
 (m=0/\news=[]/\∃ad,u= .slice ad 0 0)\/∃b o c xs,u= .slice (some ⟨b,o,none⟩) m c/\xs.length=m*sz/\cellsAt x.w b o xs/\VRL P x news xs:=by
 unfold srcF at hs;split at hs
 ·simp only[Option.some.injEq,Prod.mk.injEq]at hs;exact .inl ⟨hs.1.symm,hs.2.symm,_,qs hv⟩
 ·rename_i tg es;split at hs
  ·rename_i hall;simp only[Option.map_eq_some_iff,Prod.mk.injEq]at hs;obtain⟨cs,hcs,rfl,rfl⟩:=hs;simp only[VR,AsVal,PV.isAgg,VRC,List.cons.injEq,and_true]at hv;obtain⟨b,o,cap,sz',e,h1,h2,h3,hr⟩:=hv;by_cases he:es=[]
   ·subst he;simp only[rowCells,Option.some.injEq]at hcs;subst hcs;exact .inr ⟨b,o,cap,[],e,by simp,vv,by simp[VRL]⟩
   ·have hsz:sz'=sz:=by
     cases es with
     |nil=>exact absurd O he
     |cons e0 es=>
      simp only[VRM]at hr;obtain⟨⟨_,xs,hxl,_,hv2⟩,_⟩:=hr;simp only[List.all_cons,Bool.and_eq_true,beq_iff_eq]at hall;rw[<-hxl];exact qm hv2 hall.1
    subst hsz;obtain⟨xs,hxl,hxc,hxr⟩:=VRM_rowCells hr hcs hall;exact .inr ⟨b,o,cap,xs,e,hxl,hxc,hxr⟩
  ·cases hs
 ·rename_i id ver off k;split at hs
  ·rename_i ver' ty mt cs hb;split at hs
   ·rename_i hc;simp only[Option.some.injEq,Prod.mk.injEq]at hs;obtain⟨rfl,rfl⟩:=hs;simp only[VR,AsVal,PV.isAgg,VRC,List.cons.injEq,and_true]at hv;obtain⟨b,cap,hj,e,_⟩:=hv;rw[hc.1]at hb;obtain⟨cur,hcur,hcl,hvr⟩:=lz R hb hj;refine .inr ⟨b,off,cap,(cur.toList.drop off).take (k*sz),e,?_,lr hcur _ _,VRL_seg hcl hvr _ _ hc.2⟩;have:cs.length<=cur.toList.length:=by simpa using hcl
    simp;omega
   ·cases hs
  ·cases hs
 ·cases hs
theorem ag6{t e:TypeId}{i:TypeInfo}{ty:TypeId}{base:Option Addr}{k c:Nat}{u:Value}(ht:P.underlying t=some (.slice e))(hi:P.info? e=some i)(hk:k<=c)
 (hu:u= .slice none 0 0\/∃a c',u= .slice (some a) 0 c')(w:World):(Builtin.append_ #[t,t] ty #[.slice base k c,u]).run P w= .ok (.slice base k c) w:=by
 rcases hu with rfl|⟨ad,c',rfl⟩
 ·cases base<;>simp[Builtin.append_,run_underlying ht,sizeOf,typeInfo,hi,Builtin.lenOf,hk,Builtin.firstCells,storeCells]
 ·cases base<;>simp[Builtin.append_,run_underlying ht,sizeOf,typeInfo,hi,Builtin.lenOf,hk,Builtin.firstCells,loadCells,loadCellsFrom,storeCells]
theorem qh{w:World}{b o:Nat}{xs:List Value}(h:cellsAt w b o xs):∀j v,xs[j]?=some v->w.cell? ((⟨b,o,none⟩:Addr).add j)=some v:=λj v hj=>by rw[Addr.add_lit];exact h j v hj
theorem wj{o:Oper}{t:TypeId}{s y:Operand}(ho:o.op= .call {callee:= .builtin .append,args:=#[s,y],argTypes:=#[t,t]}){v:Value}{w w':World}
 (hr:(Builtin.append_ #[t,t] o.type #[a.eval s,a.eval y]).run P w= .ok v w'):(execOp a.eval o).run P w= .ok (.value v) w':=by
 obtain⟨cs,he⟩:=bi9 (a:=a) ho;rw[he];simp only[builtin,Sem.run_bind];rw[show(#[s,y].map a.eval)=#[a.eval s,a.eval y] from by simp,hr];rfl
theorem VRL_prefix{cs:List PV}{us zs:List Value}(h:VRL P x cs us):VRL P x cs ((us++zs).take cs.length):=by
 rw[<-VRL_length h,List.take_left']
 ·exact h
 ·rfl
theorem aw1{o:Oper}{t e:TypeId}{i:TypeInfo}{z:Value}{s y:Operand}{r:PV}{h':Heap}(R:RelP P w0 F0 h x)(hT:Temps P x n T a)
 (ho:o.op= .call {callee:= .builtin .append,args:=#[s,y],argTypes:=#[t,t]})(ht:P.underlying t=some (.slice e))(hi:P.info? e=some i)(hz:i.zero=some z)
 (hzs:z.cells.size=i.size)(hpos:0 < i.size)(hq:opL T h (.append t e i.size i.bytes s y)=some (r,h')):GoodL P w0 F0 a x o h.nv r h':=by
 simp only[opL]at hq;split at hq
 ·rename_i m news hsrc;have hsv:=hT.ev s;rcases Nat.eq_zero_or_pos m with hm0|hmpos
  · -- nothing to append
   subst hm0;have hu:a.eval y= .slice none 0 0\/∃ad c',a.eval y= .slice (some ad) 0 c':=by
    rcases an9 R (hT.ev y) hsrc with⟨_,_,ad,e1⟩|⟨b,off,c,xs,e1,_⟩
    ·cases ad with
     |none=>exact .inl e1
     |some ad=>exact .inr ⟨_,_,e1⟩
    ·exact .inr ⟨_,c,e1⟩
   have key:r=ev T s/\h'=h/\∃base k c,a.eval s= .slice base k c/\k<=c:=by
    unfold appF at hq;split at hq
    ·rename_i ad hs;rw[hs]at hsv;simp only[if_true,Option.some.injEq,Prod.mk.injEq]at hq;exact⟨by rw[hs,hq.1],hq.2.symm,_,0,0,qs hsv,Nat.le_refl _⟩
    ·rename_i tg es hs;rw[hs]at hsv;simp only[if_true,Option.some.injEq,Prod.mk.injEq]at hq;simp only[VR,AsVal,PV.isAgg,VRC,List.cons.injEq,and_true]at hsv;obtain⟨b,off,cap,sz,e1,h1,_⟩:=hsv;exact⟨by rw[hs,hq.1],hq.2.symm,_,_,_,e1,h1⟩
    ·rename_i id ver k hs;rw[hs]at hsv;simp only[if_true,Option.some.injEq,Prod.mk.injEq]at hq;simp only[VR,AsVal,PV.isAgg,VRC,List.cons.injEq,and_true]at hsv;obtain⟨b,cap,_,e1,h1,_⟩:=hsv;exact⟨by rw[hs,hq.1],hq.2.symm,_,_,_,e1,h1⟩
    ·cases hq
   obtain⟨rfl,rfl,base,k,c,e1,hk⟩:=key;refine⟨_,a.eval s,x,?_,.inl O,R,Ext.refl x,hT.ev s,λ_ _ _ hn=>hn⟩;rw[e1];exact wj ho (by rw[e1];exact ag6 ht hi hk hu x.w)
  · -- something to append
   obtain⟨b,off,c,xs,ey,hxl,hxc,hxr⟩:∃b o c xs,a.eval y= .slice (some ⟨b,o,none⟩) m c/\xs.length=m*i.size/\cellsAt x.w b o xs/\VRL P x news xs:=by
    rcases an9 R (hT.ev y) hsrc with⟨h0,_,_⟩|h
    ·omega
    ·exact h
   have hm0:m≠0:=by omega
   have gd:=Grow.drew x;have Rd:=R.grow gd;have Ed:=R.ext_of_grow gd
   -- a new block that holds 'cs' at its head
   have newcase:∀(cs:List PV)(us:List Value)(need old id:Nat)(bl':List Blk),VRL P x cs us->us.length=need*i.size->old < need->need<=4611686018427387904->
    (∀(k:Nat) blk,bl'[k]?=some blk->(k=id/\blk= .cells h.nv e true cs)\/(k≠id/\h.bl[k]?=some blk))->
    (Builtin.append_ #[t,t] o.type #[a.eval s,a.eval y]).run P x.w= .ok (.slice (some ⟨x.w.heap.size,0,none⟩) need (grownCap x.w need old e)) (x.w.drew.alloc (.cells (us.toArray++Builtin.zeroCells z.cells (grownCap x.w need old e-need)) e))->
    GoodL P w0 F0 a x o h.nv (.os id h.nv 0 need) ⟨h.nv+1,bl'⟩:=by
    intro cs us need old id bl' hv hul hlt hneed hbl hrun;have hv':VRL P ⟨x.w.drew,x.F,x.J⟩ cs us:=VRL_ext' Ed hv;obtain⟨R',E⟩:=Rd.newOwn (t:=e) (id:=id) (cs:=cs) (us:=us.toArray++Builtin.zeroCells z.cells (grownCap x.w need old e-need))
     (by simp only[Array.size_append,List.size_toArray,VRL_length hv];omega) (by simp only[Array.toList_append];exact VRL_prefix hv') (bl':=bl') hbl
    have hge:=grownCap_ge x.w need old e;refine⟨_,.slice (some ⟨x.w.heap.size,0,none⟩) need (grownCap x.w need old e),_,wj ho hrun,.inl O,R',Ed.trans E,?_,qn (.inr (Nat.le_refl _))⟩;refine⟨x.w.heap.size,grownCap x.w need old e,px,O,hge,grownCap_le_maxLen x.w need old e (by simp only[maxLen];omega),λ_=>⟨_,e,(0,0),heap_alloc_new x.w.drew _,?_⟩⟩;simp only[Array.size_append,List.size_toArray,size_zeroCells,hul,hzs,Program.cellsOf,hi,Option.map_some,Option.getD_some];rw[<-Nat.add_mul,show need+(grownCap x.w need old e-need)=grownCap x.w need old e by omega]
   unfold appF at hq;split at hq
   ·rename_i ad hs;rw[hs]at hsv;have es:=qs hsv;rw[if_neg hm0]at hq;split at hq
    ·rename_i hf;simp only[Option.some.injEq,Prod.mk.injEq]at hq;obtain⟨rfl,rfl⟩:=hq;simp only[fits,decide_eq_true_eq]at hf;refine newcase news xs m 0 h.bl.length _ hxr hxl hmpos hf.2 ru ?_;rw[es,ey];cases ad with
     |none=>
      have:=run_append_nil (P:=P) x.w t o.type e i z ht hi hz ⟨b,off,none⟩ m c xs hxl (qh hxc) hmpos V V;rw[this]
     |some ad=>
      have:=run_append_grow (P:=P) x.w t o.type e i z ht hi hz ad 0 0 [] OZ (λj v hj=>by simp at hj) ⟨b,off,none⟩ m c xs hxl (qh hxc) V V (growslice_fits V (by simpa using hf.1));rw[this];simp
    ·cases hq
   ·rename_i tight es hs;rw[hs]at hsv;rw[if_neg hm0]at hq;split at hq
    ·rename_i hcond;obtain⟨htight,hall,hf⟩:=hcond;simp only[Option.map_eq_some_iff,Prod.mk.injEq]at hq;obtain⟨cs,hcs,rfl,rfl⟩:=hq;simp only[VR,AsVal,PV.isAgg,VRC,List.cons.injEq,and_true]at hsv;obtain⟨bs,os,cap,sz',e1,h1,h2,h3,hr⟩:=hsv;have hcap:=h3 htight;subst hcap;simp only[fits,decide_eq_true_eq]at hf;obtain⟨ys,hyl,hyc,hyr⟩:∃ys,ys.length=es.length*i.size/\cellsAt x.w bs os ys/\VRL P x cs ys:=by
      by_cases he:es=[]
      ·subst he;simp only[rowCells,Option.some.injEq]at hcs;subst hcs;exact⟨[],by simp,vv,by simp[VRL]⟩
      ·have hsz:sz'=i.size:=by
        cases es with
        |nil=>exact absurd O he
        |cons e0 es=>
         simp only[VRM]at hr;obtain⟨⟨_,zs,hzl,_,hv2⟩,_⟩:=hr;simp only[List.all_cons,Bool.and_eq_true,beq_iff_eq]at hall;rw[<-hzl];exact qm hv2 hall.1
       subst hsz;exact VRM_rowCells hr hcs hall
     refine newcase (cs++news) (ys++xs) (es.length+m) es.length h.bl.length _ (VRL_append hyr hxr) (by rw[List.length_append,hyl,hxl,Nat.add_mul]) V hf.2 ru ?_;rw[e1,ey];have:=run_append_grow (P:=P) x.w t o.type e i z ht hi hz ⟨bs,os,none⟩ es.length es.length ys hyl (qh hyc) ⟨b,off,none⟩ m c xs hxl (qh hxc) V V (growslice_fits V hf.1);rw[this];simp
    ·cases hq
   ·rename_i id ver k hs;rw[hs]at hsv;rw[if_neg hm0]at hq;split at hq
    ·rename_i ver' ty cs hb;split at hq
     ·rename_i hcond;obtain⟨rfl,rfl,hkl,hf⟩:=hcond;simp only[Option.some.injEq,Prod.mk.injEq]at hq;obtain⟨rfl,rfl⟩:=hq;simp only[VR,AsVal,PV.isAgg,VRC,List.cons.injEq,and_true]at hsv;obtain⟨bs,cap,hj,e1,h1,h2,h3⟩:=hsv;obtain⟨cur,hcur,hcl,hvr⟩:=lz R hb hj;obtain⟨cur',ty',fr',hcur',hcs'⟩:=h3 trivial;rw[hcur]at hcur';simp only[Option.some.injEq,Obj.cells.injEq]at hcur';obtain⟨rfl,rfl,rfl⟩:=hcur';simp only[Program.cellsOf,hi,Option.map_some,Option.getD_some]at hcs';simp only[fits,decide_eq_true_eq]at hf;have hseg:=VRL_seg hcl hvr 0 (k*i.size) V;simp only[List.drop_zero]at hseg;have hclt:cs.length<=cur.toList.length:=by simpa using hcl
      have hol:(cur.toList.take (k*i.size)).length=k*i.size:=by simp;have:cs.length<=cur.size:=hcl;omega
      by_cases hroom:k+m<=cap
      ·have hfit:k*i.size+xs.length<=cur.size:=by rw[hxl,hcs',<-Nat.add_mul];exact Nat.mul_le_mul_right _ hroom
       have hrun:=run_append_room (P:=P) x.w t o.type ty i ht hi bs k cap cur hcur ⟨b,off,none⟩ m c xs hxl (qh hxc) (VRL_one hxr) hroom hfit;have hsz:(cur.toList.take (k*i.size)++xs++cur.toList.drop (k*i.size+xs.length)).toArray.size=cur.size:=by
        simp only[List.size_toArray,List.length_append,List.length_take,List.length_drop,Array.length_toList];omega
       obtain⟨R',E⟩:=R.setOwn (ds:=cs.take (k*i.size)++news) (us:=(cur.toList.take (k*i.size)++xs++cur.toList.drop (k*i.size+xs.length)).toArray) hb hj hcur hsz
        (by rw[hsz,List.length_append,List.length_take,<-VRL_length hxr];omega) (VRL_prefix (VRL_append hseg hxr)) (.inr ⟨rfl,rfl⟩) (bl':=h.bl.set id (.cells h.nv ty true (cs.take (k*i.size)++news))) wa
       refine⟨_,.slice (some ⟨bs,0,none⟩) (k+m) cap,_,wj ho (by rw[e1,ey];exact hrun),.inl O,R',E,?_,qn (.inr (Nat.le_refl _))⟩;refine⟨bs,cap,px,O,hroom,h2,λ_=>⟨_,ty,(0,0),setRow_heap _ _ _ _ _ _ hcur,?_⟩⟩;rw[hsz,hcs'];simp only[Program.cellsOf,hi,Option.map_some,Option.getD_some]
      ·refine newcase (cs.take (k*i.size)++news) (cur.toList.take (k*i.size)++xs) (k+m) cap id _ (VRL_append hseg hxr) (by rw[List.length_append,hol,hxl,Nat.add_mul]) V hf.2 wa ?_;rw[e1,ey];have hrow:cellsAt x.w bs 0 (cur.toList.take (k*i.size)):=by have:=lr hcur 0 (k*i.size);simpa using this
       have:=run_append_grow (P:=P) x.w t o.type ty i z ht hi hz ⟨bs,0,none⟩ k cap (cur.toList.take (k*i.size)) hol (qh hrow) ⟨b,off,none⟩ m c xs hxl (qh hxc) V V (growslice_fits V hf.1);rw[this];simp
     ·cases hq
    ·cases hq
   ·cases hq
 ·cases hq
end
end Go.Pb
