import Derived.Test.YtmonnlkagniolaaGreatPbC
import Derived.Sort.Grow
import Derived.Shelf.SlSortCmp.NoneTotal
import Derived.Test.YtmonnlkagniolaaGreatPbK
set_option linter.all false
namespace Go.Pb
open Go Go.RowKit
section
variable{P:Program}{S:List Fr}{Q:Post}{E:TEnv}{h:Heap}{hf:Bool}{L:List Ent}{r:List AOper}{ty:TypeId}{sz:Nat}
theorem sx{x:Operand}{lo hi:Option Operand}{a b:Int}{tt:TypeId}{id ver off n:Nat}(ex:evE E x=some (.os id ver off n))(ha:Bnd E 0 lo a)(hb:Bnd E n hi b)(h0:0<=a)(h1:a < b)(h2:b<=(n:Int))(hs:0 < sz):
 OV P (.slice tt sz x lo hi none) hf E h (.os id ver (off+a.toNat*sz) (b.toNat-a.toNat)):=⟨O,λT hT=>by
 have e1:boundF T 0 lo=some a.toNat:=ha.eq hT h0;have e2:boundF T n hi=some b.toNat:=hb.eq hT V;simp only[opQ,fy hT ex,e1,e2,boundM];rw[if_pos ⟨by omega,by omega,hs,rfl⟩,if_neg V]⟩
theorem RelP.cut{w0:World}{F0:Nat->Prop}{x:Cx}(R:RelP P w0 F0 h x){id ver m:Nat}{t:TypeId}{cs:List PV}(hb:h.bl[id]?=some (.cells ver t true cs)):RelP P w0 F0 (hput h id (.cells ver t true (cs.take m))) x:=by
 have hset:∀(k:Nat) blk,(h.bl.set id (.cells ver t true (cs.take m)))[k]?=some blk->∃blk',h.bl[k]?=some blk'/\blk'.ver=blk.ver/\(blk=blk'\/(k=id/\blk= .cells ver t true (cs.take m))):=λk blk hk=>by
  rcases wa k blk hk with⟨rfl,rfl⟩|⟨hne,hk'⟩
  ·exact⟨_,hb,O,.inr ⟨O,O⟩⟩
  ·exact⟨blk,hk',O,.inl O⟩
 refine⟨R.below,R.f0,R.fsub,R.fnew,R.own,R.fresh,λid1 id2 b1 b2 b h1 h2 h3 h4=>?_,λk blk hk=>?_⟩
 ·obtain⟨c1,e1,v1,_⟩:=hset id1 b1 h1;obtain⟨c2,e2,v2,_⟩:=hset id2 b2 h2;exact R.inj id1 id2 c1 c2 b e1 e2 (by rw[v1];exact h3) (by rw[v2];exact h4)
 ·obtain⟨c1,e1,v1,hc⟩:=hset k blk hk;rcases hc with rfl|⟨rfl,rfl⟩
  ·exact R.hr k _ e1
  ·intro b hj;obtain⟨⟨cur,h5,h6,h7⟩,h8⟩:=R.hr k _ hb b hj;refine⟨⟨cur,h5,by simp;omega,?_⟩,h8⟩;have:=VRL_take m h7;rw[List.take_take]at this;rw[List.length_take];exact this
theorem xk:∀{es cs:List PV},(∀y∈es,cnt y=some sz)->rowCells es=some cs->∀k,rowCells (es.take k)=some (cs.take (k*sz))
 |es,cs,_,_,0=>by simp[rowCells]
 |[],cs,hc,hr,k+1=>by
  simp only[rowCells,Option.some.injEq]at hr;subst hr;simp[rowCells]
 |e::es,cs,hc,hr,k+1=>by
  obtain⟨a,h1,h2⟩:=mg (hc e OZ);obtain⟨b,h3,h4⟩:=nt (es:=es) (sz:=sz) λx hx=>hc x (by simp[hx]);simp only[rowCells,h1,h3,Option.some.injEq]at hr;subst hr;have ih:=xk (λx hx=>hc x (by simp[hx])) h3 k;simp only[List.take_succ_cons,rowCells,h1,ih,Option.some.injEq];rw[show(k+1)*sz=a.length+k*sz by rw[Nat.succ_mul];omega,List.take_append,List.take_of_length_le (l:=a) (i:=a.length+k*sz) (Nat.le_add_right _ _)];simp
theorem bl6{k:Nat}{id ver n kk:Nat}{es:List PV}{z:Value}{x:Operand}(M:Mem h L)(hk:L[k]?=some ⟨.os id ver 0 n,ty,sz,es⟩)(ex:evE E x=some (.os id ver (0+kk*sz) (n-kk)))(hlt:kk < n)(hz:z.cells.size=sz)
 (K:∀h',Mem h' (L.set k ⟨.os id ver 0 kk,ty,sz,es.take kk⟩)->RS P r S Q E h'):RS P (⟨none,.clr sz z x,none,hf⟩::r) S Q E h:=by
 obtain⟨h1,hn,cs,h2,h3⟩:=M.atF hk;obtain⟨cs',h4,h5⟩:=nt h1;rw[h2]at h4;simp only[Option.some.injEq]at h4;subst h4;have hrl:(repCells (n-kk) (z.cells.toList.map PV.sc)).length=(n-kk)*sz:=by
  unfold repCells;rw[lb (sz:=sz) _ (λp hp=>by rw[List.eq_of_mem_replicate hp];simpa using hz)];simp
 have hmul:kk*sz+(n-kk)*sz=n*sz:=by rw[<-Nat.add_mul];congr 1;omega
 have hcl:cs.length=n*sz:=by rw[h5,hn]
 intro T hT;refine⟨T,h,Wk.refl T h,true,O,λ_=> .inl ?_,λe=>by cases e⟩;have hq:opL T h (.clr sz z x)=some (.tup [],hput h id (.cells ver ty true (spl cs (0+kk*sz) (repCells (n-kk) (z.cells.toList.map PV.sc))))):=by
  have hb:h.bl[id]?=some (.cells ver ty true cs):=h3;simp only[opL,fy hT ex,hb];rw[if_pos ⟨trivial,by omega,by omega⟩];rfl
 show OpD P (.clr sz z x) hf T h _
 unfold OpD;show∃r h',opL T h (.clr sz z x)=some (r,h')/\_
 refine⟨_,_,hq,?_⟩;have htk:(spl cs (0+kk*sz) (repCells (n-kk) (z.cells.toList.map PV.sc))).take (kk*sz)=cs.take (kk*sz):=by
  unfold spl;rw[Nat.zero_add,List.take_append_of_le_length (by simp;omega),List.take_take,Nat.min_self]
 have hlt2:=qt h3;have hb2:(hput h id (.cells ver ty true (spl cs (0+kk*sz) (repCells (n-kk) (z.cells.toList.map PV.sc))))).bl[id]?=some (.cells ver ty true (spl cs (0+kk*sz) (repCells (n-kk) (z.cells.toList.map PV.sc)))):=vd h id _ hlt2;have hM:Mem (hput (hput h id (.cells ver ty true (spl cs (0+kk*sz) (repCells (n-kk) (z.cells.toList.map PV.sc))))) id (.cells ver ty true (cs.take (kk*sz)))) (L.set k ⟨.os id ver 0 kk,ty,sz,es.take kk⟩):=by
  refine M.upd hk ⟨λx hx=>h1 x (List.take_subset _ _ hx),by simp;omega,_,?_,vd _ _ _ (by simpa[hput,hlen]using hlt2)⟩ (λi hi=> .inl hi) λi hi hne=>?_
  ·exact xk h1 h2 kk
  ·have hne':¬id=i:=λe=>hne (by simp[idOf,e]);rw[pa _ _ _ _ hne',pa _ _ _ _ hne']
 refine at0 (T':=T) ?_ (K _ hM T hT);intro w0 F0 n' y ac R hTm;refine⟨y,O,Ext.refl y,?_,hTm⟩;have:=R.cut (m:=kk*sz) hb2
 rwa [htk]at this
def cpF{α:Type}[Inhabited α][DecidableEq α](l:List α):Nat->List α
 |0=>[]
 |m+1=>cpF l m++(if m=0\/ix l (m:Int)≠ix l ((m:Int)-1)then[ix l (m:Int)]else[])
def cpt{α:Type}[Inhabited α][DecidableEq α](l:List α):List α:=cpF l l.length
theorem ai2{α:Type}[Inhabited α][DecidableEq α](l:List α):∀m,(cpF l m).length<=m
 |0=>by simp[cpF]
 |m+1=>by
  have:=ai2 l m;rw[cpF,List.length_append];split<;>simp<;>omega
theorem tp{α:Type}[Inhabited α][DecidableEq α]{l:List α}{m:Nat}(h:m=0\/ix l (m:Int)≠ix l ((m:Int)-1)):cpF l (m+1)=cpF l m++[ix l (m:Int)]:=by rw[cpF,if_pos h]
theorem wm{α:Type}[Inhabited α][DecidableEq α]{l:List α}{m:Nat}(h0:0 < m)(h:ix l (m:Int)=ix l ((m:Int)-1)):cpF l (m+1)=cpF l m:=by
 rw[cpF,if_neg (by simp[h];omega),List.append_nil]
theorem zl{α:Type}[Inhabited α]{l:List α}{m:Nat}(h:m < l.length):l.take (m+1)=l.take m++[ix l (m:Int)]:=by
 rw[ad5 h,List.take_add_one,List.getElem?_eq_getElem h];rfl
theorem ao4{α:Type}[Inhabited α][DecidableEq α]{l:List α}(h:l.length < 2):cpt l=l:=by
 unfold cpt
 match l,h with
 |[],_=>rfl
 |[a],_=>simp[cpF,ix]
theorem tn{id ver off n:Nat}{t e:TypeId}(ht:P.underlying t=some (.slice e))(ty:TypeId):biF P .len [t].toArray ty [.os id ver off n]=some (vi (n:Int)):=by
 simp[biF,toVs,toV,ht,vi]
end
end Go.Pb
namespace Go.Pb
open Go Go.RowKit
section
variable{P:Program}{h:Heap}{ty:TypeId}{sz:Nat}
theorem VRL_sc_eq{x:Cx}:∀{us l:List Value},VRL P x (us.map .sc) l->l=us
 |[],[],_=>rfl
 |[],_::_,h=>by simp[VRL]at h
 |_::_,[],h=>by simp[VRL]at h
 |u::us,v::l,h=>by
  simp only[List.map_cons,VRL,VRC,List.cons.injEq,and_true]at h;rw[h.2.1.1,VRL_sc_eq h.2.2]
theorem bg8{w:World}{b:Nat}{cur:Array Value}{us:List Value}(hc:w.heap[b]?=some (.cells cur ty (0,0)))(hu:cur.toList.take us.length=us):Go.Sort.Holds (id:Value->Value) w b 0 us.toArray:=by
 intro j hj;have hj':j < us.length:=by simpa using hj
 have hg:cur.toList[j]?=some us[j]:=by
  have:=congrArg (λl=>l[j]?) hu;simp only[List.getElem?_take,hj',if_true]at this;rw[this,List.getElem?_eq_getElem hj']
 constructor
 ·simp only[World.cell?,hc,Option.isSome_none,Bool.false_eq_true,if_false,Nat.zero_add,id];rw[<-Array.getElem?_toList,hg];simp[hj']
 ·simp[World.frozen?,hc]
theorem bd3{w:World}{b:Nat}{cur:Array Value}{us:List Value}(hc:w.heap[b]?=some (.cells cur ty (0,0)))(hl:us.length<=cur.size):Go.Sort.putRow (id:Value->Value) w b 0 us.toArray=w.setRow b (us++cur.toList.drop us.length).toArray:=by
 have hcut:Go.Sort.putCells (id:Value->Value) 0 us.toArray cur=(us++cur.toList.drop us.length).toArray:=by
  apply Array.ext';apply List.ext_getElem
  ·simp[Go.Sort.putCells];omega
  ·intro j h1 h2;simp only[Go.Sort.putCells,Array.toList_mapIdx,List.getElem_mapIdx,Nat.zero_le,true_and,Nat.zero_add,List.size_toArray,Nat.sub_zero,id];split
   ·rename_i hj;simp only[List.getElem_append_left hj];simp[hj]
   ·rename_i hj;rw[List.getElem_append_right V,List.getElem_drop]
    congr 1
    omega
 unfold Go.Sort.putRow Go.Sort.mapBlock World.setRow
 congr 1
 apply Array.ext_getElem?;intro k;simp only[Array.getElem?_modify];by_cases hk:b=k
 ·subst hk;simp only[if_true,hc,Option.map_some,Go.Sort.onCells,hcut]
 ·simp[hk]
theorem ch8{g:FuncId}(he:Enters P g){id ver n:Nat}{R:List Ent}{es es':List PV}{us us':List Value}{rest:List PV}{crest:List Value}(M:Mem h (⟨.os id ver 0 n,ty,sz,es⟩::R))(e1:rowCells es=some (us.map .sc))(e2:rowCells es'=some (us'.map .sc))(hc':∀x∈es',cnt x=some sz)(hlen:us'.length=us.length)(hes:es'.length=es.length)(h1:∀u∈us',u.oneCell'=true)
 (hr:∀x cargs,VRV P x rest cargs->cargs=crest)
 (H:∀(w:World)(b cap:Nat),b < w.heap.size->Go.Sort.Holds (_root_.id:Value->Value) w b 0 us.toArray->Calls P g (.slice (some ⟨b,0,none⟩) n cap::crest).toArray w λe w'=>e= .returned (.tuple #[])/\∃q os,w'=Go.Sort.grow (Go.Sort.putRow (_root_.id:Value->Value) (Go.Sort.ahead w q) b 0 us'.toArray) os):
 ∃h2,FnX P g (.os id ver 0 n::rest) h (.tup []) h2/\Mem h2 (⟨.os id ver 0 n,ty,sz,es'⟩::R):=by
 obtain⟨hcn,hn,cs,hcs,hb⟩:=M.atF (k:=0) O;rw[e1]at hcs;simp only[Option.some.injEq]at hcs;subst hcs;refine⟨hput h id (.cells ver ty true (us'.map .sc)),⟨he,λw0 F0 x cargs R0 hv=>?_⟩,?_⟩
 ·cases cargs with
  |nil=>simp[VRV]at hv
  |cons u cr=>
   simp only[VRV]at hv;obtain⟨hu,hrest⟩:=hv;have hcr:=hr x cr hrest;subst hcr;simp only[AsVal,PV.isAgg,VRC,List.cons.injEq,and_true]at hu;obtain⟨b,cap,hj,rfl, -, -, -⟩:=hu;obtain⟨cur,hcur,hcl,hvr⟩:=lz R0 hb hj;have htk:=VRL_sc_eq hvr;simp only[List.length_map]at hcl htk;have hblt:b < x.w.heap.size:=(R0.own id ver b hj).2;refine(H x.w b cap hblt (bg8 hcur htk)).mono ?_;rintro e w' ⟨rfl,q,os,hw⟩;have hw2:w'=Go.Sort.grow (Go.Sort.ahead (x.w.setRow b (us'++cur.toList.drop us'.length).toArray) q) os:=by
    rw[hw,Go.Sort.putRow_ahead,bd3 hcur V]
   have hvl:VRL P x (us'.map .sc) ((us'++cur.toList.drop us'.length).toArray.toList.take (us'.map PV.sc).length):=by
    simp only[List.length_map,List.take_left'];exact VRL_sc P x us' (by rw[List.all_eq_true];exact h1)
   obtain⟨R1,E1⟩:=R0.setOwn (us:=(us'++cur.toList.drop us'.length).toArray) hb hj hcur (by simp;omega) OZ hvl (.inl ⟨O,O⟩) (bl':=h.bl.set id (.cells ver ty true (us'.map .sc))) wa;generalize hy1:(⟨x.w.setRow b (us'++cur.toList.drop us'.length).toArray,x.F,updJ x.J id ver b⟩:Cx)=y1 at R1 E1;have hyw:y1.w=x.w.setRow b (us'++cur.toList.drop us'.length).toArray:=by rw[<-hy1]
   have G:Grow y1 ⟨w',y1.F,y1.J⟩:=by
    refine⟨⟨⟨?_,?_,?_,?_,λk hk=>?_⟩,?_⟩,O,λ_ h=>h,λ_ h=> .inl h⟩
    ·rw[hw2,hyw];rfl
    ·rw[hw2,hyw];rfl
    ·rw[hw2,hyw];rfl
    ·rw[hw2,hyw];simp[Go.Sort.grow,Go.Sort.ahead]
    ·rw[hw2,hyw];rw[hyw]at hk;simp only[Go.Sort.grow,Go.Sort.ahead];rw[Array.getElem?_append_left hk]
    ·rw[hw2,hyw];exact Nat.le_add_right _ _
   exact⟨.tuple #[],.tup [],_,⟨w',y1.F,y1.J⟩,O,O,⟨O,O⟩,R1.grow G,E1.trans (R1.ext_of_grow G),⟨[],O,by simp[VRV]⟩⟩
 ·refine M.upd (k:=0) O ⟨hc',by rw[hn,hes],_,e2,vd _ _ _ (qt hb)⟩ (λi hi=> .inl hi) λi hi hne=>?_;exact pa _ _ _ _ λe=>hne (by simp[idOf,e])
theorem ce5{g:FuncId}(he:Enters P g){R:List Ent}{a:PV}{rest:List PV}{crest:List Value}(M:Mem h (⟨a,ty,sz,[]⟩::R))(ne:isL a=true)(hr:∀x cargs,VRV P x rest cargs->cargs=crest)
 (H:∀(w:World)(p:Option Addr)(cap:Nat),Calls P g (.slice p 0 cap::crest).toArray w λe w'=>e= .returned (.tuple #[])/\w'=w):FnX P g (a::rest) h (.tup []) h:=by
 have HE:=M.at (k:=0) O;refine⟨he,λw0 F0 x cargs R0 hv=>?_⟩;cases cargs with
 |nil=>simp[VRV]at hv
 |cons u cr=>
  simp only[VRV]at hv;obtain⟨hu,hrest⟩:=hv;have hcr:=hr x cr hrest;subst hcr;have key:∃p cap,u= .slice p 0 cap:=by
   have H2:=HE.2;unfold EntV at H2;split at H2
   ·rename_i hv';simp only at hv';rw[hv']at ne;cases ne
   ·rename_i id ver n hv';simp only at hv' H2;subst hv';obtain⟨hn,_⟩:=H2;have:n=0:=hn;subst this;simp only[AsVal,PV.isAgg,VRC,List.cons.injEq,and_true]at hu;obtain⟨b,cap, -,rfl, -⟩:=hu;exact⟨_,_,O⟩
   ·rename_i ad hv';simp only at hv';subst hv';exact⟨_,_,qs hu⟩
   ·rename_i es' hv';simp only at hv' H2;subst hv' H2;simp only[AsVal,PV.isAgg,VRC,List.cons.injEq,and_true,List.length_nil]at hu;obtain⟨b,o,cap,sz,rfl, -⟩:=hu;exact⟨_,_,O⟩
   ·rename_i hv';simp only at hv';rw[hv']at ne;cases ne
   ·exact H2.elim
  obtain⟨p,cap,rfl⟩:=key;refine(H x.w p cap).mono ?_;rintro e w' ⟨rfl,rfl⟩;exact⟨.tuple #[],.tup [],h,x,O,O,⟨O,O⟩,R0,Ext.refl x,⟨[],O,by simp[VRV]⟩⟩
theorem uu{α:Type}{mk:α->PV}{enc:α->List Value}(hm:∀x,(mk x).cellsOf=some ((enc x).map .sc)):∀(l:List α),rowCells (l.map mk)=some ((l.flatMap enc).map .sc)
 |[]=>rfl
 |x::l=>by simp only[List.map_cons,rowCells,hm,uu hm l,List.flatMap_cons,List.map_append]
theorem bc8{α:Type}{R:α->PV->Prop}{mk:α->PV}(hR:∀x v,R x v->v=mk x):∀{l:List α}{es:List PV},All2 R l es->es=l.map mk
 |[],[],_=>rfl
 |[],_::_,h=>by simp[All2]at h
 |_::_,[],h=>by simp[All2]at h
 |x::l,e::es,h=>by rw[List.map_cons,hR x e h.1,<-bc8 hR h.2]
theorem ax9{α:Type}{R:α->PV->Prop}{mk:α->PV}(hR:∀x,R x (mk x)):∀(l:List α),All2 R l (l.map mk)
 |[]=>trivial
 |x::l=>⟨hR x,ax9 hR l⟩
theorem ai9{α:Type}{enc:α->List Value}{k:Nat}(hk:∀x,(enc x).length=k):∀(l:List α),(l.flatMap enc).length=l.length*k
 |[]=>by simp
 |x::l=>by rw[List.flatMap_cons,List.length_append,hk,ai9 hk l,List.length_cons,Nat.succ_mul];omega
theorem bt3{α:Type}{t:TR α}{mk:α->PV}{enc:α->List Value}{g:FuncId}(he:Enters P g)(hR:∀x v,t.R x v->v=mk x)(hR2:∀x,t.R x (mk x))(hm:∀x,(mk x).cellsOf=some ((enc x).map .sc))(hk:∀x,(enc x).length=t.sz)(h1:∀x,∀u∈enc x,u.oneCell'=true){l l':List α}(hll:l'.length=l.length)
 {a:PV}{es:List PV}{R:List Ent}{rest:List PV}{crest:List Value}(hr:∀x cargs,VRV P x rest cargs->cargs=crest)(q:All2 t.R l es)(ne:isL a=true)(wi:Wri a es)(M:Mem h (⟨a,ty,t.sz,es⟩::R))
 (H0:l=[]->∀(w:World)(p:Option Addr)(cap:Nat),Calls P g (.slice p 0 cap::crest).toArray w λe w'=>e= .returned (.tuple #[])/\w'=w)
 (H:∀(w:World)(b cap:Nat),b < w.heap.size->Go.Sort.Holds (_root_.id:Value->Value) w b 0 (l.flatMap enc).toArray->Calls P g (.slice (some ⟨b,0,none⟩) l.length cap::crest).toArray w λe w'=>e= .returned (.tuple #[])/\∃q os,w'=Go.Sort.grow (Go.Sort.putRow (_root_.id:Value->Value) (Go.Sort.ahead w q) b 0 (l'.flatMap enc).toArray) os):
 ∃r h2,FnX P g (a::rest) h r h2/\∃es',Mem h2 (⟨a,ty,t.sz,es'⟩::R)/\All2 t.R l' es'/\Wri a es'/\r= .tup []:=by
 have hes:=bc8 hR q;rcases wi with rfl|⟨id,ver,n,rfl⟩
 ·have hl0:l=[]:=by
   cases l with
   |nil=>rfl
   |cons _ _=>simp at hes
  have hl0':l'=[]:=by
   cases l' with
   |nil=>rfl
   |cons _ _=>rw[hl0]at hll;simp at hll
  subst hl0';exact⟨_,h,ce5 he M ne hr (H0 hl0),[],M,trivial,.inl O,O⟩
 ·have hn:n=l.length:=by rw[zv M (k:=0) rfl,All2.length_eq q]
  subst hn;obtain⟨h2,X,M2⟩:=ch8 (es':=l'.map mk) (us:=l.flatMap enc) (us':=l'.flatMap enc) he M (by rw[hes];exact uu hm l) (uu hm l') (λx hx=>by
   obtain⟨y,_,rfl⟩:=List.mem_map.1 hx;exact t.cnt (hR2 y)) (by rw[ai9 hk,ai9 hk,hll]) (by rw[List.length_map,hll,hes,List.length_map]) (λu hu=>by
   obtain⟨y,_,hy⟩:=List.mem_flatMap.1 hu;exact h1 y u hy) hr H
  exact⟨_,h2,X,_,M2,ax9 hR2 l',.inr ⟨_,_,_,O⟩,O⟩
theorem ay4(l:List Int):l.flatMap (λz=>[Value.int .i64 z])=l.map (Value.int .i64):=by
 induction l with
 |nil=>rfl
 |cons x l ih=>rw[List.flatMap_cons,ih];rfl
theorem bn8{w:World}{b:Nat}{l:List Int}(H:Go.Sort.Holds (_root_.id:Value->Value) w b 0 (l.map (Value.int .i64)).toArray):Go.Sort.Holds (Value.int .i64) w b 0 l.toArray:=λj hj=>by
 have hj':j < l.length:=by simpa using hj
 have:=H j (by simpa using hj');simpa[hj']using this
theorem bf5{w:World}{b:Nat}{l:List Int}:Go.Sort.putRow (Value.int .i64) w b 0 l.toArray=Go.Sort.putRow (_root_.id:Value->Value) w b 0 (l.map (Value.int .i64)).toArray:=by
 unfold Go.Sort.putRow;refine Go.Sort.mapBlock_congr _ _ _ _ λc _ _ _=>?_;unfold Go.Sort.putCells;apply Array.ext
 ·simp
 ·intro j h1 h2;simp only[Array.getElem_mapIdx,List.size_toArray,List.length_map,Nat.zero_le,true_and,Nat.zero_add,Nat.sub_zero,id];split
  ·rename_i hj;simp[hj]
  ·rfl
theorem bg9{g:FuncId}(he:Enters P g)
 (H:∀(blk off cap:Nat)(zs:List Int)(w:World),Go.Sort.Holds (Value.int .i64) w blk off zs.toArray->blk < w.heap.size->zs.length < 4611686018427387904->Calls P g #[.slice (some ⟨blk,off,none⟩) zs.length cap] w λe w'=>e= .returned (.tuple #[])/\∃n os,w'=Go.Sort.grow (Go.Sort.putRow (Value.int .i64) (Go.Sort.ahead w n) blk off (zs.mergeSort λx y=>decide (x<=y)).toArray) os)
 (H0:∀(p:Option Addr)(cap:Nat)(w:World),Calls P g #[.slice p 0 cap] w λe w'=>e= .returned (.tuple #[])/\w'=w)
 {l:List Int}{a:PV}{es:List PV}{R:List Ent}(q:All2 tI.R l es)(ne:isL a=true)(hl:l.length<=1000000)(wi:Wri a es)(M:Mem h (⟨a,ty,1,es⟩::R)):
 ∃r h2,FnX P g [a] h r h2/\∃es',Mem h2 (⟨a,ty,1,es'⟩::R)/\All2 tI.R (l.mergeSort λx y=>decide (x<=y)) es'/\Wri a es'/\r= .tup []:=by
 refine bt3 (t:=tI) (mk:=vi) (enc:=λz=>[Value.int .i64 z]) (crest:=[]) he (λx v h=>h) (λx=>O) (λx=>O) (λx=>O) (λx u hu=>by simp at hu;subst hu;rfl) (List.length_mergeSort _) (λx cargs hv=>by cases cargs with
  |nil=>rfl
  |cons _ _=>simp[VRV]at hv) q ne wi M (λ_ w p cap=>H0 p cap w) λw b cap hb hh=>?_
 rw[ay4]at hh;refine(H b 0 cap l w (bn8 hh) hb V).mono ?_;rintro e w' ⟨rfl,n,os,rfl⟩;exact⟨O,n,os,by rw[ay4,bf5]⟩
end
end Go.Pb
namespace Go.Pb
open Go Go.RowKit Go.Sort Go.Proofs
section
variable{P:Program}{h:Heap}{ty:TypeId}{α:Type}[Inhabited α]
theorem ax6{enc:α->List Value}{k:Nat}(hk:∀x,(enc x).length=k)(l:List α):flatK enc k l.toArray=(l.flatMap enc).toArray:=by
 rcases Nat.eq_zero_or_pos k with h0|hpos
 ·subst h0;have:l.flatMap enc=[]:=by
   rw[List.flatMap_eq_nil_iff];exactλx _=>List.eq_nil_of_length_eq_zero (hk x)
  rw[this];simp[flatK]
 ·have key:∀m,m<=l.length->(List.range (m*k)).map (λt=>(enc l.toArray[t / k]!)[t%k]!)=(l.take m).flatMap enc:=by
   intro m;induction m with
   |zero=>intro _;simp
   |succ m ih=>
    intro hm;rw[Nat.succ_mul,List.range_add,List.map_append,ih V,List.take_add_one,List.flatMap_append,List.getElem?_eq_getElem V]
    congr 1
    simp only[Option.toList_some,List.flatMap_cons,List.flatMap_nil,List.append_nil,List.map_map];apply List.ext_getElem
    ·simp[hk]
    ·intro j h1 h2;simp only[List.length_map,List.length_range]at h1;simp only[List.getElem_map,List.getElem_range,Function.comp_apply];have e1:(m*k+j) / k=m:=by rw[Nat.mul_comm,Nat.mul_add_div hpos,Nat.div_eq_of_lt h1,Nat.add_zero]
     have e2:(m*k+j)%k=j:=by rw[Nat.mul_comm,Nat.mul_add_mod,Nat.mod_eq_of_lt h1]
     rw[e1,e2];have hml:m < l.length:=by omega
     simp[hml,hk,h1]
  apply Array.ext';have:=key l.length (Nat.le_refl _);rw[List.take_length]at this;simpa[flatK]using this
theorem dn6{mk:α->PV}{enc:α->List Value}{k:Nat}{cf:α->α->Int}{gc:FuncId}(hmk:∀x,mk x= .agg ((enc x).map .sc))(h1:∀x,∀u∈enc x,u.oneCell'=true)(HC:∀x y,FnR P gc [mk x,mk y] (vi (cf x y)))(blk off size:Nat)(w:World):CmpLays P gc #[] enc k cf blk off size w:=by
 intro m os dk hd x y;generalize sortWorldK enc k w blk off m dk os=W;have hv:VRV P ⟨W,λ_=>False,noJ⟩ [mk x,mk y] [.agg (enc x).toArray,.agg (enc y).toArray]:=by
  have hone:∀z,AsVal (mk z).isAgg (VRC P ⟨W,λ_=>False,noJ⟩ (mk z)) (.agg (enc z).toArray):=λz=>by
   rw[hmk];exact⟨enc z,O,by simp only[VRC];exact VRL_sc P _ _ (by rw[List.all_eq_true];exact h1 z)⟩
  simp only[VRV];exact⟨hone x,hone y,trivial⟩
 refine((HC x y).2 W (λ_=>False) _ (λb hb=>hb.elim) hv).mono ?_;rintro e w' ⟨v,z,rfl,rfl,G,hr⟩;have hr':=qs hr;subst hr';refine⟨O,z.w.drawn-W.drawn,z.w.heap.extract W.heap.size z.w.heap.size,?_⟩;have hb:=G.below;have hh:z.w.heap=W.heap++z.w.heap.extract W.heap.size z.w.heap.size:=by
  apply Array.ext_getElem?;intro j;rw[Array.getElem?_append];split
  ·rename_i hj;exact hb.block j hj
  ·rename_i hj;rw[Array.getElem?_extract];have hs:W.heap.size<=z.w.heap.size:=hb.size;by_cases hj2:j < z.w.heap.size
   ·rw[if_pos V]
    congr 1
    omega
   ·rw[if_neg V,Array.getElem?_eq_none V]
 have hd':z.w.drawn=W.drawn+(z.w.drawn-W.drawn):=by have:=hb.dr;simp only at this;omega
 have e1:=hb.os;have e2:=hb.tape;have e3:=hb.output;obtain⟨zw,zF,zJ⟩:=z;obtain⟨zh,zt,zd,zo,zu⟩:=zw;simp only at hh hd' e1 e2 e3⊢;subst e1 e2 e3;unfold grow World.drewN;simp only[World.mk.injEq,and_true,true_and];exact⟨hh,hd'⟩
theorem ap6{t:TR α}{mk:α->PV}{enc:α->List Value}{cf:α->α->Int}{g gc:FuncId}(he:Enters P g)(hR:∀x v,t.R x v->v=mk x)(hR2:∀x,t.R x (mk x))(hmk:∀x,mk x= .agg ((enc x).map .sc))(hk:∀x,(enc x).length=t.sz)(h1:∀x,∀u∈enc x,u.oneCell'=true)
 (HC:∀x y,FnR P gc [mk x,mk y] (vi (cf x y)))
 (H:∀(blk off cap:Nat)(d:Array α)(w:World),CmpLays P gc #[] enc t.sz cf blk off d.size w->HoldsK enc t.sz w blk off d->blk < w.heap.size->d.size < 4611686018427387904->Calls P g #[.slice (some ⟨blk,off,none⟩) d.size cap,.func (.func gc) #[] #[]] w λe w'=>e= .returned (.tuple #[])/\∃n os,w'=sortWorldK enc t.sz w blk off n (d.toList.mergeSort λx y=>!(ltOf cf) y x).toArray os)
 (H0:∀(p:Option Addr)(cap:Nat)(w:World),Calls P g #[.slice p 0 cap,.func (.func gc) #[] #[]] w λe w'=>e= .returned (.tuple #[])/\w'=w)
 {l:List α}{a:PV}{es:List PV}{R:List Ent}(q:All2 t.R l es)(ne:isL a=true)(hl:l.length<=1000000)(wi:Wri a es)(M:Mem h (⟨a,ty,t.sz,es⟩::R)):
 ∃r h2,FnX P g [a,.fn (.func gc) [] []] h r h2/\∃es',Mem h2 (⟨a,ty,t.sz,es'⟩::R)/\All2 t.R (l.mergeSort λx y=>!(ltOf cf) y x) es'/\Wri a es'/\r= .tup []:=by
 refine bt3 (mk:=mk) (enc:=enc) (crest:=[.func (.func gc) #[] #[]]) he hR hR2 (λx=>by rw[hmk];rfl) hk h1 (List.length_mergeSort _) (λx cargs hv=>?_) q ne wi M (λ_ w p cap=>H0 p cap w) λw b cap hb hh=>?_
 ·match cargs,hv with
  |[],hv=>simp[VRV]at hv
  |[u],hv=>
   simp only[VRV,AsVal,PV.isAgg,VRC,List.cons.injEq,and_true]at hv;obtain⟨fs,cs,rfl,h2,h3⟩:=hv;cases fs with
   |nil=>cases cs with
    |nil=>rfl
    |cons _ _=>simp[VRV]at h3
   |cons _ _=>simp[VRV]at h2
  |_::_::_,hv=>simp[VRV]at hv
 ·have hh2:HoldsK enc t.sz w b 0 l.toArray:=by
   unfold HoldsK;rw[ax6 hk];exact hh
  have hc:=H b 0 cap l.toArray w (dn6 hmk h1 HC _ _ _ _) hh2 hb (by simp;omega);simp only[List.size_toArray]at hc;refine hc.mono ?_;rintro e w' ⟨rfl,n,os,rfl⟩;exact⟨O,n,os,by unfold sortWorldK putRowK;rw[ax6 hk]⟩
end
end Go.Pb
namespace Go.Pb
open Go Go.RowKit
section
variable{α:Type}[Inhabited α][DecidableEq α]{lt:α->α->Bool}
structure STO{α:Type}(lt:α->α->Bool):Prop where
 irr:∀x,lt x x=false
 trans:∀x y z,lt x y=true->lt y z=true->lt x z=true
 total:∀x y,lt x y=false->lt y x=false->x=y
theorem STO.asymm(h:STO lt){x y:α}(a:lt x y=true):lt y x=false:=by
 cases b:lt y x with
 |false=>rfl
 |true=>have:=h.trans x y x a b;rw[h.irr]at this;cases this
def insS{α:Type}[DecidableEq α](lt:α->α->Bool)(x:α):List α->List α
 |[]=>[x]
 |y::l=>if lt y x=true then y::insS lt x l else if y=x then y::l else x::y::l
theorem te(lt:α->α->Bool)(x:α):∀(l:List α),(insS lt x l).length<=l.length+1
 |[]=>by simp[insS]
 |y::l=>by
  have:=te lt x l;rw[insS];split
  ·simp;omega
  ·split<;>simp
theorem am3(x y:α):∀(l:List α),y∈insS lt x l↔y=x\/y∈l
 |[]=>by simp[insS]
 |z::l=>by
  rw[insS];split
  ·rw[List.mem_cons,am3 x y l,List.mem_cons];constructor
   ·rintro(h|h|h)
    ·exact .inr (.inl h)
    ·exact .inl h
    ·exact .inr (.inr h)
   ·rintro(h|h|h)
    ·exact .inr (.inl h)
    ·exact .inl h
    ·exact .inr (.inr h)
  ·split
   ·rename_i h;subst h;simp
   ·simp
theorem bm2(h:STO lt)(x:α):∀(l:List α),l.Pairwise (λa b=>lt a b=true)->(insS lt x l).Pairwise (λa b=>lt a b=true)
 |[],_=>by simp[insS]
 |z::l,hp=>by
  rw[List.pairwise_cons]at hp;rw[insS];split
  ·rename_i h1;rw[List.pairwise_cons];refine⟨λy hy=>?_,bm2 h x l hp.2⟩;rcases(am3 x y l).1 hy with rfl|hy
   ·exact h1
   ·exact hp.1 y hy
  ·rename_i h1;split
   ·exact List.pairwise_cons.2 hp
   ·rename_i h2;have hxz:lt x z=true:=by
     cases e:lt x z with
     |true=>rfl
     |false=>exact absurd (h.total z x (by simpa using h1) e) h2
    refine List.pairwise_cons.2 ⟨λy hy=>?_,List.pairwise_cons.2 hp⟩;rcases List.mem_cons.1 hy with rfl|hy
    ·exact hxz
    ·exact h.trans _ _ _ hxz (hp.1 y hy)
theorem ak9(h:STO lt):∀{l k:List α},l.Pairwise (λa b=>lt a b=true)->k.Pairwise (λa b=>lt a b=true)->(∀y,y∈l↔y∈k)->l=k
 |[],[],_,_,_=>rfl
 |[],b::k,_,_,he=>by have:=(he b).2 List.mem_cons_self;cases this
 |a::l,[],_,_,he=>by have:=(he a).1 List.mem_cons_self;cases this
 |a::l,b::k,hl,hk,he=>by
  rw[List.pairwise_cons]at hl hk;have hab:a=b:=by
   rcases List.mem_cons.1 ((he a).1 List.mem_cons_self)with e|ha
   ·exact e
   ·rcases List.mem_cons.1 ((he b).2 List.mem_cons_self)with e|hb
    ·exact e.symm
    ·have h1:=hk.1 a ha;rw[h.asymm (hl.1 b hb)]at h1;cases h1
  subst hab;have ht:l=k:=ak9 h hl.2 hk.2 λy=>by
   constructor
   ·intro hy;rcases List.mem_cons.1 ((he y).1 (List.mem_cons_of_mem _ hy))with rfl|h1
    ·have:=hl.1 _ hy;rw[h.irr]at this;cases this
    ·exact h1
   ·intro hy;rcases List.mem_cons.1 ((he y).2 (List.mem_cons_of_mem _ hy))with rfl|h1
    ·have:=hk.1 _ hy;rw[h.irr]at this;cases this
    ·exact h1
  rw[ht]
theorem aw0{s:List α}:∀(m:Nat),m<=s.length->∀y,y∈cpF s m↔y∈s.take m
 |0,_,y=>by simp[cpF]
 |m+1,hm,y=>by
  have ih:=aw0 (s:=s) m V y;rw[zl V,List.mem_append,List.mem_singleton,<-ih];by_cases hc:m=0\/ix s (m:Int)≠ix s ((m:Int)-1)
  ·rw[tp hc,List.mem_append,List.mem_singleton]
  ·rw[wm V (by
    by_cases he:ix s (m:Int)=ix s ((m:Int)-1)
    ·exact he
    ·exact absurd (.inr he) hc)]
   constructor
   ·exact .inl
   ·rintro(h|rfl)
    ·exact h
    ·rw[ih];have hm0:m≠0:=λe=>hc (.inl e);have he:ix s (m:Int)=ix s ((m:Int)-1):=by
      by_cases he:ix s (m:Int)=ix s ((m:Int)-1)
      ·exact he
      ·exact absurd (.inr he) hc
     rw[he,show((m:Int)-1)=((m-1:Nat):Int) by omega,ad5 (l:=s) (i:=m-1) V];rw[List.mem_take_iff_getElem];exact⟨m-1,(by omega:m-1 < min m s.length),O⟩
theorem ce3(h:STO lt){s:List α}(hs:s.Pairwise (λa b=>lt b a=false)):∀(m:Nat),m<=s.length->(cpF s m).Pairwise (λa b=>lt a b=true)
 |0,_=>by simp[cpF]
 |m+1,hm=>by
  have ih:=ce3 h hs m V;by_cases hc:m=0\/ix s (m:Int)≠ix s ((m:Int)-1)
  ·rw[tp hc,List.pairwise_append];refine⟨ih,List.pairwise_singleton _ _,λa ha b hb=>?_⟩;rw[List.mem_singleton]at hb;subst hb;rw[aw0 m V,List.mem_take_iff_getElem]at ha;obtain⟨j,hj,rfl⟩:=ha;have hjm:j < m:=by omega
   rw[List.pairwise_iff_getElem]at hs;have h1:=hs j m V V hjm;rw[ad5 V];cases e:lt (s[j]' V) (s[m]' V)with
   |true=>rfl
   |false=>
    exfalso;have heq:=h.total _ _ e h1;rcases hc with hc|hc
    ·omega
    ·apply hc;rw[show((m:Int)-1)=((m-1:Nat):Int) by omega,ad5 V,ad5 V];by_cases hj1:j=m-1
     ·subst hj1;exact heq.symm
     ·have h2:=hs j (m-1) V V V;have h3:=hs (m-1) m V V V;rw[heq]at h2;exact h.total _ _ h3 h2
  ·rw[wm V (by
    by_cases he:ix s (m:Int)=ix s ((m:Int)-1)
    ·exact he
    ·exact absurd (.inr he) hc)]
   exact ih
theorem di0(h:STO lt){s:List α}(hs:s.Pairwise (λa b=>lt b a=false)):(cpt s).Pairwise (λa b=>lt a b=true):=ce3 h hs _ (Nat.le_refl _)
theorem cv7{s:List α}(y:α):y∈cpt s↔y∈s:=by
 unfold cpt;rw[aw0 _ (Nat.le_refl _),List.take_length]
theorem bj8(h:STO lt):∀(l acc:List α),acc.Pairwise (λa b=>lt a b=true)->(l.foldl (λacc x=>insS lt x acc) acc).Pairwise (λa b=>lt a b=true)
 |[],acc,ha=>ha
 |x::l,acc,ha=>bj8 h l _ (bm2 h x acc ha)
theorem bd5(y:α):∀(l acc:List α),y∈l.foldl (λacc x=>insS lt x acc) acc↔y∈l\/y∈acc
 |[],acc=>by simp
 |x::l,acc=>by
  rw[List.foldl_cons,bd5 y l,am3,List.mem_cons];constructor
  ·rintro(h|h|h)
   ·exact .inl (.inr h)
   ·exact .inl (.inl h)
   ·exact .inr h
  ·rintro((h|h)|h)
   ·exact .inr (.inl h)
   ·exact .inl h
   ·exact .inr (.inr h)
theorem cu4(h:STO lt)(l:List α):(l.mergeSort λx y=>!lt y x).Pairwise (λa b=>lt b a=false):=by
 have:=List.pairwise_mergeSort (le:=λx y=>!lt y x) (λa b c h1 h2=>by
  simp only[Bool.not_eq_true']at h1 h2⊢;cases e:lt c a with
  |false=>rfl
  |true=>
   cases e2:lt b c with
   |true=>rw[h.trans _ _ _ e2 e]at h1;cases h1
   |false=>have:=h.total _ _ e2 h2;subst this;rw[e]at h1;cases h1) (λa b=>by
  cases e:lt b a with
  |false=>simp
  |true=>simp[h.asymm e]) l
 exact this.imp λ{a b} hab=>by simpa using hab
theorem ud(h:STO lt)(l:List α):cpt (l.mergeSort λx y=>!lt y x)=l.foldl (λacc x=>insS lt x acc) []:=by
 refine ak9 h (di0 h (cu4 h l)) (bj8 h l [] .nil) λy=>?_;rw[cv7,List.mem_mergeSort,bd5];simp
end
end Go.Pb
namespace Go.Pb
open Go Go.RowKit
theorem qa:(∀a b:Bool,((a||b)=true)=(a=true\/b=true))/\(∀a b:Bool,(a||b)=false↔a=false/\b=false)/\(∀a b:Bool,((a&&b)=true)=(a=true/\b=true))/\(∀a b:Bool,(a&&b)=false↔(a=true->b=false))/\(∀(p:Prop)[Decidable p],(decide p=true)=p)/\(∀(p:Prop)[Decidable p],decide p=false↔¬p)/\(∀a:Bool,((!a)=true)=(a=false))/\(∀a:Bool,((!a)=false)=(a=true))/\(∀a:Bool,(¬a=true)=(a=false))/\(∀a:Bool,(¬a=false)=(a=true))/\((!true)=false)/\((!false)=true)/\(∀n:Nat,Int.ofNat n=(n:Int))/\(∀n:Nat,Int.negSucc n= -((n:Int)+1))/\(∀(α:Type)(a b:α),(a≠b)=¬a=b):=
 ⟨Bool.or_eq_true,λ_ _=>Bool.or_eq_false_iff,Bool.and_eq_true,λ_ _=>Bool.and_eq_false_imp,λ_ _=>decide_eq_true_eq,λ_ _=>decide_eq_false_iff_not,Bool.not_eq_true',Bool.not_eq_false',Bool.not_eq_true,Bool.not_eq_false,rfl,rfl,λ_=>rfl,λ_=>Int.negSucc_eq _,λ_ a b=>ne_eq a b⟩
theorem sB{E:TEnv}:∀{E0:TEnv},E0.map (λp=>look p.1 E)=E0.map (λp=>some p.2)->SubE E E0
 |[],_=>pr E
 |(d,v)::r,h=>by
  simp only[List.map_cons,List.cons.injEq]at h;exact fd h.1 (sB h.2)
def cO(P:Program)(own:List Tmp)(n:Nat)(f:Func):AC:=(compC P own n (f.body.getD .skip)).getD .skip
def loops:AC->List AC
 | .seq a b=>loops a++loops b
 | .cond _ a b=>loops a++loops b
 | .block _ b=>loops b
 | .scope b=>loops b
 | .loop b=>b::loops b
 |_=>[]
def lP(k:Nat)(c:AC):AC:=(loops c).getD k .skip
abbrev rdc(c w:AC)(h:c=w):AC:=w
theorem tX{P:Program}{f:FuncId}{own:List Tmp}{n np:Nat}{ac:AC}{rs:List (Tmp×Option (Nat×Bool))}{fn:Func}(e:Enters P f)(fo:P.follows .mixedOrders=true)(h:P.funcs[f]?=some fn)
 (hb:fn.body=some (fn.body.getD .skip))(hn:fn.ntmps=n)(hp:np<=n)(hc:compC P own n (fn.body.getD .skip)=some ac)(hr:compRes P fn.results.toList=some rs):FnText P f own n np ac rs:=
 ⟨e,fo,fn,_,h,hb,hn,hp,hc,hr⟩
section
variable{P:Program}{S:List Fr}{Q:Post}{E E0:TEnv}{h h':Heap}{op:AOp}{hf hf2:Bool}{v:PV}{r l:List AOper}{d d2 t:Nat}{f:Operand}{args:List Operand}{w b:Bool}
theorem wC{c:AC}(k:RC P c S Q E0 h)(s:E0.map (λp=>look p.1 E)=E0.map (λp=>some p.2)):RC P c S Q E h:=rm (sB s) k
theorem wP{id:Nat}(k:PX P id S Q E0 h)(s:E0.map (λp=>look p.1 E)=E0.map (λp=>some p.2)):PX P id S Q E h:=ab1 (sB s) k
theorem wD{l:List AOper}(k:RD P l S Q E0 h)(s:E0.map (λp=>look p.1 E)=E0.map (λp=>some p.2)):RD P l S Q E h:=ww (sB s) k
theorem cd{α:Type}{c:Operand}{a b:AC}{v:Bool}{x y r:α}(hres:(if v=true then x else y)=r)(hc:evE E c=some (vb v))(h1:v=true->x=r->RC P a S Q E h)(h2:v=false->y=r->RC P b S Q E h):RC P (.cond c a b) S Q E h:=
 bp hc (λe=>h1 e ((aq8 e).symm.trans hres)) (λe=>h2 e ((ao5 e).symm.trans hres))
theorem fnS{f:FuncId}{own:List Tmp}{n np:Nat}{ac:AC}{rs:List (Tmp×Option (Nat×Bool))}{args:List PV}{α:Type}{e:α}{v:PV}{R:α->PV->Prop}(X:FnText P f own n np ac rs)
 (hr:∀r,R e r->r=v)(hn:Nat.ble args.length np=true)(H:∀res,e=res->RC P ac [] (QR P rs (R res)) (argE 0 args) ⟨0,[]⟩):FnR P f args v:=by
 obtain⟨r,h1,h2⟩:=fnE X (Nat.le_of_ble_eq_true hn) (H e O);rw[<-hr r h2];exact h1
theorem fnT{f:FuncId}{own:List Tmp}{n np:Nat}{ac:AC}{rs:List (Tmp×Option (Nat×Bool))}{args:List PV}{α:Type}{e:α}{R:α->PV->Prop}(X:FnText P f own n np ac rs)
 (hn:Nat.ble args.length np=true)(H:∀res,e=res->RC P ac [] (QR P rs (R res)) (argE 0 args) ⟨0,[]⟩):∃r,FnR P f args r/\R e r:=fnE X (Nat.le_of_ble_eq_true hn) (H e O)
theorem fnXX{f:FuncId}{own:List Tmp}{n np:Nat}{ac:AC}{rs:List (Tmp×Option (Nat×Bool))}{args:List PV}{α:Type}{e:α}{R:α->PV->Heap->Prop}(X:FnText P f own n np ac rs)
 (hn:Nat.ble args.length np=true)(H:∀res,e=res->RC P ac [] (retPost P rs (R res)) (argE 0 args) h):∃r h',FnX P f args h r h'/\R e r h':=fnX X (Nat.le_of_ble_eq_true hn) (H e O)
theorem aL{α:Type}{R:α->PV->Prop}:All2 R [] []:=trivial
theorem rR{α:Type}{t:Tmp}{R:α->PV->Prop}{e res:α}{v:PV}(hres:e=res)(hv:look t E=some v)(hc:closed v=true)(hr:R e v):RC P .ret S (QR P [(t,none)] (R res)) E h:=by
 subst hres;exact gi (.tmp hv .nil) (eh hc) hr
theorem rT{α:Type}{t t':Tmp}{R:α->PV->Prop}{e res:α}{v v':PV}(hres:e=res)(hv:look t E=some v)(hv':look t' E=some v')(hc:closed v=true)(hc':closed v'=true)(hr:R e (.tup [v,v'])):RC P .ret S (QR P [(t,none),(t',none)] (R res)) E h:=by
 subst hres;exact gi (.tmp hv (.tmp hv' .nil)) (eh (show closed (.tup _)=true from aj hc (aj hc' bh))) hr
theorem sR{d:Bool}{al:List AOper}{b:AC}(k:RD P al (.seq b::S) Q E h):RC P (.seq (.region d al) b) S Q E h:=am (av k)
theorem nS{b:AC}(k:RC P b S Q E h):RD P [] (.seq b::S) Q E h:=k
theorem nR{d:Bool}{al:List AOper}{b:AC}(k:RD P al (.seq b::S) Q E h):RD P [] (.seq (.seq (.region d al) b)::S) Q E h:=bn (ap (sR k))
theorem mV{x:Operand}{a:PV}(ex:evE E x=some a)(k:RD P r S Q ((d,a)::E) h):RD P (⟨some d,.move x,none,hf⟩::r) S Q E h:=af (ay ex) k
theorem mI{x:Operand}{n:Int}(ex:evE E x=some (vi n))(k:RD P r S Q ((d,vi n)::E) h):RD P (⟨some d,.move x,none,hf⟩::r) S Q E h:=af (ay ex) k
theorem mB{x:Operand}{n:Bool}(ex:evE E x=some (vb n))(k:RD P r S Q ((d,vb n)::E) h):RD P (⟨some d,.move x,none,hf⟩::r) S Q E h:=af (ay ex) k
theorem bN{op:BinOp}{t:TypeId}{x y:Operand}{a b v:PV}(hb:binF P op t x y a b=some v)(ex:evE E x=some a)(ey:evE E y=some b)(k:RD P r S Q ((d,v)::E) h):RD P (⟨some d,.bin op t x y,none,hf⟩::r) S Q E h:=af (ct ex ey hb) k
theorem xT{x:Operand}{vs:List PV}{k:Nat}{v:PV}(ex:evE E x=some (.tup vs))(hk:vs[k]?=some v)(K:RD P r S Q ((d,v)::E) h):RD P (⟨some d,.extract x k,none,hf⟩::r) S Q E h:=af (be0 ex hk) K
theorem fA{x:Operand}{a w:PV}{off sz:Nat}{agg:Bool}(ex:evE E x=some (.fp a))(hw:fieldR off sz agg a=some w)(k:RD P r S Q ((d,.fp w)::E) h):RD P (⟨some d,.faddr off sz agg x,none,hf⟩::r) S Q E h:=af (co ex hw) k
theorem lD{α:Type}{t:TR α}{s:α}{a:PV}{x:Operand}{sz:Nat}{agg:Bool}(q:t.R s a)(ex:evE E x=some (.fp a))(h1:t.sz=sz)(h2:t.ag=agg)(k:RD P r S Q ((d,a)::E) h):RD P (⟨some d,.load sz agg x,none,hf⟩::r) S Q E h:=af (ck ex (by rw[TR.cnt t q,h1]) (by rw[TR.agg t q,h2])) k
theorem lR{a:PV}{x:Operand}{sz:Nat}{agg:Bool}(ex:evE E x=some (.fp a))(h1:cnt a=some sz)(h2:a.isAgg=agg)(k:RD P r S Q ((d,a)::E) h):RD P (⟨some d,.load sz agg x,none,hf⟩::r) S Q E h:=af (ck ex h1 h2) k
theorem fL{x:Operand}{a w:PV}{off sz sz2:Nat}{agg agg2:Bool}(ex:evE E x=some (.fp a))(hw:fieldR off sz agg a=some w)(h1:cnt w=some sz2)(h2:w.isAgg=agg2)(k:RD P r S Q ((d2,w)::(d,.fp w)::E) h):RD P (⟨some d,.faddr off sz agg x,none,hf⟩::⟨some d2,.load sz2 agg2 (.tmp d),none,hf2⟩::r) S Q E h:=
 af (co ex hw) (af (ck (by simp only[evE,look,Nat.beq_refl,cond_true]) h1 h2) k)
theorem gL{β:Type}{t:TR β}{y:β}{x:Operand}{a:PV}{off sz sz2:Nat}{agg agg2:Bool}(g:∃w,fieldR off sz agg a=some w/\t.R y w)(ex:evE E x=some (.fp a))(h1:t.sz=sz2)(h2:t.ag=agg2)(k:∀w,t.R y w->RD P r S Q ((d2,w)::(d,.fp w)::E) h):RD P (⟨some d,.faddr off sz agg x,none,hf⟩::⟨some d2,.load sz2 agg2 (.tmp d),none,hf2⟩::r) S Q E h:=by
 obtain⟨w,e,q⟩:=g;exact fL ex e (by rw[TR.cnt t q,h1]) (by rw[TR.agg t q,h2]) (k w q)
theorem cL{g:FuncId}{a1:List PV}{v:PV}(hfn:FnR P g a1 v)(ef:evE E f=some (.fn (.func g) [] []))(ea:evL E args=some a1)(hc:closedL a1=true)(k:RD P r S Q ((d,v)::E) h):RD P (⟨some d,.call f args,none,hf⟩::r) S Q E h:=ar8 (rl ef ea hc hfn) k
theorem cm(n:Nat){d:Nat}{v:PV}(H:∀(S:List Fr)(Q:Post)(r:List AOper),RD P r S Q ((d,v)::E) h->RD P (l.take n++r) S Q E h)(k:RD P (l.drop n) S Q ((d,v)::E) h):RD P l S Q E h:=by
 rw[<-List.take_append_drop n l];exact H S Q _ k
theorem gK{c x y:Operand}{u a b v:PV}(ec:evE E c=some u)(ex:evE E x=some a)(ey:evE E y=some b)(hp:pickR u a b=some v)(s:E0.map (λp=>look p.1 ((d,v)::E))=E0.map (λp=>some p.2))(k:RD P r S Q E0 h):RD P (⟨some d,.pick c x y,none,hf⟩::r) S Q E h:=
 af (po ec ex ey hp) (ww (sB s) k)
def skipE:Nat->TEnv->List AOper->Option (TEnv×List AOper)
 |0,E,l=>some (E,l)
 |n+1,E,⟨some d,op,some (t,w),hf⟩::r=>match look t E with
  |some (.sc (.bool b))=>if b=w then none else skipE n ((d,.tup [])::E) r
  |some (.tup [])=>skipE n ((d,.tup [])::E) r
  |_=>none
 |_,_,_=>none
theorem skips:∀(n:Nat){E E1:TEnv}{l l1:List AOper},skipE n E l=some (E1,l1)->RD P l1 S Q E1 h->RD P l S Q E h
 |0,E,E1,l,l1,e,k=>by simp only[skipE,Option.some.injEq,Prod.mk.injEq]at e;obtain⟨rfl,rfl⟩:=e;exact k
 |n+1,E,E1,[],l1,e,k=>by simp[skipE]at e
 |n+1,E,E1,⟨none,op,g,hf⟩::r,l1,e,k=>by simp[skipE]at e
 |n+1,E,E1,⟨some d,op,none,hf⟩::r,l1,e,k=>by simp[skipE]at e
 |n+1,E,E1,⟨some d,op,some (t,w),hf⟩::r,l1,e,k=>by
  simp only[skipE]at e;split at e
  ·rename_i b hb;split at e
   ·cases e
   ·rename_i hne;refine ja hb ?_ (skips n e k);cases b<;>cases w<;>simp_all
  ·rename_i hb;exact cf1 hb (skips n e k)
  ·cases e
theorem gN(n:Nat){E1:TEnv}{c x y:Operand}{u a b v:PV}(e:skipE n E l=some (E1,⟨some d,.pick c x y,none,hf⟩::r))(ec:evE E1 c=some u)(ex:evE E1 x=some a)(ey:evE E1 y=some b)(hp:pickR u a b=some v)(s:E0.map (λp=>look p.1 ((d,v)::E1))=E0.map (λp=>some p.2))(k:RD P r S Q E0 h):RD P l S Q E h:=
 skips n e (gK ec ex ey hp s k)
end
end Go.Pb
namespace Go.Pb
open Go Go.RowKit
section
variable{P:Program}{h:Heap}
theorem Mem.perm{L L':List Ent}(M:Mem h L)(p:L.Perm L'):Mem h L':=
 ⟨λe he=>M.ent e (p.mem_iff.2 he),(p.pairwise_iff λ{a b} hab=>hab.symm).1 M.dis⟩
structure NsE{α:Type}(t:TR α)(ty:TypeId)(l:List α)(v:PV)(e:Ent):Prop where
 ad:e.v=v
 ty:e.ty=ty
 sz:e.sz=t.sz
 el:All2 t.R l e.es
 isl:isL v=true
 len:l.length<=4611686018427387904
 wri:Wri v e.es
def Ns{α:Type}(t:TR α)(ty:TypeId):List (List α)->List PV->List Ent->Prop
 |[],[],[]=>True
 |l::ls,v::vs,e::es=>NsE t ty l v e/\Ns t ty ls vs es
 |_,_,_=>False
section
variable{α:Type}{t:TR α}{ty:TypeId}
theorem Ns.len:∀{ls:List (List α)}{vs:List PV}{I:List Ent},Ns t ty ls vs I->vs.length=ls.length/\I.length=ls.length
 |[],[],[],_=>⟨rfl,rfl⟩
 |l::ls,v::vs,e::es,h=>by have:=Ns.len h.2;exact⟨by simp[this.1],by simp[this.2]⟩
 |[],[],_::_,h=>by simp[Ns]at h
 |[],_::_,_,h=>by simp[Ns]at h
 |_::_,[],_,h=>by simp[Ns]at h
 |_::_,_::_,[],h=>by simp[Ns]at h
theorem Ns.get:∀{ls:List (List α)}{vs:List PV}{I:List Ent}{k:Nat}(_:Ns t ty ls vs I)(hk:k < ls.length),∃v e,vs[k]?=some v/\I[k]?=some e/\NsE t ty ls[k] v e
 |l::ls,v::vs,e::es,0,h,_=>⟨v,e,rfl,rfl,h.1⟩
 |l::ls,v::vs,e::es,k+1,h,hk=>by
  obtain⟨w,f,h1,h2,h3⟩:=Ns.get (k:=k) h.2 (by simpa using hk);exact⟨w,f,by simpa using h1,by simpa using h2,by simpa using h3⟩
 |[],_,_,_,_,hk=>by simp at hk
 |_::_,[],_,_,h,_=>by simp[Ns]at h
 |_::_,_::_,[],_,h,_=>by simp[Ns]at h
theorem Ns.set:∀{ls:List (List α)}{vs:List PV}{I:List Ent}{k:Nat}{l:List α}{v:PV}{e:Ent},Ns t ty ls vs I->NsE t ty l v e->Ns t ty (ls.set k l) (vs.set k v) (I.set k e)
 |[],[],[],_,_,_,_,_,_=>trivial
 |l::ls,v::vs,e::es,0,_,_,_,h,he=>⟨he,h.2⟩
 |l::ls,v::vs,e::es,k+1,_,_,_,h,he=>⟨h.1,Ns.set h.2 he⟩
 |[],[],_::_,_,_,_,_,h,_=>by simp[Ns]at h
 |[],_::_,_,_,_,_,_,h,_=>by simp[Ns]at h
 |_::_,[],_,_,_,_,_,h,_=>by simp[Ns]at h
 |_::_,_::_,[],_,_,_,_,h,_=>by simp[Ns]at h
theorem dj6(n:Nat):Ns t ty (List.replicate n ([]:List α)) (List.replicate n nilS) (List.replicate n ⟨nilS,ty,t.sz,[]⟩):=by
 induction n with
 |zero=>trivial
 |succ n ih=>exact⟨⟨O,O,O,trivial,O,by simp,.inl rfl⟩,ih⟩
theorem ay0{L:List Ent}(M:Mem h L)(ty:TypeId)(sz:Nat):∀n,Mem h (List.replicate n ⟨nilS,ty,sz,[]⟩++L)
 |0=>M
 |n+1=>ou (ay0 M ty sz n) ty (.inl ⟨none,rfl,rfl⟩) OZ
theorem dk8{C R:List Ent}(M:Mem h (C++R))(ty:TypeId)(sz n:Nat):Mem h (C++(List.replicate n ⟨nilS,ty,sz,[]⟩++R)):=
 (ay0 M ty sz n).perm (by rw[<-List.append_assoc,<-List.append_assoc];exact List.Perm.append_right R List.perm_append_comm)
theorem al8{I:List Ent}{k:Nat}{e:Ent}(hk:I[k]?=some e):I.Perm (e::I.eraseIdx k):=by
 obtain⟨hlt,rfl⟩:=List.getElem?_eq_some_iff.1 hk;have h1:I=I.take k++I[k]::I.drop (k+1):=by rw[<-List.drop_eq_getElem_cons hlt,List.take_append_drop]
 have h2:I.eraseIdx k=I.take k++I.drop (k+1):=List.eraseIdx_eq_take_drop_succ ..;rw[h2];exact(List.Perm.of_eq h1).trans List.perm_middle
theorem al1{C I R:List Ent}{k:Nat}{e:Ent}(M:Mem h (C++(I++R)))(hk:I[k]?=some e):Mem h (e::(C++(I.eraseIdx k++R))):=
 M.perm (((al8 hk).append_right R).append_left C |>.trans List.perm_middle)
theorem bw5{I:List Ent}{k:Nat}{e:Ent}(hk:k < I.length):(I.set k e).Perm (e::I.eraseIdx k):=by
 have h1:(I.set k e)[k]?=some e:=by simp[hk]
 have h2:=al8 h1
 rwa [List.eraseIdx_set_eq]at h2
theorem as6{C I R:List Ent}{k:Nat}{e:Ent}(M:Mem h (e::(C++(I.eraseIdx k++R))))(hk:k < I.length):Mem h (C++(I.set k e++R)):=
 M.perm ((List.perm_middle (l₁:=C) (l₂:=I.eraseIdx k++R) (a:=e)).symm.trans (((bw5 hk).symm.append_right R).append_left C))
theorem cb4[Inhabited α]{ls:List (List α)}{vs:List PV}{I:List Ent}{i:Int}(H:Ns t ty ls vs I)(h0:0<=i)(h1:i < ls.length):
 ∃v es,vs[i.toNat]?=some v/\I[i.toNat]?=some ⟨v,ty,t.sz,es⟩/\All2 t.R (ix ls i) es/\isL v=true/\(ix ls i).length<=4611686018427387904/\Wri v es:=by
 obtain⟨v,e,h2,h3,h4⟩:=H.get (k:=i.toNat) V;rw[sy h0 h1];obtain⟨v',ty',sz',es'⟩:=e;obtain⟨e1,e2,e3,e4,e5,e6,e7⟩:=h4;simp only at e1 e2 e3;subst e1 e2 e3;exact⟨v',es',h2,h3,e4,e5,e6,e7⟩
theorem ca0{ls:List (List α)}{vs:List PV}{I:List Ent}{k:Nat}{l:List α}{v:PV}{es:List PV}(H:Ns t ty ls vs I)(h1:All2 t.R l es)(h2:isL v=true)(h3:l.length<=4611686018427387904)(h4:Wri v es):Ns t ty (ls.set k l) (vs.set k v) (I.set k ⟨v,ty,t.sz,es⟩):=
 H.set ⟨rfl,rfl,rfl,h1,h2,h3,h4⟩
theorem ay7{v:PV}:∀{vs:List PV}{k:Nat},vs[k]?=some v->vs.set k v=vs
 |[],_,h=>by simp at h
 |a::vs,0,h=>by simp at h;simp[h]
 |a::vs,k+1,h=>by simp at h;simp[ay7 h]
theorem bl9{ls:List (List α)}{vs:List PV}{I:List Ent}{k:Nat}{l:List α}{v:PV}{es:List PV}(H:Ns t ty ls vs I)(hv:vs[k]?=some v)(h1:All2 t.R l es)(h2:isL v=true)(h3:l.length<=4611686018427387904)(h4:Wri v es):Ns t ty (ls.set k l) vs (I.set k ⟨v,ty,t.sz,es⟩):=by
 have:=ca0 H h1 h2 h3 h4 (k:=k)
 rwa [ay7 hv]at this
theorem dj9{v:PV}(h:cnt v=some 1)(ha:v.isAgg=false):v.cellsOf=some [v]:=by
 cases v<;>simp_all[cnt,PV.cellsOf,PV.isAgg]
theorem dj5:∀{vs:List PV},(∀v∈vs,cnt v=some 1/\v.isAgg=false)->rowCells vs=some vs
 |[],_=>rfl
 |v::vs,h=>by
  simp only[rowCells,dj9 (h v List.mem_cons_self).1 (h v List.mem_cons_self).2,dj5 λx hx=>h x (List.mem_cons_of_mem _ hx)];rfl
theorem bq4{e:Ent}(H:EntR h e)(hne:isL e.v=true)(hc:closedL e.es=true):∃r,DeepC P h e.v r/\IsSl r e.es:=by
 obtain⟨v,ty,sz,es⟩:=e;have M:Mem h [⟨v,ty,sz,es⟩]:=⟨λx hx=>by rw[List.mem_singleton.1 hx];exact H,List.pairwise_singleton ..⟩;obtain⟨r,h1,h2⟩:=ax0 (P:=P) (k:=0) M O hne hc;refine⟨r,?_,h2⟩;have H2:=H.2;have hra:r.isAgg=false:=by rcases h2 with⟨ad,rfl,_⟩|⟨tg,rfl⟩<;>rfl
 simp only at hne hc;unfold EntV at H2;split at H2
 ·rename_i hv;simp only at hv;rw[hv]at hne;cases hne
 ·rename_i id ver n hv;simp only at hv;subst hv;refine⟨h1.1,by rw[hra];rfl,λk hk w0 F0 x us R hv=>?_⟩;have hv0:=hv;simp only[VRC]at hv;obtain⟨b,cap,hj,rfl,_⟩:=hv;have:=h1.2 k hk w0 F0 x _ R hv0;unfold VR at this;rw[hra]at this;exact this
 ·rename_i ad hv;simp only at hv;subst hv;refine⟨h1.1,by rw[hra];rfl,λk hk w0 F0 x us R hv=>?_⟩;have hv0:=hv;simp only[VRC]at hv;obtain⟨rfl,_⟩:=hv;have:=h1.2 k hk w0 F0 x _ R hv0;unfold VR at this;rw[hra]at this;exact this
 ·rename_i es' hv;simp only at hv;subst hv;refine⟨h1.1,by rw[hra];rfl,λk hk w0 F0 x us R hv=>?_⟩;have hv0:=hv;simp only[VRC]at hv;obtain⟨b,o,cap,sz,rfl,_⟩:=hv;have:=h1.2 k hk w0 F0 x _ R hv0;unfold VR at this;rw[hra]at this;exact this
 ·rename_i hv;simp only at hv;rw[hv]at hne;cases hne
 ·exact H2.elim
theorem az8:∀{ls:List (List α)}{vs:List PV}{I L:List Ent},Mem h L->(∀e∈I,e∈L)->Ns t ty ls vs I->∃ds,DeepCL P h vs ds/\All2 (tSl t).R ls ds
 |[],[],[],L,M,hs,H=>⟨[],trivial,trivial⟩
 |l::ls,v::vs,e::es,L,M,hs,H=>by
  obtain⟨ds,h1,h2⟩:=az8 M (λx hx=>hs x (List.mem_cons_of_mem _ hx)) H.2;obtain⟨v',ty',sz',es'⟩:=e;obtain⟨e1,e2,e3,e4,e5,e6,e7⟩:=H.1;simp only at e1 e2 e3 e4;subst e1 e2 e3;obtain⟨r,h3,h4⟩:=bq4 (P:=P) (M.ent _ (hs _ List.mem_cons_self)) e5 e4.clo;exact⟨r::ds,⟨h3,h1⟩,⟨⟨_,h4,e4⟩,Nat.le_trans e6 OO⟩,h2⟩
 |[],[],_::_,_,_,_,H=>by simp[Ns]at H
 |[],_::_,_,_,_,_,H=>by simp[Ns]at H
 |_::_,[],_,_,_,_,H=>by simp[Ns]at H
 |_::_,_::_,[],_,_,_,H=>by simp[Ns]at H
theorem ci5{C R I:List Ent}{A:PV}{tyo:TypeId}{vs:List PV}{ls:List (List α)}{k:Nat}(M:Mem h (C++(I++R)))(hk:C[k]?=some ⟨A,tyo,1,vs⟩)(hne:isL A=true)(H:Ns t ty ls vs I)(hb:ls.length<=9223372036854775807):
 ∃r,Deep P h A r/\(tSl (tSl t)).R ls r:=by
 obtain⟨ds,h1,h2⟩:=az8 (P:=P) M (λe he=>List.mem_append_right _ (List.mem_append_left _ he)) H;have HE:=M.ent _ (List.mem_append_left _ (List.mem_of_getElem? hk));have hld:=h1.len;have H2:=HE.2;simp only at H2;unfold EntV at H2;split at H2
 ·cases hne
 ·rename_i id ver n;obtain⟨hn,cs,h3,h4⟩:=H2;have c1:∀v∈ds,cnt v=some 1/\v.isAgg=false:=by
   have:∀{ls:List (List α)}{ds:List PV},All2 (tSl t).R ls ds->∀v∈ds,cnt v=some 1/\v.isAgg=false:=by
    intro ls ds h v hv;refine⟨All2.cnt (t:=tSl t) h v hv,?_⟩;obtain⟨j,hj,rfl⟩:=List.getElem_of_mem hv;obtain⟨a,ha⟩:∃a,(tSl t).R a ds[j]:=by
     have hl:=h.length;obtain⟨e,he1,he2⟩:=h.get (k:=j) V;rw[List.getElem?_eq_getElem hj,Option.some.injEq]at he1;exact⟨_,he1▸he2⟩
    exact(tSl t).agg ha
   exact this h2
  have c0:∀v∈vs,cnt v=some 1/\v.isAgg=false:=by
   intro v hv;refine⟨HE.1 v hv,?_⟩;have:∀{vs ds:List PV},DeepCL P h vs ds->(∀v∈ds,v.isAgg=false)->∀v∈vs,v.isAgg=false:=by
    intro vs;induction vs with
    |nil=>intro ds _ _ v hv;cases hv
    |cons a vs ih=>
     intro ds h k v hv;cases ds with
     |nil=>exact h.elim
     |cons d ds=>
      rcases List.mem_cons.1 hv with rfl|hv
      ·rw[<-h.1.2.1];exact k d List.mem_cons_self
      ·exact ih h.2 (λx hx=>k x (List.mem_cons_of_mem _ hx)) v hv
   exact this h1 (λx hx=>(c1 x hx).2) v hv
  rw[dj5 c0,Option.some.injEq]at h3;subst h3;refine⟨.fs false ds,⟨by have:=h1.closed;simpa[closed]using this,λk hk w0 F0 x u R hv=>?_⟩,⟨⟨ds,.inr ⟨false,O⟩,h2⟩,hb⟩⟩;simp only[VR,AsVal,PV.isAgg,VRC,List.cons.injEq,and_true]at hv;obtain⟨b,cap,hj,rfl,g1,g2,_⟩:=hv;obtain⟨cur,hcur,hcl,hvr⟩:=lz R (hk _ _ h4) hj;have hF:(⟨x.w,star w0 F0 x.w,noJ⟩:Cx).F b:= .inr (R.own _ _ _ hj);have hall:ds.all (λv=>cnt v==some 1)=true:=by
   rw[List.all_eq_true];intro v hv;simp[(c1 v hv).1]
  have hle:0+ds.length*1<=vs.length:=by omega
  have hseg:=VRL_seg hcl hvr 0 (ds.length*1) hle;have e1:(vs.drop 0).take (ds.length*1)=vs:=by rw[List.drop_zero,Nat.mul_one,<-hld,List.take_length]
  rw[e1]at hseg;refine⟨b,0,cap,1,by rw[hn,hld],by omega,g2,by simp,VRM_of_cells hF (dj5 c1) hall (lr hcur 0 (ds.length*1)) (h1.vrl hk R hseg)⟩
 ·rename_i ad;subst H2;cases ls with
  |nil=>exact⟨_,eh O,⟨⟨[],.inl ⟨ad,O,O⟩,trivial⟩,hb⟩⟩
  |cons a ls=>simp[Ns]at H
 ·rename_i es';subst H2;have:=h1;refine⟨.fs true ds,⟨by have:=h1.closed;simpa[closed]using this,λk hk w0 F0 x u R hv=>?_⟩,⟨⟨ds,.inr ⟨true,O⟩,h2⟩,hb⟩⟩;simp only[VR,AsVal,PV.isAgg,VRC]at hv⊢;obtain⟨b,o,cap,sz,e,g2,g3,g4,hr⟩:=hv;rw[<-h1.len];exact⟨b,o,cap,sz,e,g2,g3,g4,h1.vrm hk R hr⟩
 ·cases hne
 ·exact H2.elim
end
end
end Go.Pb
