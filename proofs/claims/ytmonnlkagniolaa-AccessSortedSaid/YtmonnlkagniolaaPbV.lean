import Derived.Test.YtmonnlkagniolaaPbC
import Derived.Sort.Grow
import Derived.Shelf.SlSortCmp.NoneTotal
set_option linter.all false
namespace Go.Pb
open Go Go.RowKit
section
variable{P:Program}{S:List Fr}{Q:Post}{E:TEnv}{h:Heap}{hf:Bool}{L:List Ent}{r:List AOper}{ty:TypeId}{sz:Nat}
theorem ov_sliceO{x:Operand}{lo hi:Option Operand}{a b:Int}{tt:TypeId}{id ver off n:Nat}(ex:evE E x=some (.os id ver off n))(ha:Bnd E 0 lo a)(hb:Bnd E n hi b)(h0:0<=a)(h1:a < b)(h2:b<=(n:Int))(hs:0 < sz):
 OV P (.slice tt sz x lo hi none) hf E h (.os id ver (off+a.toNat*sz) (b.toNat-a.toNat)):=⟨O,λT hT=>by
 have e1:boundF T 0 lo=some a.toNat:=ha.eq hT h0;have e2:boundF T n hi=some b.toNat:=hb.eq hT V;simp only[opQ,y95q hT ex,e1,e2,boundM];rw[if_pos ⟨by omega,by omega,hs,rfl⟩,if_neg V]⟩
theorem RelP.cut{w0:World}{F0:Nat->Prop}{x:Cx}(R:RelP P w0 F0 h x){id ver m:Nat}{t:TypeId}{cs:List PV}(hb:h.bl[id]?=some (.cells ver t true cs)):RelP P w0 F0 (hput h id (.cells ver t true (cs.take m))) x:=by
 have hset:∀(k:Nat) blk,(h.bl.set id (.cells ver t true (cs.take m)))[k]?=some blk->∃blk',h.bl[k]?=some blk'/\blk'.ver=blk.ver/\(blk=blk'\/(k=id/\blk= .cells ver t true (cs.take m))):=λk blk hk=>by
  rcases bl_set k blk hk with⟨rfl,rfl⟩|⟨hne,hk'⟩
  ·exact⟨_,hb,O,.inr ⟨O,O⟩⟩
  ·exact⟨blk,hk',O,.inl O⟩
 refine⟨R.below,R.f0,R.fsub,R.fnew,R.own,R.fresh,λid1 id2 b1 b2 b h1 h2 h3 h4=>?_,λk blk hk=>?_⟩
 ·obtain⟨c1,e1,v1,_⟩:=hset id1 b1 h1;obtain⟨c2,e2,v2,_⟩:=hset id2 b2 h2;exact R.inj id1 id2 c1 c2 b e1 e2 (by rw[v1];exact h3) (by rw[v2];exact h4)
 ·obtain⟨c1,e1,v1,hc⟩:=hset k blk hk;rcases hc with rfl|⟨rfl,rfl⟩
  ·exact R.hr k _ e1
  ·intro b hj;obtain⟨⟨cur,h5,h6,h7⟩,h8⟩:=R.hr k _ hb b hj;refine⟨⟨cur,h5,by simp;omega,?_⟩,h8⟩;have:=VRL_take m h7;rw[List.take_take]at this;rw[List.length_take];exact this
theorem rowCells_take:∀{es cs:List PV},(∀y∈es,cnt y=some sz)->rowCells es=some cs->∀k,rowCells (es.take k)=some (cs.take (k*sz))
 |es,cs,_,_,0=>by simp[rowCells]
 |[],cs,hc,hr,k+1=>by
  simp only[rowCells,Option.some.injEq]at hr;subst hr;simp[rowCells]
 |e::es,cs,hc,hr,k+1=>by
  obtain⟨a,h1,h2⟩:=cells_of_cnt (hc e U);obtain⟨b,h3,h4⟩:=rowCells_ex (es:=es) (sz:=sz) λx hx=>hc x (by simp[hx]);simp only[rowCells,h1,h3,Option.some.injEq]at hr;subst hr;have ih:=rowCells_take (λx hx=>hc x (by simp[hx])) h3 k;simp only[List.take_succ_cons,rowCells,h1,ih,Option.some.injEq];rw[show(k+1)*sz=a.length+k*sz by rw[Nat.succ_mul];omega,List.take_append,List.take_of_length_le (l:=a) (i:=a.length+k*sz) (Nat.le_add_right _ _)];simp
theorem rs_clrT{k:Nat}{id ver n kk:Nat}{es:List PV}{z:Value}{x:Operand}(M:Mem h L)(hk:L[k]?=some ⟨.os id ver 0 n,ty,sz,es⟩)(ex:evE E x=some (.os id ver (0+kk*sz) (n-kk)))(hlt:kk < n)(hz:z.cells.size=sz)
 (K:∀h',Mem h' (L.set k ⟨.os id ver 0 kk,ty,sz,es.take kk⟩)->RS P r S Q E h'):RS P (⟨none,.clr sz z x,none,hf⟩::r) S Q E h:=by
 obtain⟨h1,hn,cs,h2,h3⟩:=M.atF hk;obtain⟨cs',h4,h5⟩:=rowCells_ex h1;rw[h2]at h4;simp only[Option.some.injEq]at h4;subst h4;have hrl:(repCells (n-kk) (z.cells.toList.map PV.sc)).length=(n-kk)*sz:=by
  unfold repCells;rw[flatten_length (sz:=sz) _ (λp hp=>by rw[List.eq_of_mem_replicate hp];simpa using hz)];simp
 have hmul:kk*sz+(n-kk)*sz=n*sz:=by rw[<-Nat.add_mul];congr 1;omega
 have hcl:cs.length=n*sz:=by rw[h5,hn]
 intro T hT;refine⟨T,h,Wk.refl T h,true,O,λ_=> .inl ?_,λe=>by cases e⟩;have hq:opL T h (.clr sz z x)=some (.tup [],hput h id (.cells ver ty true (spl cs (0+kk*sz) (repCells (n-kk) (z.cells.toList.map PV.sc))))):=by
  have hb:h.bl[id]?=some (.cells ver ty true cs):=h3;simp only[opL,y95q hT ex,hb];rw[if_pos ⟨trivial,by omega,by omega⟩];rfl
 show OpD P (.clr sz z x) hf T h _
 unfold OpD;show∃r h',opL T h (.clr sz z x)=some (r,h')/\_
 refine⟨_,_,hq,?_⟩;have htk:(spl cs (0+kk*sz) (repCells (n-kk) (z.cells.toList.map PV.sc))).take (kk*sz)=cs.take (kk*sz):=by
  unfold spl;rw[Nat.zero_add,List.take_append_of_le_length (by simp;omega),List.take_take,Nat.min_self]
 have hlt2:=blk_lt h3;have hb2:(hput h id (.cells ver ty true (spl cs (0+kk*sz) (repCells (n-kk) (z.cells.toList.map PV.sc))))).bl[id]?=some (.cells ver ty true (spl cs (0+kk*sz) (repCells (n-kk) (z.cells.toList.map PV.sc)))):=blk_put h id _ hlt2;have hM:Mem (hput (hput h id (.cells ver ty true (spl cs (0+kk*sz) (repCells (n-kk) (z.cells.toList.map PV.sc))))) id (.cells ver ty true (cs.take (kk*sz)))) (L.set k ⟨.os id ver 0 kk,ty,sz,es.take kk⟩):=by
  refine M.upd hk ⟨λx hx=>h1 x (List.take_subset _ _ hx),by simp;omega,_,?_,blk_put _ _ _ (by simpa[hput,hlen]using hlt2)⟩ (λi hi=> .inl hi) λi hi hne=>?_
  ·exact rowCells_take h1 h2 kk
  ·have hne':¬id=i:=λe=>hne (by simp[idOf,e]);rw[blk_put_ne _ _ _ _ hne',blk_put_ne _ _ _ _ hne']
 refine runS_wk (T':=T) ?_ (K _ hM T hT);intro w0 F0 n' y ac R hTm;refine⟨y,O,Ext.refl y,?_,hTm⟩;have:=R.cut (m:=kk*sz) hb2
 rwa [htk]at this
def cpF{α:Type}[Inhabited α][DecidableEq α](l:List α):Nat->List α
 |0=>[]
 |m+1=>cpF l m++(if m=0\/ix l (m:Int)≠ix l ((m:Int)-1)then[ix l (m:Int)]else[])
def cpt{α:Type}[Inhabited α][DecidableEq α](l:List α):List α:=cpF l l.length
theorem cpF_len{α:Type}[Inhabited α][DecidableEq α](l:List α):∀m,(cpF l m).length<=m
 |0=>by simp[cpF]
 |m+1=>by
  have:=cpF_len l m;rw[cpF,List.length_append];split<;>simp<;>omega
theorem cpF_new{α:Type}[Inhabited α][DecidableEq α]{l:List α}{m:Nat}(h:m=0\/ix l (m:Int)≠ix l ((m:Int)-1)):cpF l (m+1)=cpF l m++[ix l (m:Int)]:=by rw[cpF,if_pos h]
theorem cpF_old{α:Type}[Inhabited α][DecidableEq α]{l:List α}{m:Nat}(h0:0 < m)(h:ix l (m:Int)=ix l ((m:Int)-1)):cpF l (m+1)=cpF l m:=by
 rw[cpF,if_neg (by simp[h];omega),List.append_nil]
theorem take_ix{α:Type}[Inhabited α]{l:List α}{m:Nat}(h:m < l.length):l.take (m+1)=l.take m++[ix l (m:Int)]:=by
 rw[ix_nat h,List.take_add_one,List.getElem?_eq_getElem h];rfl
theorem cpt_small{α:Type}[Inhabited α][DecidableEq α]{l:List α}(h:l.length < 2):cpt l=l:=by
 unfold cpt
 match l,h with
 |[],_=>rfl
 |[a],_=>simp[cpF,ix]
theorem osl_len{id ver off n:Nat}{t e:TypeId}(ht:P.underlying t=some (.slice e))(ty:TypeId):biF P .len [t].toArray ty [.os id ver off n]=some (vi (n:Int)):=by
 simp[biF,toVs,toV,ht,vi]
end
end Go.Pb
namespace Go.Pb
open Go Go.RowKit
section
variable{P:Program}{h:Heap}{ty:TypeId}{sz:Nat}
theorem VRL_sc_eq{x:Cx}:∀{us l:List Value},VRL P x (us.map .sc) l->l=us
 |[],[],_=>rfl
 |[],_::_,h=>by simp[VRL]at h
 |_::_,[],h=>by simp[VRL]at h
 |u::us,v::l,h=>by
  simp only[List.map_cons,VRL,VRC,List.cons.injEq,and_true]at h;rw[h.2.1.1,VRL_sc_eq h.2.2]
theorem holds_flat{w:World}{b:Nat}{cur:Array Value}{us:List Value}(hc:w.heap[b]?=some (.cells cur ty (0,0)))(hu:cur.toList.take us.length=us):Go.Sort.Holds (id:Value->Value) w b 0 us.toArray:=by
 intro j hj;have hj':j < us.length:=by simpa using hj
 have hg:cur.toList[j]?=some us[j]:=by
  have:=congrArg (λl=>l[j]?) hu;simp only[List.getElem?_take,hj',if_true]at this;rw[this,List.getElem?_eq_getElem hj']
 constructor
 ·simp only[World.cell?,hc,Option.isSome_none,Bool.false_eq_true,if_false,Nat.zero_add,id];rw[<-Array.getElem?_toList,hg];simp[hj']
 ·simp[World.frozen?,hc]
theorem putRow_flat{w:World}{b:Nat}{cur:Array Value}{us:List Value}(hc:w.heap[b]?=some (.cells cur ty (0,0)))(hl:us.length<=cur.size):Go.Sort.putRow (id:Value->Value) w b 0 us.toArray=w.setRow b (us++cur.toList.drop us.length).toArray:=by
 have hcut:Go.Sort.putCells (id:Value->Value) 0 us.toArray cur=(us++cur.toList.drop us.length).toArray:=by
  apply Array.ext';apply List.ext_getElem
  ·simp[Go.Sort.putCells];omega
  ·intro j h1 h2;simp only[Go.Sort.putCells,Array.toList_mapIdx,List.getElem_mapIdx,Nat.zero_le,true_and,Nat.zero_add,List.size_toArray,Nat.sub_zero,id];split
   ·rename_i hj;simp only[List.getElem_append_left hj];simp[hj]
   ·rename_i hj;rw[List.getElem_append_right V,List.getElem_drop]
    congr 1
    omega
 unfold Go.Sort.putRow Go.Sort.mapBlock World.setRow
 congr 1
 apply Array.ext_getElem?;intro k;simp only[Array.getElem?_modify];by_cases hk:b=k
 ·subst hk;simp only[if_true,hc,Option.map_some,Go.Sort.onCells,hcut]
 ·simp[hk]
theorem fnX_row{g:FuncId}(he:Enters P g){id ver n:Nat}{R:List Ent}{es es':List PV}{us us':List Value}{rest:List PV}{crest:List Value}(M:Mem h (⟨.os id ver 0 n,ty,sz,es⟩::R))(e1:rowCells es=some (us.map .sc))(e2:rowCells es'=some (us'.map .sc))(hc':∀x∈es',cnt x=some sz)(hlen:us'.length=us.length)(hes:es'.length=es.length)(h1:∀u∈us',u.oneCell'=true)
 (hr:∀x cargs,VRV P x rest cargs->cargs=crest)
 (H:∀(w:World)(b cap:Nat),b < w.heap.size->Go.Sort.Holds (_root_.id:Value->Value) w b 0 us.toArray->Calls P g (.slice (some ⟨b,0,none⟩) n cap::crest).toArray w λe w'=>e= .returned (.tuple #[])/\∃q os,w'=Go.Sort.grow (Go.Sort.putRow (_root_.id:Value->Value) (Go.Sort.ahead w q) b 0 us'.toArray) os):
 ∃h2,FnX P g (.os id ver 0 n::rest) h (.tup []) h2/\Mem h2 (⟨.os id ver 0 n,ty,sz,es'⟩::R):=by
 obtain⟨hcn,hn,cs,hcs,hb⟩:=M.atF (k:=0) O;rw[e1]at hcs;simp only[Option.some.injEq]at hcs;subst hcs;refine⟨hput h id (.cells ver ty true (us'.map .sc)),⟨he,λw0 F0 x cargs R0 hv=>?_⟩,?_⟩
 ·cases cargs with
  |nil=>simp[VRV]at hv
  |cons u cr=>
   simp only[VRV]at hv;obtain⟨hu,hrest⟩:=hv;have hcr:=hr x cr hrest;subst hcr;simp only[AsVal,PV.isAgg,VRC,List.cons.injEq,and_true]at hu;obtain⟨b,cap,hj,rfl, -, -, -⟩:=hu;obtain⟨cur,hcur,hcl,hvr⟩:=own_cells R0 hb hj;have htk:=VRL_sc_eq hvr;simp only[List.length_map]at hcl htk;have hblt:b < x.w.heap.size:=(R0.own id ver b hj).2;refine(H x.w b cap hblt (holds_flat hcur htk)).mono ?_;rintro e w' ⟨rfl,q,os,hw⟩;have hw2:w'=Go.Sort.grow (Go.Sort.ahead (x.w.setRow b (us'++cur.toList.drop us'.length).toArray) q) os:=by
    rw[hw,Go.Sort.putRow_ahead,putRow_flat hcur V]
   have hvl:VRL P x (us'.map .sc) ((us'++cur.toList.drop us'.length).toArray.toList.take (us'.map PV.sc).length):=by
    simp only[List.length_map,List.take_left'];exact VRL_sc P x us' (by rw[List.all_eq_true];exact h1)
   obtain⟨R1,E1⟩:=R0.setOwn (us:=(us'++cur.toList.drop us'.length).toArray) hb hj hcur (by simp;omega) U hvl (.inl ⟨O,O⟩) (bl':=h.bl.set id (.cells ver ty true (us'.map .sc))) bl_set;generalize hy1:(⟨x.w.setRow b (us'++cur.toList.drop us'.length).toArray,x.F,updJ x.J id ver b⟩:Cx)=y1 at R1 E1;have hyw:y1.w=x.w.setRow b (us'++cur.toList.drop us'.length).toArray:=by rw[<-hy1]
   have G:Grow y1 ⟨w',y1.F,y1.J⟩:=by
    refine⟨⟨⟨?_,?_,?_,?_,λk hk=>?_⟩,?_⟩,O,λ_ h=>h,λ_ h=> .inl h⟩
    ·rw[hw2,hyw];rfl
    ·rw[hw2,hyw];rfl
    ·rw[hw2,hyw];rfl
    ·rw[hw2,hyw];simp[Go.Sort.grow,Go.Sort.ahead]
    ·rw[hw2,hyw];rw[hyw]at hk;simp only[Go.Sort.grow,Go.Sort.ahead];rw[Array.getElem?_append_left hk]
    ·rw[hw2,hyw];exact Nat.le_add_right _ _
   exact⟨.tuple #[],.tup [],_,⟨w',y1.F,y1.J⟩,O,O,⟨O,O⟩,R1.grow G,E1.trans (R1.ext_of_grow G),⟨[],O,by simp[VRV]⟩⟩
 ·refine M.upd (k:=0) O ⟨hc',by rw[hn,hes],_,e2,blk_put _ _ _ (blk_lt hb)⟩ (λi hi=> .inl hi) λi hi hne=>?_;exact blk_put_ne _ _ _ _ λe=>hne (by simp[idOf,e])
theorem fnX_none{g:FuncId}(he:Enters P g){R:List Ent}{a:PV}{rest:List PV}{crest:List Value}(M:Mem h (⟨a,ty,sz,[]⟩::R))(ne:isL a=true)(hr:∀x cargs,VRV P x rest cargs->cargs=crest)
 (H:∀(w:World)(p:Option Addr)(cap:Nat),Calls P g (.slice p 0 cap::crest).toArray w λe w'=>e= .returned (.tuple #[])/\w'=w):FnX P g (a::rest) h (.tup []) h:=by
 have HE:=M.at (k:=0) O;refine⟨he,λw0 F0 x cargs R0 hv=>?_⟩;cases cargs with
 |nil=>simp[VRV]at hv
 |cons u cr=>
  simp only[VRV]at hv;obtain⟨hu,hrest⟩:=hv;have hcr:=hr x cr hrest;subst hcr;have key:∃p cap,u= .slice p 0 cap:=by
   have H2:=HE.2;unfold EntV at H2;split at H2
   ·rename_i hv';simp only at hv';rw[hv']at ne;cases ne
   ·rename_i id ver n hv';simp only at hv' H2;subst hv';obtain⟨hn,_⟩:=H2;have:n=0:=hn;subst this;simp only[AsVal,PV.isAgg,VRC,List.cons.injEq,and_true]at hu;obtain⟨b,cap, -,rfl, -⟩:=hu;exact⟨_,_,O⟩
   ·rename_i ad hv';simp only at hv';subst hv';exact⟨_,_,sc_eq hu⟩
   ·rename_i es' hv';simp only at hv' H2;subst hv' H2;simp only[AsVal,PV.isAgg,VRC,List.cons.injEq,and_true,List.length_nil]at hu;obtain⟨b,o,cap,sz,rfl, -⟩:=hu;exact⟨_,_,O⟩
   ·rename_i hv';simp only at hv';rw[hv']at ne;cases ne
   ·exact H2.elim
  obtain⟨p,cap,rfl⟩:=key;refine(H x.w p cap).mono ?_;rintro e w' ⟨rfl,rfl⟩;exact⟨.tuple #[],.tup [],h,x,O,O,⟨O,O⟩,R0,Ext.refl x,⟨[],O,by simp[VRV]⟩⟩
theorem rowCells_map{α:Type}{mk:α->PV}{enc:α->List Value}(hm:∀x,(mk x).cellsOf=some ((enc x).map .sc)):∀(l:List α),rowCells (l.map mk)=some ((l.flatMap enc).map .sc)
 |[]=>rfl
 |x::l=>by simp only[List.map_cons,rowCells,hm,rowCells_map hm l,List.flatMap_cons,List.map_append]
theorem all2_map{α:Type}{R:α->PV->Prop}{mk:α->PV}(hR:∀x v,R x v->v=mk x):∀{l:List α}{es:List PV},All2 R l es->es=l.map mk
 |[],[],_=>rfl
 |[],_::_,h=>by simp[All2]at h
 |_::_,[],h=>by simp[All2]at h
 |x::l,e::es,h=>by rw[List.map_cons,hR x e h.1,<-all2_map hR h.2]
theorem map_all2{α:Type}{R:α->PV->Prop}{mk:α->PV}(hR:∀x,R x (mk x)):∀(l:List α),All2 R l (l.map mk)
 |[]=>trivial
 |x::l=>⟨hR x,map_all2 hR l⟩
theorem flat_len{α:Type}{enc:α->List Value}{k:Nat}(hk:∀x,(enc x).length=k):∀(l:List α),(l.flatMap enc).length=l.length*k
 |[]=>by simp
 |x::l=>by rw[List.flatMap_cons,List.length_append,hk,flat_len hk l,List.length_cons,Nat.succ_mul];omega
theorem sort_X{α:Type}{t:TR α}{mk:α->PV}{enc:α->List Value}{g:FuncId}(he:Enters P g)(hR:∀x v,t.R x v->v=mk x)(hR2:∀x,t.R x (mk x))(hm:∀x,(mk x).cellsOf=some ((enc x).map .sc))(hk:∀x,(enc x).length=t.sz)(h1:∀x,∀u∈enc x,u.oneCell'=true){l l':List α}(hll:l'.length=l.length)
 {a:PV}{es:List PV}{R:List Ent}{rest:List PV}{crest:List Value}(hr:∀x cargs,VRV P x rest cargs->cargs=crest)(q:All2 t.R l es)(ne:isL a=true)(wi:Wri a es)(M:Mem h (⟨a,ty,t.sz,es⟩::R))
 (H0:l=[]->∀(w:World)(p:Option Addr)(cap:Nat),Calls P g (.slice p 0 cap::crest).toArray w λe w'=>e= .returned (.tuple #[])/\w'=w)
 (H:∀(w:World)(b cap:Nat),b < w.heap.size->Go.Sort.Holds (_root_.id:Value->Value) w b 0 (l.flatMap enc).toArray->Calls P g (.slice (some ⟨b,0,none⟩) l.length cap::crest).toArray w λe w'=>e= .returned (.tuple #[])/\∃q os,w'=Go.Sort.grow (Go.Sort.putRow (_root_.id:Value->Value) (Go.Sort.ahead w q) b 0 (l'.flatMap enc).toArray) os):
 ∃r h2,FnX P g (a::rest) h r h2/\∃es',Mem h2 (⟨a,ty,t.sz,es'⟩::R)/\All2 t.R l' es'/\Wri a es'/\r= .tup []:=by
 have hes:=all2_map hR q;rcases wi with rfl|⟨id,ver,n,rfl⟩
 ·have hl0:l=[]:=by
   cases l with
   |nil=>rfl
   |cons _ _=>simp at hes
  have hl0':l'=[]:=by
   cases l' with
   |nil=>rfl
   |cons _ _=>rw[hl0]at hll;simp at hll
  subst hl0';exact⟨_,h,fnX_none he M ne hr (H0 hl0),[],M,trivial,.inl O,O⟩
 ·have hn:n=l.length:=by rw[mem_osn M (k:=0) rfl,All2.length_eq q]
  subst hn;obtain⟨h2,X,M2⟩:=fnX_row (es':=l'.map mk) (us:=l.flatMap enc) (us':=l'.flatMap enc) he M (by rw[hes];exact rowCells_map hm l) (rowCells_map hm l') (λx hx=>by
   obtain⟨y,_,rfl⟩:=List.mem_map.1 hx;exact t.cnt (hR2 y)) (by rw[flat_len hk,flat_len hk,hll]) (by rw[List.length_map,hll,hes,List.length_map]) (λu hu=>by
   obtain⟨y,_,hy⟩:=List.mem_flatMap.1 hu;exact h1 y u hy) hr H
  exact⟨_,h2,X,_,M2,map_all2 hR2 l',.inr ⟨_,_,_,O⟩,O⟩
theorem flat_int(l:List Int):l.flatMap (λz=>[Value.int .i64 z])=l.map (Value.int .i64):=by
 induction l with
 |nil=>rfl
 |cons x l ih=>rw[List.flatMap_cons,ih];rfl
theorem holds_int{w:World}{b:Nat}{l:List Int}(H:Go.Sort.Holds (_root_.id:Value->Value) w b 0 (l.map (Value.int .i64)).toArray):Go.Sort.Holds (Value.int .i64) w b 0 l.toArray:=λj hj=>by
 have hj':j < l.length:=by simpa using hj
 have:=H j (by simpa using hj');simpa[hj']using this
theorem putRow_int{w:World}{b:Nat}{l:List Int}:Go.Sort.putRow (Value.int .i64) w b 0 l.toArray=Go.Sort.putRow (_root_.id:Value->Value) w b 0 (l.map (Value.int .i64)).toArray:=by
 unfold Go.Sort.putRow;refine Go.Sort.mapBlock_congr _ _ _ _ λc _ _ _=>?_;unfold Go.Sort.putCells;apply Array.ext
 ·simp
 ·intro j h1 h2;simp only[Array.getElem_mapIdx,List.size_toArray,List.length_map,Nat.zero_le,true_and,Nat.zero_add,Nat.sub_zero,id];split
  ·rename_i hj;simp[hj]
  ·rfl
theorem sort_int_X{g:FuncId}(he:Enters P g)
 (H:∀(blk off cap:Nat)(zs:List Int)(w:World),Go.Sort.Holds (Value.int .i64) w blk off zs.toArray->blk < w.heap.size->zs.length < 4611686018427387904->Calls P g #[.slice (some ⟨blk,off,none⟩) zs.length cap] w λe w'=>e= .returned (.tuple #[])/\∃n os,w'=Go.Sort.grow (Go.Sort.putRow (Value.int .i64) (Go.Sort.ahead w n) blk off (zs.mergeSort λx y=>decide (x<=y)).toArray) os)
 (H0:∀(p:Option Addr)(cap:Nat)(w:World),Calls P g #[.slice p 0 cap] w λe w'=>e= .returned (.tuple #[])/\w'=w)
 {l:List Int}{a:PV}{es:List PV}{R:List Ent}(q:All2 tI.R l es)(ne:isL a=true)(hl:l.length<=1000000)(wi:Wri a es)(M:Mem h (⟨a,ty,1,es⟩::R)):
 ∃r h2,FnX P g [a] h r h2/\∃es',Mem h2 (⟨a,ty,1,es'⟩::R)/\All2 tI.R (l.mergeSort λx y=>decide (x<=y)) es'/\Wri a es'/\r= .tup []:=by
 refine sort_X (t:=tI) (mk:=vi) (enc:=λz=>[Value.int .i64 z]) (crest:=[]) he (λx v h=>h) (λx=>O) (λx=>O) (λx=>O) (λx u hu=>by simp at hu;subst hu;rfl) (List.length_mergeSort _) (λx cargs hv=>by cases cargs with
  |nil=>rfl
  |cons _ _=>simp[VRV]at hv) q ne wi M (λ_ w p cap=>H0 p cap w) λw b cap hb hh=>?_
 rw[flat_int]at hh;refine(H b 0 cap l w (holds_int hh) hb V).mono ?_;rintro e w' ⟨rfl,n,os,rfl⟩;exact⟨O,n,os,by rw[flat_int,putRow_int]⟩
end
end Go.Pb
namespace Go.Pb
open Go Go.RowKit Go.Sort Go.Proofs
section
variable{P:Program}{h:Heap}{ty:TypeId}{α:Type}[Inhabited α]
theorem flatK_eq{enc:α->List Value}{k:Nat}(hk:∀x,(enc x).length=k)(l:List α):flatK enc k l.toArray=(l.flatMap enc).toArray:=by
 rcases Nat.eq_zero_or_pos k with h0|hpos
 ·subst h0;have:l.flatMap enc=[]:=by
   rw[List.flatMap_eq_nil_iff];exactλx _=>List.eq_nil_of_length_eq_zero (hk x)
  rw[this];simp[flatK]
 ·have key:∀m,m<=l.length->(List.range (m*k)).map (λt=>(enc l.toArray[t / k]!)[t%k]!)=(l.take m).flatMap enc:=by
   intro m;induction m with
   |zero=>intro _;simp
   |succ m ih=>
    intro hm;rw[Nat.succ_mul,List.range_add,List.map_append,ih V,List.take_add_one,List.flatMap_append,List.getElem?_eq_getElem V]
    congr 1
    simp only[Option.toList_some,List.flatMap_cons,List.flatMap_nil,List.append_nil,List.map_map];apply List.ext_getElem
    ·simp[hk]
    ·intro j h1 h2;simp only[List.length_map,List.length_range]at h1;simp only[List.getElem_map,List.getElem_range,Function.comp_apply];have e1:(m*k+j) / k=m:=by rw[Nat.mul_comm,Nat.mul_add_div hpos,Nat.div_eq_of_lt h1,Nat.add_zero]
     have e2:(m*k+j)%k=j:=by rw[Nat.mul_comm,Nat.mul_add_mod,Nat.mod_eq_of_lt h1]
     rw[e1,e2];have hml:m < l.length:=by omega
     simp[hml,hk,h1]
  apply Array.ext';have:=key l.length (Nat.le_refl _);rw[List.take_length]at this;simpa[flatK]using this
theorem cmp_of{mk:α->PV}{enc:α->List Value}{k:Nat}{cf:α->α->Int}{gc:FuncId}(hmk:∀x,mk x= .agg ((enc x).map .sc))(h1:∀x,∀u∈enc x,u.oneCell'=true)(HC:∀x y,FnR P gc [mk x,mk y] (vi (cf x y)))(blk off size:Nat)(w:World):CmpLays P gc #[] enc k cf blk off size w:=by
 intro m os dk hd x y;generalize sortWorldK enc k w blk off m dk os=W;have hv:VRV P ⟨W,λ_=>False,noJ⟩ [mk x,mk y] [.agg (enc x).toArray,.agg (enc y).toArray]:=by
  have hone:∀z,AsVal (mk z).isAgg (VRC P ⟨W,λ_=>False,noJ⟩ (mk z)) (.agg (enc z).toArray):=λz=>by
   rw[hmk];exact⟨enc z,O,by simp only[VRC];exact VRL_sc P _ _ (by rw[List.all_eq_true];exact h1 z)⟩
  simp only[VRV];exact⟨hone x,hone y,trivial⟩
 refine((HC x y).2 W (λ_=>False) _ (λb hb=>hb.elim) hv).mono ?_;rintro e w' ⟨v,z,rfl,rfl,G,hr⟩;have hr':=sc_eq hr;subst hr';refine⟨O,z.w.drawn-W.drawn,z.w.heap.extract W.heap.size z.w.heap.size,?_⟩;have hb:=G.below;have hh:z.w.heap=W.heap++z.w.heap.extract W.heap.size z.w.heap.size:=by
  apply Array.ext_getElem?;intro j;rw[Array.getElem?_append];split
  ·rename_i hj;exact hb.block j hj
  ·rename_i hj;rw[Array.getElem?_extract];have hs:W.heap.size<=z.w.heap.size:=hb.size;by_cases hj2:j < z.w.heap.size
   ·rw[if_pos V]
    congr 1
    omega
   ·rw[if_neg V,Array.getElem?_eq_none V]
 have hd':z.w.drawn=W.drawn+(z.w.drawn-W.drawn):=by have:=hb.dr;simp only at this;omega
 have e1:=hb.os;have e2:=hb.tape;have e3:=hb.output;obtain⟨zw,zF,zJ⟩:=z;obtain⟨zh,zt,zd,zo,zu⟩:=zw;simp only at hh hd' e1 e2 e3⊢;subst e1 e2 e3;unfold grow World.drewN;simp only[World.mk.injEq,and_true,true_and];exact⟨hh,hd'⟩
theorem sort_fn_X{t:TR α}{mk:α->PV}{enc:α->List Value}{cf:α->α->Int}{g gc:FuncId}(he:Enters P g)(hR:∀x v,t.R x v->v=mk x)(hR2:∀x,t.R x (mk x))(hmk:∀x,mk x= .agg ((enc x).map .sc))(hk:∀x,(enc x).length=t.sz)(h1:∀x,∀u∈enc x,u.oneCell'=true)
 (HC:∀x y,FnR P gc [mk x,mk y] (vi (cf x y)))
 (H:∀(blk off cap:Nat)(d:Array α)(w:World),CmpLays P gc #[] enc t.sz cf blk off d.size w->HoldsK enc t.sz w blk off d->blk < w.heap.size->d.size < 4611686018427387904->Calls P g #[.slice (some ⟨blk,off,none⟩) d.size cap,.func (.func gc) #[] #[]] w λe w'=>e= .returned (.tuple #[])/\∃n os,w'=sortWorldK enc t.sz w blk off n (d.toList.mergeSort λx y=>!(ltOf cf) y x).toArray os)
 (H0:∀(p:Option Addr)(cap:Nat)(w:World),Calls P g #[.slice p 0 cap,.func (.func gc) #[] #[]] w λe w'=>e= .returned (.tuple #[])/\w'=w)
 {l:List α}{a:PV}{es:List PV}{R:List Ent}(q:All2 t.R l es)(ne:isL a=true)(hl:l.length<=1000000)(wi:Wri a es)(M:Mem h (⟨a,ty,t.sz,es⟩::R)):
 ∃r h2,FnX P g [a,.fn (.func gc) [] []] h r h2/\∃es',Mem h2 (⟨a,ty,t.sz,es'⟩::R)/\All2 t.R (l.mergeSort λx y=>!(ltOf cf) y x) es'/\Wri a es'/\r= .tup []:=by
 refine sort_X (mk:=mk) (enc:=enc) (crest:=[.func (.func gc) #[] #[]]) he hR hR2 (λx=>by rw[hmk];rfl) hk h1 (List.length_mergeSort _) (λx cargs hv=>?_) q ne wi M (λ_ w p cap=>H0 p cap w) λw b cap hb hh=>?_
 ·match cargs,hv with
  |[],hv=>simp[VRV]at hv
  |[u],hv=>
   simp only[VRV,AsVal,PV.isAgg,VRC,List.cons.injEq,and_true]at hv;obtain⟨fs,cs,rfl,h2,h3⟩:=hv;cases fs with
   |nil=>cases cs with
    |nil=>rfl
    |cons _ _=>simp[VRV]at h3
   |cons _ _=>simp[VRV]at h2
  |_::_::_,hv=>simp[VRV]at hv
 ·have hh2:HoldsK enc t.sz w b 0 l.toArray:=by
   unfold HoldsK;rw[flatK_eq hk];exact hh
  have hc:=H b 0 cap l.toArray w (cmp_of hmk h1 HC _ _ _ _) hh2 hb (by simp;omega);simp only[List.size_toArray]at hc;refine hc.mono ?_;rintro e w' ⟨rfl,n,os,rfl⟩;exact⟨O,n,os,by unfold sortWorldK putRowK;rw[flatK_eq hk]⟩
end
end Go.Pb
namespace Go.Pb
open Go Go.RowKit
section
variable{α:Type}[Inhabited α][DecidableEq α]{lt:α->α->Bool}
structure STO{α:Type}(lt:α->α->Bool):Prop where
 irr:∀x,lt x x=false
 trans:∀x y z,lt x y=true->lt y z=true->lt x z=true
 total:∀x y,lt x y=false->lt y x=false->x=y
theorem STO.asymm(h:STO lt){x y:α}(a:lt x y=true):lt y x=false:=by
 cases b:lt y x with
 |false=>rfl
 |true=>have:=h.trans x y x a b;rw[h.irr]at this;cases this
def insS{α:Type}[DecidableEq α](lt:α->α->Bool)(x:α):List α->List α
 |[]=>[x]
 |y::l=>if lt y x=true then y::insS lt x l else if y=x then y::l else x::y::l
theorem cpF_mem{s:List α}:∀(m:Nat),m<=s.length->∀y,y∈cpF s m↔y∈s.take m
 |0,_,y=>by simp[cpF]
 |m+1,hm,y=>by
  have ih:=cpF_mem (s:=s) m V y;rw[take_ix V,List.mem_append,List.mem_singleton,<-ih];by_cases hc:m=0\/ix s (m:Int)≠ix s ((m:Int)-1)
  ·rw[cpF_new hc,List.mem_append,List.mem_singleton]
  ·rw[cpF_old V (by
    by_cases he:ix s (m:Int)=ix s ((m:Int)-1)
    ·exact he
    ·exact absurd (.inr he) hc)]
   constructor
   ·exact .inl
   ·rintro(h|rfl)
    ·exact h
    ·rw[ih];have hm0:m≠0:=λe=>hc (.inl e);have he:ix s (m:Int)=ix s ((m:Int)-1):=by
      by_cases he:ix s (m:Int)=ix s ((m:Int)-1)
      ·exact he
      ·exact absurd (.inr he) hc
     rw[he,show((m:Int)-1)=((m-1:Nat):Int) by omega,ix_nat (l:=s) (i:=m-1) V];rw[List.mem_take_iff_getElem];exact⟨m-1,(by omega:m-1 < min m s.length),O⟩
theorem cpF_pw(h:STO lt){s:List α}(hs:s.Pairwise (λa b=>lt b a=false)):∀(m:Nat),m<=s.length->(cpF s m).Pairwise (λa b=>lt a b=true)
 |0,_=>by simp[cpF]
 |m+1,hm=>by
  have ih:=cpF_pw h hs m V;by_cases hc:m=0\/ix s (m:Int)≠ix s ((m:Int)-1)
  ·rw[cpF_new hc,List.pairwise_append];refine⟨ih,List.pairwise_singleton _ _,λa ha b hb=>?_⟩;rw[List.mem_singleton]at hb;subst hb;rw[cpF_mem m V,List.mem_take_iff_getElem]at ha;obtain⟨j,hj,rfl⟩:=ha;have hjm:j < m:=by omega
   rw[List.pairwise_iff_getElem]at hs;have h1:=hs j m V V hjm;rw[ix_nat V];cases e:lt (s[j]' V) (s[m]' V)with
   |true=>rfl
   |false=>
    exfalso;have heq:=h.total _ _ e h1;rcases hc with hc|hc
    ·omega
    ·apply hc;rw[show((m:Int)-1)=((m-1:Nat):Int) by omega,ix_nat V,ix_nat V];by_cases hj1:j=m-1
     ·subst hj1;exact heq.symm
     ·have h2:=hs j (m-1) V V V;have h3:=hs (m-1) m V V V;rw[heq]at h2;exact h.total _ _ h3 h2
  ·rw[cpF_old V (by
    by_cases he:ix s (m:Int)=ix s ((m:Int)-1)
    ·exact he
    ·exact absurd (.inr he) hc)]
   exact ih
theorem cpt_pw(h:STO lt){s:List α}(hs:s.Pairwise (λa b=>lt b a=false)):(cpt s).Pairwise (λa b=>lt a b=true):=cpF_pw h hs _ (Nat.le_refl _)
theorem cpt_mem{s:List α}(y:α):y∈cpt s↔y∈s:=by
 unfold cpt;rw[cpF_mem _ (Nat.le_refl _),List.take_length]
theorem sort_pw(h:STO lt)(l:List α):(l.mergeSort λx y=>!lt y x).Pairwise (λa b=>lt b a=false):=by
 have:=List.pairwise_mergeSort (le:=λx y=>!lt y x) (λa b c h1 h2=>by
  simp only[Bool.not_eq_true']at h1 h2⊢;cases e:lt c a with
  |false=>rfl
  |true=>
   cases e2:lt b c with
   |true=>rw[h.trans _ _ _ e2 e]at h1;cases h1
   |false=>have:=h.total _ _ e2 h2;subst this;rw[e]at h1;cases h1) (λa b=>by
  cases e:lt b a with
  |false=>simp
  |true=>simp[h.asymm e]) l
 exact this.imp λ{a b} hab=>by simpa using hab
end
end Go.Pb
