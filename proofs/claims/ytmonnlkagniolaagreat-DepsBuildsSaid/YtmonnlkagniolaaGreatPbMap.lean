import Derived.Test.YtmonnlkagniolaaGreatPbLoud
import Derived.MapKept
set_option linter.all false
namespace Go.Pb
open Go Go.RowKit Go.MapKept
section
variable{P:Program}{x:Cx}{w0:World}{F0:Nat->Prop}{h:Heap}{n:Nat}{T:Nat->PV}{a:Act}
theorem RelP.newMap(R:RelP P w0 F0 h x):
 let y:Cx:=⟨x.w.alloc (.map #[] 0),x.F,updJ x.J h.bl.length h.nv x.w.heap.size⟩
 RelP P w0 F0 ⟨h.nv+1,h.bl++[.mp h.nv []]⟩ y/\Ext x y:=by
 intro y;have hfr:=R.fresh h.bl.length h.nv (Nat.le_refl _);have hs:y.w.heap.size=x.w.heap.size+1:=World.size_alloc _ _;have hold:∀b,b < x.w.heap.size->y.w.heap[b]?=x.w.heap[b]?:=λb hb=>Below.heap_alloc _ _ b hb;have E:Ext x y:=by
  refine⟨by omega,λb hb=>⟨hb,hold b (R.fnew b hb).1⟩,λi v b hb=>ba8 hfr hb,λb cur ty fr hb=>⟨cur,?_,rfl⟩⟩;rw[hold b (Array.getElem?_eq_some_iff.1 hb).1];exact hb
 have hJ:∀i v b,y.J i v=some b->(i=h.bl.length/\v=h.nv/\b=x.w.heap.size)\/x.J i v=some b:=by
  intro i v b hb;change updJ x.J h.bl.length h.nv x.w.heap.size i v=some b at hb;unfold updJ at hb;split at hb
  ·rename_i e;simp only[Option.some.injEq]at hb;exact .inl ⟨e.1,e.2,hb.symm⟩
  ·exact .inr hb
 refine⟨⟨R.below.trans ((Bel.refl _ _).alloc R.below.size _),R.f0,R.fsub,λb hb=>⟨Nat.lt_of_lt_of_le (R.fnew b hb).1 V,(R.fnew b hb).2⟩,λi v b hb=>?_,λi v hv'=>?_,λi i' blk blk' b h1 h2 h3 h4=>?_,λk blk hk=>?_⟩,E⟩
 ·rcases hJ i v b hb with⟨_,_,rfl⟩|hb
  ·exact⟨R.below.size,by omega⟩
  ·have:=R.own i v b hb;exact⟨this.1,by omega⟩
 ·show updJ x.J h.bl.length h.nv x.w.heap.size i v=none
  have hlt:h.nv+1<=v:=hv';rw[show updJ x.J h.bl.length h.nv x.w.heap.size i v=x.J i v by unfold updJ;rw[if_neg V]];exact R.fresh i v V
 ·rcases hJ _ _ _ h3 with⟨e1,e2,e3⟩|h3'
  ·rcases hJ _ _ _ h4 with⟨e4,e5,e6⟩|h4'
   ·rw[e1,e4]
   ·have:=(R.own _ _ _ h4').2;omega
  ·rcases hJ _ _ _ h4 with⟨e4,e5,e6⟩|h4'
   ·have:=(R.own _ _ _ h3').2;omega
   ·have k1:h.bl[i]?=some blk:=by
     rcases ru i blk h1 with⟨e,rfl⟩|⟨_,e⟩
     ·rw[show Blk.ver (.mp h.nv [])=h.nv from rfl,e,hfr]at h3';cases h3'
     ·exact e
    have k2:h.bl[i']?=some blk':=by
     rcases ru i' blk' h2 with⟨e,rfl⟩|⟨_,e⟩
     ·rw[show Blk.ver (.mp h.nv [])=h.nv from rfl,e,hfr]at h4';cases h4'
     ·exact e
    exact R.inj i i' blk blk' b k1 k2 h3' h4'
 ·rcases ru k blk hk with⟨rfl,rfl⟩|⟨hne,hk'⟩
  ·intro b hb;have hb':b=x.w.heap.size:=by
    change updJ x.J h.bl.length h.nv x.w.heap.size h.bl.length h.nv=some b at hb;rw[px]at hb;simpa using hb.symm
   subst hb';refine⟨⟨#[],0,heap_alloc_new _ _,trivial⟩,λhF=>?_⟩;exact absurd (R.fnew _ hF).1 (Nat.lt_irrefl _)
  ·refine BlkR_ext E ?_ (λb hj=>⟨hold b (R.own _ _ _ hj).2,Iff.rfl⟩) (R.hr k blk hk');show updJ x.J h.bl.length h.nv x.w.heap.size k blk.ver=x.J k blk.ver
   unfold updJ;rw[if_neg (λe=>hne e.1)]
theorem RelP.setMap(R:RelP P w0 F0 h x){es es':List (Value×PV)}{b ver id clock clock':Nat}{ces ces':Array MapEntry}(hb:h.bl[id]?=some (.mp ver es))(hj:x.J id ver=some b)
 (hcur:x.w.heap[b]?=some (.map ces clock))(hm:MapR P x es' ces'.toList):
 let y:Cx:=⟨{x.w with heap:=x.w.heap.setIfInBounds b (.map ces' clock')},x.F,x.J⟩
 RelP P w0 F0 ⟨h.nv,h.bl.set id (.mp ver es')⟩ y/\Ext x y:=by
 intro y;have hblt:b < x.w.heap.size:=(Array.getElem?_eq_some_iff.1 hcur).1;have hs:y.w.heap.size=x.w.heap.size:=by simp[y]
 have hbn:¬x.F b:=(R.hr id _ hb b hj).2;have hown:=R.own _ _ _ hj;have hold:∀c,c≠b->y.w.heap[c]?=x.w.heap[c]?:=λc hc=>Array.getElem?_setIfInBounds_ne hc.symm;have hnew:y.w.heap[b]?=some (.map ces' clock'):=by simp[y,hblt]
 have E:Ext x y:=by
  refine⟨by omega,λc hc=>⟨hc,hold c (λe=>hbn (e▸hc))⟩,λ_ _ _ hc=>hc,λc cu ty fr hc=>?_⟩;by_cases e:c=b
  ·subst e;rw[hcur]at hc;cases hc
  ·exact⟨cu,by rw[hold c e];exact hc,O⟩
 refine⟨⟨?_,R.f0,R.fsub,λc hc=>⟨by rw[hs];exact(R.fnew c hc).1,(R.fnew c hc).2⟩,λi v c hc=>⟨(R.own i v c hc).1,by rw[hs];exact(R.own i v c hc).2⟩,R.fresh,λi i' blk blk' c h1 h2 h3 h4=>?_,λk blk hk=>?_⟩,E⟩
 ·exact R.below.trans ⟨⟨O,O,O,by omega,λk hk=>hold k V⟩,Nat.le_refl _⟩
 ·have back:∀(k:Nat) bk,(h.bl.set id (.mp ver es'))[k]?=some bk->∃bk',h.bl[k]?=some bk'/\bk'.ver=bk.ver:=by
   intro k bk hk;rcases wa k bk hk with⟨rfl,rfl⟩|⟨hne,hk'⟩
   ·exact⟨_,hb,O⟩
   ·exact⟨bk,hk',O⟩
  obtain⟨b1,k1,k2⟩:=back i blk h1;obtain⟨b2,k3,k4⟩:=back i' blk' h2;exact R.inj i i' b1 b2 c k1 k3 (by rw[k2];exact h3) (by rw[k4];exact h4)
 ·rcases wa k blk hk with⟨rfl,rfl⟩|⟨hne,hk'⟩
  ·intro c hc;have hc':c=b:=by
    change x.J k ver=some c at hc;rw[hj]at hc;simpa using hc.symm
   subst hc';exact⟨⟨ces',clock',hnew,MapR_ext E _ _ hm⟩,hbn⟩
  ·refine BlkR_ext E O (λc hc=>⟨hold c (λe=>?_),Iff.rfl⟩) (R.hr k blk hk');subst e;exact hne (R.inj k id blk _ c hk' hb hc hj)
theorem bd1{o:Oper}{t:TypeId}{r:PV}{h':Heap}(R:RelP P w0 F0 h x)(ho:o.op= .makeMap t none)(hq:opL T h (.mkMap t)=some (r,h')):GoodL P w0 F0 a x o h.nv r h':=by
 simp only[opL,Option.some.injEq,Prod.mk.injEq]at hq;obtain⟨rfl,rfl⟩:=hq;obtain⟨R',E⟩:=R.newMap;refine⟨.value (.map (some x.w.heap.size)),.map (some x.w.heap.size),_,?_,.inl O,R',E,⟨_,px,O⟩,qn (.inr (Nat.le_refl _))⟩;simp only[execOp,ho,Option.map_none,Instr.makeMap,newObj,Sem.run_bind,Sem.run_pure,Result.andThen_ok];rfl
theorem xr{kk:IntKind}{k':IntKind}{m:Int}:∀{es:List (Value×PV)}{ces:List MapEntry}(i:Nat),es.all (λe=>kindK kk e.1)=true->MapR P x es ces->
 (getM kk m es=none/\Instr.findNow (.int k') (.int kk m) ces i=some none)\/(∃j v ce,getM kk m es=some v/\ces[j]?=some ce/\ce.key= .int kk m/\VR P x v ce.val/\Instr.findNow (.int k') (.int kk m) ces i=some (some (i+j,ce.val))/\∀u u',VR P x u u'->MapR P x (putM kk m u es) (ces.modify j λe=>{e with key:= .int kk m,val:=u'}))
 |[],[],i,_,_=> .inl ⟨rfl,rfl⟩
 |[],_::_,i,_,hm=>by simp[MapR]at hm
 |_::_,[],i,_,hm=>by simp[MapR]at hm
 |e::es,c::ces,i,ha,hm=>by
  obtain⟨h1,h2,h3⟩:=hm;simp only[List.all_cons,Bool.and_eq_true]at ha;obtain⟨key,val⟩:=e;simp only at h1 h2 ha;cases key with
  |int k b=>
   simp only[kindK,beq_iff_eq]at ha;obtain⟨rfl,ha⟩:=ha;by_cases hb:b=m
   ·subst hb;refine .inr ⟨0,val,c,by simp[getM,isK],rfl,h1,h2,?_,λu u' hu=>?_⟩
    ·simp[Instr.findNow,Instr.sameNow,h1]
    ·simp only[putM,isK,beq_self_eq_true,Bool.and_self,cond_true,List.modify_zero_cons];exact⟨O,hu,h3⟩
   ·have hne:isK k m (.int k b)=false:=by simp[isK,hb]
    have hs:Instr.sameNow (.int k') (.int k m) c.key=some false:=by
     rw[h1];simp[Instr.sameNow];exactλe=>hb e.symm
    rcases xr (k':=k') (m:=m) (i+1) ha h3 with⟨h4,h5⟩|⟨j,v,ce,h4,h5,h6,h7,h8,h9⟩
    ·exact .inl ⟨by simp[getM,hne,h4],by simp[Instr.findNow,hs,h5]⟩
    ·refine .inr ⟨j+1,v,ce,by simp[getM,hne,h4],by simpa using h5,h6,h7,?_,λu u' hu=>?_⟩
     ·simp only[Instr.findNow,hs,h8]
      congr 3;omega
     ·simp only[putM,hne,cond_false,List.modify_succ_cons];exact⟨h1,h2,h9 u u' hu⟩
  |_=>simp[kindK]at ha
theorem ao6{kk:IntKind}{m:Int}{u:PV}{u':Value}{born:Nat}(hu:VR P x u u'):∀{es:List (Value×PV)}{ces:List MapEntry},MapR P x es ces->getM kk m es=none->MapR P x (putM kk m u es) (ces++[{key:= .int kk m,val:=u',born:=born}])
 |[],[],_,_=>⟨rfl,hu,trivial⟩
 |[],_::_,hm,_=>by simp[MapR]at hm
 |_::_,[],hm,_=>by simp[MapR]at hm
 |e::es,c::ces,hm,hg=>by
  simp only[getM]at hg;cases hk:isK kk m e.1 with
  |true=>simp[hk]at hg
  |false=>
   simp only[hk,cond_false]at hg;simp only[putM,hk,cond_false,List.cons_append];exact⟨hm.1,hm.2.1,ao6 hu hm.2.2 hg⟩
theorem ac4{w:World}{k:TypeId}{kk:IntKind}(hk:P.underlying k=some (.int kk))(k1:IntKind)(m:Int)(e:Bool)(n:Nat):(Instr.checkKey e (n+1) k (.int k1 m)).run P w= .ok () w:=by
 unfold Instr.checkKey;simp[Sem.run_bind,run_underlying hk,Result.andThen]
theorem aw9{o:Oper}{t k e:TypeId}{kk:IntKind}{i:TypeInfo}{z:Value}{ok:Bool}{y j:Operand}{r:PV}{h':Heap}(R:RelP P w0 F0 h x)(hT:Temps P x n T a)(ho:o.op= .lookup t y j ok)(ht:P.underlying t=some (.map k e))(hk:P.underlying k=some (.int kk))
 (hi:P.info? e=some i)(hz:i.zero=some z)(hq:opL T h (.lookup t k e z ok y j)=some (r,h')):GoodL P w0 F0 a x o h.nv r h':=by
 simp only[opL,lookM]at hq;split at hq
 ·rename_i id ver k1 m hv hj;split at hq
  ·rename_i ver' es hb;split at hq
   ·rename_i hc;obtain⟨rfl,hall⟩:=hc;simp only[Option.some.injEq,Prod.mk.injEq]at hq;obtain⟨rfl,rfl⟩:=hq;have hy:=hT.ev y;rw[hv]at hy;simp only[VR,AsVal,PV.isAgg,VRC,List.cons.injEq,and_true]at hy;obtain⟨b,hjj,ey⟩:=hy;have hx:=hT.ev j;rw[hj]at hx;have ex:a.eval j= .int k1 m:=qs hx;obtain⟨⟨ces,clock,hcur,hm⟩,_⟩:=R.hr id _ hb b hjj;have hzero:(zeroValue e).run P x.w= .ok z x.w:=by
     simp[zeroValue,typeInfo,run_program,hi,hz,Sem.run_bind,Result.andThen]
    have hck:=ac4 (P:=P) (w:=x.w) hk k1 m ces.isEmpty 9999;have base:∃v f,(Instr.lookup t (.map (some b)) (.int k1 m) ok).run P x.w= .ok (if ok then .tuple #[v,.bool f]else v) x.w/\VR P x ((getM k1 m es).getD (.ofConst z)) v/\f=(getM k1 m es).isSome:=by
     rcases xr (P:=P) (x:=x) (k':=kk) (m:=m) 0 hall hm with⟨h4,h5⟩|⟨jj,v,ce,h4,h5,h6,h7,h8,h9⟩
     ·refine⟨z,false,?_,by rw[h4];exact VR_ofConst P x z,by rw[h4];rfl⟩;have hf:=run_findKey (P:=P) (w:=x.w) hk h5;simp only[Instr.lookup,Sem.run_bind,run_underlying ht,Result.andThen_ok,MapKept.run_getObj_map hcur,Sem.run_pure,hck,hf,hzero]
     ·refine⟨ce.val,true,?_,by rw[h4];exact h7,by rw[h4];rfl⟩;have hf:=run_findKey (P:=P) (w:=x.w) hk h8;simp only[Instr.lookup,Sem.run_bind,run_underlying ht,Result.andThen_ok,MapKept.run_getObj_map hcur,Sem.run_pure,hck,hf]
    obtain⟨v,f,hrun,hvr,rfl⟩:=base;refine⟨.value (if ok then .tuple #[v,.bool (getM k1 m es).isSome]else v),_,x,?_,.inl O,R,Ext.refl x,?_,λ_ _ _ hn=>hn⟩
    ·simp only[execOp,ho,ey,ex,Sem.run_bind,hrun,Result.andThen_ok,Sem.run_pure]
    ·cases ok with
     |false=>simpa using hvr
     |true=>
      simp only[cond_true,if_true];exact⟨[v,.bool (getM k1 m es).isSome],O,by simp only[VRV];exact⟨hvr,by simp[PV.isAgg,AsVal,VRC,Value.oneCell'],trivial⟩⟩
   ·cases hq
  ·cases hq
 ·cases hq
theorem ag7{o:Oper}{t k e:TypeId}{kk:IntKind}{y j v:Operand}{r:PV}{h':Heap}(R:RelP P w0 F0 h x)(hT:Temps P x n T a)(ho:o.op= .mapUpdate t y j v)(ht:P.underlying t=some (.map k e))(hk:P.underlying k=some (.int kk))
 (hq:opL T h (.mapUpdate t k y j v)=some (r,h')):GoodL P w0 F0 a x o h.nv r h':=by
 simp only[opL,updM]at hq;split at hq
 ·rename_i id ver k1 m hv hj;split at hq
  ·rename_i ver' es hb;split at hq
   ·rename_i hc;obtain⟨rfl,hall⟩:=hc;simp only[Option.some.injEq,Prod.mk.injEq]at hq;obtain⟨rfl,rfl⟩:=hq;have hy:=hT.ev y;rw[hv]at hy;simp only[VR,AsVal,PV.isAgg,VRC,List.cons.injEq,and_true]at hy;obtain⟨b,hjj,ey⟩:=hy;have hx:=hT.ev j;rw[hj]at hx;have ex:a.eval j= .int k1 m:=qs hx;obtain⟨⟨ces,clock,hcur,hm⟩,_⟩:=R.hr id _ hb b hjj;have hck:=ac4 (P:=P) (w:=x.w) hk k1 m false 9999;have base:∃ces' clock',(Instr.mapUpdate t (.map (some b)) (.int k1 m) (a.eval v)).run P x.w= .ok () {x.w with heap:=x.w.heap.setIfInBounds b (.map ces' clock')}/\MapR P x (putM k1 m (ev T v) es) ces'.toList:=by
     rcases xr (P:=P) (x:=x) (k':=kk) (m:=m) 0 hall hm with⟨h4,h5⟩|⟨jj,u,ce,h4,h5,h6,h7,h8,h9⟩
     ·refine⟨ces.push {key:= .int k1 m,val:=a.eval v,born:=clock},clock+1,?_,by rw[Array.toList_push];exact ao6 (hT.ev v) hm h4⟩;have hf:=run_findKey (P:=P) (w:=x.w) hk h5;simp only[Instr.mapUpdate,Sem.run_bind,run_underlying ht,Result.andThen_ok,MapKept.run_getObj_map hcur,Sem.run_pure,hck,hf,MapKept.run_setObj_map _ hcur]
     ·refine⟨ces.modify jj λe=>{e with key:= .int k1 m,val:=a.eval v},clock,?_,by rw[Array.toList_modify];exact h9 _ _ (hT.ev v)⟩;have hf:=run_findKey (P:=P) (w:=x.w) hk h8;have hce:ces[jj]?=some ce:=by simpa using h5
      have hst:(Instr.keyThatStays (.int k1 m) (.int k1 m)).run P x.w= .ok (.int k1 m) x.w:=by
       have e:Instr.sameBits 10000 (.int k1 m) (.int k1 m)=true:=by simp[Instr.sameBits]
       simp[Instr.keyThatStays,e]
      simp only[Instr.mapUpdate,Sem.run_bind,run_underlying ht,Result.andThen_ok,MapKept.run_getObj_map hcur,Sem.run_pure,hck,hf,Nat.zero_add,hce,Option.map_some,Option.getD_some,h6,hst,MapKept.run_setObj_map _ hcur]
    obtain⟨ces',clock',hrun,hmr⟩:=base;obtain⟨R',E⟩:=R.setMap (clock':=clock') hb hjj hcur hmr;refine⟨.skip,undef,_,?_,.inr ⟨O,O⟩,R',E,⟨[],O,by simp[VRV]⟩,λ_ _ _ hn=>hn⟩;simp only[execOp,ho,ey,ex,Sem.run_bind,hrun,Result.andThen_ok,Sem.run_pure]
   ·cases hq
  ·cases hq
 ·cases hq
end
end Go.Pb
