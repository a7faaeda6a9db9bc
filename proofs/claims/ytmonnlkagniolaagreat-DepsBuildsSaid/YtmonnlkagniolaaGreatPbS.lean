import Derived.Test.YtmonnlkagniolaaGreatPbT
set_option linter.all false
namespace Go.Pb
open Go Go.RowKit
section
variable{P:Program}{w0:World}{F0:Nat->Prop}{h:Heap}{x:Cx}
theorem RelP.freeze(R:RelP P w0 F0 h x){id ver:Nat}{ty:TypeId}{cs:List PV}(hb:blk h id=some (.cells ver ty true cs)):
 ∃y,y.w=x.w/\y.J=x.J/\Ext x y/\(∀b,x.J id ver=some b->y.F b)/\RelP P w0 F0 (hput h id (.cells ver ty false cs)) y:=by
 have hb':h.bl[id]?=some (.cells ver ty true cs):=hb;have E:Ext x ⟨x.w,λb=>x.F b\/x.J id ver=some b,x.J⟩:=⟨Nat.le_refl _,λb hF=>⟨.inl hF,O⟩,λ_ _ _ e=>e,λb cur ty fr e=>⟨cur,e,O⟩⟩;refine⟨⟨x.w,λb=>x.F b\/x.J id ver=some b,x.J⟩,O,O,E,λb hj=> .inr hj,?_⟩;have look:∀(i:Nat) b,(hput h id (.cells ver ty false cs)).bl[i]?=some b->(i=id/\b= .cells ver ty false cs)\/(i≠id/\h.bl[i]?=some b):=by
  intro i b hi;by_cases e:i=id
  ·subst e;have:=vd h i (.cells ver ty false cs) (qt hb);simp only[blk]at this;rw[this]at hi;exact .inl ⟨O,(Option.some.inj hi).symm⟩
  ·have:=pa h id i (.cells ver ty false cs) (λe'=>e e'.symm);simp only[blk]at this;rw[this]at hi;exact .inr ⟨e,hi⟩
 refine⟨R.below,R.f0,λb hF=> .inl (R.fsub b hF),λb hF=>?_,R.own,R.fresh,λi j bi bj b h1 h2 h3 h4=>?_,λi bi hi=>?_⟩
 ·rcases hF with hF|hF
  ·exact R.fnew b hF
  ·exact⟨(R.own _ _ _ hF).2,.inr (R.own _ _ _ hF).1⟩
 ·have g1:∃b',h.bl[i]?=some b'/\b'.ver=bi.ver:=by
   rcases look i bi h1 with⟨rfl,rfl⟩|⟨_,h5⟩
   ·exact⟨_,hb',O⟩
   ·exact⟨_,h5,O⟩
  have g2:∃b',h.bl[j]?=some b'/\b'.ver=bj.ver:=by
   rcases look j bj h2 with⟨rfl,rfl⟩|⟨_,h5⟩
   ·exact⟨_,hb',O⟩
   ·exact⟨_,h5,O⟩
  obtain⟨b1,e1,e2⟩:=g1;obtain⟨b2,e3,e4⟩:=g2;exact R.inj i j b1 b2 b e1 e3 (by rw[e2];exact h3) (by rw[e4];exact h4)
 ·rcases look i bi hi with⟨rfl,rfl⟩|⟨hne,h5⟩
  ·intro b hj;obtain⟨⟨cur,h1,h2,h3⟩,_⟩:=R.hr i _ hb' b hj;exact⟨⟨cur,h1,h2,VRL_ext E _ _ h3⟩,.inr hj⟩
  ·refine BlkR_ext E O (λb hj=>⟨O,⟨λhF=>?_,.inl⟩⟩) (R.hr i bi h5);rcases hF with hF|hF
   ·exact hF
   ·exact absurd (R.inj i id bi _ b h5 hb' hj hF) hne
theorem VR_frozen(R:RelP P w0 F0 h x){id ver n sz:Nat}{ty:TypeId}{mt:Bool}{cs es:List PV}{u:Value}(hb:blk h id=some (.cells ver ty mt cs))(hF:∀b,x.J id ver=some b->x.F b)(hn:n=es.length)(hes:rowCells es=some cs)(hall:∀e∈es,cnt e=some sz)
 (hv:VR P x (.os id ver 0 n) u):VR P x (.fs false es) u:=by
 simp only[VR,AsVal,PV.isAgg,VRC,List.cons.injEq,and_true]at hv;obtain⟨b,cap,hj,rfl,h1,h2,_⟩:=hv;obtain⟨cur,hcur,hcl,hvr⟩:=lz R hb hj;refine⟨b,0,cap,sz,by rw[hn],by omega,h2,by simp,?_⟩;have hall':es.all (λv=>cnt v==some sz)=true:=by simpa[List.all_eq_true]using hall
 exact VRM_of_cells (hF b hj) hes hall' (lr hcur 0 cs.length) (by simpa using hvr)
theorem VR_frozenp(R:RelP P w0 F0 h x){id ver:Nat}{ty:TypeId}{mt:Bool}{cs:List PV}{v:PV}{u:Value}(hb:blk h id=some (.cells ver ty mt cs))(hF:∀b,x.J id ver=some b->x.F b)(hc:v.cellsOf=some cs)
 (hv:VR P x (.op id ver 0) u):VR P x (.fp v) u:=by
 simp only[VR,AsVal,PV.isAgg,VRC,List.cons.injEq,and_true]at hv;obtain⟨b,hj,rfl⟩:=hv;obtain⟨cur,hcur,hcl,hvr⟩:=lz R hb hj;exact⟨b,0,cur.toList.take cs.length,O,hF b hj,by simpa using lr hcur 0 cs.length,VRC_of_cells hc hvr⟩
mutual
inductive FrzV(v d:PV):PV->PV->Prop where
 |same (w:PV):FrzV v d w w
 |turn:FrzV v d v d
 |agg {cs ds:List PV}:FrzL v d cs ds->FrzV v d (.agg cs) (.agg ds)
inductive FrzL(v d:PV):List PV->List PV->Prop where
 |nil:FrzL v d [] []
 |cons {c e:PV} {cs es:List PV}:FrzV v d c e->FrzL v d cs es->FrzL v d (c::cs) (e::es)
end
theorem FrzV.agg_eq{v d w u:PV}(h:FrzV v d w u)(hv:v.isAgg=d.isAgg):w.isAgg=u.isAgg:=by
 cases h with
 |same=>rfl
 |turn=>exact hv
 |agg=>rfl
mutual
theorem FrzV.conv{v d:PV}(hb:∀us,VRC P x v us->VRC P x d us):∀{w u:PV},FrzV v d w u->∀us,VRC P x w us->VRC P x u us
 |_,_,.same w,us,h=>h
 |_,_,.turn,us,h=>hb us h
 |_,_,.agg hl,us,h=>FrzL.conv hb hl us h
theorem FrzL.conv{v d:PV}(hb:∀us,VRC P x v us->VRC P x d us):∀{cs ds:List PV},FrzL v d cs ds->∀us,VRL P x cs us->VRL P x ds us
 |_,_,.nil,us,h=>h
 |_,_,.cons h1 h2,us,h=>by
  cases us with
  |nil=>simp[VRL]at h
  |cons u us=>
   simp only[VRL]at h⊢;exact⟨h.1,FrzV.conv hb h1 _ h.2.1,FrzL.conv hb h2 _ h.2.2⟩
end
def FrzE(v d:PV)(E E':TEnv):Prop:=∀t u,look t E'=some u->∃w,look t E=some w/\FrzV v d w u
theorem ah0{v d:PV}{E:TEnv}:FrzE v d E []:=λt u e=>by simp[look]at e
theorem bc5{v d w w':PV}{E E':TEnv}{k:Nat}(hk:look k E=some w)(hw:FrzV v d w w')(s:FrzE v d E E'):FrzE v d E ((k,w')::E'):=by
 intro t u e;simp only[look]at e;by_cases ht:t=k
 ·subst ht;simp only[Nat.beq_refl,cond_true,Option.some.injEq]at e;exact⟨w,hk,by rw[<-e];exact hw⟩
 ·simp only[vn ht,cond_false]at e;exact s t u e
theorem du{v d w:PV}{E E':TEnv}{k:Nat}(hk:look k E=some w)(s:FrzE v d E E'):FrzE v d E ((k,w)::E'):=bc5 hk (.same w) s
theorem vx{v d:PV}{E E':TEnv}{k:Nat}(hk:look k E=some v)(s:FrzE v d E E'):FrzE v d E ((k,d)::E'):=bc5 hk .turn s
def runS(P:Program)(al:List AOper)(S:List Fr)(Q:Post)(T:Nat->PV)(h:Heap):Prop:=wpS P al T h (asPost P S Q .normal)
def RS(P:Program)(l:List AOper)(S:List Fr)(Q:Post)(E:TEnv)(h:Heap):Prop:=∀T,Ag E T->runS P l S Q T h
end
section
variable{P:Program}{S:List Fr}{Q:Post}{E E':TEnv}{h:Heap}{L:List Ent}{r:List AOper}{o:AOper}{d:Nat}{hf:Bool}
theorem fc{al:List AOper}(k:RS P al S Q E h):RC P (.region false al) S Q E h:=λT hT=> .inr ⟨O,k T hT⟩
theorem kn(k:PN P S Q E h):RS P [] S Q E h:=λT hT=>⟨T,h,Wk.refl T h,k T hT⟩
def bk(P:Program)(r:List AOper)(S:List Fr)(Q:Post):Fr:= .loop λT h=>runS P r S Q T h
theorem ce4{K:(Nat->PV)->Heap->Prop}{T:Nat->PV}(H:wpD P [o] T h λT h=>wpS P r T h K):wpS P (o::r) T h K:=by
 obtain⟨g,hg,h1,h2⟩:=H;exact⟨T,h,Wk.refl T h,g,hg,λe=> .inl (h1 e),h2⟩
theorem cw(k:RD P [o] (bk P r S Q::S) Q E h):RS P (o::r) S Q E h:=λT hT=>ce4 (k T hT)
theorem cx(k:RS P r S Q E h):RD P [] (bk P r S Q::S) Q E h:=k
theorem at0{T T':Nat->PV}{h':Heap}:∀{l:List AOper},Wk P T h T' h'->runS P l S Q T' h'->runS P l S Q T h
 |[],hw,⟨T1,h1,hw1,k⟩=>⟨T1,h1,hw.trans hw1,k⟩
 |o::l,hw,⟨T1,h1,hw1,k⟩=>⟨T1,h1,hw.trans hw1,k⟩
theorem gn{k:Nat}{v:PV}{ty:TypeId}{sz:Nat}{es:List PV}(M:Mem h L)(hk:L[k]?=some ⟨v,ty,sz,es⟩)(hne:isL v=true):v.cellsOf=some [v]/\v.isAgg=false:=by
 have hv:=(M.atF hk).2;cases v with
 |os id ver off n=>exact⟨O,O⟩
 |fs t es'=>exact⟨O,O⟩
 |sc u=>exact⟨O,O⟩
 |_=>first|exact hv.elim|(simp[isL]at hne)
theorem be8{k:Nat}{id ver n:Nat}{ty:TypeId}{sz:Nat}{es:List PV}(M:Mem h L)(hk:L[k]?=some ⟨.os id ver 0 n,ty,sz,es⟩)(hE:FrzE (.os id ver 0 n) (.fs false es) E E')(K:∀h',Mem h' (L.eraseIdx k)->RS P r S Q E' h'):RS P r S Q E h:=by
 obtain⟨hc,hn,cs,h1,h2⟩:=M.atF hk;have hM:Mem (hput h id (.cells ver ty false cs)) (L.eraseIdx k):=by
  refine⟨λe he=>?_,M.dis.sublist (List.eraseIdx_sublist ..)⟩;obtain⟨j,hj⟩:=List.getElem?_of_mem he;rw[List.getElem?_eraseIdx]at hj;have hjk:∃j,j≠k/\L[j]?=some e:=by
   split at hj
   ·exact⟨j,by omega,hj⟩
   ·exact⟨j+1,by omega,hj⟩
  obtain⟨j,hne,hj⟩:=hjk;refine(M.ent e (List.mem_of_getElem? hj)).frame λi hi _=>?_;have ha:=rh M.dis hk hne hj;exact pa h id i _ λe'=>ha i (by simp[idOf,e']) hi
 intro T hT;refine at0 (T':=λt=>match look t E' with|some u=>u|none=>T t) (h':=hput h id (.cells ver ty false cs)) ?_ (K _ hM _ λt u e=>by simp only[e]);intro w0 F0 n' x a R hTm;obtain⟨y,ew,eJ,Ex,hF,R'⟩:=R.freeze h2;refine⟨y,ew,Ex,R',hTm.size,λt=>?_,hTm.defers⟩;have h0:=VR_ext Ex (hTm.at_ t);split
 ·rename_i u hu;obtain⟨w,h3,h4⟩:=hE t u hu;rw[hT t w h3]at h0;have hb:∀us,VRC P y (.os id ver 0 n) us->VRC P y (.fs false es) us:=λus hv=>by
   have hone:∃u,us=[u]:=by
    simp only[VRC]at hv;obtain⟨b,cap,_,e,_⟩:=hv;exact⟨_,e⟩
   obtain⟨u,rfl⟩:=hone;exact VR_frozen (u:=u) R' (vd h id _ (qt h2)) (λb hj=>hF b (by rw[<-eJ];exact hj)) hn h1 hc hv
  have:=h4.agg_eq O;unfold VR at h0⊢;rw[<-this];exact AsVal.imp (h4.conv hb) h0
 ·exact h0
theorem bn3{k:Nat}{v:PV}{ty:TypeId}{sz:Nat}{es:List PV}{E':PV->TEnv}(M:Mem h L)(hk:L[k]?=some ⟨v,ty,sz,es⟩)(hne:isL v=true)(hE:∀d,FrzE v d E (E' d))(K:∀d h',IsSl d es->Mem h' (L.eraseIdx k)->RS P r S Q (E' d) h'):RS P r S Q E h:=by
 have hv:=(M.atF hk).2;have same:FrzE v v E (E' v)->IsSl v es->RS P r S Q E h:=by
  intro hf hs T hT;refine K v h hs (M.sub (List.eraseIdx_sublist ..)) T λt u e=>?_;obtain⟨w,h1,h2⟩:=hf t u e;have key:∀{w u:PV},FrzV v v w u->w=u:=by
   intro w u h;have:∀{w u:PV},FrzV v v w u->w=u:=λh=>by
    refine FrzV.rec (v:=v) (d:=v) (motive_1:=λw u _=>w=u) (motive_2:=λcs ds _=>cs=ds) (λ_=>O) O (λ_ e=>by rw[e]) O (λ_ _ e1 e2=>by rw[e1,e2]) h
   exact this h
  rw[<-key h2];exact hT t w h1
 cases v with
 |os id ver off n=>
  cases off with
  |zero=>exact be8 M hk (hE _) λh' M'=>K _ h' (.inr ⟨false,O⟩) M'
  |succ off=>exact hv.elim
 |fs t es'=>
  cases t with
  |true=>have e:es'=es:=hv;exact same (hE _) (.inr ⟨true,by rw[e]⟩)
  |false=>exact hv.elim
 |sc u=>
  unfold EntV at hv;split at hv<;>first|exact hv.elim|skip
  all_goals first|(rename_i heq;cases heq;exact same (hE _) (.inl ⟨_,O,hv⟩))|(rename_i heq;cases heq)
 |_=>first|exact hv.elim|(simp[isL]at hne)
end
end Go.Pb
