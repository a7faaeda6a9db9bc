import Derived.Test.YtmonnlkagniolaaGreatPbLoud
set_option linter.all false
namespace Go.Pb
open Go Go.RowKit
mutual
def closed:PV->Bool
 | .sc _=>true
 | .agg cs=>closedL cs
 | .tup vs=>closedL vs
 | .fs _ es=>closedL es
 | .fp x=>closed x
 | .os _ _ _ _=>false
 | .op _ _ _=>false
 | .om _ _=>false
 | .fn _ a b=>closedL a&&closedL b
 | .ifc _ v=>closed v
 | .junk=>true
def closedL:List PV->Bool
 |[]=>true
 |v::r=>closed v&&closedL r
end
theorem af6:∀(l:List PV),closedL l=l.all closed
 |[]=>rfl
 |v::r=>by simp[closedL,af6 r]
mutual
def flat:PV->Bool
 | .sc _=>true
 | .agg cs=>flatL cs
 | .tup vs=>flatL vs
 | .ifc _ v=>flat v
 | .junk=>true
 | .fs _ es=>false
 | .fp x=>false
 | .os _ _ _ _=>false
 | .op _ _ _=>false
 | .om _ _=>false
 | .fn _ a b=>flatL a&&flatL b
def flatL:List PV->Bool
 |[]=>true
 |v::r=>flat v&&flatL r
end
def noJ:Nat->Nat->Option Nat:=λ_ _=>none
section
variable{P:Program}
structure Sees(x y:Cx):Prop where
 fro:∀b,x.F b->y.F b/\y.w.heap[b]?=x.w.heap[b]?
theorem sr{x y:Cx}(h:Sees x y){b o:Nat}{xs:List Value}(hb:x.F b)(hc:cellsAt x.w b o xs):cellsAt y.w b o xs:=by
 intro j u hj;have:=hc j u hj;have e:=(h.fro b hb).2;unfold World.cell? at*;simpa[e]using this
mutual
theorem VRC_sees{x y:Cx}(h:Sees x y):∀(v:PV)(us:List Value),closed v=true->VRC P x v us->VRC P y v us
 | .sc v,us,_=>by simp only[VRC];exact id
 | .agg cs,us,hc=>by simp only[VRC];exact VRL_sees h cs us (by simpa[closed]using hc)
 | .tup vs,us,hc=>by
   simp only[VRC];rintro⟨xs,e,r⟩;exact⟨xs,e,VRV_sees h vs xs (by simpa[closed]using hc) r⟩
 | .fs tight es,us,hc=>by
   simp only[VRC];rintro⟨b,o,cap,sz,e,h1,h2,h3,r⟩;exact⟨b,o,cap,sz,e,h1,h2,h3,VRM_sees h es o (by simpa[closed]using hc) r⟩
 | .fp e,us,hc=>by
   simp only[VRC];rintro⟨b,o,xs,e',hf,hc',r⟩;exact⟨b,o,xs,e',(h.fro b hf).1,sr h hf hc',VRC_sees h e xs (by simpa[closed]using hc) r⟩
 | .os id ver off n,us,hc=>by simp[closed]at hc
 | .op id ver off,us,hc=>by simp[closed]at hc
 | .om id ver,us,hc=>by simp[closed]at hc
 | .fn f first captured,us,hc=>by
   simp only[closed,Bool.and_eq_true]at hc;simp only[VRC];rintro⟨fs,cs,e,r1,r2⟩;exact⟨fs,cs,e,VRV_sees h first fs hc.1 r1,VRV_sees h captured cs hc.2 r2⟩
 | .ifc t v,us,hc=>by
   simp only[VRC];rintro⟨u,e,r⟩;exact⟨u,e,r.imp λus=>VRC_sees h v us (by simpa[closed]using hc)⟩
 | .junk,us,_=>by simp only[VRC];exact id
theorem VRL_sees{x y:Cx}(h:Sees x y):∀(cs:List PV)(us:List Value),closedL cs=true->VRL P x cs us->VRL P y cs us
 |[],[],_=>by simp only[VRL];exact id
 |[],_::_,_=>by simp only[VRL];exact id
 |_::_,[],_=>by simp only[VRL];exact id
 |c::cs,u::us,hc=>by
  simp only[closedL,Bool.and_eq_true]at hc;simp only[VRL];exactλ⟨h0,h1,h2⟩=>⟨h0,VRC_sees h c [u] hc.1 h1,VRL_sees h cs us hc.2 h2⟩
theorem VRV_sees{x y:Cx}(h:Sees x y):∀(cs:List PV)(us:List Value),closedL cs=true->VRV P x cs us->VRV P y cs us
 |[],[],_=>by simp only[VRV];exact id
 |[],_::_,_=>by simp only[VRV];exact id
 |_::_,[],_=>by simp only[VRV];exact id
 |c::cs,u::us,hc=>by
  simp only[closedL,Bool.and_eq_true]at hc;simp only[VRV];exactλ⟨h1,h2⟩=>⟨h1.imp λus=>VRC_sees h c us hc.1,VRV_sees h cs us hc.2 h2⟩
theorem VRM_sees{x y:Cx}(h:Sees x y){b sz:Nat}:∀(es:List PV)(o:Nat),closedL es=true->VRM P x b sz es o->VRM P y b sz es o
 |[],_,_=>by simp only[VRM];exact id
 |e::es,o,hc=>by
  simp only[closedL,Bool.and_eq_true]at hc;simp only[VRM];rintro⟨⟨hf,xs,hl,hc',r⟩,r2⟩;exact⟨⟨(h.fro b hf).1,xs,hl,sr h hf hc',VRC_sees h e xs hc.1 r⟩,VRM_sees h es _ hc.2 r2⟩
end
theorem VR_sees{x y:Cx}(h:Sees x y){v:PV}{u:Value}(hc:closed v=true)(hv:VR P x v u):VR P y v u:=AsVal.imp (λus=>VRC_sees h v us hc) hv
mutual
theorem VRC_flat{x:Cx}(y:Cx):∀(v:PV)(us:List Value),flat v=true->VRC P x v us->VRC P y v us
 | .sc v,us,_=>by simp only[VRC];exact id
 | .agg cs,us,hc=>by simp only[VRC];exact VRL_flat y cs us (by simpa[flat]using hc)
 | .tup vs,us,hc=>by
   simp only[VRC];rintro⟨xs,e,r⟩;exact⟨xs,e,VRV_flat y vs xs (by simpa[flat]using hc) r⟩
 | .fs tight es,us,hc=>by simp[flat]at hc
 | .fp e,us,hc=>by simp[flat]at hc
 | .os id ver off n,us,hc=>by simp[flat]at hc
 | .op id ver off,us,hc=>by simp[flat]at hc
 | .om id ver,us,hc=>by simp[flat]at hc
 | .fn f first captured,us,hc=>by
   simp only[flat,Bool.and_eq_true]at hc;simp only[VRC];rintro⟨fs,cs,e,r1,r2⟩;exact⟨fs,cs,e,VRV_flat y first fs hc.1 r1,VRV_flat y captured cs hc.2 r2⟩
 | .ifc t v,us,hc=>by
   simp only[VRC];rintro⟨u,e,r⟩;exact⟨u,e,r.imp λus=>VRC_flat y v us (by simpa[flat]using hc)⟩
 | .junk,us,_=>by simp only[VRC];exact id
theorem VRL_flat{x:Cx}(y:Cx):∀(cs:List PV)(us:List Value),flatL cs=true->VRL P x cs us->VRL P y cs us
 |[],[],_=>by simp only[VRL];exact id
 |[],_::_,_=>by simp only[VRL];exact id
 |_::_,[],_=>by simp only[VRL];exact id
 |c::cs,u::us,hc=>by
  simp only[flatL,Bool.and_eq_true]at hc;simp only[VRL];exactλ⟨h0,h1,h2⟩=>⟨h0,VRC_flat y c [u] hc.1 h1,VRL_flat y cs us hc.2 h2⟩
theorem VRV_flat{x:Cx}(y:Cx):∀(cs:List PV)(us:List Value),flatL cs=true->VRV P x cs us->VRV P y cs us
 |[],[],_=>by simp only[VRV];exact id
 |[],_::_,_=>by simp only[VRV];exact id
 |_::_,[],_=>by simp only[VRV];exact id
 |c::cs,u::us,hc=>by
  simp only[flatL,Bool.and_eq_true]at hc;simp only[VRV];exactλ⟨h1,h2⟩=>⟨h1.imp λus=>VRC_flat y c us hc.1,VRV_flat y cs us hc.2 h2⟩
end
theorem VR_flat{x:Cx}(y:Cx){v:PV}{u:Value}(hc:flat v=true)(hv:VR P x v u):VR P y v u:=AsVal.imp (λus=>VRC_flat y v us hc) hv
def Enters(P:Program)(f:FuncId):Prop:=∀(args:Array Value)(w:World),(callFunc f args).run P w= .ok (.enter f args) w
def FnR(P:Program)(f:FuncId)(args:List PV)(r:PV):Prop:=Enters P f/\∀(w:World)(F:Nat->Prop)(cargs:List Value),(∀b,F b->b < w.heap.size)->VRV P ⟨w,F,noJ⟩ args cargs->
 Calls P f cargs.toArray w λe w'=>∃v y,e= .returned v/\y.w=w'/\Grow ⟨w,F,noJ⟩ y/\VR P y r v
def star(w0:World)(F0:Nat->Prop)(w:World):Nat->Prop:=λb=>F0 b\/(w0.heap.size<=b/\b < w.heap.size)
def Sub(h k:Heap):Prop:=∀(id:Nat) b,h.bl[id]?=some b->k.bl[id]?=some b
theorem Sub.refl(h:Heap):Sub h h:=λ_ _ h=>h
def Deep(P:Program)(h:Heap)(v d:PV):Prop:=closed d=true/\∀k,Sub h k->∀w0 F0 x u,RelP P w0 F0 k x->VR P x v u->VR P ⟨x.w,star w0 F0 x.w,noJ⟩ d u
def DeepL(P:Program)(h:Heap):List PV->List PV->Prop
 |[],[]=>True
 |v::vs,d::ds=>Deep P h v d/\DeepL P h vs ds
 |_,_=>False
theorem qy{w0:World}{F0:Nat->Prop}{h:Heap}{x:Cx}(R:RelP P w0 F0 h x):Sees x ⟨x.w,star w0 F0 x.w,noJ⟩:=
 ⟨λb hb=>⟨by
  have:=R.fnew b hb;rcases this.2 with h1|h1
  ·exact .inl h1
  ·exact .inr ⟨h1,this.1⟩,O⟩⟩
theorem eh{h:Heap}{v:PV}(hc:closed v=true):Deep P h v v:=⟨hc,λk hk w0 F0 x u R hv=>VR_sees (qy R) hc hv⟩
theorem VRL_app_split{x:Cx}:∀{c d:List PV}{us:List Value},VRL P x (c++d) us->VRL P x c (us.take c.length)/\VRL P x d (us.drop c.length)
 |[],d,us,h=>by simpa[VRL]using h
 |a::c,d,[],h=>by simp[VRL]at h
 |a::c,d,u::us,h=>by
  simp only[List.cons_append,VRL]at h;have:=VRL_app_split h.2.2;simp only[List.length_cons,List.take_succ_cons,List.drop_succ_cons,VRL];exact⟨⟨h.1,h.2.1,this.1⟩,this.2⟩
theorem VRC_of_cells{x:Cx}{v:PV}{cs:List PV}{us:List Value}(hc:v.cellsOf=some cs)(h:VRL P x cs us):VRC P x v us:=by
 cases v with
 |agg ds=>simp only[PV.cellsOf,Option.some.injEq]at hc;subst hc;simpa[VRC]using h
 |junk=>simp[VRC]
 |tup vs=>simp[PV.cellsOf]at hc
 |_=>
  simp only[PV.cellsOf,Option.some.injEq]at hc;subst hc
  match us,h with
  |[u],h=>simp only[VRL]at h;exact h.2.1
  |[],h=>simp[VRL]at h
  |_::_::_,h=>simp[VRL]at h
theorem th{a b:List PV}:closedL (a++b)=(closedL a&&closedL b):=by simp[af6]
theorem sk{v:PV}{cs:List PV}(hc:v.cellsOf=some cs):closedL cs=closed v:=by
 cases v<;>simp_all[PV.cellsOf,closed,closedL]<;>(subst hc;simp[closed,closedL])
theorem VRM_of_cells{y:Cx}{b sz:Nat}(hF:y.F b):∀{es:List PV}{cs:List PV}{o:Nat}{xs:List Value},rowCells es=some cs->es.all (λv=>cnt v==some sz)=true->cellsAt y.w b o xs->VRL P y cs xs->VRM P y b sz es o
 |[],cs,o,xs,_,_,_,_=>by simp[VRM]
 |e::es,cs,o,xs,h,ha,hc,hr=>by
  simp only[rowCells]at h;split at h
  ·rename_i c d hce hd;simp only[Option.some.injEq]at h;subst h;simp only[List.all_cons,Bool.and_eq_true,beq_iff_eq]at ha;obtain⟨c',hc',hl⟩:=wn ha.1;rw[hce]at hc';simp only[Option.some.injEq]at hc';subst hc';obtain⟨r1,r2⟩:=VRL_app_split hr;have hlen:=VRL_length hr;simp only[List.length_append]at hlen;simp only[VRM];refine⟨⟨hF,xs.take c.length,by simp;omega,λj u hj=>hc j u ?_,VRC_of_cells hce r1⟩,VRM_of_cells hF hd ha.2 ?_ r2⟩
   ·rw[List.getElem?_take]at hj;split at hj
    ·exact hj
    ·cases hj
   ·intro j u hj;rw[List.getElem?_drop]at hj;have:=hc _ u hj
    rwa [hl,<-Nat.add_assoc]at this
  ·cases h
theorem bi5{h:Heap}{id ver off n sz:Nat}{ty:TypeId}{mt:Bool}{cs:List PV}{es:List PV}(hb:h.bl[id]?=some (.cells ver ty mt cs))(hl:off+n*sz<=cs.length)(hn:es.length=n)
 (hes:rowCells es=some ((cs.drop off).take (n*sz)))(hall:es.all (λv=>cnt v==some sz)=true)(hc:closedL es=true):Deep P h (.os id ver off n) (.fs false es):=by
 refine⟨by simpa[closed]using hc,λk hk w0 F0 x u R hv=>?_⟩;simp only[VR,AsVal,PV.isAgg,VRC,List.cons.injEq,and_true]at hv;obtain⟨b,cap,hj,rfl,h1,h2,_⟩:=hv;obtain⟨cur,hcur,hcl,hvr⟩:=lz R (hk _ _ hb) hj;have hown:=R.own _ _ _ hj;have hF:(⟨x.w,star w0 F0 x.w,noJ⟩:Cx).F b:= .inr hown;refine⟨b,off,cap,sz,by rw[hn],by omega,h2,by simp,?_⟩;have hseg:=VRL_seg hcl hvr off (n*sz) hl;have hcl2:closedL ((cs.drop off).take (n*sz))=true:=by
  have key:∀(es:List PV)(cs:List PV),rowCells es=some cs->closedL cs=closedL es:=by
   intro es;induction es with
   |nil=>intro cs h;simp only[rowCells,Option.some.injEq]at h;subst h;rfl
   |cons e es ih=>
    intro cs h;simp only[rowCells]at h;split at h
    ·rename_i c d hce hd;simp only[Option.some.injEq]at h;subst h;rw[th,sk hce,ih d hd];rfl
    ·cases h
  rw[key es _ hes];exact hc
 exact VRM_of_cells hF hes hall (lr hcur off (n*sz)) (VRL_sees (qy R) _ _ hcl2 hseg)
theorem ae6{h k:Heap}(hk:Sub h k):∀{vs ds:List PV},DeepL P h vs ds->∀{w0 F0 x us},RelP P w0 F0 k x->VRV P x vs us->VRV P ⟨x.w,star w0 F0 x.w,noJ⟩ ds us
 |[],[],_,_,_,_,[],_,_=>by simp[VRV]
 |[],[],_,_,_,_,_::_,_,h=>by simp[VRV]at h
 |[],_::_,h,_,_,_,_,_,_=>by simp[DeepL]at h
 |_::_,[],h,_,_,_,_,_,_=>by simp[DeepL]at h
 |v::vs,d::ds,_,_,_,_,[],_,h=>by simp[VRV]at h
 |v::vs,d::ds,hd,w0,F0,x,u::us,R,h=>by
  simp only[DeepL]at hd;simp only[VRV]at h⊢;exact⟨hd.1.2 k hk w0 F0 x u R h.1,ae6 hk hd.2 R h.2⟩
theorem ba4{h:Heap}{vs ds:List PV}(hd:DeepL P h vs ds)(hc:closedL ds=true):Deep P h (.tup vs) (.tup ds):=by
 refine⟨by simpa[closed]using hc,λk hk w0 F0 x u R hv=>?_⟩;simp only[VR,AsVal,PV.isAgg,VRC,List.cons.injEq,and_true]at hv;obtain⟨xs,rfl,hr⟩:=hv;exact⟨xs,O,ae6 hk hd R hr⟩
def Soft(P:Program)(h:Heap)(v d:PV):Prop:=closed d=true/\∀k,Sub h k->∀w0 F0 x u,RelP P w0 F0 k x->VR P x v u->VR P x d u
def SoftL(P:Program)(h:Heap):List PV->List PV->Prop
 |[],[]=>True
 |v::vs,d::ds=>Soft P h v d/\SoftL P h vs ds
 |_,_=>False
theorem SoftL.closed{h:Heap}:∀{vs ds:List PV},SoftL P h vs ds->closedL ds=true
 |[],[],_=>rfl
 |v::vs,d::ds,H=>by simp[closedL,H.1.1,SoftL.closed H.2]
 |[],_::_,H=>by simp[SoftL]at H
 |_::_,[],H=>by simp[SoftL]at H
theorem SoftL.mono{h k:Heap}(hk:Sub h k):∀{vs ds:List PV},SoftL P h vs ds->SoftL P k vs ds
 |[],[],_=>trivial
 |v::vs,d::ds,H=>⟨⟨H.1.1,λm hm=>H.1.2 m λid b hb=>hm id b (hk id b hb)⟩,SoftL.mono hk H.2⟩
 |[],_::_,H=>by simp[SoftL]at H
 |_::_,[],H=>by simp[SoftL]at H
theorem SoftL.vrv{h:Heap}{w0:World}{F0:Nat->Prop}{x:Cx}(R:RelP P w0 F0 h x):∀{vs ds:List PV}{us:List Value},SoftL P h vs ds->VRV P x vs us->VRV P x ds us
 |[],[],us,_,hu=>hu
 |v::vs,d::ds,us,H,hu=>by
  cases us with
  |nil=>simp[VRV]at hu
  |cons u us=>
   simp only[VRV]at hu⊢;exact⟨H.1.2 h (Sub.refl h) _ _ _ _ R hu.1,SoftL.vrv R H.2 hu.2⟩
 |[],_::_,_,H,_=>by simp[SoftL]at H
 |_::_,[],_,H,_=>by simp[SoftL]at H
def CallD(P:Program)(h:Heap)(f:FuncId)(args:List PV)(r:PV):Prop:=
 (closedL args=true/\FnR P f args r)\/(∃ds,DeepL P h args ds/\FnR P f ds r/\(flat r=true\/SoftL P h args ds))
theorem ag0{w0:World}{F0:Nat->Prop}{h:Heap}{x:Cx}{f:FuncId}{args:List PV}{r:PV}{cargs:List Value}(R:RelP P w0 F0 h x)(hc:CallD P h f args r)(ha:VRV P x args cargs):
 Enters P f/\Calls P f cargs.toArray x.w λe w'=>∃v y,e= .returned v/\y.w=w'/\Grow x y/\VR P y r v:=by
 rcases hc with⟨hcl,he,hf⟩|⟨ds,hd,⟨he,hf⟩,hfl|hsf⟩
 ·refine⟨he,(hf x.w x.F cargs (λb hb=>(R.fnew b hb).1) (VRV_sees (x:=x) (y:=⟨x.w,x.F,noJ⟩) ⟨λb hb=>⟨hb,O⟩⟩ _ _ hcl ha)).mono λe w' hh=>?_⟩;obtain⟨v,y,he,hw,g,hr⟩:=hh;refine⟨v,⟨y.w,y.F,x.J⟩,he,hw,⟨g.below,O,g.sub,g.new⟩,?_⟩;refine VR_ext (x:=y) (y:=⟨y.w,y.F,x.J⟩) ⟨Nat.le_refl _,λb hb=>⟨hb,O⟩,λid ver b hb=>?_,λb cur ty fr hb=>⟨cur,hb,O⟩⟩ hr;rw[g.J]at hb;cases hb
 ·refine⟨he,(hf x.w (star w0 F0 x.w) cargs (λb hb=>?_) (ae6 (Sub.refl h) hd R ha)).mono λe w' hh=>?_⟩
  ·rcases hb with hb|hb
   ·exact Nat.lt_of_lt_of_le (R.f0 b hb) R.below.size
   ·exact hb.2
  ·obtain⟨v,y,he,hw,g,hr⟩:=hh;refine⟨v,⟨y.w,x.F,x.J⟩,he,hw,⟨g.below,O,λb hb=>hb,λb hb=> .inl hb⟩,VR_flat _ hfl hr⟩
 ·refine⟨he,(hf x.w x.F cargs (λb hb=>(R.fnew b hb).1) (VRV_sees (x:=x) (y:=⟨x.w,x.F,noJ⟩) ⟨λb hb=>⟨hb,O⟩⟩ _ _ hsf.closed (hsf.vrv R ha))).mono λe w' hh=>?_⟩;obtain⟨v,y,he,hw,g,hr⟩:=hh;refine⟨v,⟨y.w,y.F,x.J⟩,he,hw,⟨g.below,O,g.sub,g.new⟩,?_⟩;refine VR_ext (x:=y) (y:=⟨y.w,y.F,x.J⟩) ⟨Nat.le_refl _,λb hb=>⟨hb,O⟩,λid ver b hb=>?_,λb cur ty fr hb=>⟨cur,hb,O⟩⟩ hr;rw[g.J]at hb;cases hb
end
end Go.Pb
