import Derived.Test.YtmonnlkagniolaaGreatPbAny
set_option linter.all false
namespace Go.Pb
open Go Go.RowKit
def lastAll(ops:Array Oper):Bool:=(List.range (ops.size-1)).all λj=>((befs [] ops.toList).getD (ops.size-1) 0).testBit j
def edgesOk(ops:Array Oper):Bool:=(List.range ops.size).all λj=>((ops[j]?).map λo=>o.after.toList.all λe=>!Region.binds .any e||decide (e.on < j)).getD true
def compT(P:Program)(own:List Tmp)(n:Nat)(ops:Array Oper):Option AC:=
 match ops.back? with
 |none=>none
 |some lo=>match compO P own n ops false lo,compOps P own n ops.pop [] 0 ops.pop.toList with
  |some la,some al0=>match compOps P own n ops.pop (lateOf ops.pop al0) 0 ops.pop.toList with
   |some al=>bif la.op.kind==2&&lastAll ops&&edgesOk ops&&chkDraw ops.pop al then some (.regionT al la)else none
   |none=>none
  |_,_=>none
def compU(P:Program)(own:List Tmp)(n:Nat)(ops:Array Oper):Option AC:=
 match compOps P own n ops [] 0 ops.toList with
 |some al0=>match compOps P own n ops (lateU ops al0) 0 ops.toList with
  |some al=>bif chkU ops al&&(al.any λo=>o.op.kind==2)&&decide (2<=(al.filter AOper.barU).length)then some (.regionU al)else none
  |none=>none
 |none=>none
def callsN(ops:Array Oper):Nat:=(ops.toList.filter λo=>match o.op with
 | .call c=>match c.callee with
   | .value _=>true
   |_=>false
 |_=>false).length
def compR(P:Program)(own:List Tmp)(n:Nat)(ops:Array Oper):Option AC:=match(bif own.contains 1000001||(own.contains 1000002&&Nat.ble 2 (callsN ops))then compU P own n ops else none)with
 |some c=>some c
 |none=>match compT P own n ops with
  |some c=>some c
  |none=>bif own.contains 1000000 then compU P own n ops else none
def compC(P:Program)(own:List Tmp)(n:Nat):Code->Option AC
 | .skip=>some .skip
 | .region _ ops draw=>match(bif draw then compR P own n ops else none)with
   |some c=>some c
   |none=>(compOps P own n ops [] 0 ops.toList).bind λal0=>(compOps P own n ops (bif draw then lateOf ops al0 else[]) 0 ops.toList).bind λal=>if draw&&!chkDraw ops al then none else some (.region draw al)
 | .seq a b=>(compC P own n a).bind λa'=>(compC P own n b).map λb'=> .seq a' b'
 | .cond c a b=>(compC P own n a).bind λa'=>(compC P own n b).map λb'=> .cond c a' b'
 | .block id b=>(compC P own n b).map λb'=> .block id b'
 | .loop b=>(compC P own n b).map λb'=> .loop b'
 | .exit id=>some (.exit id)
 | .ret=>some .ret
 | .scope b=>(compC P own n b).map λb'=> .scope b'
 | .label _=>some .skip
 |_=>none
abbrev Post:=Exit->(Nat->PV)->Heap->Prop
def thenP(K:(Nat->PV)->Heap->Prop)(Q:Post):Post:=λe T h=>match e with| .normal=>K T h|e=>Q e T h
def noGo(Q:Post):Post:=λe T h=>match e with| .goto _=>False|e=>Q e T h
def inBlk(id:Nat)(Q:Post):Post:=λe T h=>match e with| .exit id'=>if id'=id then Q .normal T h else Q (.exit id') T h|e=>Q e T h
def Wk(P:Program)(T:Nat->PV)(h:Heap)(T':Nat->PV)(h':Heap):Prop:=∀(w0:World)(F0:Nat->Prop)(n:Nat)(x:Cx)(a:Act),RelP P w0 F0 h x->Temps P x n T a->∃y,y.w=x.w/\Ext x y/\RelP P w0 F0 h' y/\Temps P y n T' a
theorem Wk.refl{P:Program}(T:Nat->PV)(h:Heap):Wk P T h T h:=λw0 F0 n x a R hT=>⟨x,O,Ext.refl x,R,hT⟩
theorem Wk.trans{P:Program}{T T' T'':Nat->PV}{h h' h'':Heap}(a:Wk P T h T' h')(b:Wk P T' h' T'' h''):Wk P T h T'' h'':=λw0 F0 n x ac R hT=>by
 obtain⟨y,e,E,R',hT'⟩:=a w0 F0 n x ac R hT;obtain⟨z,e2,E2,R2,hT2⟩:=b w0 F0 n y ac R' hT';exact⟨z,e2.trans e,E.trans E2,R2,hT2⟩
def wpS(P:Program):List AOper->(Nat->PV)->Heap->((Nat->PV)->Heap->Prop)->Prop
 |[],T,h,K=>∃T' h',Wk P T h T' h'/\K T' h'
 |o::r,T,h,K=>∃T' h',Wk P T h T' h'/\∃g,guardF T' o.guard=some g/\(g=true->OpS P o.op o.hf T' h' λv h2=>wpS P r (updO T' o.dst v) h2 K)/\(g=false->wpS P r (updO T' o.dst (.tup [])) h' K)
def wpC(P:Program):AC->Post->(Nat->PV)->Heap->Prop
 | .skip,Q,T,h=>Q .normal T h
 | .region d al,Q,T,h=>wpD P al T h (Q .normal)\/(d=false/\wpS P al T h (Q .normal))
 | .regionU al,Q,T,h=>wpU P al T h (Q .normal)
 | .regionT al la,Q,T,h=>wpD P al T h λT h=>wpS P [la] T h (Q .normal)
 | .seq a b,Q,T,h=>wpC P a (thenP (wpC P b Q) Q) T h
 | .cond c a b,Q,T,h=>∃v,ev T c= .sc (.bool v)/\(v=true->wpC P a Q T h)/\(v=false->wpC P b Q T h)
 | .block id b,Q,T,h=>wpC P b (inBlk id Q) T h
 | .loop b,Q,T,h=>∃(I:Nat->(Nat->PV)->Heap->Prop)(N:Nat),I N T h/\∀N T h,I N T h->wpC P b (thenP (λT' h'=>∃M,M < N/\I M T' h') Q) T h
 | .exit id,Q,T,h=>Q (.exit id) T h
 | .ret,Q,T,h=>Q .ret T h
 | .scope b,Q,T,h=>wpC P b (noGo Q) T h
section
variable{P:Program}{own:List Tmp}{n:Nat}{w0:World}{F0:Nat->Prop}
theorem yy{ops:Array Oper}{hfs:List Nat}{Q:Exit->Act->World->Prop}{K:(Nat->PV)->Heap->Prop}{x0:Cx}
 (hQ:∀T' h' y a',K T' h'->RelP P w0 F0 h' y->Ext x0 y->Temps P y n T' a'->Q .normal a' y.w):
 ∀(l:List Oper)(k:Nat)(al:List AOper)(T:Nat->PV)(h:Heap)(x:Cx)(a:Act),(∀j,l[j]?=ops[k+j]?)->compOps P own n ops hfs k l=some al->wpD P al T h K->RelP P w0 F0 h x->Ext x0 x->Temps P x n T a->
  wpOps P ops Q (List.range' k l.length) a x.w
 |[],k,al,T,h,x,a,_,hc,hw,R,E,hT=>by
  simp only[compOps,Option.some.injEq]at hc;subst hc;simpa[wpOps]using hQ T h x a hw R E hT
 |o::l,k,al,T,h,x,a,hl,hc,hw,R,E,hT=>by
  simp only[compOps,Option.bind_eq_bind,Option.bind_eq_some_iff,Option.pure_def,Option.some.injEq]at hc;obtain⟨ao,hao,bl,hbl,rfl⟩:=hc;obtain⟨hdst,hcop,hdn,hgd⟩:=rx hao;have ho:ops[k]?=some o:=by simpa using(hl 0).symm
  have hl':∀j,l[j]?=ops[k+1+j]?:=λj=>by have:=hl (j+1);simpa[Nat.add_assoc,Nat.add_comm 1 j]using this
  simp only[List.length_cons,List.range'_succ];rw[wpOps_cons];unfold wpOp;rw[ho];simp only[wpD]at hw;obtain⟨g,hg,h1,h2⟩:=hw;have hwant:=wz hT hgd hg;cases g with
  |true=>
   simp only[hwant,if_true];refine .inl ?_;obtain⟨r,h',hk,hwp⟩:=OpD_sound R hT hcop (h1 O) (Q:=Q);refine Oper.wp_mono (λa' w' hh=>?_) hwp;obtain⟨v,y,rfl,rfl,R',E',hv⟩:=hh;have hT':=(hT.ext E').put (d:=o.dst) hdn hv;rw[<-hdst]at hT';rw[<-hdst];exact yy hQ l (k+1) bl _ h' y _ hl' hbl hk R' (E.trans E') hT'
  |false=>
   simp only[hwant,Bool.false_eq_true,if_false];have hv:VR P x (.tup []) undef:=⟨[],O,by simp[VRV]⟩;have hT':=hT.put (d:=o.dst) hdn hv;rw[<-hdst]at hT';rw[<-hdst];exact yy hQ l (k+1) bl _ h x _ hl' hbl (h2 O) R E hT'
theorem wk{ops:Array Oper}{hfs:List Nat}{Q:Exit->Act->World->Prop}{K:(Nat->PV)->Heap->Prop}{x0:Cx}
 (hQ:∀T' h' y a',K T' h'->RelP P w0 F0 h' y->Ext x0 y->Temps P y n T' a'->Q .normal a' y.w):
 ∀(l:List Oper)(k:Nat)(al:List AOper)(T:Nat->PV)(h:Heap)(x:Cx)(a:Act),(∀j,l[j]?=ops[k+j]?)->compOps P own n ops hfs k l=some al->wpS P al T h K->RelP P w0 F0 h x->Ext x0 x->Temps P x n T a->
  wpOps P ops Q (List.range' k l.length) a x.w
 |[],k,al,T,h,x,a,_,hc,hw,R,E,hT=>by
  simp only[compOps,Option.some.injEq]at hc;subst hc;obtain⟨T',h',hk,hw⟩:=hw;obtain⟨y,ey,E',R',hT'⟩:=hk w0 F0 n x a R hT;have:=hQ T' h' y a hw R' (E.trans E') hT';rw[ey]at this;simpa[wpOps]using this
 |o::l,k,al,T0,h0,x0',a,hl,hc,hw,R0,E0,hT0=>by
  simp only[compOps,Option.bind_eq_bind,Option.bind_eq_some_iff,Option.pure_def,Option.some.injEq]at hc;obtain⟨ao,hao,bl,hbl,rfl⟩:=hc;obtain⟨hdst,hcop,hdn,hgd⟩:=rx hao;have ho:ops[k]?=some o:=by simpa using(hl 0).symm
  have hl':∀j,l[j]?=ops[k+1+j]?:=λj=>by have:=hl (j+1);simpa[Nat.add_assoc,Nat.add_comm 1 j]using this
  simp only[List.length_cons,List.range'_succ];rw[wpOps_cons];unfold wpOp;rw[ho];simp only[wpS]at hw;obtain⟨T,h,hwk,hw⟩:=hw;obtain⟨x,ex,E1,R,hT⟩:=hwk w0 F0 n x0' a R0 hT0;have E:=E0.trans E1;rw[<-ex];obtain⟨g,hg,h1,h2⟩:=hw;have hwant:=wz hT hgd hg;cases g with
  |true=>
   simp only[hwant,if_true];refine .inl ?_;refine Oper.wp_mono (λa' w' hh=>?_) (OpS_sound R hT hcop (h1 O) (Q:=Q));obtain⟨r,h',hk,v,y,rfl,rfl,R',E',hv⟩:=hh;have hT':=(hT.ext E').put (d:=o.dst) hdn hv;rw[<-hdst]at hT';rw[<-hdst];exact wk hQ l (k+1) bl _ h' y _ hl' hbl hk R' (E.trans E') hT'
  |false=>
   simp only[hwant,Bool.false_eq_true,if_false];have hv:VR P x (.tup []) undef:=⟨[],O,by simp[VRV]⟩;have hT':=hT.put (d:=o.dst) hdn hv;rw[<-hdst]at hT';rw[<-hdst];exact wk hQ l (k+1) bl _ h x _ hl' hbl (h2 O) R E hT'
theorem aj9{ops:Array Oper}{hfs:List Nat}{al:List AOper}{Q:Exit->Act->World->Prop}{K:(Nat->PV)->Heap->Prop}{T:Nat->PV}{h:Heap}{x:Cx}{a:Act}
 (hc:compOps P own n ops hfs 0 ops.toList=some al)(hchk:chkDraw ops al=true)(hw:wpD P al T h K)(R:RelP P w0 F0 h x)(hT:Temps P x n T a)
 (hQ:∀T' h' y a',K T' h'->RelP P w0 F0 h' y->Ext x y->Temps P y n T' a'->Q .normal a' y.w):wpAny P .any ops Q ops.size (Array.replicate ops.size false) a {x.w with drawn:=x.w.drawn+1}:=by
 obtain⟨ss,T',h',hrun,hk⟩:=wl al T h K hw;obtain⟨e1,e2,e3⟩:=ao0 al T h ss T' h' hrun;have X:Text P own n ops al ss T h:=⟨⟨hfs,hc⟩,hchk,e3⟩;obtain⟨e,he1,he2,he3,he4⟩:=ak3 al al.length 0 V;have gd:=Grow.drew x;have Rd:=R.grow gd;have Ed:=R.ext_of_grow gd;have hrep:∀j,(Array.replicate ops.size false).getD j false=false:=λj=>by
  simp only[Array.getD_eq_getD_getElem?,Array.getElem?_replicate];split<;>rfl
 have M:Mid P n ops al ss T h w0 F0 x (Array.replicate ops.size false) e a ⟨x.w.drew,x.F,x.J⟩:=by
  refine⟨by simp,(λj o hj=>absurd hj (by rw[hrep];simp)),he2,he3,λj hj hb=>?_,λj _=>hrep j,X.onward (j:=0) (k:=e) (Nat.zero_le _) he2 he4 Rd,λj hj _ id ver h1 h2=>?_,λj hj _ b hb=>(X.grow (j:=j+1) (k:=e) V he2 λm h1 h2=>he4 m (Nat.zero_le _) h2).1 _ _ hb,?_,Ed⟩
  ·have:=he4 j (Nat.zero_le _) hj;rw[hb]at this;cases this
  ·exact Rd.fresh id ver (Nat.le_trans (X.nv (j:=0) (k:=j) (Nat.zero_le _) V) h1)
  ·rw[TT_all (e:=0) (Nat.zero_le _) (λj hj=>by omega) λj _ _=>hrep j];exact hT.ext Ed
 have hQ':∀a y,RelP P w0 F0 (hOf h ss al.length) y->Ext x y->Temps P y n (TT al ss allD T al.length) a->Q .normal a y.w:=by
  intro a y R' E' hT';rw[<-e2]at R';rw[<-e1]at hT';exact hQ T' h' y a hk R' E' hT'
 refine Mid.any X hQ' ops.size _ e a _ M ?_;unfold leftOver;exact Nat.le_trans (List.length_filter_le _ _) OZ
theorem av6{ops:Array Oper}{hfs:List Nat}{id:Nat}{draw:Bool}{al:List AOper}{Q:Exit->Act->World->Prop}{K:(Nat->PV)->Heap->Prop}{T:Nat->PV}{h:Heap}{x:Cx}{a:Act}
 (hm:P.follows .mixedOrders=true)(hc:compOps P own n ops hfs 0 ops.toList=some al)(hchk:draw=true->chkDraw ops al=true)(hw:wpD P al T h K)(R:RelP P w0 F0 h x)(hT:Temps P x n T a)
 (hQ:∀T' h' y a',K T' h'->RelP P w0 F0 h' y->Ext x y->Temps P y n T' a'->Q .normal a' y.w):(Code.region id ops draw).wp P Q a x.w:=by
 cases draw with
 |false=>
  refine wp_region ?_;have:=yy (x0:=x) hQ ops.toList 0 al T h x a (λj=>by simp) hc hw R (Ext.refl x) hT
  rwa [Array.length_toList,<-List.range_eq_range']at this
 |true=>
  refine wp_region_any hm ?_;exact aj9 hc (hchk O) hw R hT hQ
def beforeLast(P:Program)(ops:Array Oper)(Q:Exit->Act->World->Prop)(i:Nat):Exit->Act->World->Prop:=λe a w=>match e with
 | .normal=>wpOp P ops Q i (λa' w'=>Q .normal a' w') a w
 |e=>Q e a w
theorem bo0{ops ops0:Array Oper}{Q:Exit->Act->World->Prop}{i m:Nat}{K:Act->World->Prop}{a:Act}{w:World}(ho:ops0[i]?=ops[i]?)(hy:∀o,ops[i]?=some o->Region.wanted o (yielded ops0 a.tmps)=Region.wanted o (yielded ops a.tmps))(H:wpOp P ops0 (beforeLast P ops Q m) i K a w):wpOp P ops Q i K a w:=by
 unfold wpOp at H⊢;rw[ho]at H;split
 ·rename_i h;rw[h]at H;exact H
 ·rename_i o h;rw[h]at H;simp only[hy o h]at H;split
  ·rename_i hg;rw[if_pos hg]at H;rcases H with H|⟨h1,h2⟩
   ·left;unfold Oper.wp at H⊢;generalize (execOp a.eval o).run P w=res at H⊢;unfold Oper.upon at H⊢;split at H<;>first|exact H|(refine Calls.mono H λe w'' hh=>?_;cases e<;>exact hh)
   ·exact .inr ⟨h1,h2⟩
  ·rename_i hg;rw[if_neg hg]at H;exact H
theorem ar7{ops:Array Oper}{listed:Array Bool}(he:edgesOk ops=true)(hsz:listed.size=ops.size){j:Nat}(hj:j < ops.size)(hl:∀k,k < j->listed.getD k false=true)(hn:listed.getD j false=false):j∈Region.ready .any ops listed:=by
 have ho:=Array.getElem?_eq_getElem hj;refine mem_ready.2 ⟨by rw[show listed.getD j true=listed.getD j false by simp[Array.getD_eq_getD_getElem?,hsz,hj]];exact hn,_,ho,λed hed hb=>?_⟩;unfold edgesOk at he;rw[List.all_eq_true]at he;have:=he j (List.mem_range.2 hj);simp only[ho,Option.map_some,Option.getD_some,List.all_eq_true]at this;have:=this ed (by simpa using hed);exact hl _ (by simpa[hb]using this)
theorem bg7{ops ops0:Array Oper}{lo:Oper}{Q:Exit->Act->World->Prop}(e0:ops=ops0.push lo)(he:edgesOk ops=true)(he0:edgesOk ops0=true)(hla:lastAll ops=true)
 (hg:∀(j:Nat)(o:Oper)(k:Nat)(w:Bool),ops0[j]?=some o->o.guard=some (k,w)->k < ops0.size):
 ∀(fuel:Nat)(l0 l:Array Bool)(a:Act)(w:World),l0.size=ops0.size->l.size=ops.size->(∀j,j < ops0.size->l.getD j false=l0.getD j false)->l.getD ops0.size false=false->
  (∀(j:Nat) o,l.getD j false=true->ops[j]?=some o->∀ed∈o.after,Region.binds .any ed=true->l.getD ed.on false=true)->
  wpAny P .any ops0 (beforeLast P ops Q ops0.size) fuel l0 a w->wpAny P .any ops Q (fuel+1) l a w:=by
 have hs:ops.size=ops0.size+1:=by rw[e0,Array.size_push]
 have hget:∀j,j < ops0.size->ops0[j]?=ops[j]?:=λj hj=>by rw[e0,Array.getElem?_push,if_neg V]
 -- the last one, when all have come
 have fin:∀(m:Nat)(l:Array Bool)(a:Act)(w:World),l.size=ops.size->(∀j,j < ops0.size->l.getD j false=true)->l.getD ops0.size false=false->wpOp P ops Q ops0.size (λa' w'=>Q .normal a' w') a w->wpAny P .any ops Q (m+1) l a w:=by
  intro m l a w hl hall hn H;refine⟨λhr=>?_,λi hi=>?_⟩
  ·have:=ar7 he hl (j:=ops0.size) V hall hn;rw[hr]at this;cases this
  ·obtain⟨hun,o,ho,_⟩:=mem_ready.1 hi;have hlt:=(Array.getElem?_eq_some_iff.1 ho).1;have hun':l.getD i false=false:=by rw[<-show l.getD i true=l.getD i false by simp[Array.getD_eq_getD_getElem?,hl,hlt]];exact hun
   have ei:i=ops0.size:=by
    by_cases h:i < ops0.size
    ·rw[hall i h]at hun';cases hun'
    ·omega
   subst ei;refine wpOp_mono (λa' w' hk=>?_) H;have hnil:Region.ready .any ops (l.setIfInBounds ops0.size true)=[]:=by
    apply List.eq_nil_iff_forall_not_mem.2;intro k hk';obtain⟨h1,o',h2,_⟩:=mem_ready.1 hk';have hlt':=(Array.getElem?_eq_some_iff.1 h2).1;have h3:(l.setIfInBounds ops0.size true).getD k false=true:=by
     rw[ob V];by_cases h:k < ops0.size
     ·rw[hall k h];rfl
     ·have:k=ops0.size:=by omega
      subst this;simp
    have h4:(l.setIfInBounds ops0.size true).getD k true=(l.setIfInBounds ops0.size true).getD k false:=by simp[Array.getD_eq_getD_getElem?,hl,hlt']
    rw[h4,h3]at h1;cases h1
   cases m with
   |zero=>exact⟨hnil,hk⟩
   |succ m=>exact⟨λ_=>hk,λi hi=>by rw[hnil]at hi;cases hi⟩
 -- when nothing of the others is left
 have full:∀(l0:Array Bool),l0.size=ops0.size->Region.ready .any ops0 l0=[]->∀j,j < ops0.size->l0.getD j false=true:=by
  intro l0 hl0 hr j;induction j using Nat.strongRecOn with
  |_ j ih=>
   intro hj;cases hn:l0.getD j false with
   |true=>rfl
   |false=>
    have:=ar7 he0 hl0 hj (λk hk=>ih k hk V) hn;rw[hr]at this;cases this
 -- the last one waits for all
 have wait:∀(l:Array Bool),l.size=ops.size->(∀(j:Nat) o,l.getD j false=true->ops[j]?=some o->∀ed∈o.after,Region.binds .any ed=true->l.getD ed.on false=true)->ops0.size∈Region.ready .any ops l->∀j,j < ops0.size->l.getD j false=true:=by
  intro l hl hd hi j hj;obtain⟨hun,o,ho,hall⟩:=mem_ready.1 hi;unfold lastAll at hla;rw[List.all_eq_true]at hla;have hb:=hla j (List.mem_range.2 V);rw[show ops.size-1=ops0.size by omega]at hb;have:=sv (D:=λk=>(l.setIfInBounds ops0.size true).getD k false) ops.toList [] OZ (λk o' hk hD ed hed hbind=>by
   simp only[ob (show ops0.size < l.size by omega)]at hD⊢;simp only[List.length_nil,Nat.zero_add,Bool.or_eq_true]at hD;rcases hD with hD|hD
   ·rw[hd k o' hD (by simpa using hk) ed (by simpa using hed) hbind];rfl
   ·have hki:k=ops0.size:=by simpa using hD
    subst hki;have:o'=o:=by
     have h1:ops[ops0.size]?=some o':=by simpa using hk
     rw[ho]at h1;simpa using h1.symm
    subst this;rw[hall ed (by simpa using hed) hbind];rfl) ops0.size (by simp only[ob (show ops0.size < l.size by omega)];simp) j hb
  simp only[ob (show ops0.size < l.size by omega)]at this;rw[show(j==ops0.size)=false by simp;omega,Bool.or_false]at this;exact this
 have nxt:∀(m:Nat)(l0 l:Array Bool)(a:Act)(w:World),l0.size=ops0.size->l.size=ops.size->(∀j,j < ops0.size->l.getD j false=l0.getD j false)->l.getD ops0.size false=false->(∀j,j < ops0.size->l0.getD j false=true)->
  beforeLast P ops Q ops0.size .normal a w->wpAny P .any ops Q (m+1) l a w:=λm l0 l a w h1 h2 h3 h4 h5 H=>fin m l a w h2 (λj hj=>by rw[h3 j hj,h5 j hj]) h4 H
 intro fuel;induction fuel with
 |zero=>
  intro l0 l a w h1 h2 h3 h4 h5 H;exact nxt 0 l0 l a w h1 h2 h3 h4 (full l0 h1 H.1) H.2
 |succ fuel ih=>
  intro l0 l a w h1 h2 h3 h4 h5 H;by_cases hall:∀j,j < ops0.size->l0.getD j false=true
  ·have hnil:Region.ready .any ops0 l0=[]:=by
    apply List.eq_nil_iff_forall_not_mem.2;intro k hk';obtain⟨g1,o',g2,_⟩:=mem_ready.1 hk';have hlt':=(Array.getElem?_eq_some_iff.1 g2).1;rw[show l0.getD k true=l0.getD k false by simp[Array.getD_eq_getD_getElem?,h1,hlt'],hall k hlt']at g1;cases g1
   exact nxt _ l0 l a w h1 h2 h3 h4 hall (H.1 hnil)
  ·refine⟨λhr=>?_,λi hi=>?_⟩
   ·exfalso;refine hall (full l0 h1 ?_);apply List.eq_nil_iff_forall_not_mem.2;intro k hk';obtain⟨g1,o',g2,g3⟩:=mem_ready.1 hk';have hlt':=(Array.getElem?_eq_some_iff.1 g2).1;have:k∈Region.ready .any ops l:=by
     refine mem_ready.2 ⟨?_,o',by rw[<-hget k hlt'];exact g2,λed hed hb=>?_⟩
     ·rw[show l.getD k true=l.getD k false by simp[Array.getD_eq_getD_getElem?,h2,show k < ops.size by omega],h3 k hlt',<-show l0.getD k true=l0.getD k false by simp[Array.getD_eq_getD_getElem?,h1,hlt']];exact g1
     ·have q:=g3 ed hed hb;have:ed.on < ops0.size:=by
       by_cases h:ed.on < ops0.size
       ·exact h
       ·exfalso;simp[Array.getD_eq_getD_getElem?,Array.getElem?_eq_none (show l0.size<=ed.on by omega)]at q
      rw[h3 _ this];exact q
    rw[hr]at this;cases this
   ·obtain⟨g1,o',g2,g3⟩:=mem_ready.1 hi;have hlt':=(Array.getElem?_eq_some_iff.1 g2).1;by_cases hin:i < ops0.size
    ·have hli:l.getD i false=false:=by rw[<-show l.getD i true=l.getD i false by simp[Array.getD_eq_getD_getElem?,h2,hlt']];exact g1
     have hi0:i∈Region.ready .any ops0 l0:=by
      refine mem_ready.2 ⟨?_,o',by rw[hget i hin];exact g2,λed hed hb=>?_⟩
      ·rw[show l0.getD i true=l0.getD i false by simp[Array.getD_eq_getD_getElem?,h1,hin],<-h3 i hin];exact hli
      ·have q:=g3 ed hed hb;have:ed.on < ops0.size:=by
        by_cases h:ed.on < ops0.size
        ·exact h
        ·exfalso;by_cases h':ed.on=ops0.size
         ·rw[h',h4]at q;cases q
         ·simp[Array.getD_eq_getD_getElem?,Array.getElem?_eq_none (show l.size<=ed.on by omega)]at q
       rw[<-h3 _ this];exact q
     have Hi:=H.2 i hi0;refine bo0 (hget i hin) (λo ho=>?_) (wpOp_mono (λa' w' hk=>?_) Hi)
     ·have ho0:ops0[i]?=some o:=by rw[hget i hin];exact ho
      unfold Region.wanted;cases hgd:o.guard with
      |none=>rfl
      |some p=>
       obtain⟨k,wt⟩:=p;have hk:=hg i o k wt ho0 hgd;simp only[yielded,hget k hk]
     ·refine ih (l0.setIfInBounds i true) (l.setIfInBounds i true) a' w' (by simp[h1]) (by simp[h2]) (λj hj=>?_) ?_ (λj o hj hoj ed hed hb=>?_) hk
      ·rw[ob V,ob V,h3 j hj]
      ·rw[ob V,h4];simp;omega
      ·rw[ob V]at hj⊢;simp only[Bool.or_eq_true]at hj;rcases hj with hj|hj
       ·rw[h5 j o hj hoj ed hed hb];rfl
       ·have hji:j=i:=by simpa using hj
        subst hji;have:o=o':=by rw[g2]at hoj;simpa using hoj.symm
        subst this;rw[g3 ed hed hb];rfl
    ·have ei:i=ops0.size:=by omega
     subst ei;exfalso;exact hall λj hj=>by rw[<-h3 j hj];exact wait l h2 h5 hi j hj
theorem bu2{c:Code}{Q:Exit->Act->World->Prop}(S:Nat->Act->World->Prop)(round:∀N a w,S N a w->c.wp P (Exit.then (λa' w'=>∃M,M < N/\S M a' w') Q) a w):
 ∀N a w,S N a w->(Code.loop c).wp P Q a w:=by
 intro N a w hS b k cs;have key:∀N a w,S N a w->∃e a' w',Q e a' w'/\Arrives P (lone (b.at a (.code c:: .inLoop c::k)) cs w) b k cs e a' w':=by
  intro N;induction N using Nat.strongRecOn with
  |_ N ih=>
   intro a w hS;obtain⟨e,a₁,w₁,hq,harr⟩:=round N a w hS b (.inLoop c::k) cs;cases e with
   |normal=>
    obtain⟨M,hlt,hM⟩:=hq;obtain⟨e₂,a₂,w₂,hq₂,harr₂⟩:=ih M hlt a₁ w₁ hM;exact⟨e₂,a₂,w₂,hq₂,.of_steps (Steps.trans harr (.one step_inLoop)) harr₂⟩
   |exit id=>exact⟨_,a₁,w₁,hq,.pass (x:= .inLoop c) O (λ_ _=> .inl OZ) harr⟩
   |goto l=>exact⟨_,a₁,w₁,hq,.pass (x:= .inLoop c) O (λ_ _=> .inl OZ) harr⟩
   |ret=>exact⟨_,a₁,w₁,hq,.pass (x:= .inLoop c) O (λ_ _=> .inl OZ) harr⟩
   |panic ch=>exact⟨_,a₁,w₁,hq,.pass (x:= .inLoop c) O (λ_ _=> .inl OZ) harr⟩
   |outgrown=>exact⟨_,a₁,w₁,hq,.pass (x:= .inLoop c) O (λ_ _=> .inl OZ) harr⟩
 obtain⟨e,a',w',hq,harr⟩:=key N a w hS;exact⟨e,a',w',hq,.of_steps (.one step_loop) harr⟩
def QC(P:Program)(n:Nat)(w0:World)(F0:Nat->Prop)(x:Cx)(Q:Post):Exit->Act->World->Prop:=
 λe a' w'=>∃T' h' y,y.w=w'/\Q e T' h'/\RelP P w0 F0 h' y/\Ext x y/\Temps P y n T' a'
theorem QC.weak{x y:Cx}{Q:Post}{e:Exit}{a:Act}{w:World}(E:Ext x y)(h:QC P n w0 F0 y Q e a w):QC P n w0 F0 x Q e a w:=by
 obtain⟨T',h',z,h1,h2,h3,h4,h5⟩:=h;exact⟨T',h',z,h1,h2,h3,E.trans h4,h5⟩
theorem an0(hm:P.follows .mixedOrders=true){ops:Array Oper}{id:Nat}{ac:AC}{Q:Post}{T:Nat->PV}{h:Heap}{x:Cx}{a:Act}(hc:compT P own n ops=some ac)(hw:wpC P ac Q T h)(R:RelP P w0 F0 h x)(hT:Temps P x n T a):
 (Code.region id ops true).wp P (QC P n w0 F0 x Q) a x.w:=by
 unfold compT at hc;split at hc
 ·cases hc
 rename_i lo hlo;cases hla:compO P own n ops false lo with
 |none=>rw[hla]at hc;simp at hc
 |some la=>
 cases hal0:compOps P own n ops.pop [] 0 ops.pop.toList with
 |none=>rw[hla,hal0]at hc;simp at hc
 |some al0=>
 rw[hla,hal0]at hc;simp only at hc;cases hal:compOps P own n ops.pop (lateOf ops.pop al0) 0 ops.pop.toList with
 |none=>rw[hal]at hc;simp at hc
 |some al=>
 rw[hal]at hc;simp only at hc;cases hb:(la.op.kind==2&&lastAll ops&&edgesOk ops&&chkDraw ops.pop al)with
 |false=>rw[hb]at hc;cases hc
 |true=>
  rw[hb]at hc;simp only[cond_true,Option.some.injEq]at hc;subst hc;simp only[Bool.and_eq_true]at hb;obtain⟨⟨⟨_,hall⟩,hed⟩,hchk⟩:=hb;have e0:ops=ops.pop.push lo:=by
   obtain⟨l⟩:=ops;have hl:l.getLast?=some lo:=by simpa using hlo
   obtain⟨l',rfl⟩:=List.getLast?_eq_some_iff.1 hl;apply Array.ext';simp
  refine wp_region_any hm ?_;have hs:ops.size=ops.pop.size+1:=by rw[e0];simp
  have hrep:∀(m j:Nat),(Array.replicate m false).getD j false=false:=λm j=>by
   simp only[Array.getD_eq_getD_getElem?,Array.getElem?_replicate];split<;>rfl
  have key:=aj9 (Q:=beforeLast P ops (QC P n w0 F0 x Q) ops.pop.size) (K:=λT h=>wpS P [la] T h (Q .normal)) hal hchk hw R hT λT' h' y a' hk R' E hT'=>?_
  ·have hgd:∀(j:Nat)(o:Oper)(k:Nat)(w:Bool),ops.pop[j]?=some o->o.guard=some (k,w)->k < ops.pop.size:=by
    intro j o k w ho hg;obtain⟨ao,hf,_,hco⟩:=(re hal).2 j o (by rw[Array.getElem?_toList];exact ho);obtain⟨_,_,_,hgs⟩:=rx hco;rcases hgs with⟨h1,_⟩|⟨j',want,oj,d,h1,h2,_⟩
    ·rw[hg]at h1;cases h1
    ·rw[hg]at h1;simp only[Option.some.injEq,Prod.mk.injEq]at h1;rw[h1.1];exact(Array.getElem?_eq_some_iff.1 h2).1
   have:=bg7 (P:=P) (Q:=QC P n w0 F0 x Q) e0 hed (by
    simp only[chkDraw,Bool.and_eq_true]at hchk;exact hchk.1) hall hgd ops.pop.size _ (Array.replicate ops.size false) a _ OZ OZ (λj _=>by rw[hrep,hrep]) (hrep _ _) (λj o hj=>absurd hj (by rw[hrep];simp)) key
   rwa [<-hs]at this
  ·show wpOp P ops (QC P n w0 F0 x Q) ops.pop.size _ a' y.w
   have hget:ops[ops.pop.size]?=some lo:=by rw[show ops.pop.size=ops.size-1 by omega,<-Array.back?_eq_getElem?];exact hlo
   unfold wpOp;rw[hget];obtain⟨hdst,hcop,hdn,hgs⟩:=rx hla;obtain⟨T1,h1',hwk,g,hg,h1,h2⟩:=hk;obtain⟨y1,ey,E1,R1,hT1⟩:=hwk w0 F0 n y a' R' hT';have hwant:=wz hT1 hgs hg;rw[<-ey];have fin:∀(a2:Act)(z:Cx)(T3:Nat->PV)(h3:Heap),RelP P w0 F0 h3 z->Ext y1 z->Temps P z n T3 a2->wpS P [] T3 h3 (Q .normal)->QC P n w0 F0 x Q .normal a2 z.w:=by
    rintro a2 z T3 h3 R3 E3 hT3 ⟨T4,h4,hwk4,hq⟩;obtain⟨z4,ez,E4,R4,hT4⟩:=hwk4 w0 F0 n z a2 R3 hT3;exact⟨T4,h4,z4,ez,hq,R4,((E.trans E1).trans E3).trans E4,hT4⟩
   cases g with
   |true=>
    simp only[hwant,if_true];refine .inl (Oper.wp_mono (λa2 w2 hh=>?_) (OpS_sound R1 hT1 hcop (h1 O)));obtain⟨r,h3,hk3,v,z,rfl,rfl,R3,E3,hv⟩:=hh;have hT3:=(hT1.ext E3).put (d:=lo.dst) hdn hv;rw[<-hdst]at hT3;rw[<-hdst];exact fin _ z _ h3 R3 E3 hT3 hk3
   |false=>
    simp only[hwant,Bool.false_eq_true,if_false];have hv:VR P y1 (.tup []) undef:=⟨[],O,by simp[VRV]⟩;have hT3:=hT1.put (d:=lo.dst) hdn hv;rw[<-hdst]at hT3;rw[<-hdst];exact fin _ y1 _ h1' R1 (Ext.refl y1) hT3 (h2 O)
theorem xj(hm:P.follows .mixedOrders=true){ops:Array Oper}{id:Nat}{ac:AC}{Q:Post}{T:Nat->PV}{h:Heap}{x:Cx}{a:Act}(hc:compU P own n ops=some ac)(hw:wpC P ac Q T h)(R:RelP P w0 F0 h x)(hT:Temps P x n T a):
 (Code.region id ops true).wp P (QC P n w0 F0 x Q) a x.w:=by
 unfold compU at hc;cases hal0:compOps P own n ops [] 0 ops.toList with
 |none=>rw[hal0]at hc;simp at hc
 |some al0=>
 rw[hal0]at hc;simp only at hc;cases hal:compOps P own n ops (lateU ops al0) 0 ops.toList with
 |none=>rw[hal]at hc;simp at hc
 |some al=>
 rw[hal]at hc;simp only at hc;cases hb:(chkU ops al&&(al.any λo=>o.op.kind==2)&&decide (2<=(al.filter AOper.barU).length))with
 |false=>rw[hb]at hc;cases hc
 |true=>
  rw[hb]at hc;simp only[cond_true,Option.some.injEq]at hc;subst hc;simp only[Bool.and_eq_true]at hb;exact wp_region_any hm (anyU hal hb.1.1 hw R hT λT' h' y a' hk R' E hT'=>⟨T',h',y,O,hk,R',E,hT'⟩)
theorem bq9(hm:P.follows .mixedOrders=true):∀(c:Code)(ac:AC)(Q:Post)(T:Nat->PV)(h:Heap)(x:Cx)(a:Act),compC P own n c=some ac->wpC P ac Q T h->RelP P w0 F0 h x->Temps P x n T a->c.wp P (QC P n w0 F0 x Q) a x.w:=by
 intro c;induction c with
 |skip=>
  intro ac Q T h x a hc hw R hT;simp only[compC,Option.some.injEq]at hc;subst hc;exact wp_skip ⟨T,h,x,O,hw,R,Ext.refl x,hT⟩
 |region id ops draw=>
  intro ac Q T h x a hc hw R hT;simp only[compC]at hc;split at hc
  ·rename_i c hct;simp only[Option.some.injEq]at hc;subst hc;cases draw with
   |false=>cases hct
   |true=>
    simp only[cond_true]at hct;unfold compR at hct;split at hct
    ·rename_i c' hc';simp only[Option.some.injEq]at hct;subst hct;cases hown:(own.contains 1000001||(own.contains 1000002&&Nat.ble 2 (callsN ops)))with
     |true=>rw[hown]at hc';exact xj hm hc' hw R hT
     |false=>rw[hown]at hc';cases hc'
    ·split at hct
     ·rename_i c' hc';simp only[Option.some.injEq]at hct;subst hct;exact an0 hm hc' hw R hT
     ·cases hown:own.contains 1000000 with
      |true=>rw[hown]at hct;exact xj hm hct hw R hT
      |false=>rw[hown]at hct;cases hct
  simp only[Option.bind_eq_some_iff]at hc;obtain⟨al0,_,al,hal,hc⟩:=hc;split at hc
  ·cases hc
  ·rename_i hd;simp only[Option.some.injEq]at hc;subst hc;rcases hw with hw|⟨hdr,hw⟩
   ·refine av6 hm hal (λe=>?_) hw R hT λT' h' y a' hk R' E hT'=>⟨T',h',y,O,hk,R',E,hT'⟩;subst e;simpa using hd
   ·subst hdr;refine wp_region ?_;have:=wk (x0:=x) (Q:=QC P n w0 F0 x Q) (λT' h' y a' hk R' E hT'=>⟨T',h',y,O,hk,R',E,hT'⟩) ops.toList 0 al T h x a (λj=>by simp) hal hw R (Ext.refl x) hT
    rwa [Array.length_toList,<-List.range_eq_range']at this
 |seq c1 c2 ih1 ih2=>
  intro ac Q T h x a hc hw R hT;simp only[compC,Option.bind_eq_some_iff,Option.map_eq_some_iff]at hc;obtain⟨a1,h1,a2,h2,rfl⟩:=hc;refine wp_seq (wp_mono (ih1 a1 _ T h x a h1 hw R hT) λe a' w' hq=>?_);obtain⟨T',h',y,rfl,hq,R',E,hT'⟩:=hq;cases e with
  |normal=>exact wp_mono (ih2 a2 Q T' h' y a' h2 hq R' hT') λe a w hq=>hq.weak E
  |exit id=>exact⟨T',h',y,O,hq,R',E,hT'⟩
  |goto l=>exact⟨T',h',y,O,hq,R',E,hT'⟩
  |ret=>exact⟨T',h',y,O,hq,R',E,hT'⟩
  |panic ch=>exact⟨T',h',y,O,hq,R',E,hT'⟩
  |outgrown=>exact⟨T',h',y,O,hq,R',E,hT'⟩
 |cond cc c1 c2 ih1 ih2=>
  intro ac Q T h x a hc hw R hT;simp only[compC,Option.bind_eq_some_iff,Option.map_eq_some_iff]at hc;obtain⟨a1,h1,a2,h2,rfl⟩:=hc;obtain⟨v,hv,ht,hf⟩:=hw;have he:=hT.ev cc;rw[hv]at he;refine wp_cond_split (t:=v) (qs he) (λe=>ih1 a1 Q T h x a h1 (ht e) R hT) λe=>ih2 a2 Q T h x a h2 (hf e) R hT
 |block id c ih=>
  intro ac Q T h x a hc hw R hT;simp only[compC,Option.map_eq_some_iff]at hc;obtain⟨a1,h1,rfl⟩:=hc;refine wp_block (wp_mono (ih a1 _ T h x a h1 hw R hT) λe a' w' hq=>?_);obtain⟨T',h',y,rfl,hq,R',E,hT'⟩:=hq;cases e with
  |exit id'=>
   simp only[inBlk]at hq;simp only[Exit.inBlock];split
   ·rename_i e;rw[if_pos e]at hq;exact⟨T',h',y,O,hq,R',E,hT'⟩
   ·rename_i e;rw[if_neg e]at hq;exact⟨T',h',y,O,hq,R',E,hT'⟩
  |normal=>exact⟨T',h',y,O,hq,R',E,hT'⟩
  |goto l=>exact⟨T',h',y,O,hq,R',E,hT'⟩
  |ret=>exact⟨T',h',y,O,hq,R',E,hT'⟩
  |panic ch=>exact⟨T',h',y,O,hq,R',E,hT'⟩
  |outgrown=>exact⟨T',h',y,O,hq,R',E,hT'⟩
 |loop c ih=>
  intro ac Q T h x a hc hw R hT;simp only[compC,Option.map_eq_some_iff]at hc;obtain⟨a1,h1,rfl⟩:=hc;obtain⟨I,N,hI,hround⟩:=hw;refine bu2 (λN a' w'=>∃T' h' y,y.w=w'/\I N T' h'/\RelP P w0 F0 h' y/\Ext x y/\Temps P y n T' a') ?_ N a x.w ⟨T,h,x,O,hI,R,Ext.refl x,hT⟩;rintro N a' w' ⟨T',h',y,rfl,hI',R',E',hT'⟩;refine wp_mono (ih a1 _ T' h' y a' h1 (hround N T' h' hI') R' hT') λe a2 w2 hq=>?_;obtain⟨T2,h2,z,rfl,hq,R2,E2,hT2⟩:=hq;cases e with
  |normal=>
   obtain⟨M,hlt,hM⟩:=hq;exact⟨M,hlt,T2,h2,z,O,hM,R2,E'.trans E2,hT2⟩
  |exit id=>exact⟨T2,h2,z,O,hq,R2,E'.trans E2,hT2⟩
  |goto l=>exact⟨T2,h2,z,O,hq,R2,E'.trans E2,hT2⟩
  |ret=>exact⟨T2,h2,z,O,hq,R2,E'.trans E2,hT2⟩
  |panic ch=>exact⟨T2,h2,z,O,hq,R2,E'.trans E2,hT2⟩
  |outgrown=>exact⟨T2,h2,z,O,hq,R2,E'.trans E2,hT2⟩
 |exit id=>
  intro ac Q T h x a hc hw R hT;simp only[compC,Option.some.injEq]at hc;subst hc;exact wp_exit ⟨T,h,x,O,hw,R,Ext.refl x,hT⟩
 |ret=>
  intro ac Q T h x a hc hw R hT;simp only[compC,Option.some.injEq]at hc;subst hc;exact wp_ret ⟨T,h,x,O,hw,R,Ext.refl x,hT⟩
 |scope c ih=>
  intro ac Q T h x a hc hw R hT;simp only[compC,Option.map_eq_some_iff]at hc;obtain⟨a1,h1,rfl⟩:=hc;refine wp_scope_straight (wp_mono (ih a1 _ T h x a h1 hw R hT) λe a' w' hq=>?_);obtain⟨T',h',y,rfl,hq,R',E,hT'⟩:=hq;cases e with
  |goto l=>exact hq.elim
  |normal=>exact⟨T',h',y,O,hq,R',E,hT'⟩
  |exit id=>exact⟨T',h',y,O,hq,R',E,hT'⟩
  |ret=>exact⟨T',h',y,O,hq,R',E,hT'⟩
  |panic ch=>exact⟨T',h',y,O,hq,R',E,hT'⟩
  |outgrown=>exact⟨T',h',y,O,hq,R',E,hT'⟩
 |label l=>
  intro ac Q T h x a hc hw R hT;simp only[compC,Option.some.injEq]at hc;subst hc;exact wp_label ⟨T,h,x,O,hw,R,Ext.refl x,hT⟩
 |_=>
  intro ac Q T h x a hc hw R hT;simp[compC]at hc
def compRes(P:Program):List ResultVar->Option (List (Tmp×Option (Nat×Bool)))
 |[]=>some []
 | .tmp t::r=>(compRes P r).map λl=>(t,none)::l
 | .cell a t::r=>(P.info? t).bind λi=>(P.underlying t).bind λd=>if aggD d=false/\i.size≠1 then none else(compRes P r).map λl=>(a,some (i.size,aggD d))::l
def resV(P:Program)(T:Nat->PV)(h:Heap):List (Tmp×Option (Nat×Bool))->Option (List PV)
 |[]=>some []
 |(t,none)::r=>(resV P T h r).map λl=>T t::l
 |(t,some (sz,agg))::r=>(opQ P T h (.load sz agg (.tmp t))).bind λv=>(resV P T h r).map λl=>v::l
def retV:List PV->PV
 |[v]=>v
 |vs=> .tup vs
structure FnText(P:Program)(f:FuncId)(own:List Tmp)(n np:Nat)(ac:AC)(rs:List (Tmp×Option (Nat×Bool))):Prop where
 enters:Enters P f
 follows:P.follows .mixedOrders=true
 text:∃fn c,P.funcs[f]?=some fn/\fn.body=some c/\fn.ntmps=n/\np<=n/\compC P own n c=some ac/\compRes P fn.results.toList=some rs
def tf(args:List PV):Nat->PV:=λt=>args.getD t (.tup [])
def retPost(P:Program)(rs:List (Tmp×Option (Nat×Bool)))(K:PV->Heap->Prop):Post:=λe T h=>
 match e with
 | .normal| .ret=>∃vs,resV P T h rs=some vs/\K (retV vs) h
 |_=>False
theorem bh1{h:Heap}{x:Cx}{T:Nat->PV}{a:Act}{t:Tmp}{ty:TypeId}{d:TypeDesc}{i:TypeInfo}{r:PV}(R:RelP P w0 F0 h x)(hT:Temps P x n T a)(hi:P.info? ty=some i)(hd:P.underlying ty=some d)
 (h1:¬(aggD d=false/\i.size≠1))(hq:opQ P T h (.load i.size (aggD d) (.tmp t))=some r):
 ∃v,(do loadVar ty (<-asAddr (a.tmps.getD t undef)):Sem Value).run P x.w= .ok v x.w/\VR P x r v:=by
 let o:Oper:={dst:=none,op:= .load ty (.tmp t),type:=0,pos:= "",after:=#[],guard:=none}
 have hc:compOp P [] o.dst o.type (.load ty (.tmp t))=some (.load i.size (aggD d) (.tmp t)):=by
  simp only[compOp,hi,hd,Option.bind_eq_bind,Option.bind_some];rw[if_neg h1];rfl
 obtain⟨v,y,hr,g,hv⟩:=ap8 (own:=[]) R hT (o:=o) O hc hq;have hex:(execOp a.eval o)=(do let u<-Instr.loadAt ty (a.tmps.getD t undef);pure (.value u)):=O;rw[hex]at hr;have hp:∃ad,a.tmps.getD t undef= .pointer (some ad):=by
  have ht:=hT.at_ t;simp only[opQ,ev]at hq;split at hq
  ·rename_i v' hv';rw[hv']at ht;simp only[VR,AsVal,PV.isAgg,VRC,List.cons.injEq,and_true]at ht;obtain⟨b,off,xs,e,_⟩:=ht;exact⟨_,e⟩
  ·rename_i id ver off hv';rw[hv']at ht;simp only[VR,AsVal,PV.isAgg,VRC,List.cons.injEq,and_true]at ht;obtain⟨b,_,e⟩:=ht;exact⟨_,e⟩
  ·cases hq
 obtain⟨ad,had⟩:=hp;rw[had]at hr⊢;simp only[Instr.loadAt,Instr.sureAddr,asAddr,Sem.run_bind,Sem.run_pure,Result.andThen_ok]at hr⊢;cases hl:(loadVar ty ad).run P x.w with
 |ok u w'=>
  rw[hl]at hr;simp only[Result.andThen_ok,Result.ok.injEq,Next.value.injEq]at hr;obtain⟨rfl,hw⟩:=hr
  -- a load leaves the world alone
  have hT':=hT.ev (.tmp t);have key:∃u',(loadVar ty ad).run P x.w= .ok u' x.w/\VR P x r u':=by
   have hq':=hq;simp only[opQ,ev]at hq';have ht:=hT.at_ t;rw[had]at ht;have h1':aggD d=false->i.size=1:=λe=>by
    by_cases e1:i.size=1
    ·exact e1
    ·exact absurd ⟨e,e1⟩ h1
   split at hq'
   ·rename_i v' hv';split at hq'
    ·rename_i hcv;simp only[Option.some.injEq]at hq';subst hq';rw[hv']at ht;simp only[VR,AsVal,PV.isAgg,VRC,List.cons.injEq,and_true,Value.pointer.injEq,Option.some.injEq]at ht;obtain⟨b,off,xs,rfl,hF,hcs,hr2⟩:=ht;exact⟨_,ti hd hi hcs (qm hr2 hcv.1) h1',VR_of_VRC hr2 ⟨_,hcv.1⟩ hcv.2⟩
    ·cases hq'
   ·rename_i id ver off hv';rw[hv']at ht;simp only[VR,AsVal,PV.isAgg,VRC,List.cons.injEq,and_true,Value.pointer.injEq,Option.some.injEq]at ht;obtain⟨b,hj,rfl⟩:=ht;split at hq'
    ·rename_i ver' ty' mt cs hb;split at hq'
     ·rename_i hver;subst hver;obtain⟨cur,hcur,hl2,hvr⟩:=lz R hb hj;unfold fieldOf at hq';split at hq'
      ·rename_i hsz;obtain⟨hr2,ha⟩:=VR_mkV (VRL_seg hl2 hvr off i.size hsz) hq';have hxl:((cur.toList.drop off).take i.size).length=i.size:=by simp;omega
       exact⟨_,ti hd hi (lr hcur off i.size) hxl h1',hr2⟩
      ·cases hq'
     ·cases hq'
    ·cases hq'
   ·cases hq'
  obtain⟨u',hu',hr2⟩:=key;rw[hl]at hu';simp only[Result.ok.injEq]at hu';obtain⟨rfl,rfl⟩:=hu';exact⟨_,O,hr2⟩
 |halt hh w'=>rw[hl]at hr;simp at hr
def resOne(tmps:Array Value):ResultVar->Sem Value
 | .tmp t=>pure (tmps.getD t undef)
 | .cell p t=>do loadVar t (<-asAddr (tmps.getD p undef))
theorem bh0(fn:Func)(tmps:Array Value):results fn tmps=(do let vs<-fn.results.mapM (resOne tmps);pure (if h:vs.size=1 then vs[0]else .tuple vs)):=by
 unfold results
 congr 1
theorem yp{h:Heap}{x:Cx}{T:Nat->PV}{a:Act}(R:RelP P w0 F0 h x)(hT:Temps P x n T a):∀(l:List ResultVar)(rs:List (Tmp×Option (Nat×Bool)))(vs:List PV),compRes P l=some rs->resV P T h rs=some vs->
 ∃us,(l.mapM (resOne a.tmps):Sem (List Value)).run P x.w= .ok us x.w/\VRV P x vs us
 |[],rs,vs,hc,hr=>by
  simp only[compRes,Option.some.injEq]at hc;subst hc;simp only[resV,Option.some.injEq]at hr;subst hr;exact⟨[],by simp,by simp[VRV]⟩
 | .tmp t::l,rs,vs,hc,hr=>by
   simp only[compRes,Option.map_eq_some_iff]at hc;obtain⟨rs',hrs,rfl⟩:=hc;simp only[resV,Option.map_eq_some_iff]at hr;obtain⟨vs',hvs,rfl⟩:=hr;obtain⟨us,hu,hv⟩:=yp R hT l rs' vs' hrs hvs;exact⟨a.tmps.getD t undef::us,by simp only[List.mapM_cons,resOne,Sem.run_bind,Sem.run_pure,Result.andThen_ok,hu],by simp only[VRV];exact⟨hT.at_ t,hv⟩⟩
 | .cell p t::l,rs,vs,hc,hr=>by
   simp only[compRes,Option.bind_eq_some_iff]at hc;obtain⟨i,hi,d,hd,hc⟩:=hc;split at hc
   ·cases hc
   rename_i h1;simp only[Option.map_eq_some_iff]at hc;obtain⟨rs',hrs,rfl⟩:=hc;simp only[resV,Option.bind_eq_some_iff,Option.map_eq_some_iff]at hr;obtain⟨v,hq,vs',hvs,rfl⟩:=hr;obtain⟨us,hu,hv⟩:=yp R hT l rs' vs' hrs hvs;obtain⟨u,hl,hv2⟩:=bh1 R hT hi hd h1 hq;refine⟨u::us,?_,by simp only[VRV];exact⟨hv2,hv⟩⟩;simp only[List.mapM_cons,resOne,Sem.run_bind]at hl⊢;rw[hl];simp only[Result.andThen_ok,hu,Sem.run_bind,Sem.run_pure]
theorem VRV_getD{x:Cx}:∀{vs:List PV}{us:List Value}(t:Nat),VRV P x vs us->VR P x (vs.getD t (.tup [])) (us.getD t undef)
 |[],[],t,_=>by simp only[List.getD_nil];exact⟨[],O,by simp[VRV]⟩
 |[],_::_,_,h=>by simp[VRV]at h
 |_::_,[],_,h=>by simp[VRV]at h
 |v::vs,u::us,0,h=>by simp only[VRV]at h;exact h.1
 |v::vs,u::us,t+1,h=>by simp only[VRV]at h;exact VRV_getD t h.2
theorem az1{x:Cx}{args:List PV}{cargs:List Value}(ha:VRV P x args cargs)(hl:args.length<=n):
 Temps P x n (tf args) {tmps:=cargs.toArray++Array.replicate (n-cargs.toArray.size) undef,defers:=[]}:=by
 have hlen:=VRV_length ha;refine⟨by simp;omega,λt=>?_,rfl⟩;have e:(cargs.toArray++Array.replicate (n-cargs.toArray.size) undef).getD t undef=cargs.getD t undef:=by
  simp only[Array.getD_eq_getD_getElem?,Array.getElem?_append,List.size_toArray,Array.getElem?_replicate,List.getElem?_toArray,List.getD_eq_getElem?_getD];by_cases hlt:t < cargs.length
  ·simp[hlt]
  ·simp only[hlt,if_false];rw[List.getElem?_eq_none V];split<;>rfl
 show VR P x _ ((cargs.toArray++Array.replicate (n-cargs.toArray.size) undef).getD t undef)
 rw[e];exact VRV_getD t ha
theorem ak4{f:FuncId}{own:List Tmp}{np:Nat}{ac:AC}{rs:List (Tmp×Option (Nat×Bool))}(X:FnText P f own n np ac rs){args:List PV}{h:Heap}{x:Cx}{cargs:List Value}{K:PV->Heap->Prop}
 (hn:args.length<=np)(hw:wpC P ac (retPost P rs K) (tf args) h)(R:RelP P w0 F0 h x)(ha:VRV P x args cargs):
 Calls P f cargs.toArray x.w λe w'=>∃v r h' y,e= .returned v/\y.w=w'/\K r h'/\RelP P w0 F0 h' y/\Ext x y/\VR P y r v:=by
 obtain⟨fn,c,hf,hb,hnt,hnp,hc,hres⟩:=X.text;subst hnt;refine calls_of_wp hf hb ?_;refine wp_mono (bq9 X.follows c ac _ (tf args) h x _ hc hw R (az1 ha V)) λe a w hq=>?_;obtain⟨T',h',y,rfl,hq,R',E,hT⟩:=hq;have fin:(∃vs,resV P T' h' rs=some vs/\K (retV vs) h')->a.defers=[]/\∃v,(results fn a.tmps).run P y.w= .ok v y.w/\∃v' r h' z,Ending.returned v= .returned v'/\z.w=y.w/\K r h'/\RelP P w0 F0 h' z/\Ext x z/\VR P z r v':=by
  rintro⟨vs,hvs,hk⟩;obtain⟨us,hu,hv⟩:=yp R' hT fn.results.toList rs vs hres hvs;refine⟨hT.defers,?_⟩;have hrun:(results fn a.tmps).run P y.w= .ok (if h:us.toArray.size=1 then us.toArray[0]else .tuple us.toArray) y.w:=by
   rw[bh0,Array.mapM_eq_mapM_toList];simp only[Sem.run_bind,Sem.run_map];rw[hu];simp only[Result.andThen_ok,Sem.run_pure]
  refine⟨_,hrun,_,retV vs,h',y,O,O,hk,R',E,?_⟩;have hlen:=VRV_length hv
  match vs,us,hv with
  |[v],[u],hv=>simp only[VRV]at hv;exact hv.1
  |[],[],hv=>exact⟨[],O,hv⟩
  |a::b::vs,c::d::us,hv=>
   have:¬(c::d::us).toArray.size=1:=by simp
   rw[dif_neg this];exact⟨_,O,hv⟩
  |[],_::_,hv=>simp[VRV]at hv
  |_::_,[],hv=>simp[VRV]at hv
  |[_],_::_::_,hv=>simp[VRV]at hv
  |_::_::_,[_],hv=>simp[VRV]at hv
 cases e with
 |normal=>exact fin hq
 |ret=>exact fin hq
 |exit id=>exact hq.elim
 |goto l=>exact hq.elim
 |panic ch=>exact hq.elim
 |outgrown=>exact hq.elim
theorem FnH.mk{f:FuncId}{own:List Tmp}{np:Nat}{ac:AC}{rs:List (Tmp×Option (Nat×Bool))}(X:FnText P f own n np ac rs){args:List PV}{h:Heap}{K:PV->Heap->Prop}(hn:args.length<=np)
 (hw:wpC P ac (retPost P rs K) (tf args) h):FnH P f args h K:=
 ⟨X.enters,λw0 F0 x cargs R ha=>ak4 X hn hw R ha⟩
theorem FnR.mk{f:FuncId}{own:List Tmp}{np:Nat}{ac:AC}{rs:List (Tmp×Option (Nat×Bool))}(X:FnText P f own n np ac rs){args:List PV}{r:PV}(hn:args.length<=np)
 (hw:wpC P ac (retPost P rs λv h=>Deep P h v r) (tf args) ⟨0,[]⟩):FnR P f args r:=by
 refine⟨X.enters,λw F cargs hF ha=>?_⟩;have R:RelP P w F ⟨0,[]⟩ ⟨w,F,noJ⟩:=
  ⟨Bel.refl _ _,hF,λ_ h=>h,λb hb=>⟨hF b hb,.inl hb⟩,(λid ver b hb=>by cases hb),λ_ _ _=>rfl,(λid id' blk blk' b h1=>by simp at h1),(λid blk hb=>by simp at hb)⟩
 refine(ak4 X hn hw R ha).mono λe w' hh=>?_;obtain⟨v,r',h',y,rfl,rfl,hd,R',E,hv⟩:=hh;refine⟨v,⟨y.w,star w F y.w,noJ⟩,O,O,⟨R'.below,O,λb hb=> .inl hb,λb hb=>hb⟩,hd.2 h' (Sub.refl h') w F y v R' hv⟩
end
end Go.Pb
