import Derived.Test.YtmonnlkagniolaaGreatPbCalls
import Derived.Test.YtmonnlkagniolaaGreatPbMap
set_option linter.all false
namespace Go.Pb
open Go Go.RowKit
structure AOper where
 dst:Option Tmp
 op:AOp
 guard:Option (Tmp×Bool)
 hf:Bool:=false
inductive AC where
 |skip
 |region (draw:Bool) (ops:List AOper)
 |regionT (ops:List AOper) (last:AOper)
 |regionU (ops:List AOper)
 |seq (a b:AC)
 |cond (c:Operand) (a b:AC)
 |block (id:Nat) (b:AC)
 |loop (b:AC)
 |exit (id:Nat)
 |ret
 |scope (b:AC)
def guardF(T:Nat->PV):Option (Tmp×Bool)->Option Bool
 |none=>some true
 |some (d,want)=>match T d with
  | .sc (.bool b)=>some (b==want)
  | .tup []=>some false
  |_=>none
def callee:PV->List PV->Option (FuncId×List PV)
 | .fn (.func g) first cap,args=>some (g,first++(args++cap))
 |_,_=>none
def AOp.kind:AOp->Nat
 | .box true _ _| .alloc true _ _| .bslice true _ _ _ _| .store _ _ _| .mkSlice _ _ _ _ _ _| .append _ _ _ _ _ _| .mkMap _| .lookup _ _ _ _ _ _ _| .mapUpdate _ _ _ _ _| .clr _ _ _=>1
 | .call _ _=>2
 | .invoke _ _ _| .copy _ _ _ _ _=>3
 |_=>0
def seen(hf:Bool)(h:Heap):Heap:=bif hf then⟨0,[]⟩else h
def OpD(P:Program)(o:AOp)(hf:Bool)(T:Nat->PV)(h:Heap)(K:PV->Heap->Prop):Prop:=
 match o.kind with
 |0=>∃r,opQ P T (seen hf h) o=some r/\K r h
 |1=>∃r h',opL T h o=some (r,h')/\K r h'
 |2=>match o with
  | .call f args=>∃g as,callee (ev T f) (args.map (ev T))=some (g,as)/\∃r,CallD P (seen hf h) g as r/\K r h
  |_=>False
 |_=>False
def wpD(P:Program):List AOper->(Nat->PV)->Heap->((Nat->PV)->Heap->Prop)->Prop
 |[],T,h,K=>K T h
 |o::r,T,h,K=>∃g,guardF T o.guard=some g/\(g=true->OpD P o.op o.hf T h λv h'=>wpD P r (updO T o.dst v) h' K)/\(g=false->wpD P r (updO T o.dst (.tup [])) h K)
def compO(P:Program)(own:List Tmp)(n:Nat)(all:Array Oper)(hf:Bool)(o:Oper):Option AOper:=do
 let op<-compOp P own o.dst o.type o.op
 if o.dst.any (n<=·)then none else
 match o.guard with
 |none=>pure ⟨o.dst,op,none,hf⟩
 |some (j,want)=>do
  let oj<-all[j]?
  let d<-oj.dst
  if n<=d then none else pure ⟨o.dst,op,some (d,want),hf⟩
def compOps(P:Program)(own:List Tmp)(n:Nat)(all:Array Oper)(hfs:List Nat):Nat->List Oper->Option (List AOper)
 |_,[]=>some []
 |k,o::r=>do
  let a<-compO P own n all (hfs.contains k) o
  let b<-compOps P own n all hfs (k+1) r
  pure (a::b)
section
variable{P:Program}{x:Cx}{w0:World}{F0:Nat->Prop}{h:Heap}{n:Nat}{T:Nat->PV}{a:Act}
theorem rx{own:List Tmp}{all:Array Oper}{o:Oper}{ao:AOper}{hf:Bool}(hc:compO P own n all hf o=some ao):
 ao.dst=o.dst/\compOp P own o.dst o.type o.op=some ao.op/\(∀d,o.dst=some d->d < n)/\
 ((o.guard=none/\ao.guard=none)\/∃j want oj d,o.guard=some (j,want)/\all[j]?=some oj/\oj.dst=some d/\d < n/\ao.guard=some (d,want)):=by
 simp only[compO,Option.bind_eq_bind,Option.bind_eq_some_iff]at hc;obtain⟨op,hop,hc⟩:=hc;split at hc
 ·cases hc
 rename_i hd;have hd':∀d,o.dst=some d->d < n:=by
  intro d hd1;rw[hd1]at hd;simpa using hd
 split at hc
 ·rename_i hg;simp only[Option.pure_def,Option.some.injEq]at hc;subst hc;exact⟨O,hop,hd',.inl ⟨hg,O⟩⟩
 ·rename_i j want hg;simp only[Option.bind_eq_some_iff]at hc;obtain⟨oj,hoj,d,hdj,hc⟩:=hc;split at hc
  ·cases hc
  rename_i hdn;simp only[Option.pure_def,Option.some.injEq]at hc;subst hc;exact⟨O,hop,hd',.inr ⟨j,want,oj,d,hg,hoj,hdj,Nat.lt_of_not_le hdn,O⟩⟩
theorem wz{all:Array Oper}{o:Oper}{ao:AOper}{g:Bool}(hT:Temps P x n T a)
 (hs:(o.guard=none/\ao.guard=none)\/∃j want oj d,o.guard=some (j,want)/\all[j]?=some oj/\oj.dst=some d/\d < n/\ao.guard=some (d,want))
 (hg:guardF T ao.guard=some g):Region.wanted o (yielded all a.tmps)=g:=by
 rcases hs with⟨h1,h2⟩|⟨j,want,oj,d,h1,h2,h3,h4,h5⟩
 ·rw[h2]at hg;simp only[guardF,Option.some.injEq]at hg;subst hg;simp[Region.wanted,h1]
 ·rw[h5]at hg;simp only[guardF]at hg;have hv:=hT.at_ d;have hlt:d < a.tmps.size:=by rw[hT.size];exact h4
  have hget:a.tmps[d]?=some (a.tmps.getD d undef):=by simp[Array.getD_eq_getD_getElem?,hlt]
  simp only[Region.wanted,h1,yielded,h2,Option.bind_some,h3,hget];split at hg
  ·rename_i b hb;rw[hb]at hv;rw[qs hv];simp only[Option.some.injEq]at hg;subst hg;cases b<;>cases want<;>rfl
  ·rename_i hb;rw[hb]at hv;have:a.tmps.getD d undef=undef:=ua hv O;rw[this];simp only[Option.some.injEq]at hg;subst hg;simp[undef]
  ·cases hg
def After(P:Program)(w0:World)(F0:Nat->Prop)(x:Cx)(a:Act)(o:Oper)(r:PV)(h':Heap)(a':Act)(w':World):Prop:=
 ∃v y,a'=a.put o.dst v/\y.w=w'/\RelP P w0 F0 h' y/\Ext x y/\VR P y r v
theorem wb{own:List Tmp}{dst:Option Tmp}{ty:TypeId}{op:Op}{f:Operand}{args:List Operand}(hc:compOp P own dst ty op=some (.call f args)):
 ∃as ats,op= .call {callee:= .value f,args:=as,argTypes:=ats}/\as.toList=args:=by
 cases op with
 |call c=>
  obtain⟨cl,as,ats⟩:=c;simp only[compOp]at hc;split at hc
  ·simp only[Option.some.injEq,AOp.call.injEq]at hc;obtain⟨rfl,rfl⟩:=hc;exact⟨as,ats,O,O⟩
  all_goals first
   |(cases hc;done)
   |(simp at hc;done)
   |(exfalso;repeat' (split at hc);all_goals simp[Option.bind_eq_some_iff]at hc)
 |makeMap t r=>cases r<;>(simp only[compOp]at hc;repeat' (split at hc))<;>simp[Option.bind_eq_some_iff]at hc
 |build t parts=>
  exfalso;simp only[compOp,Option.bind_eq_bind,Option.bind_eq_some_iff]at hc;obtain⟨_,_,_,_,hc⟩:=hc;split at hc;all_goals simp[Option.bind_eq_some_iff]at hc
 |_=>
  exfalso;simp only[compOp]at hc
  repeat' (split at hc)
  all_goals simp[Option.bind_eq_some_iff]at hc
theorem ao1{o:Oper}{own:List Tmp}{ao:AOp}{r:PV}{h':Heap}(R:RelP P w0 F0 h x)(hT:Temps P x n T a)(hc:compOp P own o.dst o.type o.op=some ao)(hq:opL T h ao=some (r,h')):GoodL P w0 F0 a x o h.nv r h':=by
 cases ho:o.op with
 |box t y=>
  rw[ho]at hc;simp only[compOp,Option.some.injEq]at hc;subst hc;cases hown:(o.dst.any λd=>own.contains d)with
  |false=>rw[hown]at hq;simp[opL]at hq
  |true=>rw[hown]at hq;exact bp1 R hT ho hq
 |alloc t=>
  rw[ho]at hc;simp only[compOp,Option.bind_eq_bind,Option.bind_eq_some_iff,Option.pure_def,Option.some.injEq]at hc;obtain⟨i,hi,z,hz,hc⟩:=hc;subst hc;cases hown:(o.dst.any λd=>own.contains d)with
  |false=>rw[hown]at hq;simp[opL]at hq
  |true=>rw[hown]at hq;exact bc3 R ho hi hz hq
 |buildSlice t len parts=>rw[ho]at hc;exact aw3 R hT ho hc hq
 |store t y z=>
  rw[ho]at hc;simp only[compOp,Option.bind_eq_bind,Option.bind_eq_some_iff,Option.pure_def,Option.some.injEq]at hc;obtain⟨i,hi,hc⟩:=hc;subst hc;exact az3 R hT ho hi hq
 |makeSlice t l c=>rw[ho]at hc;exact an6 R hT ho hc hq
 |makeMap t r'=>
  rw[ho]at hc;cases r' with
  |none=>
   simp only[compOp]at hc;split at hc
   ·simp only[Option.some.injEq]at hc;subst hc;exact bd1 R ho hq
   ·cases hc
  |some v=>simp[compOp]at hc
 |lookup t y i ok=>
  rw[ho]at hc;simp only[compOp]at hc;split at hc
  ·rename_i k e ht;simp only[Option.bind_eq_bind,Option.bind_eq_some_iff]at hc;obtain⟨n',hn',z,hz,hc⟩:=hc;split at hc
   ·rename_i kk hk;simp only[Option.pure_def,Option.some.injEq]at hc;subst hc;exact aw9 R hT ho ht hk hn' hz hq
   ·first|(cases hc;done)|(simp only[Option.some.injEq]at hc;subst hc;simp[opL]at hq)
  ·cases hc
 |mapUpdate t m i v=>
  rw[ho]at hc;simp only[compOp]at hc;split at hc
  ·rename_i k e ht;split at hc
   ·rename_i kk hk;simp only[Option.some.injEq]at hc;subst hc;exact ag7 R hT ho ht hk hq
   ·first|(cases hc;done)|(simp only[Option.some.injEq]at hc;subst hc;simp[opL]at hq)
  ·cases hc
 |build t parts=>
  rw[ho]at hc;exfalso;simp only[compOp,Option.bind_eq_bind,Option.bind_eq_some_iff]at hc;obtain⟨_,_,_,_,hc⟩:=hc;split at hc
  ·simp only[Option.bind_eq_some_iff]at hc;obtain⟨_,_,hc⟩:=hc;split at hc
   ·simp only[Option.pure_def,Option.some.injEq]at hc;subst hc;simp[opL]at hq
   ·cases hc
  ·simp only[Option.bind_eq_some_iff]at hc;obtain⟨_,_,_,_,hc⟩:=hc;split at hc
   ·simp only[Option.pure_def,Option.some.injEq]at hc;subst hc;simp[opL]at hq
   ·cases hc
  ·cases hc
 |call c=>
  rw[ho]at hc;obtain⟨callee,args,ats⟩:=c;simp only[compOp]at hc;split at hc;all_goals try(simp only[Option.some.injEq]at hc;subst hc;simp[opL]at hq;done)
  ·split at hc
   ·rename_i t1 t2 s' y' e1 e2 e3;split at hc
    ·rename_i e' e'' ht ht';simp only[Option.bind_eq_bind,Option.bind_eq_some_iff]at hc;obtain⟨i,hi,z,hz,hc⟩:=hc;split at hc
     ·rename_i hcond;obtain⟨rfl,h1,h2,h3⟩:=hcond;simp only[Option.pure_def,Option.some.injEq]at hc;subst hc;have ea:args=#[s',y']:=by rw[<-Array.toArray_toList (xs:=args),e3]
      have et:ats=#[t2,t2]:=by
       apply Array.ext
       ·simp[h3]
       ·intro j hj1 hj2;have:j=0\/j=1:=by simp at hj2;omega
        rcases this with rfl|rfl
        ·have:=Array.getElem?_eq_some_iff.1 e1;simpa using this.2
        ·have:=Array.getElem?_eq_some_iff.1 e2;simpa using this.2
      rw[ea,et]at ho;exact aw1 R hT ho ht hi hz h1 h2 hq
     ·cases hc
    ·cases hc
   ·cases hc
  ·exfalso
   repeat' (split at hc)
   all_goals first
    |(cases hc;done)
    |(simp only[Option.bind_eq_bind,Option.bind_eq_some_iff]at hc
      obtain⟨_,_,hc⟩:=hc;simp only[Option.pure_def,Option.some.injEq]at hc;subst hc;simp[opL]at hq)
  ·split at hc
   ·rename_i t1 y' e1 e2;split at hc
    ·rename_i e' ht;simp only[Option.bind_eq_bind,Option.bind_eq_some_iff]at hc;obtain⟨i,hi,z,hz,hc⟩:=hc;split at hc
     ·rename_i hcond;obtain⟨h1,h2,h3⟩:=hcond;simp only[Option.pure_def,Option.some.injEq]at hc;subst hc;exact bo7 R hT ho e1 e2 ht hi hz h1 h2 h3 hq
     ·cases hc
    ·simp only[Option.some.injEq]at hc;subst hc;simp[opL]at hq
   ·simp only[Option.some.injEq]at hc;subst hc;simp[opL]at hq
 |_=>
  rw[ho]at hc;exfalso;simp only[compOp]at hc
  repeat' (split at hc)
  all_goals first
   |(cases hc;done)
   |(simp only[Option.some.injEq]at hc;subst hc;simp[opL]at hq;done)
   |(simp only[Option.bind_eq_bind,Option.bind_eq_some_iff,Option.pure_def,Option.ite_none_left_eq_some,Option.some.injEq]at hc
     repeat(first|(obtain⟨_,hc⟩:=(hc:∃_,_))|(obtain⟨_,hc⟩:=(hc:_/\_)))
     subst hc;simp[opL]at hq)
theorem am8{k:Heap}{ao:AOp}{r:PV}(hk:∀(id:Nat) b,h.bl[id]?=some b->k.bl[id]?=some b)(hq:opQ P T h ao=some r):opQ P T k ao=some r:=by
 cases ao with
 |load sz agg x=>
  simp only[opQ]at hq⊢;split at hq
  ·exact hq
  ·rename_i id ver off hv;split at hq
   ·rename_i ver' ty mt cs hb;simp only[hk _ _ hb];exact hq
   ·cases hq
  ·cases hq
 |box own t x=>cases own<;>exact hq
 |alloc own t x=>cases own<;>exact hq
 |bslice own e sz z parts=>cases own<;>exact hq
 |_=>exact hq
theorem CallD_mono{k:Heap}{f:FuncId}{args:List PV}{r:PV}(hk:Sub h k)(hq:CallD P h f args r):CallD P k f args r:=by
 rcases hq with hq|⟨ds,hd,hf,hfl⟩
 ·exact .inl hq
 ·refine .inr ⟨ds,?_,hf,hfl.imp id (SoftL.mono hk)⟩;have key:∀(vs es:List PV),DeepL P h vs es->DeepL P k vs es:=by
   intro vs;induction vs with
   |nil=>intro es hh;cases es with|nil=>trivial|cons _ _=>simp[DeepL]at hh
   |cons v vs ih=>
    intro es hh;cases es with
    |nil=>simp[DeepL]at hh
    |cons e es=>
     simp only[DeepL]at hh⊢;exact⟨⟨hh.1.1,λm hm=>hh.1.2 m λid b hb=>hm id b (hk id b hb)⟩,ih es hh.2⟩
  exact key _ _ hd
theorem bd2(hf:Bool)(h:Heap):Sub (seen hf h) h:=by
 cases hf with
 |true=>intro id b hb;simp[seen]at hb
 |false=>exact Sub.refl h
theorem ce7{hf:Bool}{ao:AOp}{r:PV}(hq:opQ P T (seen hf h) ao=some r):opQ P T h ao=some r:=am8 (bd2 hf h) hq
theorem CallD_seen{hf:Bool}{f:FuncId}{args:List PV}{r:PV}(hq:CallD P (seen hf h) f args r):CallD P h f args r:=CallD_mono (bd2 hf h) hq
theorem sw{o:Oper}{nx:Next}{v:Value}{w':World}{K:Act->World->Prop}{Q:Exit->Act->World->Prop}(hr:(execOp a.eval o).run P x.w= .ok nx w')(hn:nx= .value v\/(nx= .skip/\v=undef))(hk:K (a.put o.dst v) w'):o.wp P a x.w K Q:=by
 unfold Oper.wp;rw[hr];rcases hn with rfl|⟨rfl,rfl⟩
 ·exact hk
 ·exact hk
theorem ad7{o:Oper}{f:Operand}{as:Array Operand}{ats:Array TypeId}(ho:o.op= .call {callee:= .value f,args:=as,argTypes:=ats}){g:FuncId}{first cap:Array Value}(hf:a.eval f= .func (.func g) first cap)(he:Enters P g)(w:World):
 (execOp a.eval o).run P w= .ok (.enter g (first++as.map a.eval++cap)) w:=by
 simp only[execOp,ho,resolve,hf,Deferred.ofValue,Sem.run_bind,Sem.run_pure,Result.andThen_ok,invoke];exact he _ _
theorem OpD_sound{o:Oper}{own:List Tmp}{ao:AOp}{hf:Bool}{K:PV->Heap->Prop}(R:RelP P w0 F0 h x)(hT:Temps P x n T a)(hc:compOp P own o.dst o.type o.op=some ao)(hK:OpD P ao hf T h K){Q:Exit->Act->World->Prop}:
 ∃r h',K r h'/\o.wp P a x.w (λa' w'=>After P w0 F0 x a o r h' a' w') Q:=by
 unfold OpD at hK;split at hK
 ·obtain⟨r,hq,hk⟩:=hK;obtain⟨v,y,hr,g,hv⟩:=ad8 R hT hc (ce7 hq);exact⟨r,h,hk,sw hr (.inl O) ⟨v,y,O,O,R.grow g,R.ext_of_grow g,hv⟩⟩
 ·obtain⟨r,h',hq,hk⟩:=hK;obtain⟨nx,v,y,hr,hn,R',E,hv,_⟩:=ao1 R hT hc hq;exact⟨r,h',hk,sw hr hn ⟨v,y,O,O,R',E,hv⟩⟩
 ·split at hK
  ·rename_i f args hkind;obtain⟨g,as,hcal,r,hD,hk⟩:=hK;obtain⟨cas,ats,ho,rfl⟩:=wb hc;have hf:=hT.ev f;unfold callee at hcal;split at hcal
   ·rename_i g' first cap vs hfv
    simp only[Option.some.injEq,Prod.mk.injEq]at hcal;obtain⟨rfl,rfl⟩:=hcal;rw[hfv]at hf;simp only[VR,AsVal,PV.isAgg,VRC,List.cons.injEq,and_true]at hf;obtain⟨fs,cs,ef,r1,r2⟩:=hf;have hV:=VRV_append r1 (VRV_append (VRV_map hT cas.toList) r2);obtain⟨he,hcalls⟩:=ag0 R (CallD_seen hD) hV;refine⟨r,h,hk,?_⟩;unfold Oper.wp;rw[ad7 ho ef he x.w];simp only[Oper.upon];have eq:fs.toArray++cas.map a.eval++cs.toArray=(fs++(cas.toList.map a.eval++cs)).toArray:=by
     apply Array.ext';simp
    rw[eq];refine hcalls.mono λe w' hh=>?_;obtain⟨v,y,rfl,hw,g,hr⟩:=hh;exact⟨v,y,O,hw,R.grow g,R.ext_of_grow g,hr⟩
   ·cases hcal
  ·exact hK.elim
 ·exact hK.elim
def FnH(P:Program)(f:FuncId)(args:List PV)(h:Heap)(K:PV->Heap->Prop):Prop:=Enters P f/\∀w0 F0 x cargs,RelP P w0 F0 h x->VRV P x args cargs->
 Calls P f cargs.toArray x.w λe w'=>∃v r h' y,e= .returned v/\y.w=w'/\K r h'/\RelP P w0 F0 h' y/\Ext x y/\VR P y r v
theorem FnH.mono{f:FuncId}{args:List PV}{h:Heap}{K K':PV->Heap->Prop}(H:FnH P f args h K)(hk:∀r h',K r h'->K' r h'):FnH P f args h K':=
 ⟨H.1,λw0 F0 x cargs R ha=>(H.2 w0 F0 x cargs R ha).mono λe w'⟨v,r,h',y,a,b,c,d⟩=>⟨v,r,h',y,a,b,hk r h' c,d⟩⟩
def FnX(P:Program)(f:FuncId)(args:List PV)(h:Heap)(r:PV)(h':Heap):Prop:=FnH P f args h λv k=>v=r/\k=h'
def Meth(P:Program)(t:TypeId)(name:String)(g:FuncId):Prop:=∀(v:Value)(w:World),(method (P.types.size+Made.depth) t v name).run P w= .ok (g,v) w
def Inv(P:Program)(o:AOp)(T:Nat->PV)(g:FuncId)(as:List PV):Prop:=∃xo name args t v,o= .invoke xo name args/\ev T xo= .ifc t v/\Meth P t name g/\as=v::args.map (ev T)
def OpS(P:Program)(o:AOp)(hf:Bool)(T:Nat->PV)(h:Heap)(K:PV->Heap->Prop):Prop:=
 OpD P o hf T h K\/(∃f args g as r h',o= .call f args/\callee (ev T f) (args.map (ev T))=some (g,as)/\FnX P g as h r h'/\K r h')\/∃g as r h',Inv P o T g as/\FnX P g as h r h'/\K r h'
theorem an3{own:List Tmp}{dst:Option Tmp}{ty:TypeId}{op:Op}{x:Operand}{name:String}{args:List Operand}(hc:compOp P own dst ty op=some (.invoke x name args)):
 ∃as ats,op= .call {callee:= .invoke x name,args:=as,argTypes:=ats}/\as.toList=args:=by
 cases op with
 |call c=>
  obtain⟨cl,as,ats⟩:=c;simp only[compOp]at hc;split at hc;all_goals first
   |(simp only[Option.some.injEq,AOp.invoke.injEq]at hc;obtain⟨rfl,rfl,rfl⟩:=hc;exact⟨as,ats,O,O⟩)
   |(cases hc;done)
   |(simp at hc;done)
   |(exfalso;repeat' (split at hc);all_goals simp[Option.bind_eq_some_iff]at hc)
 |makeMap t r=>cases r<;>(simp only[compOp]at hc;repeat' (split at hc))<;>simp[Option.bind_eq_some_iff]at hc
 |build t parts=>
  exfalso;simp only[compOp,Option.bind_eq_bind,Option.bind_eq_some_iff]at hc;obtain⟨_,_,_,_,hc⟩:=hc;split at hc;all_goals simp[Option.bind_eq_some_iff]at hc
 |_=>
  exfalso;simp only[compOp]at hc
  repeat' (split at hc)
  all_goals simp[Option.bind_eq_some_iff]at hc
theorem ax4{o:Oper}{xo:Operand}{name:String}{as:Array Operand}{ats:Array TypeId}(ho:o.op= .call {callee:= .invoke xo name,args:=as,argTypes:=ats}){g:FuncId}{t:TypeId}{u:Value}(hx:a.eval xo= .iface t u)(hm:Meth P t name g)(he:Enters P g)(w:World):
 (execOp a.eval o).run P w= .ok (.enter g (#[u]++as.map a.eval)) w:=by
 have h0:(#[Value.iface t u]++as.map a.eval)[0]?=some (Value.iface t u):=by rw[Array.getElem?_append_left OZ];rfl
 have h1:(#[Value.iface t u]++as.map a.eval).extract 1=as.map a.eval:=by
  apply Array.ext';simp;exact List.take_of_length_le OZ
 have hp:(program).run P w= .ok P w:=O;have hcm:(callMethod (.iface t u) name (as.map a.eval)).run P w= .ok (.enter g (#[u]++as.map a.eval)) w:=by
  unfold callMethod;simp only[Sem.run_bind,hp,Result.andThen_ok,hm u w];exact he _ _
 simp only[execOp,ho,resolve,Sem.run_bind,Sem.run_pure,Result.andThen_ok,invoke,hx];rw[h0];show Sem.run P (callMethod (.iface t u) name ((#[Value.iface t u]++as.map a.eval).extract 1)) w=_
 rw[h1];exact hcm
theorem OpS_sound{o:Oper}{own:List Tmp}{ao:AOp}{hf:Bool}{K:PV->Heap->Prop}(R:RelP P w0 F0 h x)(hT:Temps P x n T a)(hc:compOp P own o.dst o.type o.op=some ao)(hK:OpS P ao hf T h K){Q:Exit->Act->World->Prop}:
 o.wp P a x.w (λa' w'=>∃r h',K r h'/\After P w0 F0 x a o r h' a' w') Q:=by
 rcases hK with hK|⟨f,args,g,as,r0,h0,rfl,hcal,⟨he,hF⟩,hk⟩|⟨g,as,r0,h0,⟨xo,name,args,t,v,rfl,hx,hm,rfl⟩,⟨he,hF⟩,hk⟩
 ·obtain⟨r,h',hk,hw⟩:=OpD_sound R hT hc hK (Q:=Q);exact Oper.wp_mono (λa' w' hh=>⟨r,h',hk,hh⟩) hw
 ·obtain⟨cas,ats,ho,rfl⟩:=wb hc;have hf:=hT.ev f;unfold callee at hcal;split at hcal
  ·rename_i g' first cap vs hfv
   simp only[Option.some.injEq,Prod.mk.injEq]at hcal;obtain⟨rfl,rfl⟩:=hcal;rw[hfv]at hf;simp only[VR,AsVal,PV.isAgg,VRC,List.cons.injEq,and_true]at hf;obtain⟨fs,cs,ef,r1,r2⟩:=hf;have hV:=VRV_append r1 (VRV_append (VRV_map hT cas.toList) r2);have hcalls:=hF w0 F0 x _ R hV;unfold Oper.wp;rw[ad7 ho ef he x.w];simp only[Oper.upon];have eq:fs.toArray++cas.map a.eval++cs.toArray=(fs++(cas.toList.map a.eval++cs)).toArray:=by
    apply Array.ext';simp
   rw[eq];refine hcalls.mono λe w' hh=>?_;obtain⟨v,r,h',y,rfl,hw,⟨rfl,rfl⟩,R',E,hr⟩:=hh;exact⟨r,h',hk,v,y,O,hw,R',E,hr⟩
  ·cases hcal
 ·obtain⟨cas,ats,ho,rfl⟩:=an3 hc;have hf:=hT.ev xo;rw[hx]at hf;simp only[VR,AsVal,PV.isAgg,VRC,List.cons.injEq,and_true]at hf;obtain⟨u,eu,hu⟩:=hf;have hV:VRV P x (v::cas.toList.map (ev T)) (u::cas.toList.map a.eval):=by
   simp only[VRV];exact⟨hu,VRV_map hT cas.toList⟩
  have hcalls:=hF w0 F0 x _ R hV;unfold Oper.wp;rw[ax4 ho eu hm he x.w];simp only[Oper.upon];have eq:#[u]++cas.map a.eval=(u::cas.toList.map a.eval).toArray:=by
   apply Array.ext';simp
  rw[eq];refine hcalls.mono λe w' hh=>?_;obtain⟨v,r,h',y,rfl,hw,⟨rfl,rfl⟩,R',E,hr⟩:=hh;exact⟨r,h',hk,v,y,O,hw,R',E,hr⟩
end
end Go.Pb
