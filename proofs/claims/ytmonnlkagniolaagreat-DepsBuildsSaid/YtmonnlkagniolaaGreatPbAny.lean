import Derived.Test.YtmonnlkagniolaaGreatPbDraw
set_option linter.all false
namespace Go.Pb
open Go Go.RowKit
def befs:List Nat->List Oper->List Nat
 |acc,[]=>acc
 |acc,o::r=>befs (acc++[o.after.toList.foldl (λs e=>if Region.binds .any e then s|||(2^e.on|||acc.getD e.on 0)else s) 0]) r
def AOp.bar(o:AOp):Bool:=o.kind==1&&!o.isA
def needs(x y:AOper):Bool:=
 x.op.bar||(y.op.bar&&!(x.hf||x.op.isA))||(match x.dst with|some d=>y.looks.contains d||y.dst==some d|none=>false)||(match y.dst with|some d=>x.looks.contains d|none=>false)
def chkDraw(ops:Array Oper)(al:List AOper):Bool:=
 let B:=befs [] ops.toList
 ((List.range ops.size).all λj=>((ops[j]?).map λo=>o.after.toList.all λe=>!Region.binds .any e||decide (e.on < j)).getD true)&&
 (al.zipIdx.all λq=>(al.zipIdx.take q.2).all λp=>!needs p.1 q.1||(B.getD q.2 0).testBit p.2)
theorem ap1{D:Nat->Bool}{acc:List Nat}(hacc:∀i,D i=true->∀b,(acc.getD i 0).testBit b=true->D b=true):∀(es:List Edge)(s:Nat),(∀b,s.testBit b=true->D b=true)->
 (∀e∈es,Region.binds .any e=true->D e.on=true)->∀b,(es.foldl (λs e=>if Region.binds .any e then s|||(2^e.on|||acc.getD e.on 0)else s) s).testBit b=true->D b=true
 |[],s,hs,_,b,hb=>hs b hb
 |e::es,s,hs,he,b,hb=>by
  simp only[List.foldl_cons]at hb;refine ap1 hacc es _ ?_ (λe' h'=>he e' (List.mem_cons_of_mem _ h')) b hb;intro c hc;split at hc
  ·rename_i hbind;have hD:=he e (List.mem_cons_self ..) hbind;simp only[Nat.testBit_or,Bool.or_eq_true,Nat.testBit_two_pow,decide_eq_true_eq]at hc;rcases hc with hc|hc|hc
   ·exact hs c hc
   ·rw[<-hc];exact hD
   ·exact hacc e.on hD c hc
  ·exact hs c hc
theorem sv{D:Nat->Bool}:∀(l:List Oper)(acc:List Nat),(∀i,D i=true->∀b,(acc.getD i 0).testBit b=true->D b=true)->
 (∀j o,l[j]?=some o->D (acc.length+j)=true->∀e∈o.after.toList,Region.binds .any e=true->D e.on=true)->
 ∀i,D i=true->∀b,((befs acc l).getD i 0).testBit b=true->D b=true
 |[],acc,hacc,_,i,hi,b,hb=>hacc i hi b hb
 |o::r,acc,hacc,hl,i,hi,b,hb=>by
  simp only[befs]at hb;refine sv r _ ?_ (λj o' hj hD=>hl (j+1) o' (by simpa using hj) (by simpa[Nat.add_assoc,Nat.add_comm 1 j]using hD)) i hi b hb;intro k hk c hc;rw[List.getD_eq_getElem?_getD,List.getElem?_append]at hc;split at hc
  ·exact hacc k hk c (by rw[List.getD_eq_getElem?_getD];exact hc)
  ·rename_i hge;by_cases e0:k-acc.length=0
   ·rw[e0]at hc;simp only[List.getElem?_cons_zero,Option.getD_some]at hc;exact ap1 hacc _ 0 OZ (hl 0 o O (by rw[Nat.add_zero,show acc.length=k by omega];exact hk)) c hc
   ·rw[List.getElem?_eq_none (by simp;omega)]at hc;simp at hc
theorem aq3{ops:Array Oper}{al:List AOper}(h:chkDraw ops al=true){i j:Nat}{x y:AOper}(hi:al[i]?=some x)(hj:al[j]?=some y)(hij:i < j)(hn:needs x y=true):
 ((befs [] ops.toList).getD j 0).testBit i=true:=by
 simp only[chkDraw,Bool.and_eq_true]at h;have h2:=h.2;rw[List.all_eq_true]at h2;have hy:=h2 (y,j) (by rw[List.mem_zipIdx_iff_getElem?];simpa using hj);simp only[List.all_eq_true]at hy;have hx:=hy (x,i) (by
  rw[List.mem_take_iff_getElem];have hlt:i < al.length:=(List.getElem?_eq_some_iff.1 hi).1;have hltj:j < al.length:=(List.getElem?_eq_some_iff.1 hj).1;refine⟨i,by simp;omega,?_⟩;have:=(List.getElem?_eq_some_iff.1 hi).2;simp[this])
 simpa[hn]using hx
theorem bo8{ops:Array Oper}{al:List AOper}(h:chkDraw ops al=true){j:Nat}{o:Oper}(hj:ops[j]?=some o):∀e∈o.after.toList,Region.binds .any e=true->e.on < j:=by
 simp only[chkDraw,Bool.and_eq_true]at h;have h1:=h.1;rw[List.all_eq_true]at h1;have:=h1 j (List.mem_range.2 (Array.getElem?_eq_some_iff.1 hj).1);simp only[hj,Option.map_some,Option.getD_some,List.all_eq_true]at this;intro e he hb;have:=this e he;simpa[hb]using this
def lateOf(ops:Array Oper)(al:List AOper):List Nat:=
 let B:=befs [] ops.toList
 (al.zipIdx.filter λp=>al.zipIdx.any λq=>decide (p.2 < q.2)&&q.1.op.bar&&!(B.getD q.2 0).testBit p.2).map (·.2)
def dstOf(al:List AOper)(k:Nat):Option Tmp:=(al[k]?).bind (·.dst)
def resOf(ss:List Stp)(k:Nat):PV:=((ss[k]?).map (·.r)).getD .junk
def hOf(h0:Heap)(ss:List Stp):Nat->Heap
 |0=>h0
 |k+1=>((ss[k]?).map (·.h)).getD h0
def TT(al:List AOper)(ss:List Stp)(D:Nat->Bool)(T:Nat->PV):Nat->(Nat->PV)
 |0=>T
 |k+1=>if D k then updO (TT al ss D T k) (dstOf al k) (resOf ss k)else TT al ss D T k
def allD:Nat->Bool:=λ_=>true
theorem TT_allD(al:List AOper)(ss:List Stp)(T:Nat->PV)(k:Nat):TT al ss allD T (k+1)=updO (TT al ss allD T k) (dstOf al k) (resOf ss k):=if_pos O
theorem TT_shift(o:AOper)(s:Stp)(al:List AOper)(ss:List Stp)(T:Nat->PV):∀k,TT (o::al) (s::ss) allD T (k+1)=TT al ss allD (updO T o.dst s.r) k
 |0=>by simp[TT,allD,dstOf,resOf]
 |k+1=>by
  have ih:=TT_shift o s al ss T k;rw[TT,ih];conv=>rhs;rw[TT]
  simp[allD,dstOf,resOf]
theorem tm{T:Nat->PV}{d:Option Tmp}{v:PV}{t:Nat}(h:d≠some t):updO T d v t=T t:=by
 cases d with
 |none=>rfl
 |some s=>
  simp only[updO,upd];rw[if_neg];intro e;exact h (by rw[e])
theorem wv{T:Nat->PV}{v:PV}{t:Nat}:updO T (some t) v t=v:=by simp[updO,upd]
section
variable{al:List AOper}{ss:List Stp}{D D':Nat->Bool}{T:Nat->PV}
theorem TT_at{i:Nat}{t:Nat}(hlo:∀j,j < i->dstOf al j=some t->D j=true)(hhi:∀j,i<=j->dstOf al j=some t->D j=false):
 ∀N,i<=N->TT al ss D T N t=TT al ss allD T i t:=by
 have h1:∀k,k<=i->TT al ss D T k t=TT al ss allD T k t:=by
  intro k;induction k with
  |zero=>intro _;rfl
  |succ k ih=>
   intro hk;have ih:=ih V;rw[TT_allD,TT];by_cases hd:dstOf al k=some t
   ·rw[hlo k V hd,if_pos rfl,hd,wv,wv]
   ·rw[tm (T:=TT al ss allD T k) hd];split
    ·rw[tm hd];exact ih
    ·exact ih
 have h2:∀m,TT al ss D T (i+m) t=TT al ss D T i t:=by
  intro m;induction m with
  |zero=>rfl
  |succ m ih=>
   rw[<-Nat.add_assoc,TT];split
   ·rename_i hD;have hd:dstOf al (i+m)≠some t:=λe=>by
     have:=hhi (i+m) V e;rw[this]at hD;cases hD
    rw[tm hd];exact ih
   ·exact ih
 intro N hN;have:=h2 (N-i);rw[show i+(N-i)=N by omega]at this;rw[this,h1 i (Nat.le_refl _)]
theorem TT_put{i N:Nat}(hiN:i < N)(hi:D i=false)(hD':∀j,D' j=(D j||j==i))(hno:∀j t,i < j->D j=true->dstOf al i=some t->dstOf al j≠some t):
 TT al ss D' T N=updO (TT al ss D T N) (dstOf al i) (resOf ss i):=by
 funext t
 by_cases hd:dstOf al i=some t
 ·rw[hd,wv];have h1:∀m,TT al ss D' T (i+1+m) t=resOf ss i:=by
   intro m;induction m with
   |zero=>
    rw[Nat.add_zero,TT,hD' i];simp only[beq_self_eq_true,Bool.or_true,if_true,hd,wv]
   |succ m ih=>
    rw[<-Nat.add_assoc,TT];split
    ·rename_i hDm;rw[hD']at hDm;have:(i+1+m==i)=false:=by simp;omega
     rw[this,Bool.or_false]at hDm;rw[tm (hno (i+1+m) t V hDm hd)];exact ih
    ·exact ih
  have:=h1 (N-(i+1))
  rwa [show i+1+(N-(i+1))=N by omega]at this
 ·rw[tm hd];have h1:∀k,TT al ss D' T k t=TT al ss D T k t:=by
   intro k;induction k with
   |zero=>rfl
   |succ k ih=>
    simp only[TT,hD' k];by_cases hk:k=i
    ·subst hk;simp only[beq_self_eq_true,Bool.or_true,if_true,hi,Bool.false_eq_true,if_false];rw[tm hd];exact ih
    ·have:(k==i)=false:=by simpa using hk
     rw[this,Bool.or_false];split
     ·by_cases hdk:dstOf al k=some t
      ·rw[hdk,wv,wv]
      ·rw[tm hdk,tm hdk];exact ih
     ·exact ih
  exact h1 N
theorem TT_all{e N:Nat}(heN:e<=N)(hlo:∀j,j < e->D j=true)(hhi:∀j,e<=j->j < N->D j=false):TT al ss D T N=TT al ss allD T e:=by
 have h1:∀k,k<=e->TT al ss D T k=TT al ss allD T k:=by
  intro k;induction k with
  |zero=>intro _;rfl
  |succ k ih=>intro hk;rw[TT_allD,TT,hlo k V,if_pos rfl,ih V]
 have h2:∀m,e+m<=N->TT al ss D T (e+m)=TT al ss D T e:=by
  intro m;induction m with
  |zero=>intro _;rfl
  |succ m ih=>intro hm;rw[<-Nat.add_assoc,TT,hhi (e+m) V V];simp only[Bool.false_eq_true,if_false];exact ih V
 have:=h2 (N-e) V;rw[show e+(N-e)=N by omega]at this;rw[this,h1 e (Nat.le_refl _)]
end
theorem ao0{P:Program}:∀(al:List AOper)(T:Nat->PV)(h:Heap)(ss:List Stp)(T':Nat->PV)(h':Heap),RunD P al T h ss T' h'->
 T'=TT al ss allD T al.length/\h'=hOf h ss al.length/\∀k o,al[k]?=some o->StepD P o (TT al ss allD T k) (hOf h ss k) (resOf ss k) (hOf h ss (k+1))
 |[],T,h,[],T',h',hr=>by
  obtain⟨rfl,rfl⟩:=hr;exact⟨O,O,λk o hk=>by simp at hk⟩
 |[],_,_,_::_,_,_,hr=>by simp[RunD]at hr
 |_::_,_,_,[],_,_,hr=>by simp[RunD]at hr
 |o::al,T,h,s::ss,T',h',hr=>by
  obtain⟨h1,h2⟩:=hr;obtain⟨e1,e2,e3⟩:=ao0 al _ _ ss T' h' h2;have hsh:∀k,k<=al.length->hOf h (s::ss) (k+1)=hOf s.h ss k\/(0 < k/\ss[k-1]?=none):=by
   intro k _;cases k with
   |zero=>exact .inl (by simp[hOf])
   |succ k=>
    cases hs:ss[k]? with
    |none=>exact .inr ⟨by omega,by simpa using hs⟩
    |some s'=>exact .inl (by simp[hOf,hs])
  have hlen:∀(al:List AOper)(T:Nat->PV)(h:Heap)(ss:List Stp)(T':Nat->PV)(h':Heap),RunD P al T h ss T' h'->ss.length=al.length:=by
   intro al;induction al with
   |nil=>intro T h ss T' h' hr;cases ss with|nil=>rfl|cons _ _=>simp[RunD]at hr
   |cons o al ih=>intro T h ss T' h' hr;cases ss with|nil=>simp[RunD]at hr|cons s ss=>simp[ih _ _ _ _ _ hr.2]
  have hl:=hlen al _ _ ss T' h' h2;have hsh':∀k,k<=al.length->hOf h (s::ss) (k+1)=hOf s.h ss k:=by
   intro k hk;rcases hsh k hk with h3|⟨h3,h4⟩
   ·exact h3
   ·rw[List.getElem?_eq_none_iff]at h4;omega
  refine⟨?_,?_,?_⟩
  ·rw[List.length_cons,TT_shift];exact e1
  ·rw[List.length_cons,hsh' _ (Nat.le_refl _)];exact e2
  ·intro k o' hk;cases k with
   |zero=>
    simp only[List.getElem?_cons_zero,Option.some.injEq]at hk;subst hk;simpa[TT,hOf,resOf]using h1
   |succ k=>
    simp only[List.getElem?_cons_succ]at hk;have hlt:=(List.getElem?_eq_some_iff.1 hk).1;rw[TT_shift,hsh' k V,hsh' (k+1) V];have:=e3 k o' hk;simpa[resOf]using this
end Go.Pb
namespace Go.Pb
open Go Go.RowKit
theorem cq1{h h':Heap}{e:TypeId}{sz bytes m:Nat}{news:List PV}{v r:PV}(hq:appF h e sz bytes m news v=some (r,h')):h.nv<=h'.nv:=by
 unfold appF at hq;split at hq
 ·split at hq
  ·simp only[Option.some.injEq,Prod.mk.injEq]at hq;rw[<-hq.2];exact Nat.le_refl _
  ·split at hq
   ·simp only[Option.some.injEq,Prod.mk.injEq]at hq;rw[<-hq.2];exact Nat.le_succ _
   ·cases hq
 ·split at hq
  ·simp only[Option.some.injEq,Prod.mk.injEq]at hq;rw[<-hq.2];exact Nat.le_refl _
  ·split at hq
   ·simp only[Option.map_eq_some_iff,Prod.mk.injEq]at hq;obtain⟨_,_,_,e⟩:=hq;rw[<-e];exact Nat.le_succ _
   ·cases hq
 ·split at hq
  ·simp only[Option.some.injEq,Prod.mk.injEq]at hq;rw[<-hq.2];exact Nat.le_refl _
  ·split at hq
   ·split at hq
    ·simp only[Option.some.injEq,Prod.mk.injEq]at hq;rw[<-hq.2];exact Nat.le_succ _
    ·cases hq
   ·cases hq
 ·cases hq
theorem dp5{T:Nat->PV}{h h':Heap}{ao:AOp}{r:PV}(hq:opL T h ao=some (r,h')):h.nv<=h'.nv:=by
 by_cases hA:ao.isA=true
 ·obtain⟨t,cs,k,_,_,rfl⟩:=ux hA hq;exact Nat.le_succ _
 ·cases ao with
  |store sz x v=>
   simp only[opL]at hq;split at hq
   ·split at hq
    ·split at hq
     ·simp only[Option.some.injEq,Prod.mk.injEq]at hq;rw[<-hq.2];exact Nat.le_refl _
     ·cases hq
    ·cases hq
   ·cases hq
  |append t e sz bytes s x=>
   simp only[opL]at hq;split at hq
   ·exact cq1 hq
   ·cases hq
  |box own t x=>cases own<;>simp_all[AOp.isA,opL]
  |alloc own t x=>cases own<;>simp_all[AOp.isA,opL]
  |bslice own e sz z parts=>cases own<;>simp_all[AOp.isA,opL]
  |mkSlice e sz bytes z l c=>simp[AOp.isA]at hA
  |mkMap t=>
   simp only[opL,Option.some.injEq,Prod.mk.injEq]at hq;rw[<-hq.2];exact Nat.le_succ _
  |lookup t k e z ok x i=>
   simp only[opL,lookM]at hq;split at hq
   ·split at hq
    ·split at hq
     ·simp only[Option.some.injEq,Prod.mk.injEq]at hq;rw[<-hq.2];exact Nat.le_refl _
     ·cases hq
    ·cases hq
   ·cases hq
  |mapUpdate t k m i v=>
   simp only[opL,updM]at hq;split at hq
   ·split at hq
    ·split at hq
     ·simp only[Option.some.injEq,Prod.mk.injEq]at hq;rw[<-hq.2];exact Nat.le_refl _
     ·cases hq
    ·cases hq
   ·cases hq
  |clr sz z x=>
   simp only[opL]at hq;split at hq
   ·simp only[Option.some.injEq,Prod.mk.injEq]at hq;rw[<-hq.2];exact Nat.le_refl _
   ·simp only[Option.some.injEq,Prod.mk.injEq]at hq;rw[<-hq.2];exact Nat.le_refl _
   ·split at hq
    ·split at hq
     ·simp only[Option.some.injEq,Prod.mk.injEq]at hq;rw[<-hq.2];exact Nat.le_refl _
     ·cases hq
    ·cases hq
   ·cases hq
  |_=>simp[opL]at hq
section
variable{P:Program}
theorem StepD.nv{o:AOper}{T:Nat->PV}{h h':Heap}{r:PV}(hs:StepD P o T h r h'):h.nv<=h'.nv:=by
 rcases hs with⟨_,_,rfl⟩|⟨_,⟨_,_,rfl⟩|⟨_,hq⟩|⟨_,rfl,_⟩⟩
 ·exact Nat.le_refl _
 ·exact Nat.le_refl _
 ·exact dp5 hq
 ·exact Nat.le_refl _
theorem StepD.nonbar{o:AOper}{T:Nat->PV}{h h':Heap}{r:PV}(hs:StepD P o T h r h')(hb:o.op.bar=false):
 h'=h\/∃t cs k,guardF T o.guard=some true/\opA T o.op=some (t,cs,k)/\r=mkOwn k h.bl.length h.nv/\h'=newBlk h t cs:=by
 rcases hs with⟨_,_,rfl⟩|⟨hg,⟨_,_,rfl⟩|⟨hk,hq⟩|⟨_,rfl,_⟩⟩
 ·exact .inl O
 ·exact .inl O
 ·simp only[AOp.bar,hk,beq_self_eq_true,Bool.true_and,Bool.not_eq_false']at hb;obtain⟨t,cs,k,h1,h2,h3⟩:=ux hb hq;exact .inr ⟨t,cs,k,hg,h1,h2,h3⟩
 ·exact .inl O
theorem re{own:List Tmp}{n:Nat}{all:Array Oper}{hfs:List Nat}:∀{l:List Oper}{m:Nat}{al:List AOper},compOps P own n all hfs m l=some al->
 al.length=l.length/\(∀(k:Nat) o,l[k]?=some o->∃ao hf,al[k]?=some ao/\compO P own n all hf o=some ao)
 |[],m,al,h=>by simp only[compOps,Option.some.injEq]at h;subst h;exact⟨O,λk o hk=>by simp at hk⟩
 |o::l,m,al,h=>by
  simp only[compOps,Option.bind_eq_bind,Option.bind_eq_some_iff,Option.pure_def,Option.some.injEq]at h;obtain⟨a,ha,b,hb,rfl⟩:=h;obtain⟨h1,h2⟩:=re hb;refine⟨by simp[h1],λk o' hk=>?_⟩;cases k with
  |zero=>simp only[List.getElem?_cons_zero,Option.some.injEq]at hk;subst hk;exact⟨a,_,O,ha⟩
  |succ k=>simpa using h2 k o' (by simpa using hk)
variable{own:List Tmp}{n:Nat}{ops:Array Oper}{al:List AOper}{ss:List Stp}{T0:Nat->PV}{h0:Heap}{w0:World}{F0:Nat->Prop}{x0:Cx}
def isBar(al:List AOper)(k:Nat):Bool:=((al[k]?).map (·.op.bar)).getD false
structure Text(P:Program)(own:List Tmp)(n:Nat)(ops:Array Oper)(al:List AOper)(ss:List Stp)(T0:Nat->PV)(h0:Heap):Prop where
 comp:∃hfs,compOps P own n ops hfs 0 ops.toList=some al
 chk:chkDraw ops al=true
 run:∀k o,al[k]?=some o->StepD P o (TT al ss allD T0 k) (hOf h0 ss k) (resOf ss k) (hOf h0 ss (k+1))
theorem Text.len(X:Text P own n ops al ss T0 h0):al.length=ops.size:=by
 obtain⟨hfs,hc⟩:=X.comp;have:=(re hc).1;simpa using this
theorem Text.get(X:Text P own n ops al ss T0 h0){k:Nat}{o:Oper}(hk:ops[k]?=some o):∃ao hf,al[k]?=some ao/\compO P own n ops hf o=some ao:=by
 obtain⟨hfs,hc⟩:=X.comp;exact(re hc).2 k o (by simpa using hk)
theorem Text.nv(X:Text P own n ops al ss T0 h0):∀{j k:Nat},j<=k->k<=al.length->(hOf h0 ss j).nv<=(hOf h0 ss k).nv:=by
 intro j k hjk;induction k with
 |zero=>intro _;have:j=0:=by omega
        subst this;exact Nat.le_refl _
 |succ k ih=>
  intro hk;by_cases e:j=k+1
  ·subst e;exact Nat.le_refl _
  ·have h1:=ih V V;exact Nat.le_trans h1 (X.run k _ (List.getElem?_eq_getElem (show k < al.length by omega))).nv
theorem Text.grow(X:Text P own n ops al ss T0 h0):∀{j k:Nat},j<=k->k<=al.length->(∀m,j<=m->m < k->isBar al m=false)->
 (∀(id:Nat) b,(hOf h0 ss j).bl[id]?=some b->(hOf h0 ss k).bl[id]?=some b)/\
 (∀(id:Nat) b,(hOf h0 ss k).bl[id]?=some b->(hOf h0 ss j).bl[id]?=some b\/(hOf h0 ss j).nv<=b.ver):=by
 intro j k hjk;induction k with
 |zero=>intro _ _;have:j=0:=by omega
        subst this;exact⟨λ_ _ h=>h,λ_ _ h=> .inl h⟩
 |succ k ih=>
  intro hk hb;by_cases e:j=k+1
  ·subst e;exact⟨λ_ _ h=>h,λ_ _ h=> .inl h⟩
  ·obtain⟨h1,h2⟩:=ih V V λm hm hm'=>hb m hm V;have hget:=List.getElem?_eq_getElem (show k < al.length by omega);have hnb:(al[k]' V).op.bar=false:=by
    have:=hb k V V;simpa[isBar,hget]using this
   rcases(X.run k _ hget).nonbar hnb with e1|⟨t,cs,kk,_,_,_,e1⟩
   ·rw[e1];exact⟨h1,h2⟩
   ·rw[e1];refine⟨λid b hb'=>?_,λid b hb'=>?_⟩
    ·have:=h1 id b hb';simp only[newBlk];rw[List.getElem?_append_left (List.getElem?_eq_some_iff.1 this).1];exact this
    ·rcases ru id b hb' with⟨_,rfl⟩|⟨_,h3⟩
     ·exact .inr (X.nv V V)
     ·exact h2 id b h3
structure Mid(P:Program)(n:Nat)(ops:Array Oper)(al:List AOper)(ss:List Stp)(T0:Nat->PV)(h0:Heap)(w0:World)(F0:Nat->Prop)(x0:Cx)(listed:Array Bool)(e:Nat)(a:Act)(y:Cx):Prop where
 size:listed.size=ops.size
 down:∀(j:Nat) o,listed.getD j false=true->ops[j]?=some o->∀ed∈o.after,Region.binds .any ed=true->listed.getD ed.on false=true
 le:e<=al.length
 bar:e < al.length->isBar al e=true
 lo:∀j,j < e->isBar al j=true->listed.getD j false=true
 hi:∀j,e<=j->listed.getD j false=false
 rel:RelP P w0 F0 (hOf h0 ss e) y
 fut:∀j,j < e->listed.getD j false=false->∀id ver,(hOf h0 ss j).nv<=ver->ver < (hOf h0 ss (j+1)).nv->y.J id ver=none
 ent:∀j,j < e->listed.getD j false=false->∀b,(hOf h0 ss (j+1)).bl[(hOf h0 ss j).bl.length]?=some b->(hOf h0 ss e).bl[(hOf h0 ss j).bl.length]?=some b
 tmp:Temps P y n (TT al ss (λj=>listed.getD j false) T0 al.length) a
 ext:Ext x0 y
theorem an4(X:Text P own n ops al ss T0 h0){listed:Array Bool}(down:∀(j:Nat) o,listed.getD j false=true->ops[j]?=some o->∀ed∈o.after,Region.binds .any ed=true->listed.getD ed.on false=true)
 {j:Nat}(hj:listed.getD j false=true){i:Nat}(hb:((befs [] ops.toList).getD j 0).testBit i=true):listed.getD i false=true:=
 sv (D:=λk=>listed.getD k false) ops.toList [] OZ (λk o hk hD ed hed hbind=>down k o (by simpa using hD) (by simpa using hk) ed (by simpa using hed) hbind) j hj i hb
theorem ar9(X:Text P own n ops al ss T0 h0){listed:Array Bool}(down:∀(j:Nat) o,listed.getD j false=true->ops[j]?=some o->∀ed∈o.after,Region.binds .any ed=true->listed.getD ed.on false=true)
 {i:Nat}{o:Oper}(hi:i < listed.size)(ho:ops[i]?=some o)(hall:∀ed∈o.after,Region.binds .any ed=true->listed.getD ed.on false=true){j:Nat}(hji:j≠i)
 (hb:((befs [] ops.toList).getD i 0).testBit j=true):listed.getD j false=true:=by
 have hset:∀k,(listed.setIfInBounds i true).getD k false=(listed.getD k false||k==i):=by
  intro k;by_cases hk:k=i
  ·subst hk;simp[Array.getD_eq_getD_getElem?,hi]
  ·rw[show(k==i)=false by simpa using hk,Bool.or_false];simp[Array.getD_eq_getD_getElem?,Array.getElem?_setIfInBounds_ne (Ne.symm hk)]
 have:=sv (D:=λk=>(listed.setIfInBounds i true).getD k false) ops.toList [] OZ (λk o' hk hD ed hed hbind=>by
  simp only[hset]at hD⊢;simp only[List.length_nil,Nat.zero_add,Bool.or_eq_true]at hD;rcases hD with hD|hD
  ·rw[down k o' hD (by simpa using hk) ed (by simpa using hed) hbind];rfl
  ·have hki:k=i:=by simpa using hD
   subst hki;have:o'=o:=by
    have h1:ops[k]?=some o':=by simpa using hk
    rw[ho]at h1;simpa using h1.symm
   subst this;rw[hall ed (by simpa using hed) hbind];rfl) i (by simp only[hset];simp) j hb
 simp only[hset]at this;rw[show(j==i)=false by simpa using hji,Bool.or_false]at this;exact this
theorem ob{listed:Array Bool}{i:Nat}(hi:i < listed.size)(k:Nat):(listed.setIfInBounds i true).getD k false=(listed.getD k false||k==i):=by
 by_cases hk:k=i
 ·subst hk;simp[Array.getD_eq_getD_getElem?,hi]
 ·rw[show(k==i)=false by simpa using hk,Bool.or_false];simp[Array.getD_eq_getD_getElem?,Array.getElem?_setIfInBounds_ne (Ne.symm hk)]
theorem ak3(al:List AOper):∀(m k:Nat),k+m=al.length->∃e,k<=e/\e<=al.length/\(e < al.length->isBar al e=true)/\∀j,k<=j->j < e->isBar al j=false
 |0,k,hk=>⟨k,Nat.le_refl _,by omega,λh=>by omega,λj h1 h2=>by omega⟩
 |m+1,k,hk=>by
  cases hb:isBar al k with
  |true=>exact⟨k,Nat.le_refl _,by omega,λ_=>hb,λj h1 h2=>by omega⟩
  |false=>
   obtain⟨e,h1,h2,h3,h4⟩:=ak3 al m (k+1) V;refine⟨e,by omega,h2,h3,λj h5 h6=>?_⟩;by_cases hj:j=k
   ·rw[hj];exact hb
   ·exact h4 j V h6
theorem Text.onward(X:Text P own n ops al ss T0 h0){j k:Nat}{y:Cx}(hjk:j<=k)(hk:k<=al.length)(hb:∀m,j<=m->m < k->isBar al m=false)(R:RelP P w0 F0 (hOf h0 ss j) y):RelP P w0 F0 (hOf h0 ss k) y:=
 R.sub (X.nv hjk hk) λid b hb'=>by
  rcases(X.grow hjk hk hb).2 id b hb' with h1|h1
  ·exact .inl h1
  ·exact .inr (R.fresh id b.ver h1)
end
end Go.Pb
namespace Go.Pb
open Go Go.RowKit
section
variable{P:Program}{own:List Tmp}{n:Nat}{ops:Array Oper}{al:List AOper}{ss:List Stp}{T0:Nat->PV}{h0:Heap}{w0:World}{F0:Nat->Prop}{x0:Cx}
theorem bh4{x y:AOper}{t:Tmp}(hd:x.dst=some t)(hl:t∈y.looks):needs x y=true:=by
 have:y.looks.contains t=true:=by simpa using hl
 simp only[needs,hd,this,Bool.true_or,Bool.or_true]
theorem ba6{x y:AOper}{t:Tmp}(hd:y.dst=some t)(hl:t∈x.looks):needs x y=true:=by
 have:x.looks.contains t=true:=by simpa using hl
 simp only[needs,hd,this,Bool.or_true]
theorem bg5{x y:AOper}{t:Tmp}(hd:x.dst=some t)(he:y.dst=some t):needs x y=true:=by
 simp only[needs,hd,he,beq_self_eq_true,Bool.or_true,Bool.true_or]
theorem vp{x y:AOper}(h:x.op.bar=true):needs x y=true:=by simp only[needs,h,Bool.true_or]
theorem ag5{x y:AOper}(h:y.op.bar=true)(hl:(x.hf||x.op.isA)=false):needs x y=true:=by simp only[needs,h,hl,Bool.not_false,Bool.and_self,Bool.true_or,Bool.or_true]
theorem cd0{o:AOp}(h:o.isA=true):o.kind=1:=by
 unfold AOp.isA at h;split at h;all_goals first|rfl|cases h
theorem bq1{T:Nat->PV}{h h':Heap}{ao:AOp}{r:PV}(hq:opL T h ao=some (r,h')){id:Nat}{b:Blk}(hb:h.bl[id]?=some b)
 (hun:∀o∈ao.opers,((∀off,ev T o≠ .op id b.ver off)/\∀off k,ev T o≠ .os id b.ver off k)/\ev T o≠ .om id b.ver):h'.bl[id]?=some b:=by
 have happ:∀t cs,(newBlk h t cs).bl[id]?=some b:=λt cs=>by
  simp only[newBlk];rw[List.getElem?_append_left (List.getElem?_eq_some_iff.1 hb).1];exact hb
 by_cases hA:ao.isA=true
 ·obtain⟨t,cs,k,_,_,rfl⟩:=ux hA hq;exact happ t cs
 ·cases ao with
  |store sz y v=>
   simp only[opL]at hq;split at hq
   ·rename_i id' ver off hv;split at hq
    ·rename_i ver' ty cs ds hb' hds;split at hq
     ·rename_i hc;simp only[Option.some.injEq,Prod.mk.injEq]at hq;rw[<-hq.2];have hne:id'≠id:=by
       rintro rfl;rw[hb]at hb';simp only[Option.some.injEq]at hb';subst hb';have:=(hun y (by simp[AOp.opers])).1.1 off;simp only[Blk.ver]at this;rw[hc.1]at this;exact this hv
      simp only[List.getElem?_set_ne hne];exact hb
     ·cases hq
    ·cases hq
   ·cases hq
  |append t e sz bytes s y=>
   simp only[opL]at hq;split at hq
   ·rename_i m news hs;unfold appF at hq;split at hq
    ·split at hq
     ·simp only[Option.some.injEq,Prod.mk.injEq]at hq;rw[<-hq.2];exact hb
     ·split at hq
      ·simp only[Option.some.injEq,Prod.mk.injEq]at hq;rw[<-hq.2];exact happ _ _
      ·cases hq
    ·split at hq
     ·simp only[Option.some.injEq,Prod.mk.injEq]at hq;rw[<-hq.2];exact hb
     ·split at hq
      ·simp only[Option.map_eq_some_iff,Prod.mk.injEq]at hq;obtain⟨_,_,_,e1⟩:=hq;rw[<-e1];exact happ _ _
      ·cases hq
    ·rename_i id' ver k hv;split at hq
     ·simp only[Option.some.injEq,Prod.mk.injEq]at hq;rw[<-hq.2];exact hb
     ·split at hq
      ·rename_i ver' ty cs hb';split at hq
       ·rename_i hc;simp only[Option.some.injEq,Prod.mk.injEq]at hq;rw[<-hq.2];have hne:id'≠id:=by
         rintro rfl;rw[hb]at hb';simp only[Option.some.injEq]at hb';subst hb';have:=(hun s (by simp[AOp.opers])).1.2 0 k;simp only[Blk.ver]at this;rw[hc.1]at this;exact this hv
        simp only[List.getElem?_set_ne hne];exact hb
       ·cases hq
      ·cases hq
    ·cases hq
   ·cases hq
  |clr sz z y=>
   simp only[opL]at hq;split at hq
   ·simp only[Option.some.injEq,Prod.mk.injEq]at hq;rw[<-hq.2];exact hb
   ·simp only[Option.some.injEq,Prod.mk.injEq]at hq;rw[<-hq.2];exact hb
   ·rename_i id' ver off m hv;split at hq
    ·rename_i ver' ty cs hb';split at hq
     ·rename_i hc;simp only[Option.some.injEq,Prod.mk.injEq]at hq;rw[<-hq.2];have hne:id'≠id:=by
       rintro rfl;rw[hb]at hb';simp only[Option.some.injEq]at hb';subst hb';have:=(hun y (by simp[AOp.opers])).1.2 off m;simp only[Blk.ver]at this;rw[hc.1]at this;exact this hv
      simp only[List.getElem?_set_ne hne];exact hb
     ·cases hq
    ·cases hq
   ·cases hq
  |box own t x=>cases own<;>simp_all[AOp.isA,opL]
  |alloc own t x=>cases own<;>simp_all[AOp.isA,opL]
  |bslice own e sz z parts=>cases own<;>simp_all[AOp.isA,opL]
  |mkSlice e sz bytes z l c=>simp[AOp.isA]at hA
  |mkMap t=>
   simp only[opL,Option.some.injEq,Prod.mk.injEq]at hq;rw[<-hq.2];simp only;rw[List.getElem?_append_left (List.getElem?_eq_some_iff.1 hb).1];exact hb
  |lookup t k e z ok x i=>
   simp only[opL,lookM]at hq;split at hq
   ·split at hq
    ·split at hq
     ·simp only[Option.some.injEq,Prod.mk.injEq]at hq;rw[<-hq.2];exact hb
     ·cases hq
    ·cases hq
   ·cases hq
  |mapUpdate t k m i v=>
   simp only[opL,updM]at hq;split at hq
   ·rename_i id' ver kk a hv hi;split at hq
    ·rename_i ver' es hb';split at hq
     ·rename_i hc;simp only[Option.some.injEq,Prod.mk.injEq]at hq;rw[<-hq.2];have hne:id'≠id:=by
       rintro rfl;rw[hb]at hb';simp only[Option.some.injEq]at hb';subst hb';have:=(hun m (by simp[AOp.opers])).2;simp only[Blk.ver]at this;rw[hc.1]at this;exact this hv
      simp only[List.getElem?_set_ne hne];exact hb
     ·cases hq
    ·cases hq
   ·cases hq
  |_=>simp[opL]at hq
def only(l:List Tmp)(T:Nat->PV):Nat->PV:=λt=>if l.contains t then T t else .junk
theorem VR_junk{x:Cx}{u:Value}:VR P x .junk u:=by simp[VR,PV.isAgg,AsVal,VRC]
theorem Temps.only{x:Cx}{T T':Nat->PV}{a:Act}{l:List Tmp}(hT:Temps P x n T a)(he:∀t∈l,T' t=T t):Temps P x n (only l T') a:=
 ⟨hT.size,λt=>by
  unfold Pb.only;split
  ·rename_i hc;rw[he t (by simpa using hc)];exact hT.at_ t
  ·exact VR_junk,hT.defers⟩
theorem bn2{l:List Tmp}{T:Nat->PV}{t:Tmp}(h:t∈l):only l T t=T t:=by
 unfold only;rw[if_pos (by simpa using h)]
theorem ay3{x:Cx}{T:Nat->PV}{a:Act}{o:Oper}{ao:AOp}{t:TypeId}{cs:List PV}{k:Option Nat}(hT:Temps P x n T a)(hc:compOp P own o.dst o.type o.op=some ao)(hq:opA T ao=some (t,cs,k)):MadeA P a x o t cs k:=by
 cases ho:o.op with
 |box t y=>
  rw[ho]at hc;simp only[compOp,Option.some.injEq]at hc;subst hc;cases hown:(o.dst.any λd=>own.contains d)with
  |false=>rw[hown]at hq;simp[opA]at hq
  |true=>rw[hown]at hq;exact bq0 hT ho hq
 |alloc t=>
  rw[ho]at hc;simp only[compOp,Option.bind_eq_bind,Option.bind_eq_some_iff,Option.pure_def,Option.some.injEq]at hc;obtain⟨i,hi,z,hz,hc⟩:=hc;subst hc;cases hown:(o.dst.any λd=>own.contains d)with
  |false=>rw[hown]at hq;simp[opA]at hq
  |true=>rw[hown]at hq;exact ax3 ho hi hz hq
 |buildSlice t len parts=>rw[ho]at hc;exact aw6 hT ho hc hq
 |makeSlice t l c=>rw[ho]at hc;exact an1 hT ho hc hq
 |makeMap t r'=>
  rw[ho]at hc;exfalso;cases r' with
  |none=>
   simp only[compOp]at hc;split at hc
   ·simp only[Option.some.injEq]at hc;subst hc;simp[opA]at hq
   ·cases hc
  |some v=>simp[compOp]at hc
 |build t parts=>
  rw[ho]at hc;exfalso;simp only[compOp,Option.bind_eq_bind,Option.bind_eq_some_iff]at hc;obtain⟨_,_,_,_,hc⟩:=hc;split at hc
  ·simp only[Option.bind_eq_some_iff]at hc;obtain⟨_,_,hc⟩:=hc;split at hc
   ·simp only[Option.pure_def,Option.some.injEq]at hc;subst hc;simp[opA]at hq
   ·cases hc
  ·simp only[Option.bind_eq_some_iff]at hc;obtain⟨_,_,_,_,hc⟩:=hc;split at hc
   ·simp only[Option.pure_def,Option.some.injEq]at hc;subst hc;simp[opA]at hq
   ·cases hc
  ·cases hc
 |call c=>
  rw[ho]at hc;obtain⟨callee,args,ats⟩:=c;exfalso;simp only[compOp]at hc;split at hc;all_goals try(simp only[Option.some.injEq]at hc;subst hc;simp[opA]at hq;done)
  ·repeat' (split at hc)
   all_goals first
    |(cases hc;done)
    |(simp only[Option.bind_eq_bind,Option.bind_eq_some_iff]at hc
      obtain⟨_,_,_,_,hc⟩:=hc;split at hc
      ·simp only[Option.pure_def,Option.some.injEq]at hc;subst hc;simp[opA]at hq
      ·cases hc)
  ·repeat' (split at hc)
   all_goals first
    |(cases hc;done)
    |(simp only[Option.bind_eq_bind,Option.bind_eq_some_iff]at hc
      obtain⟨_,_,hc⟩:=hc;simp only[Option.pure_def,Option.some.injEq]at hc;subst hc;simp[opA]at hq)
  ·repeat' (split at hc)
   all_goals first
    |(simp only[Option.some.injEq]at hc;subst hc;simp[opA]at hq;done)
    |(simp only[Option.bind_eq_bind,Option.bind_eq_some_iff]at hc
      obtain⟨_,_,_,_,hc⟩:=hc;split at hc
      ·simp only[Option.pure_def,Option.some.injEq]at hc;subst hc;simp[opA]at hq
      ·cases hc)
 |lookup t y i ok=>
  rw[ho]at hc;exfalso;simp only[compOp]at hc;split at hc
  ·simp only[Option.bind_eq_bind,Option.bind_eq_some_iff,Option.pure_def,Option.some.injEq]at hc;obtain⟨_,_,_,_,hc⟩:=hc;split at hc
   ·simp only[Option.some.injEq]at hc;subst hc;simp[opA]at hq
   ·first|(cases hc;done)|(simp only[Option.some.injEq]at hc;subst hc;simp[opA]at hq)
  ·cases hc
 |_=>
  rw[ho]at hc;exfalso;simp only[compOp]at hc
  repeat' (split at hc)
  all_goals first
   |(cases hc;done)
   |(simp only[Option.some.injEq]at hc;subst hc;simp[opA]at hq;done)
   |(simp only[Option.bind_eq_bind,Option.bind_eq_some_iff,Option.pure_def,Option.ite_none_left_eq_some,Option.some.injEq]at hc
     repeat(first|(obtain⟨_,hc⟩:=(hc:∃_,_))|(obtain⟨_,hc⟩:=(hc:_/\_)))
     subst hc;simp[opA]at hq)
theorem Mid.step(X:Text P own n ops al ss T0 h0){listed:Array Bool}{e:Nat}{a:Act}{y:Cx}(M:Mid P n ops al ss T0 h0 w0 F0 x0 listed e a y){i:Nat}(hi:i∈Region.ready .any ops listed){Q:Exit->Act->World->Prop}:
 wpOp P ops Q i (λa' w'=>∃e' y',y'.w=w'/\Mid P n ops al ss T0 h0 w0 F0 x0 (listed.setIfInBounds i true) e' a' y') a y.w:=by
 obtain⟨hun,o,ho,hall⟩:=mem_ready.1 hi;have hisz:i < listed.size:=by rw[M.size];exact(Array.getElem?_eq_some_iff.1 ho).1
 have hil:i < al.length:=by rw[X.len,<-M.size];exact hisz
 have hnot:listed.getD i false=false:=by
  have:listed.getD i true=listed.getD i false:=by simp[Array.getD_eq_getD_getElem?,hisz]
  rw[<-this];exact hun
 obtain⟨ao,hfl,hao,hco⟩:=X.get ho;obtain⟨hdst,hcop,hdn,hgd⟩:=rx hco;have hstep:=X.run i ao hao;have hset:=ob hisz
 -- what must stand before i, has come
 have before:∀j bo,al[j]?=some bo->j < i->needs bo ao=true->listed.getD j false=true:=λj bo hj hji hn=>
  ar9 X M.down hisz ho hall V (aq3 X.chk hj hao hji hn)
 -- what must wait for i, has not come
 have behind:∀j bo,al[j]?=some bo->i < j->needs ao bo=true->listed.getD j false=false:=λj bo hj hij hn=>by
  cases hl:listed.getD j false with
  |false=>rfl
  |true=>
   have:=an4 X M.down hl (aq3 X.chk hao hj hij hn);rw[hnot]at this;cases this
 have hdstOf:∀j t,dstOf al j=some t->∃bo,al[j]?=some bo/\bo.dst=some t:=by
  intro j t h;simp only[dstOf,Option.bind_eq_some_iff]at h;exact h
 have hlooks:∀t∈ao.looks,TT al ss allD T0 i t=TT al ss (λj=>listed.getD j false) T0 al.length t:=by
  intro t ht;refine(TT_at (λj hj hd=>?_) (λj hj hd=>?_) al.length V).symm
  ·obtain⟨bo,hb,hbd⟩:=hdstOf j t hd;exact before j bo hb hj (bh4 hbd ht)
  ·obtain⟨bo,hb,hbd⟩:=hdstOf j t hd;by_cases hji:j=i
   ·subst hji;exact hnot
   ·exact behind j bo hb V (ba6 hbd ht)
 have hput:∀D',(∀j,D' j=((listed.setIfInBounds i true).getD j false))->TT al ss D' T0 al.length=updO (TT al ss (λj=>listed.getD j false) T0 al.length) o.dst (resOf ss i):=by
  intro D' hD';have hdi:dstOf al i=o.dst:=by simp only[dstOf,hao,Option.bind_some,hdst]
  rw[<-hdi];refine TT_put (D:=λj=>listed.getD j false) hil hnot (λj=>by rw[hD',hset]) (λj t hij hDj hdi' hdj=>?_);obtain⟨bo,hb,hbd⟩:=hdstOf j t hdj;have h1:=behind j bo hb hij (bg5 (by rw[<-hdi',hdi,hdst]) hbd);rw[h1]at hDj;cases hDj
 have hTs:Temps P y n (only ao.looks (TT al ss allD T0 i)) a:=M.tmp.only hlooks;have hguard:∀g,guardF (TT al ss allD T0 i) ao.guard=some g->Region.wanted o (yielded ops a.tmps)=g:=λg hg=>
  wz hTs hgd (by rw[au1 (T':=TT al ss allD T0 i) λt ht=>bn2 ht];exact hg)
 have hopers:∀z∈ao.op.opers,ev (only ao.looks (TT al ss allD T0 i)) z=ev (TT al ss allD T0 i) z:=vu λt ht=>bn2 ht;have down':∀(j:Nat) o',(listed.setIfInBounds i true).getD j false=true->ops[j]?=some o'->∀ed∈o'.after,Region.binds .any ed=true->(listed.setIfInBounds i true).getD ed.on false=true:=by
  intro j o' hj ho' ed hed hb;rw[hset]at hj⊢;simp only[Bool.or_eq_true]at hj;rcases hj with hj|hj
  ·rw[M.down j o' hj ho' ed hed hb];rfl
  ·have:j=i:=by simpa using hj
   subst this;rw[ho]at ho';simp only[Option.some.injEq]at ho';subst ho';rw[hall ed hed hb];rfl
 unfold wpOp;rw[ho];by_cases hbar:ao.op.bar=true
 · -- a stop: it is the next one
  have hisb:isBar al i=true:=by simp[isBar,hao,hbar]
  have hie:i=e:=by
   rcases Nat.lt_trichotomy i e with h|h|h
   ·have:=M.lo i h hisb;rw[hnot]at this;cases this
   ·exact h
   ·have hel:e < al.length:=by omega
    have hget:=List.getElem?_eq_getElem hel;have hb:=M.bar hel;simp only[isBar,hget,Option.map_some,Option.getD_some]at hb;have:=before e _ hget h (vp hb);rw[M.hi e (Nat.le_refl _)]at this;cases this
  subst hie;obtain⟨e',he1,he2,he3,he4⟩:=ak3 al (al.length-(i+1)) (i+1) V;have fin:∀(v:Value)(y':Cx),RelP P w0 F0 (hOf h0 ss (i+1)) y'->Ext y y'->VR P y' (resOf ss i) v->(∀id ver,ver < (hOf h0 ss i).nv->y.J id ver=none->y'.J id ver=none)->
   (∀j,j < i->listed.getD j false=false->∀b,(hOf h0 ss (j+1)).bl[(hOf h0 ss j).bl.length]?=some b->(hOf h0 ss (i+1)).bl[(hOf h0 ss j).bl.length]?=some b)->
   Mid P n ops al ss T0 h0 w0 F0 x0 (listed.setIfInBounds i true) e' (a.put o.dst v) y':=by
   intro v y' R' E hv hJ hkeep;have Ron:=X.onward (j:=i+1) (k:=e') he1 he2 he4 R';refine⟨by simp[M.size],down',he2,he3,λj hj hb=>?_,λj hj=>?_,Ron,λj hj hl id ver h1 h2=>?_,λj hj hl b hb=>?_,?_,M.ext.trans E⟩
   ·rw[hset];by_cases hji:j=i
    ·subst hji;simp
    ·rcases Nat.lt_or_ge j i with h|h
     ·rw[M.lo j h hb];rfl
     ·have:=he4 j V hj;rw[hb]at this;cases this
   ·rw[hset,M.hi j V,show(j==i)=false by simp;omega];rfl
   ·rw[hset]at hl;simp only[Bool.or_eq_false_iff]at hl;have hji:j≠i:=by simpa using hl.2
    rcases Nat.lt_or_ge j i with h|h
    ·have:=X.nv (j:=j+1) (k:=i) V V;exact hJ id ver V (M.fut j h hl.1 id ver h1 h2)
    ·exact R'.fresh id ver (Nat.le_trans (X.nv V V) h1)
   ·rw[hset]at hl;simp only[Bool.or_eq_false_iff]at hl;have hji:j≠i:=by simpa using hl.2
    rcases Nat.lt_or_ge j i with h|h
    ·exact(X.grow (j:=i+1) (k:=e') he1 he2 he4).1 _ _ (hkeep j h hl.1 b hb)
    ·exact(X.grow (j:=j+1) (k:=e') V he2 λm h1 h2=>he4 m V h2).1 _ _ hb
   ·have:=(M.tmp.ext E).put (d:=o.dst) hdn hv;rw[<-hput _ (λj=>rfl)]at this;exact this
  rcases hstep with⟨hg,hr,hh⟩|⟨hg,hrest⟩
  ·simp only[hguard false hg,Bool.false_eq_true,if_false];have R':RelP P w0 F0 (hOf h0 ss (i+1)) y:=by rw[hh];exact M.rel
   exact⟨e',y,O,fin undef y R' (Ext.refl y) (by rw[hr];exact⟨[],O,by simp[VRV]⟩) (λ_ _ _ hn=>hn) λj hj hl b hb=>by rw[hh];exact M.ent j hj hl b hb⟩
  ·simp only[hguard true hg,if_true];refine .inl ?_;rcases hrest with⟨hk,_,_⟩|⟨hk,hq⟩|⟨hk,_,_⟩
   ·simp[AOp.bar,hk]at hbar
   ·have hq':opL (only ao.looks (TT al ss allD T0 i)) (hOf h0 ss i) ao.op=some (resOf ss i,hOf h0 ss (i+1)):=by rw[ao2 hopers];exact hq
    obtain⟨nx,v,y',hr,hn,R',E,hv,hJ⟩:=ao1 M.rel hTs hcop hq';refine sw hr hn ⟨e',y',O,fin v y' R' E hv hJ λj hj hl b hb=>?_⟩;have hb2:=M.ent j hj hl b hb;refine bq1 hq' hb2 λz hz=>?_
    -- the entry of an operation still to come bears a number that is not yet in the world
    have hver:b.ver=(hOf h0 ss j).nv/\(hOf h0 ss j).nv < (hOf h0 ss (j+1)).nv:=by
     have hget:=List.getElem?_eq_getElem (show j < al.length by omega);have hnb:(al[j]' V).op.bar=false:=by
      cases hbb:(al[j]' V).op.bar with
      |false=>rfl
      |true=>
       have:=M.lo j hj (by simp[isBar,hget,hbb]);rw[hl]at this;cases this
     rcases(X.run j _ hget).nonbar hnb with e1|⟨t,cs,k,_,_,_,e1⟩
     ·rw[e1]at hb;rw[List.getElem?_eq_none (Nat.le_refl _)]at hb;cases hb
     ·rw[e1]at hb⊢;simp only[newBlk]at hb;rw[List.getElem?_append_right (Nat.le_refl _)]at hb;simp only[Nat.sub_self,List.getElem?_cons_zero,Option.some.injEq]at hb;rw[<-hb];exact⟨O,Nat.lt_succ_self _⟩
    have hnone:=M.fut j hj hl (hOf h0 ss j).bl.length (hOf h0 ss j).nv (Nat.le_refl _) hver.2;have hvz:=hTs.ev z;refine⟨⟨λoff he=>?_,λoff k he=>?_⟩,λhe=>?_⟩
    ·rw[he]at hvz;simp only[VR,AsVal,PV.isAgg,VRC,List.cons.injEq,and_true]at hvz;obtain⟨_,hjj,_⟩:=hvz;rw[hver.1,hnone]at hjj;cases hjj
    ·rw[he]at hvz;simp only[VR,AsVal,PV.isAgg,VRC,List.cons.injEq,and_true]at hvz;obtain⟨_,_,hjj,_⟩:=hvz;rw[hver.1,hnone]at hjj;cases hjj
    ·rw[he]at hvz;simp only[VR,AsVal,PV.isAgg,VRC,List.cons.injEq,and_true]at hvz;obtain⟨_,hjj,_⟩:=hvz;rw[hver.1,hnone]at hjj;cases hjj
   ·simp[AOp.bar,hk]at hbar
 · -- no stop: it stands before the next one
  have hbar:ao.op.bar=false:=by simpa using hbar
  have hie:i < e:=by
   rcases Nat.lt_or_ge i e with h|h
   ·exact h
   ·by_cases he:e=i
    ·subst he;have:=M.bar hil;simp[isBar,hao,hbar]at this
    ·have hel:e < al.length:=by omega
     have hget:=List.getElem?_eq_getElem hel;have hb:=M.bar hel;simp only[isBar,hget,Option.map_some,Option.getD_some]at hb;have:=before e _ hget V (vp hb);rw[M.hi e (Nat.le_refl _)]at this;cases this
  have hnob:(ao.hf||ao.op.isA)=false->∀m,i<=m->m < e->isBar al m=false:=by
   intro hlate m h1 h2;cases hb:isBar al m with
   |false=>rfl
   |true=>
    by_cases hmi:m=i
    ·subst hmi;simp[isBar,hao,hbar]at hb
    ·have hget:=List.getElem?_eq_getElem (show m < al.length by have:=M.le;omega);have hb':(al[m]'(by have:=M.le;omega)).op.bar=true:=by simpa[isBar,hget]using hb
     have h3:=behind m _ hget V (ag5 hb' hlate);rw[M.lo m h2 hb]at h3;cases h3
  have hg1:ao.op.isA=false->Sub (seen ao.hf (hOf h0 ss i)) (hOf h0 ss e):=by
   intro hnA;cases hhf:ao.hf with
   |true=>intro id b hb;simp[seen]at hb
   |false=>exact(X.grow (j:=i) (k:=e) V M.le (hnob (by rw[hhf,hnA];rfl))).1
  have hnotA:ao.op.kind≠1->ao.op.isA=false:=λhk=>by
   cases hA:ao.op.isA with
   |false=>rfl
   |true=>exact absurd (cd0 hA) hk
  have fin:∀(v:Value)(y':Cx),RelP P w0 F0 (hOf h0 ss e) y'->Ext y y'->VR P y' (resOf ss i) v->(∀j,j < e->j≠i->listed.getD j false=false->∀id ver,(hOf h0 ss j).nv<=ver->ver < (hOf h0 ss (j+1)).nv->y'.J id ver=none)->
   Mid P n ops al ss T0 h0 w0 F0 x0 (listed.setIfInBounds i true) e (a.put o.dst v) y':=by
   intro v y' R' E hv hfut;refine⟨by simp[M.size],down',M.le,M.bar,λj hj hb=>by rw[hset,M.lo j hj hb];rfl,λj hj=>?_,R',λj hj hl id ver h1 h2=>?_,λj hj hl b hb=>?_,?_,M.ext.trans E⟩
   ·rw[hset,M.hi j hj,show(j==i)=false by simp;omega];rfl
   ·rw[hset]at hl;simp only[Bool.or_eq_false_iff]at hl;exact hfut j hj (by simpa using hl.2) hl.1 id ver h1 h2
   ·rw[hset]at hl;simp only[Bool.or_eq_false_iff]at hl;exact M.ent j hj hl.1 b hb
   ·have:=(M.tmp.ext E).put (d:=o.dst) hdn hv;rw[<-hput _ (λj=>rfl)]at this;exact this
  rcases hstep with⟨hg,hr,hh⟩|⟨hg,hrest⟩
  ·simp only[hguard false hg,Bool.false_eq_true,if_false];exact⟨e,y,O,fin undef y M.rel (Ext.refl y) (by rw[hr];exact⟨[],O,by simp[VRV]⟩) λj hj _ hl=>M.fut j hj hl⟩
  ·simp only[hguard true hg,if_true];refine .inl ?_;have quiet:∀(v:Value)(z:Cx),Grow y z->VR P z (resOf ss i) v->∃e' y',y'.w=z.w/\Mid P n ops al ss T0 h0 w0 F0 x0 (listed.setIfInBounds i true) e' (a.put o.dst v) y':=λv z g hv=>
    ⟨e,z,rfl,fin v z (M.rel.grow g) (M.rel.ext_of_grow g) hv λj hj _ hl id ver h1 h2=>by rw[g.J];exact M.fut j hj hl id ver h1 h2⟩
   rcases hrest with⟨hk,hq,hh⟩|⟨hk,hq⟩|⟨hk,hh,f,args,g,as,hop,hcal,hD⟩
   ·have hq':opQ P (only ao.looks (TT al ss allD T0 i)) (hOf h0 ss e) ao.op=some (resOf ss i):=by
     rw[ae7 hopers];exact am8 (hg1 (hnotA (by rw[hk];simp))) hq
    obtain⟨v,z,hr,gr,hv⟩:=ad8 M.rel hTs hcop hq';exact sw hr (.inl O) (quiet v z gr hv)
   · -- a new block of the call's own
    have hA:ao.op.isA=true:=by simpa[AOp.bar,hk]using hbar
    obtain⟨t,cs,k,ha,hres,hh⟩:=ux hA hq;have ha':opA (only ao.looks (TT al ss allD T0 i)) ao.op=some (t,cs,k):=by rw[bo5 hopers];exact ha
    obtain⟨us,v,hr,hl,hv,hmk⟩:=ay3 hTs hcop ha';have hnv:(hOf h0 ss (i+1)).nv=(hOf h0 ss i).nv+1:=by rw[hh];rfl
    have hle:=X.nv (j:=i+1) (k:=e) V M.le;have hent:(hOf h0 ss e).bl[(hOf h0 ss i).bl.length]?=some (.cells (hOf h0 ss i).nv t true cs):=M.ent i hie hnot _ (by rw[hh];simp[newBlk]);have hnone:=M.fut i hie hnot (hOf h0 ss i).bl.length (hOf h0 ss i).nv (Nat.le_refl _) V;obtain⟨R',E⟩:=M.rel.newOwnAt (t:=t) (cs:=cs) (us:=us) (bl':=(hOf h0 ss e).bl) (id:=(hOf h0 ss i).bl.length) (vr:=(hOf h0 ss i).nv) (nv':=(hOf h0 ss e).nv) hl hv hnone V (Nat.le_refl _) (λk' blk hk'=>by
     by_cases hkk:k'=(hOf h0 ss i).bl.length
     ·subst hkk;rw[hent]at hk';simp only[Option.some.injEq]at hk';exact .inl ⟨O,hk'.symm⟩
     ·exact .inr ⟨hkk,hk'⟩)
    refine sw hr (.inl O) ⟨e,_,O,fin v _ R' E (by rw[hres];exact hmk _ _ _ px (heap_alloc_new _ _)) λj hj hji hl id ver h1 h2=>?_⟩;show updJ y.J _ _ _ id ver=none
    unfold updJ;rw[if_neg]
    ·exact M.fut j hj hl id ver h1 h2
    ·rintro⟨_,rfl⟩;rcases Nat.lt_or_ge j i with h|h
     ·have:=X.nv (j:=j+1) (k:=i) V V;omega
     ·have:=X.nv (j:=i+1) (k:=j) V (by have:=M.le;omega);omega
   · -- a call
    have hcal':callee (ev (only ao.looks (TT al ss allD T0 i)) f) (args.map (ev (only ao.looks (TT al ss allD T0 i))))=some (g,as):=by
     rw[hop]at hopers;rw[hopers f (by simp[AOp.opers]),ml (T':=TT al ss allD T0 i) λz hz=>hopers z (by simp[AOp.opers,hz])];exact hcal
    have hD':CallD P (hOf h0 ss e) g as (resOf ss i):=CallD_mono (hg1 (hnotA (by rw[hk];simp))) hD;obtain⟨cas,ats,hoo,rfl⟩:=wb (hop▸hcop);have hf:=hTs.ev f;unfold callee at hcal';split at hcal'
    ·rename_i g' first cap vs hfv
     simp only[Option.some.injEq,Prod.mk.injEq]at hcal';obtain⟨rfl,rfl⟩:=hcal';rw[hfv]at hf;simp only[VR,AsVal,PV.isAgg,VRC,List.cons.injEq,and_true]at hf;obtain⟨fs,cs,ef,r1,r2⟩:=hf;have hV:=VRV_append r1 (VRV_append (VRV_map hTs cas.toList) r2);obtain⟨he,hcalls⟩:=ag0 M.rel hD' hV;unfold Oper.wp;rw[ad7 hoo ef he y.w];simp only[Oper.upon];have eq:fs.toArray++cas.map a.eval++cs.toArray=(fs++(cas.toList.map a.eval++cs)).toArray:=by
      apply Array.ext';simp
     rw[eq];refine hcalls.mono λe' w' hh=>?_;obtain⟨v,z,rfl,hw,gr,hv⟩:=hh;subst hw;exact quiet v z gr hv
    ·cases hcal'
theorem af1{p q:Nat->Bool}{i:Nat}:∀(l:List Nat),(∀j∈l,q j=true->p j=true)->i∈l->p i=true->q i=false->(l.filter q).length < (l.filter p).length
 |[],_,hi,_,_=>by cases hi
 |j::l,h,hi,hp,hq=>by
  have hsub:(l.filter q).length<=(l.filter p).length:=by
   have:∀(l:List Nat),(∀j∈l,q j=true->p j=true)->(l.filter q).length<=(l.filter p).length:=by
    intro l;induction l with
    |nil=>intro _;simp
    |cons a l ih=>
     intro h;have ih:=ih λj hj=>h j (List.mem_cons_of_mem _ hj);have ha:=h a (List.mem_cons_self ..);cases hqa:q a with
     |true=>simp[hqa,ha hqa,ih]
     |false=>
      cases hpa:p a with
      |true=>simp[hqa,hpa];omega
      |false=>simp[hqa,hpa,ih]
   exact this l λj hj=>h j (List.mem_cons_of_mem _ hj)
  rcases List.mem_cons.1 hi with rfl|hi'
  ·simp[hp,hq];omega
  ·have ih:=af1 l (λj hj=>h j (List.mem_cons_of_mem _ hj)) hi' hp hq;have hj:=h j (List.mem_cons_self ..);cases hqj:q j with
   |true=>simp[hqj,hj hqj];exact ih
   |false=>
    cases hpj:p j with
    |true=>simp[hqj,hpj];omega
    |false=>simp[hqj,hpj];exact ih
def leftOver(N:Nat)(listed:Array Bool):List Nat:=(List.range N).filter λj=>!listed.getD j false
theorem bg1(X:Text P own n ops al ss T0 h0){listed:Array Bool}(hsz:listed.size=ops.size)(hr:Region.ready .any ops listed=[]):∀j,j < ops.size->listed.getD j false=true:=by
 intro j;induction j using Nat.strongRecOn with
 |_ j ih=>
  intro hj;cases hl:listed.getD j false with
  |true=>rfl
  |false=>
   have ho:=Array.getElem?_eq_getElem hj;have:j∈Region.ready .any ops listed:=by
    refine mem_ready.2 ⟨by rw[show listed.getD j true=listed.getD j false by simp[Array.getD_eq_getD_getElem?,hsz,hj]];exact hl,_,ho,λed hed hb=>?_⟩;have hlt:=bo8 X.chk ho ed (by simpa using hed) hb;exact ih ed.on hlt V
   rw[hr]at this;cases this
theorem Mid.any(X:Text P own n ops al ss T0 h0){Q:Exit->Act->World->Prop}
 (hQ:∀a y,RelP P w0 F0 (hOf h0 ss al.length) y->Ext x0 y->Temps P y n (TT al ss allD T0 al.length) a->Q .normal a y.w):
 ∀(fuel:Nat)(listed:Array Bool)(e:Nat)(a:Act)(y:Cx),Mid P n ops al ss T0 h0 w0 F0 x0 listed e a y->(leftOver ops.size listed).length<=fuel->wpAny P .any ops Q fuel listed a y.w:=by
 have done:∀(listed:Array Bool)(e:Nat)(a:Act)(y:Cx),Mid P n ops al ss T0 h0 w0 F0 x0 listed e a y->(∀j,j < ops.size->listed.getD j false=true)->Q .normal a y.w:=by
  intro listed e a y M hall;have hlen:=X.len;have he:e=al.length:=by
   rcases Nat.lt_or_ge e al.length with h|h
   ·have:=M.hi e (Nat.le_refl _);rw[hall e V]at this;cases this
   ·have:=M.le;omega
  subst he;refine hQ a y M.rel M.ext ?_;rw[<-TT_all (D:=λj=>listed.getD j false) (Nat.le_refl _) (λj hj=>hall j V) λj h1 h2=>by omega];exact M.tmp
 intro fuel;induction fuel with
 |zero=>
  intro listed e a y M hf;have hnil:leftOver ops.size listed=[]:=List.eq_nil_of_length_eq_zero V;have hall:∀j,j < ops.size->listed.getD j false=true:=by
   intro j hj;cases hl:listed.getD j false with
   |true=>rfl
   |false=>
    have:j∈leftOver ops.size listed:=by simp only[leftOver,List.mem_filter,List.mem_range];exact⟨hj,by simp[hl]⟩
    rw[hnil]at this;cases this
  refine⟨?_,done listed e a y M hall⟩;cases hr:Region.ready .any ops listed with
  |nil=>rfl
  |cons i r=>
   have hi:i∈Region.ready .any ops listed:=by rw[hr];exact List.mem_cons_self ..
   obtain⟨hun,o,ho,_⟩:=mem_ready.1 hi;have hlt:=(Array.getElem?_eq_some_iff.1 ho).1;have:=hall i hlt;rw[show listed.getD i true=listed.getD i false by simp[Array.getD_eq_getD_getElem?,M.size,hlt],this]at hun;cases hun
 |succ fuel ih=>
  intro listed e a y M hf;refine⟨λhr=>done listed e a y M (bg1 X M.size hr),λi hi=>?_⟩;refine wpOp_mono (λa' w' hh=>?_) (M.step X hi);obtain⟨e',y',rfl,M'⟩:=hh;refine ih _ e' a' y' M' ?_;obtain⟨hun,o,ho,_⟩:=mem_ready.1 hi;have hlt:=(Array.getElem?_eq_some_iff.1 ho).1;have hisz:i < listed.size:=by rw[M.size];exact hlt
  have hnot:listed.getD i false=false:=by
   rw[<-show listed.getD i true=listed.getD i false by simp[Array.getD_eq_getD_getElem?,hisz]];exact hun
  have:=af1 (p:=λj=>!listed.getD j false) (q:=λj=>!(listed.setIfInBounds i true).getD j false) (i:=i) (List.range ops.size)
   (λj _ hj=>by rw[ob hisz]at hj;cases h:listed.getD j false with|true=>rw[h]at hj;cases hj|false=>rfl)
   (List.mem_range.2 hlt) (by rw[hnot];rfl) (by rw[ob hisz];simp)
  unfold leftOver at hf⊢;omega
end
end Go.Pb
namespace Go.Pb
open Go Go.RowKit
def AOper.barU(o:AOper):Bool:=o.op.kind !=0
def needsU(x y:AOper):Bool:=
 (x.barU&&!y.hf)||(y.barU&&!x.hf)||(match x.dst with|some d=>y.looks.contains d||y.dst==some d|none=>false)||(match y.dst with|some d=>x.looks.contains d|none=>false)
def chkU(ops:Array Oper)(al:List AOper):Bool:=
 let B:=befs [] ops.toList
 ((List.range ops.size).all λj=>((ops[j]?).map λo=>o.after.toList.all λe=>!Region.binds .any e||decide (e.on < j)).getD true)&&
 (al.zipIdx.all λq=>(al.zipIdx.take q.2).all λp=>!needsU p.1 q.1||(B.getD q.2 0).testBit p.2)&&(al.all λo=>o.guard.isNone&&!(o.barU&&o.hf))
def lateU(ops:Array Oper)(al:List AOper):List Nat:=
 let B:=befs [] ops.toList
 (al.zipIdx.filter λp=>!p.1.barU&&al.zipIdx.any λq=>q.1.barU&&(if p.2 < q.2 then !(B.getD q.2 0).testBit p.2 else !(B.getD p.2 0).testBit q.2)).map (·.2)
section
variable{P:Program}{own:List Tmp}{n:Nat}{w0:World}{F0:Nat->Prop}{x0:Cx}
theorem ak1{ops:Array Oper}{al:List AOper}(h:chkU ops al=true){i j:Nat}{x y:AOper}(hi:al[i]?=some x)(hj:al[j]?=some y)(hij:i < j)(hn:needsU x y=true):
 ((befs [] ops.toList).getD j 0).testBit i=true:=by
 simp only[chkU,Bool.and_eq_true]at h;have h2:=h.1.2;rw[List.all_eq_true]at h2;have hy:=h2 (y,j) (by rw[List.mem_zipIdx_iff_getElem?];simpa using hj);simp only[List.all_eq_true]at hy;have hx:=hy (x,i) (by
  rw[List.mem_take_iff_getElem];have hlt:i < al.length:=(List.getElem?_eq_some_iff.1 hi).1;have hltj:j < al.length:=(List.getElem?_eq_some_iff.1 hj).1;refine⟨i,by simp;omega,?_⟩;have:=(List.getElem?_eq_some_iff.1 hi).2;simp[this])
 simpa[hn]using hx
theorem bf2{ops:Array Oper}{al:List AOper}(h:chkU ops al=true){j:Nat}{o:Oper}(hj:ops[j]?=some o):∀e∈o.after.toList,Region.binds .any e=true->e.on < j:=by
 simp only[chkU,Bool.and_eq_true]at h;have h1:=h.1.1;rw[List.all_eq_true]at h1;have:=h1 j (List.mem_range.2 (Array.getElem?_eq_some_iff.1 hj).1);simp only[hj,Option.map_some,Option.getD_some,List.all_eq_true]at this;intro e he hb;have:=this e he;simpa[hb]using this
theorem db2{ops:Array Oper}{al:List AOper}(h:chkU ops al=true){o:AOper}(ho:o∈al):o.guard=none/\(o.barU=true->o.hf=false):=by
 simp only[chkU,Bool.and_eq_true]at h;have h2:=h.2;rw[List.all_eq_true]at h2;have:=h2 o ho;simp only[Bool.and_eq_true,Option.isNone_iff_eq_none,Bool.not_eq_true',Bool.and_eq_false_iff]at this
 exact⟨this.1,λhb=>by rcases this.2 with h|h;·rw[hb]at h;cases h
                      ·exact h⟩
def wpU(P:Program):List AOper->(Nat->PV)->Heap->((Nat->PV)->Heap->Prop)->Prop
 |[],T,h,K=>K T h
 |o::r,T,h,K=>OpS P o.op o.hf T h λv h2=>wpU P r (updO T o.dst v) h2 K
def StepU(P:Program)(o:AOper)(T:Nat->PV)(h:Heap)(r:PV)(h':Heap):Prop:=OpS P o.op o.hf T h λv k=>v=r/\k=h'
theorem OpD_oneU{o:AOp}{hf:Bool}{T:Nat->PV}{h:Heap}{K:PV->Heap->Prop}(H:OpD P o hf T h K):∃v h',K v h'/\∀K':PV->Heap->Prop,K' v h'->OpD P o hf T h K':=by
 unfold OpD at H;split at H
 ·rename_i hk;obtain⟨r,h1,h2⟩:=H;exact⟨r,h,h2,λK' hK=>by unfold OpD;rw[hk];exact⟨r,h1,hK⟩⟩
 ·rename_i hk;obtain⟨r,h',h1,h2⟩:=H;exact⟨r,h',h2,λK' hK=>by unfold OpD;rw[hk];exact⟨r,h',h1,hK⟩⟩
 ·rename_i hk;split at H
  ·obtain⟨g,as,h1,r,h2,h3⟩:=H;exact⟨r,h,h3,λK' hK=>by unfold OpD;rw[hk];exact⟨g,as,h1,r,h2,hK⟩⟩
  ·exact H.elim
 ·exact H.elim
theorem OpS_oneU{o:AOp}{hf:Bool}{T:Nat->PV}{h:Heap}{K:PV->Heap->Prop}(H:OpS P o hf T h K):∃v h',K v h'/\∀K':PV->Heap->Prop,K' v h'->OpS P o hf T h K':=by
 rcases H with H|⟨f,args,g,as,r,h',e,hc,hF,hk⟩|⟨g,as,r,h',hI,hF,hk⟩
 ·obtain⟨v,h',h1,h2⟩:=OpD_oneU H;exact⟨v,h',h1,λK' hK=> .inl (h2 K' hK)⟩
 ·exact⟨r,h',hk,λK' hK=> .inr (.inl ⟨f,args,g,as,r,h',e,hc,hF,hK⟩)⟩
 ·exact⟨r,h',hk,λK' hK=> .inr (.inr ⟨g,as,r,h',hI,hF,hK⟩)⟩
theorem ae9(s:Stp)(ss:List Stp)(h0:Heap):∀k,k<=ss.length->hOf h0 (s::ss) (k+1)=hOf s.h ss k
 |0,_=>by simp[hOf]
 |k+1,hk=>by
  simp only[hOf,List.getElem?_cons_succ];rw[List.getElem?_eq_getElem V];rfl
theorem runU:∀(al:List AOper)(T:Nat->PV)(h:Heap)(K:(Nat->PV)->Heap->Prop),wpU P al T h K->∃ss:List Stp,ss.length=al.length/\
 (∀k o,al[k]?=some o->StepU P o (TT al ss allD T k) (hOf h ss k) (resOf ss k) (hOf h ss (k+1)))/\K (TT al ss allD T al.length) (hOf h ss al.length)
 |[],T,h,K,H=>⟨[],rfl,λk o hk=>by simp at hk,H⟩
 |o::al,T,h,K,H=>by
  obtain⟨v,h',h1,h2⟩:=OpS_oneU H;obtain⟨ss,e1,e2,e3⟩:=runU al _ _ _ h1;refine⟨⟨v,h'⟩::ss,by simp[e1],λk o' hk=>?_,?_⟩
  ·cases k with
   |zero=>
    simp only[List.getElem?_cons_zero,Option.some.injEq]at hk;subst hk;exact h2 _ ⟨O,O⟩
   |succ k=>
    have hk':al[k]?=some o':=by simpa using hk
    have hlt:k < al.length:=(List.getElem?_eq_some_iff.1 hk').1;rw[TT_shift,ae9 _ _ _ _ V,ae9 _ _ _ _ V];have:resOf (⟨v,h'⟩::ss) (k+1)=resOf ss k:=by simp[resOf]
    rw[this];exact e2 k o' hk'
  ·simp only[List.length_cons];rw[TT_shift,ae9 _ _ _ _ V];exact e3
theorem OpS_congr{o:AOper}{hf:Bool}{T T':Nat->PV}{h:Heap}{K:PV->Heap->Prop}(he:∀t∈o.looks,T t=T' t)(H:OpS P o.op hf T h K):OpS P o.op hf T' h K:=by
 have ho:=vu (T:=T) (T':=T') he;rcases H with H|⟨f,args,g,as,r,h',e,hc,hF,hk⟩|⟨g,as,r,h',⟨xo,name,args,t,v,e,hx,hm,ea⟩,hF,hk⟩
 ·left;unfold OpD at H⊢;split at H
  ·rename_i hk;obtain⟨r,h1,h2⟩:=H;exact⟨r,by rw[<-ae7 ho];exact h1,h2⟩
  ·rename_i hk;obtain⟨r,h',h1,h2⟩:=H;exact⟨r,h',by rw[<-ao2 ho];exact h1,h2⟩
  ·rename_i hk;split at H
   ·rename_i f args hop;rw[hop]at ho;obtain⟨g,as,h1,h2⟩:=H;refine⟨g,as,?_,h2⟩;rw[<-ho f (by simp[AOp.opers]),<-ml (T:=T) λz hz=>ho z (by simp[AOp.opers,hz])];exact h1
   ·exact H.elim
  ·exact H.elim
 ·right;left;rw[e]at ho;refine⟨f,args,g,as,r,h',e,?_,hF,hk⟩;rw[<-ho f (by simp[AOp.opers]),<-ml (T:=T) λz hz=>ho z (by simp[AOp.opers,hz])];exact hc
 ·right;right;rw[e]at ho;refine⟨g,as,r,h',⟨xo,name,args,t,v,e,?_,hm,?_⟩,hF,hk⟩
  ·rw[<-ho xo (by simp[AOp.opers])];exact hx
  ·rw[<-ml (T:=T) λz hz=>ho z (by simp[AOp.opers,hz])];exact ea
variable{ops:Array Oper}{al:List AOper}{ss:List Stp}{T0:Nat->PV}{h0:Heap}
structure TextU(P:Program)(own:List Tmp)(n:Nat)(ops:Array Oper)(al:List AOper)(ss:List Stp)(T0:Nat->PV)(h0:Heap):Prop where
 comp:∃hfs,compOps P own n ops hfs 0 ops.toList=some al
 chk:chkU ops al=true
 run:∀k o,al[k]?=some o->StepU P o (TT al ss allD T0 k) (hOf h0 ss k) (resOf ss k) (hOf h0 ss (k+1))
theorem TextU.len(X:TextU P own n ops al ss T0 h0):al.length=ops.size:=by
 obtain⟨hfs,hc⟩:=X.comp;have:=(re hc).1;simpa using this
theorem TextU.get(X:TextU P own n ops al ss T0 h0){k:Nat}{o:Oper}(hk:ops[k]?=some o):∃ao hf,al[k]?=some ao/\compO P own n ops hf o=some ao:=by
 obtain⟨hfs,hc⟩:=X.comp;exact(re hc).2 k o (by simpa using hk)
def isBarU(al:List AOper)(k:Nat):Bool:=((al[k]?).map (·.barU)).getD false
theorem al5{o:AOper}{T:Nat->PV}{h:Heap}{r:PV}{h':Heap}(hb:o.barU=false)(H:StepU P o T h r h'):h'=h/\opQ P T (seen o.hf h) o.op=some r:=by
 have hk:o.op.kind=0:=by simpa[AOper.barU]using hb
 rcases H with H|⟨f,args,g,as,r',h2,e,_⟩|⟨g,as,r',h2,⟨xo,name,args,t,v,e,_⟩,_⟩
 ·unfold OpD at H;rw[hk]at H;obtain⟨r',h1,rfl,rfl⟩:=H;exact⟨O,h1⟩
 ·rw[e]at hk;cases hk
 ·rw[e]at hk;cases hk
theorem TextU.same(X:TextU P own n ops al ss T0 h0):∀{j k:Nat},j<=k->k<=al.length->(∀m,j<=m->m < k->isBarU al m=false)->hOf h0 ss k=hOf h0 ss j:=by
 intro j k hjk;induction k with
 |zero=>intro _ _;have:j=0:=by omega
        subst this;rfl
 |succ k ih=>
  intro hk hb;by_cases e:j=k+1
  ·subst e;rfl
  ·have h1:=ih V V λm hm hm'=>hb m hm V;have hget:=List.getElem?_eq_getElem (show k < al.length by omega);have hnb:(al[k]' V).barU=false:=by
    have:=hb k V V;simpa[isBarU,hget]using this
   rw[(al5 hnb (X.run k _ hget)).1,h1]
structure MidU(P:Program)(n:Nat)(ops:Array Oper)(al:List AOper)(ss:List Stp)(T0:Nat->PV)(h0:Heap)(w0:World)(F0:Nat->Prop)(x0:Cx)(listed:Array Bool)(e:Nat)(a:Act)(y:Cx):Prop where
 size:listed.size=ops.size
 down:∀(j:Nat) o,listed.getD j false=true->ops[j]?=some o->∀ed∈o.after,Region.binds .any ed=true->listed.getD ed.on false=true
 le:e<=al.length
 bar:e < al.length->isBarU al e=true
 lo:∀j,j < e->isBarU al j=true->listed.getD j false=true
 hi:∀j,e<=j->isBarU al j=true->listed.getD j false=false
 rel:RelP P w0 F0 (hOf h0 ss e) y
 tmp:Temps P y n (TT al ss (λj=>listed.getD j false) T0 al.length) a
 ext:Ext x0 y
theorem ak6{listed:Array Bool}(down:∀(j:Nat) o,listed.getD j false=true->ops[j]?=some o->∀ed∈o.after,Region.binds .any ed=true->listed.getD ed.on false=true)
 {j:Nat}(hj:listed.getD j false=true){i:Nat}(hb:((befs [] ops.toList).getD j 0).testBit i=true):listed.getD i false=true:=
 sv (D:=λk=>listed.getD k false) ops.toList [] OZ (λk o hk hD ed hed hbind=>down k o (by simpa using hD) (by simpa using hk) ed (by simpa using hed) hbind) j hj i hb
theorem an5{listed:Array Bool}(down:∀(j:Nat) o,listed.getD j false=true->ops[j]?=some o->∀ed∈o.after,Region.binds .any ed=true->listed.getD ed.on false=true)
 {i:Nat}{o:Oper}(hi:i < listed.size)(ho:ops[i]?=some o)(hall:∀ed∈o.after,Region.binds .any ed=true->listed.getD ed.on false=true){j:Nat}(hji:j≠i)
 (hb:((befs [] ops.toList).getD i 0).testBit j=true):listed.getD j false=true:=by
 have hset:=ob (listed:=listed) hi;have:=sv (D:=λk=>(listed.setIfInBounds i true).getD k false) ops.toList [] OZ (λk o' hk hD ed hed hbind=>by
  simp only[hset]at hD⊢;simp only[List.length_nil,Nat.zero_add,Bool.or_eq_true]at hD;rcases hD with hD|hD
  ·rw[down k o' hD (by simpa using hk) ed (by simpa using hed) hbind];rfl
  ·have hki:k=i:=by simpa using hD
   subst hki;have:o'=o:=by
    have h1:ops[k]?=some o':=by simpa using hk
    rw[ho]at h1;simpa using h1.symm
   subst this;rw[hall ed (by simpa using hed) hbind];rfl) i (by simp only[hset];simp) j hb
 simp only[hset]at this;rw[show(j==i)=false by simpa using hji,Bool.or_false]at this;exact this
theorem ch0{x y:AOper}{t:Tmp}(hd:x.dst=some t)(hl:t∈y.looks):needsU x y=true:=by
 have:y.looks.contains t=true:=by simpa using hl
 simp only[needsU,hd,this,Bool.true_or,Bool.or_true]
theorem bx8{x y:AOper}{t:Tmp}(hd:y.dst=some t)(hl:t∈x.looks):needsU x y=true:=by
 have:x.looks.contains t=true:=by simpa using hl
 simp only[needsU,hd,this,Bool.or_true]
theorem db5{x y:AOper}{t:Tmp}(hd:x.dst=some t)(he:y.dst=some t):needsU x y=true:=by
 simp only[needsU,hd,he,beq_self_eq_true,Bool.or_true,Bool.true_or]
theorem br5{x y:AOper}(hx:x.barU=true)(hy:y.hf=false):needsU x y=true:=by simp[needsU,hx,hy]
theorem cw1{x y:AOper}(hy:y.barU=true)(hx:x.hf=false):needsU x y=true:=by simp[needsU,hx,hy]
theorem ae2(al:List AOper):∀(m k:Nat),k+m=al.length->∃e,k<=e/\e<=al.length/\(e < al.length->isBarU al e=true)/\∀j,k<=j->j < e->isBarU al j=false
 |0,k,hk=>⟨k,Nat.le_refl _,by omega,λh=>by omega,λj h1 h2=>by omega⟩
 |m+1,k,hk=>by
  cases hb:isBarU al k with
  |true=>exact⟨k,Nat.le_refl _,by omega,λ_=>hb,λj h1 h2=>by omega⟩
  |false=>
   obtain⟨e,h1,h2,h3,h4⟩:=ae2 al m (k+1) V;refine⟨e,by omega,h2,h3,λj h5 h6=>?_⟩;by_cases hj:j=k
   ·rw[hj];exact hb
   ·exact h4 j V h6
theorem MidU.step(X:TextU P own n ops al ss T0 h0){listed:Array Bool}{e:Nat}{a:Act}{y:Cx}(M:MidU P n ops al ss T0 h0 w0 F0 x0 listed e a y){i:Nat}(hi:i∈Region.ready .any ops listed){Q:Exit->Act->World->Prop}:
 wpOp P ops Q i (λa' w'=>∃e' y',y'.w=w'/\MidU P n ops al ss T0 h0 w0 F0 x0 (listed.setIfInBounds i true) e' a' y') a y.w:=by
 obtain⟨hun,o,ho,hall⟩:=mem_ready.1 hi;have hisz:i < listed.size:=by rw[M.size];exact(Array.getElem?_eq_some_iff.1 ho).1
 have hil:i < al.length:=by rw[X.len,<-M.size];exact hisz
 have hnot:listed.getD i false=false:=by
  have:listed.getD i true=listed.getD i false:=by simp[Array.getD_eq_getD_getElem?,hisz]
  rw[<-this];exact hun
 obtain⟨ao,hfl,hao,hco⟩:=X.get ho;obtain⟨hdst,hcop,hdn,hgd⟩:=rx hco;obtain⟨hgn,hbf⟩:=db2 X.chk (List.mem_of_getElem? hao);have hstep:=X.run i ao hao;have hset:=ob hisz;have before:∀j bo,al[j]?=some bo->j < i->needsU bo ao=true->listed.getD j false=true:=λj bo hj hji hn=>
  an5 M.down hisz ho hall V (ak1 X.chk hj hao hji hn)
 have behind:∀j bo,al[j]?=some bo->i < j->needsU ao bo=true->listed.getD j false=false:=λj bo hj hij hn=>by
  cases hl:listed.getD j false with
  |false=>rfl
  |true=>
   have:=ak6 M.down hl (ak1 X.chk hao hj hij hn);rw[hnot]at this;cases this
 have hdstOf:∀j t,dstOf al j=some t->∃bo,al[j]?=some bo/\bo.dst=some t:=by
  intro j t h;simp only[dstOf,Option.bind_eq_some_iff]at h;exact h
 have hlooks:∀t∈ao.looks,TT al ss allD T0 i t=TT al ss (λj=>listed.getD j false) T0 al.length t:=by
  intro t ht;refine(TT_at (λj hj hd=>?_) (λj hj hd=>?_) al.length V).symm
  ·obtain⟨bo,hb,hbd⟩:=hdstOf j t hd;exact before j bo hb hj (ch0 hbd ht)
  ·obtain⟨bo,hb,hbd⟩:=hdstOf j t hd;by_cases hji:j=i
   ·subst hji;exact hnot
   ·exact behind j bo hb V (bx8 hbd ht)
 have hput:TT al ss (λj=>(listed.setIfInBounds i true).getD j false) T0 al.length=updO (TT al ss (λj=>listed.getD j false) T0 al.length) o.dst (resOf ss i):=by
  have hdi:dstOf al i=o.dst:=by simp only[dstOf,hao,Option.bind_some,hdst]
  rw[<-hdi];refine TT_put (D:=λj=>listed.getD j false) hil hnot (λj=>by rw[hset]) (λj t hij hDj hdi' hdj=>?_);obtain⟨bo,hb,hbd⟩:=hdstOf j t hdj;have h1:=behind j bo hb hij (db5 (by rw[<-hdi',hdi,hdst]) hbd);rw[h1]at hDj;cases hDj
 have down':∀(j:Nat) o',(listed.setIfInBounds i true).getD j false=true->ops[j]?=some o'->∀ed∈o'.after,Region.binds .any ed=true->(listed.setIfInBounds i true).getD ed.on false=true:=by
  intro j o' hj ho' ed hed hb;rw[hset]at hj⊢;simp only[Bool.or_eq_true]at hj;rcases hj with hj|hj
  ·rw[M.down j o' hj ho' ed hed hb];rfl
  ·have:j=i:=by simpa using hj
   subst this;rw[ho]at ho';simp only[Option.some.injEq]at ho';subst ho';rw[hall ed hed hb];rfl
 unfold wpOp;rw[ho];have hwant:Region.wanted o (yielded ops a.tmps)=true:=by
  rcases hgd with⟨h1,_⟩|⟨j,want,oj,d,_,_,_,_,h5⟩
  ·simp[Region.wanted,h1]
  ·rw[hgn]at h5;cases h5
 simp only[hwant,if_true];left;cases hbar:ao.barU with
 |true=>
  have hff:=hbf hbar;have hisb:isBarU al i=true:=by simp[isBarU,hao,hbar]
  have hie:i=e:=by
   rcases Nat.lt_trichotomy i e with h|h|h
   ·have:=M.lo i h hisb;rw[hnot]at this;cases this
   ·exact h
   ·have hel:e < al.length:=by omega
    have hget:=List.getElem?_eq_getElem hel;have hb:=M.bar hel;have hb':(al[e]'hel).barU=true:=by simpa only[isBarU,hget,Option.map_some,Option.getD_some]using hb
    have:=before e _ hget h (br5 hb' hff);rw[M.hi e (Nat.le_refl _) hb]at this;cases this
  subst hie;obtain⟨e',he1,he2,he3,he4⟩:=ae2 al (al.length-(i+1)) (i+1) V;have hS:OpS P ao.op ao.hf (TT al ss (λj=>listed.getD j false) T0 al.length) (hOf h0 ss i) λv k=>v=resOf ss i/\k=hOf h0 ss (i+1):=OpS_congr hlooks hstep;refine Oper.wp_mono (λa' w' hh=>?_) (OpS_sound M.rel M.tmp hcop hS (Q:=Q));obtain⟨r,h',⟨rfl,rfl⟩,v,z,rfl,rfl,R',E,hv⟩:=hh;refine⟨e',z,O,by simp[M.size],down',he2,he3,λj hj hb=>?_,λj hj hb=>?_,?_,?_,M.ext.trans E⟩
  ·rw[hset];by_cases hji:j=i
   ·subst hji;simp
   ·by_cases hlt:j < i
    ·rw[M.lo j hlt hb];rfl
    ·have:=he4 j V hj;rw[hb]at this;cases this
  ·rw[hset,M.hi j V hb];simp;omega
  ·rw[X.same he1 he2 he4];exact R'
  ·rw[hput];exact(M.tmp.ext E).put (d:=o.dst) hdn hv
 |false=>
  obtain⟨_,hq⟩:=al5 hbar hstep;have hq':opQ P (TT al ss (λj=>listed.getD j false) T0 al.length) (seen ao.hf (hOf h0 ss i)) ao.op=some (resOf ss i):=by
   rw[<-ae7 (T:=TT al ss allD T0 i) (vu hlooks)];exact hq
  have hq2:opQ P (TT al ss (λj=>listed.getD j false) T0 al.length) (hOf h0 ss e) ao.op=some (resOf ss i):=by
   cases hhf:ao.hf with
   |true=>
    rw[hhf]at hq';exact am8 (h:=⟨0,[]⟩) (λid b hb=>by simp at hb) hq'
   |false=>
    rw[hhf]at hq';have hnb:isBarU al i=false:=by simp[isBarU,hao,hbar]
    have key:hOf h0 ss e=hOf h0 ss i:=by
     rcases Nat.le_total i e with h|h
     ·refine X.same h M.le λm h1 h2=>?_;cases hb:isBarU al m with
      |false=>rfl
      |true=>
       exfalso;have hml:m < al.length:=by have:=M.le;omega
       have hget:=List.getElem?_eq_getElem hml;have hb':(al[m]'hml).barU=true:=by simpa only[isBarU,hget,Option.map_some,Option.getD_some]using hb
       have hmi:i < m:=by
        rcases Nat.lt_or_ge i m with h3|h3
        ·exact h3
        ·have:m=i:=by omega
         subst this;rw[hnb]at hb;cases hb
       have h4:=M.lo m h2 hb;rw[behind m _ hget hmi (cw1 hb' hhf)]at h4;cases h4
     ·refine(X.same h V λm h1 h2=>?_).symm;cases hb:isBarU al m with
      |false=>rfl
      |true=>
       exfalso;have hml:m < al.length:=by omega
       have hget:=List.getElem?_eq_getElem hml;have hb':(al[m]'hml).barU=true:=by simpa only[isBarU,hget,Option.map_some,Option.getD_some]using hb
       have h4:=before m _ hget h2 (br5 hb' hhf);rw[M.hi m h1 hb]at h4;cases h4
    rw[key];exact hq'
  obtain⟨v,z,hr,gr,hv⟩:=ad8 M.rel M.tmp hcop hq2;refine sw hr (.inl O) ⟨e,z,O,by simp[M.size],down',M.le,M.bar,λj hj hb=>?_,λj hj hb=>?_,M.rel.grow gr,?_,M.ext.trans (M.rel.ext_of_grow gr)⟩
  ·rw[hset,M.lo j hj hb];rfl
  ·rw[hset,M.hi j hj hb];have:j≠i:=λe=>by subst e;simp[isBarU,hao,hbar]at hb
   simpa using this
  ·rw[hput];exact(M.tmp.ext (M.rel.ext_of_grow gr)).put (d:=o.dst) hdn hv
theorem bc0(X:TextU P own n ops al ss T0 h0){listed:Array Bool}(hsz:listed.size=ops.size)(hr:Region.ready .any ops listed=[]):∀j,j < ops.size->listed.getD j false=true:=by
 intro j;induction j using Nat.strongRecOn with
 |_ j ih=>
  intro hj;cases hl:listed.getD j false with
  |true=>rfl
  |false=>
   have ho:=Array.getElem?_eq_getElem hj;have:j∈Region.ready .any ops listed:=by
    refine mem_ready.2 ⟨by rw[show listed.getD j true=listed.getD j false by simp[Array.getD_eq_getD_getElem?,hsz,hj]];exact hl,_,ho,λed hed hb=>?_⟩;have hlt:=bf2 X.chk ho ed (by simpa using hed) hb;exact ih ed.on hlt V
   rw[hr]at this;cases this
theorem MidU.any(X:TextU P own n ops al ss T0 h0){Q:Exit->Act->World->Prop}
 (hQ:∀a y,RelP P w0 F0 (hOf h0 ss al.length) y->Ext x0 y->Temps P y n (TT al ss allD T0 al.length) a->Q .normal a y.w):
 ∀(fuel:Nat)(listed:Array Bool)(e:Nat)(a:Act)(y:Cx),MidU P n ops al ss T0 h0 w0 F0 x0 listed e a y->(leftOver ops.size listed).length<=fuel->wpAny P .any ops Q fuel listed a y.w:=by
 have done:∀(listed:Array Bool)(e:Nat)(a:Act)(y:Cx),MidU P n ops al ss T0 h0 w0 F0 x0 listed e a y->(∀j,j < ops.size->listed.getD j false=true)->Q .normal a y.w:=by
  intro listed e a y M hall;have hlen:=X.len;have he:e=al.length:=by
   rcases Nat.lt_or_ge e al.length with h|h
   ·have:=M.hi e (Nat.le_refl _) (M.bar h);rw[hall e V]at this;cases this
   ·have:=M.le;omega
  subst he;refine hQ a y M.rel M.ext ?_;rw[<-TT_all (D:=λj=>listed.getD j false) (Nat.le_refl _) (λj hj=>hall j V) λj h1 h2=>by omega];exact M.tmp
 intro fuel;induction fuel with
 |zero=>
  intro listed e a y M hf;have hnil:leftOver ops.size listed=[]:=List.eq_nil_of_length_eq_zero V;have hall:∀j,j < ops.size->listed.getD j false=true:=by
   intro j hj;cases hl:listed.getD j false with
   |true=>rfl
   |false=>
    have:j∈leftOver ops.size listed:=by simp only[leftOver,List.mem_filter,List.mem_range];exact⟨hj,by simp[hl]⟩
    rw[hnil]at this;cases this
  refine⟨?_,done listed e a y M hall⟩;cases hr:Region.ready .any ops listed with
  |nil=>rfl
  |cons i r=>
   have hi:i∈Region.ready .any ops listed:=by rw[hr];exact List.mem_cons_self ..
   obtain⟨hun,o,ho,_⟩:=mem_ready.1 hi;have hlt:=(Array.getElem?_eq_some_iff.1 ho).1;have:=hall i hlt;rw[show listed.getD i true=listed.getD i false by simp[Array.getD_eq_getD_getElem?,M.size,hlt],this]at hun;cases hun
 |succ fuel ih=>
  intro listed e a y M hf;refine⟨λhr=>done listed e a y M (bc0 X M.size hr),λi hi=>?_⟩;refine wpOp_mono (λa' w' hh=>?_) (M.step X hi);obtain⟨e',y',rfl,M'⟩:=hh;refine ih _ e' a' y' M' ?_;obtain⟨hun,o,ho,_⟩:=mem_ready.1 hi;have hlt:=(Array.getElem?_eq_some_iff.1 ho).1;have hisz:i < listed.size:=by rw[M.size];exact hlt
  have hnot:listed.getD i false=false:=by
   rw[<-show listed.getD i true=listed.getD i false by simp[Array.getD_eq_getD_getElem?,hisz]];exact hun
  have:=af1 (p:=λj=>!listed.getD j false) (q:=λj=>!(listed.setIfInBounds i true).getD j false) (i:=i) (List.range ops.size)
   (λj _ hj=>by rw[ob hisz]at hj;cases h:listed.getD j false with|true=>rw[h]at hj;cases hj|false=>rfl)
   (List.mem_range.2 hlt) (by rw[hnot];rfl) (by rw[ob hisz];simp)
  unfold leftOver at hf⊢;omega
theorem anyU{hfs:List Nat}{Q:Exit->Act->World->Prop}{K:(Nat->PV)->Heap->Prop}{T:Nat->PV}{h:Heap}{x:Cx}{a:Act}(hc:compOps P own n ops hfs 0 ops.toList=some al)(hchk:chkU ops al=true)(hw:wpU P al T h K)(R:RelP P w0 F0 h x)(hT:Temps P x n T a)
 (hQ:∀T' h' y a',K T' h'->RelP P w0 F0 h' y->Ext x y->Temps P y n T' a'->Q .normal a' y.w):wpAny P .any ops Q ops.size (Array.replicate ops.size false) a {x.w with drawn:=x.w.drawn+1}:=by
 obtain⟨ss,e1,e2,e3⟩:=runU al T h K hw;have X:TextU P own n ops al ss T h:=⟨⟨hfs,hc⟩,hchk,e2⟩;obtain⟨e,he1,he2,he3,he4⟩:=ae2 al al.length 0 V;have gd:=Grow.drew x;have Rd:=R.grow gd;have Ed:=R.ext_of_grow gd;have hrep:∀j,(Array.replicate ops.size false).getD j false=false:=λj=>by
  simp only[Array.getD_eq_getD_getElem?,Array.getElem?_replicate];split<;>rfl
 have M:MidU P n ops al ss T h w0 F0 x (Array.replicate ops.size false) e a ⟨x.w.drew,x.F,x.J⟩:=by
  refine⟨by simp,(λj o hj=>absurd hj (by rw[hrep];simp)),he2,he3,λj hj hb=>?_,λj _ _=>hrep j,?_,?_,Ed⟩
  ·have:=he4 j (Nat.zero_le _) hj;rw[hb]at this;cases this
  ·rw[X.same (j:=0) (Nat.zero_le _) he2 he4];exact Rd
  ·rw[TT_all (e:=0) (Nat.zero_le _) (λj hj=>by omega) λj _ _=>hrep j];exact hT.ext Ed
 refine MidU.any X (λa y R' E' hT'=>hQ _ _ y a e3 R' E' hT') ops.size _ e a _ M ?_;unfold leftOver;exact Nat.le_trans (List.length_filter_le _ _) OZ
end
end Go.Pb
