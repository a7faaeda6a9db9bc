import Derived.Test.YtmonnlkagniolaaGreatPbWp
set_option linter.unusedVariables false
set_option linter.unusedSimpArgs false
namespace Go.Pb
open Go Go.RowKit
abbrev vi(n:Int):PV:= .sc (.int .i64 n)
abbrev vb(b:Bool):PV:= .sc (.bool b)
abbrev nilS:PV:= .sc (.slice none 0 0)
@[simp] theorem eu6(k:IntKind)(n:Int):PV.ofConst (.int k n)= .sc (.int k n):=_root_.id O
@[simp] theorem eu1(b:Bool):PV.ofConst (.bool b)= .sc (.bool b):=_root_.id O
@[simp] theorem ei4(s:ByteArray):PV.ofConst (.string s)= .sc (.string s):=_root_.id O
@[simp] theorem ep7(a:Option Addr)(n c:Nat):PV.ofConst (.slice a n c)= .sc (.slice a n c):=_root_.id O
@[simp] theorem dx6(a:Option Addr):PV.ofConst (.pointer a)= .sc (.pointer a):=_root_.id O
@[simp] theorem eg7:PV.ofConst .nilFunc= .sc .nilFunc:=_root_.id O
@[simp] theorem dr2:PV.ofConst .nilIface= .sc .nilIface:=_root_.id O
section
variable(P:Program)(t:TypeId)(ox oy:Operand)(k:IntKind)(a b:Int)
theorem bu0:binF P .add t ox oy (.sc (.int k a)) (.sc (.int k b))=some (.sc (.int k (k.wrap (a+b)))):=by simp[binF,toV,eqGuard,binOp,Op.intArith,pureRun,pure,bind,Sem.bind,Sem.instMonad]
theorem ba8:binF P .sub t ox oy (.sc (.int k a)) (.sc (.int k b))=some (.sc (.int k (k.wrap (a-b)))):=by simp[binF,toV,eqGuard,binOp,Op.intArith,pureRun,pure,bind,Sem.bind,Sem.instMonad]
theorem bu8:binF P .mul t ox oy (.sc (.int k a)) (.sc (.int k b))=some (.sc (.int k (k.wrap (a*b)))):=by simp[binF,toV,eqGuard,binOp,Op.intArith,pureRun,pure,bind,Sem.bind,Sem.instMonad]
theorem bb6:binF P .eql t ox oy (.sc (.int k a)) (.sc (.int k b))=some (.sc (.bool (decide (a=b)))):=by simp[binF,toV,eqGuard,binOp,Op.intCmp,pureRun,pure,bind,Sem.bind,Sem.instMonad];rfl
theorem bf5:binF P .neq t ox oy (.sc (.int k a)) (.sc (.int k b))=some (.sc (.bool (!decide (a=b)))):=by simp[binF,toV,eqGuard,binOp,Op.intCmp,pureRun,pure,bind,Sem.bind,Sem.instMonad];rfl
theorem bv4:binF P .lss t ox oy (.sc (.int k a)) (.sc (.int k b))=some (.sc (.bool (decide (a < b)))):=by simp[binF,toV,eqGuard,binOp,Op.intCmp,pureRun,pure,bind,Sem.bind,Sem.instMonad]
theorem be1:binF P .leq t ox oy (.sc (.int k a)) (.sc (.int k b))=some (.sc (.bool (decide (a<=b)))):=by simp[binF,toV,eqGuard,binOp,Op.intCmp,pureRun,pure,bind,Sem.bind,Sem.instMonad]
theorem bt6:binF P .gtr t ox oy (.sc (.int k a)) (.sc (.int k b))=some (.sc (.bool (decide (b < a)))):=by simp[binF,toV,eqGuard,binOp,Op.intCmp,pureRun,pure,bind,Sem.bind,Sem.instMonad]
theorem bf7:binF P .geq t ox oy (.sc (.int k a)) (.sc (.int k b))=some (.sc (.bool (decide (b<=a)))):=by simp[binF,toV,eqGuard,binOp,Op.intCmp,pureRun,pure,bind,Sem.bind,Sem.instMonad]
end
def idxR(sz:Nat)(v i:PV):Option PV:=match v,i with
 | .fs _ es,.sc (.int _ k)=>if 0<=k/\k < es.length then(match es[k.toNat]? with|some e=>if cnt e=some sz then some (.fp e)else none|none=>none)else none
 | .os id ver off n,.sc (.int _ k)=>if 0<=k/\k < n then some (.op id ver (off+k.toNat*sz))else none
 |_,_=>none
def loadR(h:Heap)(sz:Nat)(agg:Bool)(v:PV):Option PV:=match v with
 | .fp v=>if cnt v=some sz/\v.isAgg=agg then some v else none
 | .op id ver off=>match h.bl[id]? with
   |some (.cells ver' _ _ cs)=>if ver'=ver then fieldOf off sz agg cs else none
   |_=>none
 |_=>none
def faddrR(off sz:Nat)(agg:Bool)(v:PV):Option PV:=match v with
 | .fp (.agg cs)=>(fieldOf off sz agg cs).map .fp
 | .op id ver o=>some (.op id ver (o+off))
 |_=>none
def fieldR(off sz:Nat)(agg:Bool)(v:PV):Option PV:=match v with
 | .agg cs=>fieldOf off sz agg cs
 |_=>none
def pickR(c a b:PV):Option PV:=match c with
 | .sc (.bool v)=>some (bif v then a else b)
 |_=>none
def unR(op:UnOp)(P:Program)(v:PV):Option PV:=match toV v with
 |some a=>(pureRun P (Op.unary op a)).map .ofConst
 |none=>none
def boxR(v:PV):Option PV:=v.cellsOf.map λ_=> .fp v
def bsliceR(sz:Nat)(vs:List PV):Option PV:=if vs.all (λv=>cnt v==some sz)then some (.fs true vs)else none
def extractR(v:PV)(i:Nat):Option PV:=match v with
 | .tup vs=>vs[i]?
 |_=>none
section
variable(P:Program)(T:Nat->PV)(h:Heap)
theorem eh1(x):opQ P T h (.move x)=some (ev T x):=O
theorem dz2(c a b):opQ P T h (.pick c a b)=pickR (ev T c) (ev T a) (ev T b):=O
theorem en9(op t x y):opQ P T h (.bin op t x y)=binF P op t x y (ev T x) (ev T y):=O
theorem q_un(op x):opQ P T h (.un op x)=unR op P (ev T x):=O
theorem cn6(sz agg x):opQ P T h (.load sz agg x)=loadR h sz agg (ev T x):=O
theorem bw4(off sz agg x):opQ P T h (.faddr off sz agg x)=faddrR off sz agg (ev T x):=O
theorem cw2(sz x i):opQ P T h (.iaddr sz x i)=idxR sz (ev T x) (ev T i):=O
theorem q_bi(b ats ty args):opQ P T h (.bi b ats ty args)=biF P b ats ty (args.map (ev T)):=O
theorem bz9(x i):opQ P T h (.extract x i)=extractR (ev T x) i:=O
theorem ec9(t x):opQ P T h (.box false t x)=boxR (ev T x):=O
theorem cr3(e sz z ps):opQ P T h (.bslice false e sz z ps)=bsliceR sz (ps.map (ev T)):=O
theorem ci6(f a b):opQ P T h (.mkFunc f a b)=some (.fn f (a.map (ev T)) (b.map (ev T))):=O
end
def IsSl(v:PV)(es:List PV):Prop:=(∃ad,v= .sc (.slice ad 0 0)/\es=[])\/∃t,v= .fs t es
theorem IsSl.nil:IsSl nilS []:= .inl ⟨none,O,O⟩
theorem IsSl.cnt{v:PV}{es:List PV}(h:IsSl v es):cnt v=some 1:=by rcases h with⟨ad,rfl,_⟩|⟨t,rfl⟩<;>rfl
theorem IsSl.agg{v:PV}{es:List PV}(h:IsSl v es):v.isAgg=false:=by rcases h with⟨ad,rfl,_⟩|⟨t,rfl⟩<;>rfl
theorem IsSl.closed{v:PV}{es:List PV}(h:IsSl v es)(hc:closedL es=true):closed v=true:=by rcases h with⟨ad,rfl,_⟩|⟨t,rfl⟩<;>simp[Pb.closed,hc]
theorem at9{P:Program}{t e:TypeId}(ht:P.underlying t=some (.slice e)){v:PV}{es:List PV}(h:IsSl v es)(ty:TypeId):biF P .len [t].toArray ty [v]=some (vi es.length):=by
 rcases h with⟨ad,rfl,rfl⟩|⟨tt,rfl⟩
 ·cases ad<;>simp[biF,toVs,toV,Builtin.len_,underlying,program,pureRun,pure,bind,Sem.bind,Sem.instMonad,ht,goInt]
 ·simp[biF,toVs,toV,ht]
theorem ef9{v:PV}{es:List PV}(h:IsSl v es){k:Nat}{e:PV}(he:es[k]?=some e){sz:Nat}(hc:Pb.cnt e=some sz):idxR sz v (vi (k:Int))=some (.fp e):=by
 rcases h with⟨ad,rfl,rfl⟩|⟨tt,rfl⟩
 ·simp at he
 ·have hlt:=(List.getElem?_eq_some_iff.1 he).1;have h2:=(List.getElem?_eq_some_iff.1 he).2;simp[idxR,hc,hlt,h2]
def All2{α:Type}(R:α->PV->Prop):List α->List PV->Prop
 |[],[]=>True
 |a::l,e::es=>R a e/\All2 R l es
 |_,_=>False
theorem All2.length{α:Type}{R:α->PV->Prop}:∀{l:List α}{es:List PV},All2 R l es->es.length=l.length
 |[],[],_=>rfl
 |[],_::_,h=>by simp[All2]at h
 |_::_,[],h=>by simp[All2]at h
 |_::_,_::_,h=>by simp[All2.length h.2]
theorem All2.get{α:Type}{R:α->PV->Prop}:∀{l:List α}{es:List PV}{k:Nat}(hk:k < l.length),All2 R l es->∃e,es[k]?=some e/\R l[k] e
 |[],_,_,hk,_=>by simp at hk
 |_::_,[],_,_,h=>by simp[All2]at h
 |a::l,e::es,0,_,h=>⟨e,rfl,h.1⟩
 |a::l,e::es,k+1,hk,h=>by simpa using All2.get (k:=k) (by simpa using hk) h.2
theorem All2.closed{α:Type}{R:α->PV->Prop}(hR:∀a e,R a e->Pb.closed e=true):∀{l:List α}{es:List PV},All2 R l es->closedL es=true
 |[],[],_=>rfl
 |[],_::_,h=>by simp[All2]at h
 |_::_,[],h=>by simp[All2]at h
 |_::_,_::_,h=>by simp[closedL,hR _ _ h.1,All2.closed hR h.2]
def SlOf{α:Type}(R:α->PV->Prop)(l:List α)(v:PV):Prop:=∃es,IsSl v es/\All2 R l es
theorem SlOf.len{α:Type}{R:α->PV->Prop}{l:List α}{v:PV}(h:SlOf R l v){P:Program}{t e:TypeId}(ht:P.underlying t=some (.slice e))(ty:TypeId):biF P .len [t].toArray ty [v]=some (vi l.length):=by
 obtain⟨es,h1,h2⟩:=h;rw[at9 ht h1,h2.length]
theorem SlOf.idx{α:Type}{R:α->PV->Prop}{l:List α}{v:PV}(h:SlOf R l v){sz:Nat}(hR:∀a e,R a e->Pb.cnt e=some sz){k:Nat}(hk:k < l.length):∃e,R l[k] e/\idxR sz v (vi (k:Int))=some (.fp e):=by
 obtain⟨es,h1,h2⟩:=h;obtain⟨e,he,hr⟩:=h2.get hk;exact⟨e,hr,ef9 h1 he (hR _ _ hr)⟩
theorem SlOf.cnt{α:Type}{R:α->PV->Prop}{l:List α}{v:PV}(h:SlOf R l v):Pb.cnt v=some 1:=by obtain⟨es,h1,_⟩:=h;exact h1.cnt
theorem SlOf.agg{α:Type}{R:α->PV->Prop}{l:List α}{v:PV}(h:SlOf R l v):v.isAgg=false:=by obtain⟨es,h1,_⟩:=h;exact h1.agg
theorem SlOf.closed{α:Type}{R:α->PV->Prop}{l:List α}{v:PV}(h:SlOf R l v)(hR:∀a e,R a e->Pb.closed e=true):Pb.closed v=true:=by obtain⟨es,h1,h2⟩:=h;exact h1.closed (h2.closed hR)
def RInt(n:Int)(v:PV):Prop:=v=vi n
def IsL(l:List Int)(v:PV):Prop:=SlOf RInt l v
def IsM(d:List (List Int))(v:PV):Prop:=SlOf IsL d v
theorem RInt.cnt(n:Int)(v:PV)(h:RInt n v):Pb.cnt v=some 1:=by rw[h];rfl
theorem RInt.closed(n:Int)(v:PV)(h:RInt n v):Pb.closed v=true:=by rw[h];rfl
theorem IsL.closed(l:List Int)(v:PV)(h:IsL l v):Pb.closed v=true:=SlOf.closed h RInt.closed
theorem IsM.closed(l:List (List Int))(v:PV)(h:IsM l v):Pb.closed v=true:=SlOf.closed h IsL.closed
theorem IsL.idx{l:List Int}{v:PV}(h:IsL l v){k:Nat}(hk:k < l.length):idxR 1 v (vi (k:Int))=some (.fp (vi l[k])):=by
 obtain⟨e,he,h2⟩:=SlOf.idx h RInt.cnt hk;rw[h2,he]
theorem bv6{h:Heap}{v:PV}{sz:Nat}{agg:Bool}(h1:cnt v=some sz)(h2:v.isAgg=agg):loadR h sz agg (.fp v)=some v:=by simp[loadR,h1,h2]
theorem cp1{h:Heap}{k:IntKind}{n:Int}:loadR h 1 false (.fp (.sc (.int k n)))=some (.sc (.int k n)):=by simp[loadR,cnt,PV.isAgg]
theorem ea2(T:Nat->PV)(t:Nat)(v:PV):upd T t v t=v:=by simp[upd]
theorem dv9(T:Nat->PV){t s:Nat}(v:PV)(h:(s==t)=false):upd T t v s=T s:=by simp at h;simp[upd,h]
end Go.Pb
set_option linter.unusedVariables false
set_option linter.unusedSimpArgs false
namespace Go.Pb
open Go Go.RowKit
def OptK(x:Option PV)(K:PV->Prop):Prop:=∃r,x=some r/\K r
def ValK(x:PV)(K:PV->Prop):Prop:=K x
def OptK2(x:Option (PV×Heap))(K:PV->Heap->Prop):Prop:=∃r h',x=some (r,h')/\K r h'
def GK(x:Option Bool)(A B:Prop):Prop:=∃g,x=some g/\(g=true->A)/\(g=false->B)
def CK(x:PV)(A B:Prop):Prop:=∃v,x= .sc (.bool v)/\(v=true->A)/\(v=false->B)
def CallK(P:Program)(h:Heap)(x:Option (FuncId×List PV))(K:PV->Prop):Prop:=∃g azq,x=some (g,azq)/\∃r,CallD P h g azq r/\K r
theorem OptK_some(v:PV)(K:PV->Prop):OptK (some v) K=K v:=by simp[OptK]
theorem OptK2_some(v:PV)(h:Heap)(K:PV->Heap->Prop):OptK2 (some (v,h)) K=K v h:=by
 apply propext;constructor
 ·rintro⟨r,h',e,hk⟩;simp only[Option.some.injEq,Prod.mk.injEq]at e;obtain⟨rfl,rfl⟩:=e;exact hk
 ·intro hk;exact⟨v,h,O,hk⟩
theorem GK_true(A B:Prop):GK (some true) A B=A:=by simp[GK]
theorem GK_false(A B:Prop):GK (some false) A B=B:=by simp[GK]
theorem CK_true(A B:Prop):CK (.sc (.bool true)) A B=A:=by simp[CK]
theorem CK_false(A B:Prop):CK (.sc (.bool false)) A B=B:=by simp[CK]
theorem CK_of{b:Bool}{A B:Prop}(h1:b=true->A)(h2:b=false->B):CK (.sc (.bool b)) A B:=⟨b,O,h1,h2⟩
def gF(v:PV)(w:Bool):Option Bool:=match v with
 | .sc (.bool b)=>some (b==w)
 | .tup []=>some false
 |_=>none
theorem gF_b(b w:Bool):gF (.sc (.bool b)) w=some (b==w):=_root_.id O
theorem gF_u(w:Bool):gF (.tup []) w=some false:=_root_.id O
section
variable(P:Program)(T:Nat->PV)(h:Heap)(hf:Bool)(K:PV->Heap->Prop)(Kw:(Nat->PV)->Heap->Prop)(dst:Option Tmp)(op:AOp)(r:List AOper)(Q:Post)
theorem ea4:wpD P (⟨dst,op,none,hf⟩::r) T h Kw=OpD P op hf T h (λv h'=>wpD P r (updO T dst v) h' Kw):=by simp[wpD,guardF]
theorem r1(t:Tmp):(∃vs,resV P T h [(t,none)]=some vs/\K (retV vs) h)=ValK (T t) (λv=>K v h):=by simp[resV,retV,ValK]
theorem r2(t s:Tmp):(∃vs,resV P T h [(t,none),(s,none)]=some vs/\K (retV vs) h)=ValK (.tup [T t,T s]) (λv=>K v h):=by simp[resV,retV,ValK]
theorem r3(t s u:Tmp):(∃vs,resV P T h [(t,none),(s,none),(u,none)]=some vs/\K (retV vs) h)=ValK (.tup [T t,T s,T u]) (λv=>K v h):=by simp[resV,retV,ValK]
theorem r0:(∃vs,resV P T h []=some vs/\K (retV vs) h)=K (.tup []) h:=by simp[resV,retV]
theorem rc(t:Tmp)(sz:Nat)(agg:Bool):(∃vs,resV P T h [(t,some (sz,agg))]=some vs/\K (retV vs) h)=OptK (loadR h sz agg (T t)) (λv=>K v h):=by
 simp only[resV,OptK,opQ,ev];change _=∃r,loadR h sz agg (T t)=some r/\K r h;apply propext;constructor
 ·rintro⟨vs,h1,h2⟩;simp only[Option.bind_eq_some_iff,Option.map_some,Option.some.injEq]at h1;obtain⟨v,h3,h4⟩:=h1;subst h4;exact⟨v,h3,h2⟩
 ·rintro⟨v,h3,h2⟩;refine⟨[v],?_,h2⟩;simp only[Option.bind_eq_some_iff,Option.map_some,Option.some.injEq];exact⟨v,h3,O⟩
end
section
variable(P:Program)(T:Nat->PV)(h:Heap)(hf:Bool)(K:PV->Heap->Prop)
theorem ee7(x):OpD P (.move x) hf T h K=ValK (ev T x) (λr=>K r h):=by simp[OpD,AOp.kind,opQ,ValK]
theorem cq2(f a b):OpD P (.mkFunc f a b) hf T h K=ValK (.fn f (a.map (ev T)) (b.map (ev T))) (λr=>K r h):=by simp[OpD,AOp.kind,opQ,ValK]
theorem bz1(t x):OpD P (.mkIface t x) hf T h K=ValK (.ifc t (ev T x)) (λr=>K r h):=by simp[OpD,AOp.kind,opQ,ValK]
theorem dy9(t:Nat):ev T (.tmp t)=T t:=_root_.id O
theorem ce2(v:Value):ev T (.const v)= .ofConst v:=_root_.id O
theorem dc0(f:FuncId):ev T (.func f)= .fn (.func f) [] []:=_root_.id O
theorem by0(t:Nat)(v:PV):updO T (some t) v=upd T t v:=_root_.id O
theorem ca6(v:PV):updO T none v=T:=_root_.id O
theorem ze(g:FuncId)(first cap args:List PV):callee (.fn (.func g) first cap) args=some (g,first++(args++cap)):=_root_.id O
theorem du7(b:Bool)(x y:PV):pickR (.sc (.bool b)) x y=some (bif b then x else y):=_root_.id O
theorem cg0(b:Bool):unR .not P (.sc (.bool b))=some (.sc (.bool (!b))):=_root_.id O
theorem bq1:seen false h=h:=_root_.id O
end
inductive Fr where
 |seq (b:AC)
 |blk (id:Nat)
 |scope
 |loop (R:(Nat->PV)->Heap->Prop)
def asPost(P:Program):List Fr->Post->Post
 |[],Q=>Q
 | .seq b::S,Q=>thenP (wpC P b (asPost P S Q)) (asPost P S Q)
 | .blk id::S,Q=>inBlk id (asPost P S Q)
 | .scope::S,Q=>noGo (asPost P S Q)
 | .loop R::S,Q=>thenP R (asPost P S Q)
def runC(P:Program)(c:AC)(S:List Fr)(Q:Post)(T:Nat->PV)(h:Heap):Prop:=wpC P c (asPost P S Q) T h
def popN(P:Program)(S:List Fr)(Q:Post)(T:Nat->PV)(h:Heap):Prop:=asPost P S Q .normal T h
def popX(P:Program)(id:Nat)(S:List Fr)(Q:Post)(T:Nat->PV)(h:Heap):Prop:=asPost P S Q (.exit id) T h
def runD(P:Program)(al:List AOper)(S:List Fr)(Q:Post)(T:Nat->PV)(h:Heap):Prop:=wpD P al T h (asPost P S Q .normal)
def runO(P:Program)(o:AOp)(hf:Bool)(dst:Option Tmp)(r:List AOper)(S:List Fr)(Q:Post)(T:Nat->PV)(h:Heap):Prop:=OpD P o hf T h (λv h'=>runD P r S Q (updO T dst v) h')
def stV(P:Program)(v:PV)(dst:Option Tmp)(r:List AOper)(S:List Fr)(Q:Post)(T:Nat->PV)(h:Heap):Prop:=runD P r S Q (updO T dst v) h
def stO(P:Program)(v:Option PV)(dst:Option Tmp)(r:List AOper)(S:List Fr)(Q:Post)(T:Nat->PV)(h:Heap):Prop:=OptK v (λv=>runD P r S Q (updO T dst v) h)
def stL(P:Program)(v:Option (PV×Heap))(dst:Option Tmp)(r:List AOper)(S:List Fr)(Q:Post)(T:Nat->PV):Prop:=OptK2 v (λv h=>runD P r S Q (updO T dst v) h)
def stK(P:Program)(hh:Heap)(x:Option (FuncId×List PV))(dst:Option Tmp)(r:List AOper)(S:List Fr)(Q:Post)(T:Nat->PV)(h:Heap):Prop:=CallK P hh x (λv=>runD P r S Q (updO T dst v) h)
def stG(P:Program)(g:Option Bool)(o:AOp)(hf:Bool)(dst:Option Tmp)(r:List AOper)(S:List Fr)(Q:Post)(T:Nat->PV)(h:Heap):Prop:=GK g (runO P o hf dst r S Q T h) (runD P r S Q (updO T dst (.tup [])) h)
def stC(P:Program)(v:PV)(a b:AC)(S:List Fr)(Q:Post)(T:Nat->PV)(h:Heap):Prop:=CK v (runC P a S Q T h) (runC P b S Q T h)
section
variable{P:Program}{T:Nat->PV}{h:Heap}{hf:Bool}{dst:Option Tmp}{op:AOp}{r:List AOper}{Q:Post}{S:List Fr}
theorem eh5:runC P .skip S Q T h=popN P S Q T h:=_root_.id O
theorem ej6(a b:AC):runC P (.seq a b) S Q T h=runC P a (.seq b::S) Q T h:=_root_.id O
theorem ch3(c:Operand)(a b:AC):runC P (.cond c a b) S Q T h=stC P (ev T c) a b S Q T h:=_root_.id O
theorem cw0(id:Nat)(b:AC):runC P (.block id b) S Q T h=runC P b (.blk id::S) Q T h:=_root_.id O
theorem cw7(b:AC):runC P (.scope b) S Q T h=runC P b (.scope::S) Q T h:=_root_.id O
theorem du8(id:Nat):runC P (.exit id) S Q T h=popX P id S Q T h:=_root_.id O
theorem vj:∀(S:List Fr)(Q:Post),asPost P S Q .ret T h=Q .ret T h
 |[],Q=>rfl
 | .seq b::S,Q=>vj S Q
 | .blk id::S,Q=>vj S Q
 | .scope::S,Q=>vj S Q
 | .loop R::S,Q=>vj S Q
theorem cq3:runC P .ret S Q T h=Q .ret T h:=vj S Q
theorem ds0:popN P [] Q T h=Q .normal T h:=_root_.id O
theorem eq7(b:AC):popN P (.seq b::S) Q T h=runC P b S Q T h:=_root_.id O
theorem ek1(id:Nat):popN P (.blk id::S) Q T h=popN P S Q T h:=_root_.id O
theorem dk6:popN P (.scope::S) Q T h=popN P S Q T h:=_root_.id O
theorem eb0(R):popN P (.loop R::S) Q T h=R T h:=_root_.id O
theorem dt9(id:Nat):popX P id (.blk id::S) Q T h=popN P S Q T h:=by simp[popX,popN,asPost,inBlk]
theorem bi8(id id':Nat)(hne:(id==id')=false):popX P id (.blk id'::S) Q T h=popX P id S Q T h:=by simp at hne;simp[popX,asPost,inBlk,hne]
theorem el8(id:Nat)(b:AC):popX P id (.seq b::S) Q T h=popX P id S Q T h:=_root_.id O
theorem dq2(id:Nat):popX P id (.scope::S) Q T h=popX P id S Q T h:=_root_.id O
theorem ea6(id:Nat)(R):popX P id (.loop R::S) Q T h=popX P id S Q T h:=_root_.id O
theorem ej4:runD P [] S Q T h=popN P S Q T h:=_root_.id O
theorem as9:runD P (⟨dst,op,none,hf⟩::r) S Q T h=runO P op hf dst r S Q T h:=ea4 ..
theorem ak2(d:Tmp)(w:Bool):runD P (⟨dst,op,some (d,w),hf⟩::r) S Q T h=stG P (gF (T d) w) op hf dst r S Q T h:=_root_.id O
theorem bq8(o:AOp):stG P (some true) o hf dst r S Q T h=runO P o hf dst r S Q T h:=GK_true ..
theorem be6(o:AOp):stG P (some false) o hf dst r S Q T h=runD P r S Q (updO T dst (.tup [])) h:=GK_false ..
theorem ea5(a b:AC):stC P (.sc (.bool true)) a b S Q T h=runC P a S Q T h:=CK_true ..
theorem da7(a b:AC):stC P (.sc (.bool false)) a b S Q T h=runC P b S Q T h:=CK_false ..
theorem v_go(v:PV):stV P v dst r S Q T h=runD P r S Q (updO T dst v) h:=_root_.id O
theorem ei1(v:PV):stO P (some v) dst r S Q T h=runD P r S Q (updO T dst v) h:=OptK_some ..
theorem du5(v:PV)(h':Heap):stL P (some (v,h')) dst r S Q T=runD P r S Q (updO T dst v) h':=OptK2_some ..
theorem ei0(x):runO P (.move x) hf dst r S Q T h=stV P (ev T x) dst r S Q T h:=ee7 ..
theorem dw0(c a b):runO P (.pick c a b) hf dst r S Q T h=stO P (pickR (ev T c) (ev T a) (ev T b)) dst r S Q T h:=_root_.id O
theorem et0(op t x y):runO P (.bin op t x y) hf dst r S Q T h=stO P (binF P op t x y (ev T x) (ev T y)) dst r S Q T h:=_root_.id O
theorem y_un(op x):runO P (.un op x) hf dst r S Q T h=stO P (unR op P (ev T x)) dst r S Q T h:=_root_.id O
theorem dw9(sz agg x):runO P (.load sz agg x) hf dst r S Q T h=stO P (loadR (seen hf h) sz agg (ev T x)) dst r S Q T h:=_root_.id O
theorem do7(off sz agg x):runO P (.faddr off sz agg x) hf dst r S Q T h=stO P (faddrR off sz agg (ev T x)) dst r S Q T h:=_root_.id O
theorem ct8(off sz agg x):runO P (.field off sz agg x) hf dst r S Q T h=stO P (fieldR off sz agg (ev T x)) dst r S Q T h:=_root_.id O
theorem cz1(sz x i):runO P (.iaddr sz x i) hf dst r S Q T h=stO P (idxR sz (ev T x) (ev T i)) dst r S Q T h:=_root_.id O
theorem y_bi(b ats ty args):runO P (.bi b ats ty args) hf dst r S Q T h=stO P (biF P b ats ty (args.map (ev T))) dst r S Q T h:=_root_.id O
theorem ca3(x i):runO P (.extract x i) hf dst r S Q T h=stO P (extractR (ev T x) i) dst r S Q T h:=_root_.id O
theorem eb1(t x):runO P (.box false t x) hf dst r S Q T h=stO P (boxR (ev T x)) dst r S Q T h:=_root_.id O
theorem by7(e sz z ps):runO P (.bslice false e sz z ps) hf dst r S Q T h=stO P (bsliceR sz (ps.map (ev T))) dst r S Q T h:=_root_.id O
theorem cq8(f a b):runO P (.mkFunc f a b) hf dst r S Q T h=stV P (.fn f (a.map (ev T)) (b.map (ev T))) dst r S Q T h:=cq2 ..
theorem by6(t x):runO P (.mkIface t x) hf dst r S Q T h=stV P (.ifc t (ev T x)) dst r S Q T h:=bz1 ..
theorem ei3(f args):runO P (.call f args) hf dst r S Q T h=stK P (seen hf h) (callee (ev T f) (args.map (ev T))) dst r S Q T h:=_root_.id O
theorem t_of{b:Bool}{a c:AC}(h1:b=true->runC P a S Q T h)(h2:b=false->runC P c S Q T h):stC P (.sc (.bool b)) a c S Q T h:=CK_of h1 h2
end
def stR(o:Option (List PV))(K:PV->Heap->Prop)(h:Heap):Prop:=∃vs,o=some vs/\K (retV vs) h
def consO(v:Option PV)(l:Option (List PV)):Option (List PV):=v.bind λv=>l.map λl=>v::l
section
variable{P:Program}{T:Nat->PV}{h:Heap}{K:PV->Heap->Prop}{rs:List (Tmp×Option (Nat×Bool))}
theorem es6:retPost P rs K .ret T h=stR (resV P T h rs) K h:=_root_.id O
theorem ce8:retPost P rs K .normal T h=stR (resV P T h rs) K h:=_root_.id O
theorem er5:resV P T h []=some []:=_root_.id O
theorem ek0(t:Tmp):resV P T h ((t,none)::rs)=consO (some (T t)) (resV P T h rs):=by simp[resV,consO]
theorem ce6(t:Tmp)(sz:Nat)(agg:Bool):resV P T h ((t,some (sz,agg))::rs)=consO (loadR h sz agg (T t)) (resV P T h rs):=_root_.id O
theorem dv0(v:PV)(l:List PV):consO (some v) (some l)=some (v::l):=_root_.id O
theorem q_0:stR (some []) K h=K (.tup []) h:=by simp[stR,retV]
theorem q_1(v:PV):stR (some [v]) K h=K v h:=by simp[stR,retV]
theorem q_2(v v':PV)(l:List PV):stR (some (v::v'::l)) K h=K (.tup (v::v'::l)) h:=by simp[stR,retV]
end
theorem bt5{P:Program}{h:Heap}{v:Value}:Deep P h (.sc v) (.sc v):=du O
theorem bj5{n:Int}(h1: -9223372036854775808<=n)(h2:n < 9223372036854775808):IntKind.i64.wrap n=n:=by
 simp[IntKind.wrap,IntKind.bits,IntKind.signed,Int.bmod];omega
attribute [simp] eh5 ej6 ch3 cw0 cw7 du8 cq3 ds0 eq7 ek1 dk6 eb0 dt9 bi8 el8 dq2 ea6 ej4 as9 ak2 bq8 be6 ea5 da7 v_go ei1 du5
attribute [simp] ei0 dw0 et0 y_un dw9 do7 ct8 cz1 y_bi ca3 eb1 by7 cq8 by6 ei3
attribute [simp] dy9 ce2 dc0 by0 ca6 ze du7 cg0 bq1 gF_b gF_u ea2 dv9 bu0 ba8 bu8 bb6 bf5 bv4 be1 bt6 bf7 cp1
attribute [simp] es6 ce8 er5 ek0 ce6 dv0 q_0 q_1 q_2 bt5
end Go.Pb
set_option linter.unusedVariables false
set_option linter.unusedSimpArgs false
namespace Go.Pb
open Go Go.RowKit
def ownR(h:Heap)(t:TypeId)(v:PV):Option (PV×Heap):=v.cellsOf.map λcs=>(.op h.bl.length h.nv 0,newBlk h t cs)
def bsliceO(h:Heap)(e:TypeId)(sz:Nat)(vs:List PV):Option (PV×Heap):=if vs.all (λv=>cnt v==some sz)then(rowCells vs).map λcs=>(.os h.bl.length h.nv 0 vs.length,newBlk h e cs)else none
def storeR(h:Heap)(sz:Nat)(a v:PV):Option (PV×Heap):=match a with
 | .op id ver off=>match h.bl[id]?,v.cellsOf with
   |some (.cells ver' ty true cs),some ds=>if ver'=ver/\ds.length=sz/\off+sz<=cs.length then some (.tup [],⟨h.nv,h.bl.set id (.cells ver ty true (spl cs off ds))⟩)else none
   |_,_=>none
 |_=>none
def mkSliceR(h:Heap)(e:TypeId)(bytes:Nat)(z:List PV)(l c:PV):Option (PV×Heap):=match l,c with
 | .sc (.int _ l),.sc (.int _ c)=>if 0<=l/\l<=c/\fits c.toNat bytes=true then
    some (.os h.bl.length h.nv 0 l.toNat,newBlk h e (repCells l.toNat z))else none
 |_,_=>none
def appendR(h:Heap)(e:TypeId)(sz bytes:Nat)(s x:PV):Option (PV×Heap):=match srcF h sz x with
 |some (m,news)=>appF h e sz bytes m news s
 |none=>none
section
variable{P:Program}{T:Nat->PV}{h:Heap}{hf:Bool}{dst:Option Tmp}{r:List AOper}{Q:Post}{S:List Fr}
theorem dg5(sz x v):runO P (.store sz x v) hf dst r S Q T h=stL P (storeR h sz (ev T x) (ev T v)) dst r S Q T:=_root_.id O
theorem by5(e sz b z l c):runO P (.mkSlice e sz b z l c) hf dst r S Q T h=stL P (mkSliceR h e b (z.cells.toList.map .sc) (ev T l) (ev T c)) dst r S Q T:=_root_.id O
theorem ce5(t e sz b s x):runO P (.append t e sz b s x) hf dst r S Q T h=stL P (appendR h e sz b (ev T s) (ev T x)) dst r S Q T:=_root_.id O
theorem ef4(t x):runO P (.box true t x) hf dst r S Q T h=stL P (ownR h t (ev T x)) dst r S Q T:=_root_.id O
theorem cg8(t z):runO P (.alloc true t z) hf dst r S Q T h=stL P (ownR h t (.ofConst z)) dst r S Q T:=_root_.id O
theorem bz0(e sz z ps):runO P (.bslice true e sz z ps) hf dst r S Q T h=stL P (bsliceO h e sz (ps.map (ev T))) dst r S Q T:=by
 simp[runO,stL,OpD,AOp.kind,opL,bsliceO,OptK2]
end
attribute [simp] dg5 by5 ce5 ef4 cg8 bz0
def one(v:PV):Bool:=match v with
 | .agg _=>false| .junk=>false| .tup _=>false|_=>true
theorem vu{v:PV}(h:one v=true):cnt v=some 1:=by cases v<;>first|rfl|cases h
theorem bs1{v:PV}(h:one v=true):v.isAgg=false:=by cases v<;>first|rfl|cases h
theorem zv{v:PV}(h:one v=true):v.cellsOf=some [v]:=by cases v<;>first|rfl|cases h
theorem te:∀{l:List PV},l.all one=true->rowCells l=some l
 |[],_=>rfl
 |v::l,h=>by
  simp only[List.all_cons,Bool.and_eq_true]at h;simp[rowCells,zv h.1,te h.2]
theorem ci0{P:Program}{t e:TypeId}(ht:P.underlying t=some (.slice e)){id ver off n:Nat}(ty:TypeId):biF P .len [t].toArray ty [.os id ver off n]=some (vi n):=by
 simp[biF,toVs,toV,ht]
theorem dd1{h:Heap}{id ver off:Nat}{ty:TypeId}{mt:Bool}{cs:List PV}{c:PV}(hb:h.bl[id]?=some (.cells ver ty mt cs))(hc:cs[off]?=some c)(ho:one c=true):loadR h 1 false (.op id ver off)=some c:=by
 have hlt:=(List.getElem?_eq_some_iff.1 hc).1;have:(cs.drop off).take 1=[c]:=by
  rw[List.drop_eq_getElem_cons hlt,(List.getElem?_eq_some_iff.1 hc).2];rfl
 simp only[loadR,hb,if_true,fieldOf];rw[if_pos V,this];simp[mkV,bs1 ho]
theorem bc3(n:Nat)(v:PV):repCells n [v]=List.replicate n v:=by
 induction n with
 |zero=>rfl
 |succ n ih=>simp only[repCells]at ih;simp[repCells,List.replicate_succ,ih]
theorem ca8{h:Heap}{e:TypeId}{b n:Nat}{v:PV}{k k':IntKind}(hf:fits n b=true):mkSliceR h e b [v] (.sc (.int k (n:Int))) (.sc (.int k' (n:Int)))=some (.os h.bl.length h.nv 0 n,⟨h.nv+1,h.bl++[.cells h.nv e true (List.replicate n v)]⟩):=by
 simp[mkSliceR,hf,newBlk,bc3]
theorem cp7{P:Program}{h:Heap}{id ver n:Nat}{ty:TypeId}{mt:Bool}{cs:List PV}(hb:h.bl[id]?=some (.cells ver ty mt cs))(hn:cs.length=n)(ho:cs.all one=true)(hc:closedL cs=true):Deep P h (.os id ver 0 n) (.fs false cs):=by
 refine bv3 (sz:=1) hb V hn ?_ ?_ hc
 ·rw[te ho];simp[<-hn]
 ·rw[List.all_eq_true]at ho⊢;intro x hx;simp[vu (ho x hx)]
theorem IsL.eq{l:List Int}{v:PV}(h:IsL l v):(∃ad,v= .sc (.slice ad 0 0)/\l=[])\/∃t,v= .fs t (l.map vi):=by
 obtain⟨es,h1,h2⟩:=h;have:es=l.map vi:=by
  clear h1;induction l generalizing es with
  |nil=>cases es with|nil=>rfl|cons _ _=>simp[All2]at h2
  |cons a l ih=>cases es with
   |nil=>simp[All2]at h2
   |cons e es=>simp[All2,RInt]at h2;simp[h2.1,ih es h2.2]
 subst this;rcases h1 with⟨ad,rfl,h⟩|⟨t,rfl⟩
 ·left;exact⟨ad,O,by simpa using h⟩
 ·right;exact⟨t,O⟩
theorem cs5{P:Program}{k:IntKind}{a b:Int}(ats:Array TypeId)(ty:TypeId):biF P .max ats ty [.sc (.int k a),.sc (.int k b)]=some (.sc (.int k (max a b))):=by
 have:(if a < b then b else a)=max a b:=by omega
 simp[biF,toVs,toV,Builtin.max_,Builtin.max2,pureRun,List.foldlM,bind,pure,Sem.bind,Sem.instMonad,this]
theorem dm6{P:Program}{k:IntKind}{a b:Int}(ats:Array TypeId)(ty:TypeId):biF P .min ats ty [.sc (.int k a),.sc (.int k b)]=some (.sc (.int k (min a b))):=by
 have:(if b < a then b else a)=min a b:=by omega
 simp[biF,toVs,toV,Builtin.min_,Builtin.min2,pureRun,List.foldlM,bind,pure,Sem.bind,Sem.instMonad,this]
attribute [simp] cs5 dm6
noncomputable def tb(p:Prop):Bool:=@decide p (Classical.propDecidable p)
end Go.Pb
set_option linter.unusedVariables false
set_option linter.unusedSimpArgs false
namespace Go.Pb
open Go Go.RowKit
def tab{α:Type}(n:Nat)(f:Nat->α):List α:=(List.range n).map f
section
variable{α β:Type}{n:Nat}{f:Nat->α}
theorem rk:(tab n f).length=n:=by simp[tab]
theorem ai3{k:Nat}(h:k < n):(tab n f)[k]?=some (f k):=by simp[tab,h]
theorem cw9{v:α}:List.replicate n v=tab n λ_=>v:=by
 apply List.ext_getElem?;intro i;simp only[tab,List.getElem?_map,List.getElem?_replicate,List.getElem?_range];by_cases h:i < n
 ·simp[h]
 ·simp[h,List.getElem?_eq_none (show(List.range n).length<=i by simp;omega)]
def updF(f:Nat->α)(j:Nat)(x:α):Nat->α:=λk=>if k=j then x else f k
theorem bt8{j:Nat}{x:α}:updF f j x j=x:=by simp[updF]
theorem bs0{j k:Nat}{x:α}(h:k≠j):updF f j x k=f k:=by simp[updF,h]
theorem de9{j:Nat}{x:α}:(tab n f).set j x=tab n (updF f j x):=by
 apply List.ext_getElem?;intro i;rw[List.getElem?_set];by_cases h:i < n
 ·by_cases e:j=i
  ·subst e;rw[if_pos rfl,if_pos (by rw[rk];exact h),ai3 h,bt8]
  ·rw[if_neg e,ai3 h,ai3 h,bs0 (λe'=>e e'.symm)]
 ·have h1:(tab n (updF f j x))[i]?=none:=List.getElem?_eq_none (by rw[rk];omega);have h2:(tab n f)[i]?=none:=List.getElem?_eq_none (by rw[rk];omega);rw[h1,h2,rk];simp;intro e;omega
end
theorem si:∀{es cs:List PV},rowCells es=some cs->closedL cs=closedL es
 |[],cs,h=>by simp only[rowCells,Option.some.injEq]at h;subst h;rfl
 |e::es,cs,h=>by
  simp only[rowCells]at h;split at h
  ·rename_i c d hce hd;simp only[Option.some.injEq]at h;subst h;rw[vt,ux hce,si hd];rfl
  ·cases h
theorem by2{h:Heap}{e:TypeId}{b n:Nat}{v:PV}{k k':IntKind}(hf:fits n b=true):mkSliceR h e b [v] (.sc (.int k (n:Int))) (.sc (.int k' (n:Int)))=some (.os h.bl.length h.nv 0 n,⟨h.nv+1,h.bl++[.cells h.nv e true (tab n λ_=>v)]⟩):=by
 rw[ca8 hf,cw9]
theorem ef0{h:Heap}{id ver off n:Nat}{ty:TypeId}{mt:Bool}{f:Nat->PV}(hb:h.bl[id]?=some (.cells ver ty mt (tab n f)))(hc:off < n)(ho:one (f off)=true):loadR h 1 false (.op id ver off)=some (f off):=
 dd1 hb (ai3 hc) ho
end Go.Pb
set_option linter.unusedVariables false
set_option linter.unusedSimpArgs false
namespace Go.Pb
open Go Go.RowKit
theorem ei2(v:Value):one (.sc v)=true:=_root_.id O
theorem ec4(a b c d):one (.os a b c d)=true:=_root_.id O
theorem ee3(a b c):one (.op a b c)=true:=_root_.id O
theorem ee6(t es):one (.fs t es)=true:=_root_.id O
theorem eg9(x):one (.fp x)=true:=_root_.id O
theorem ee8(f a b):one (.fn f a b)=true:=_root_.id O
theorem dc5(t v):one (.ifc t v)=true:=_root_.id O
attribute [simp] ei2 ec4 ee3 ee6 eg9 ee8 dc5
theorem SlOf.one{α:Type}{R:α->PV->Prop}{l:List α}{v:PV}(h:SlOf R l v):Pb.one v=true:=by
 obtain⟨es,h,_⟩:=h;rcases h with⟨ad,rfl,_⟩|⟨t,rfl⟩<;>rfl
def blk(h:Heap)(i:Nat):Option Blk:=h.bl[i]?
def hlen(h:Heap):Nat:=h.bl.length
def hnew(h:Heap)(b:Blk):Heap:=⟨h.nv+1,h.bl++[b]⟩
def hput(h:Heap)(i:Nat)(b:Blk):Heap:=⟨h.nv,h.bl.set i b⟩
def hgrow(h:Heap)(i:Nat)(b:Blk):Heap:=⟨h.nv+1,h.bl.set i b⟩
theorem dx1(nv bl i):blk ⟨nv,bl⟩ i=bl[i]?:=_root_.id O
theorem dg8(nv bl):hlen ⟨nv,bl⟩=bl.length:=_root_.id O
theorem cz2(nv bl b):hnew ⟨nv,bl⟩ b=⟨nv+1,bl++[b]⟩:=_root_.id O
theorem dc6(nv bl i b):hput ⟨nv,bl⟩ i b=⟨nv,bl.set i b⟩:=_root_.id O
theorem cj5(nv bl i b):hgrow ⟨nv,bl⟩ i b=⟨nv+1,bl.set i b⟩:=_root_.id O
theorem cd1(h b):hlen (hnew h b)=hlen h+1:=by simp[hlen,hnew]
theorem ce7(h i b):hlen (hput h i b)=hlen h:=by simp[hlen,hput]
theorem bz6(h i b):hlen (hgrow h i b)=hlen h:=by simp[hlen,hgrow]
theorem dz5(h b):(hnew h b).nv=h.nv+1:=_root_.id O
theorem dz7(h i b):(hput h i b).nv=h.nv:=_root_.id O
theorem cw8(h i b):(hgrow h i b).nv=h.nv+1:=_root_.id O
theorem dm8(h i b)(hi:i=hlen h):blk (hnew h b) i=some b:=by subst hi;simp[blk,hlen,hnew]
theorem df8(h i b)(hi:i < hlen h):blk (hnew h b) i=blk h i:=by simp only[blk,hnew];exact List.getElem?_append_left hi
theorem zi(h i b)(hi:i < hlen h):blk (hput h i b) i=some b:=by simp only[blk,hput];exact List.getElem?_set_self hi
theorem qy(h i j b)(hi:¬i=j):blk (hput h i b) j=blk h j:=by simp only[blk,hput];exact List.getElem?_set_ne hi
theorem cg1(h i b)(hi:i < hlen h):blk (hgrow h i b) i=some b:=by simp only[blk,hgrow];exact List.getElem?_set_self hi
theorem an2(h i j b)(hi:¬i=j):blk (hgrow h i b) j=blk h j:=by simp only[blk,hgrow];exact List.getElem?_set_ne hi
theorem sk{h i b}(hb:blk h i=some b):i < hlen h:=(List.getElem?_eq_some_iff.1 hb).1
attribute [simp] bt8 bs0
attribute [simp] dx1 dg8 cz2 dc6 cj5 cd1 ce7 bz6 dz5 dz7 cw8 dm8 df8 zi qy cg1 an2
def loadB(b:Option Blk)(sz:Nat)(agg:Bool)(ver off:Nat):Option PV:=match b with
 |some (.cells ver' _ _ cs)=>if ver'=ver then fieldOf off sz agg cs else none
 |_=>none
theorem au4(h:Heap)(sz:Nat)(agg:Bool)(id ver off:Nat):loadR h sz agg (.op id ver off)=loadB (blk h id) sz agg ver off:=by
 unfold loadR loadB;rfl
theorem ck1(h:Heap)(v:PV)(ho:one v=true):loadR h 1 false (.fp v)=some v:=bv6 (vu ho) (bs1 ho)
theorem dl2{ver off n:Nat}{ty:TypeId}{mt:Bool}{f:Nat->PV}(hc:off < n)(ho:one (f off)=true):loadB (some (.cells ver ty mt (tab n f))) 1 false ver off=some (f off):=by
 have:=ef0 (h:=⟨0,[.cells ver ty mt (tab n f)]⟩) (id:=0) O hc ho;simpa[au4]using this
def storeB(h:Heap)(id:Nat)(b:Option Blk)(sz ver off:Nat)(v:PV):Option (PV×Heap):=match b,v.cellsOf with
 |some (.cells ver' ty true cs),some ds=>if ver'=ver/\ds.length=sz/\off+sz<=cs.length then some (.tup [],hput h id (.cells ver ty true (spl cs off ds)))else none
 |_,_=>none
theorem ao4(h:Heap)(sz:Nat)(id ver off:Nat)(v:PV):storeR h sz (.op id ver off) v=storeB h id (blk h id) sz ver off v:=by
 unfold storeR storeB;rfl
theorem cf3{h:Heap}{id ver off n:Nat}{ty:TypeId}{f:Nat->PV}{c:PV}(hlt:off < n)(ho:one c=true):storeB h id (some (.cells ver ty true (tab n f))) 1 ver off c=some (.tup [],hput h id (.cells ver ty true (tab n (updF f off c)))):=by
 have:spl (tab n f) off [c]=(tab n f).set off c:=by
  rw[spl,List.set_eq_take_append_cons_drop,if_pos (by rw[rk];exact hlt)];rfl
 simp only[storeB,zv ho];rw[if_pos ⟨trivial,rfl,by rw[rk];omega⟩,this,de9]
theorem sa{id ver off n:Nat}{i:Int}{k:IntKind}(sz:Nat)(h0:0<=i)(h1:i < n):idxR sz (.os id ver off n) (.sc (.int k i))=some (.op id ver (off+i.toNat*sz)):=by
 simp[idxR,h0,h1]
theorem db1{t:Bool}{n:Nat}{f:Nat->PV}{i:Int}{k:IntKind}(h0:0<=i)(h1:i < n)(ho:one (f i.toNat)=true):idxR 1 (.fs t (tab n f)) (.sc (.int k i))=some (.fp (f i.toNat)):=by
 have:i.toNat < n:=by omega
 simp only[idxR,rk];rw[if_pos ⟨h0,h1⟩,ai3 this];simp[vu ho]
def slcB(d:Option TypeDesc):Bool:=match d with
 |some (.slice _)=>true
 |_=>false
theorem bn7(e:TypeId):slcB (some (.slice e))=true:=_root_.id O
theorem bd5{d:Option TypeDesc}(h:slcB d=true):∃e,d=some (.slice e):=by
 unfold slcB at h;split at h
 ·exact⟨_,O⟩
 ·cases h
section
variable{P:Program}{t ty:TypeId}
theorem bt1{id ver off n:Nat}(h:slcB (P.underlying t)=true):biF P .len #[t] ty [.os id ver off n]=some (vi n):=by
 obtain⟨e,he⟩:=bd5 h;exact ci0 he ty
theorem bw7{tt:Bool}{es:List PV}(h:slcB (P.underlying t)=true):biF P .len #[t] ty [.fs tt es]=some (vi es.length):=by
 obtain⟨e,he⟩:=bd5 h;exact at9 he (.inr ⟨tt,O⟩) ty
theorem bj3(h:slcB (P.underlying t)=true):biF P .len #[t] ty [nilS]=some (vi 0):=by
 obtain⟨e,he⟩:=bd5 h;exact at9 he .nil ty
end
attribute [simp] bn7 bt1 bw7 bj3
theorem n_mk{h:Heap}{e:TypeId}{b n:Nat}{v:PV}{k k':IntKind}(hf:fits n b=true):mkSliceR h e b [v] (.sc (.int k (n:Int))) (.sc (.int k' (n:Int)))=some (.os (hlen h) h.nv 0 n,hnew h (.cells h.nv e true (tab n λ_=>v))):=by2 hf
attribute [simp] au4 ck1 dl2 ao4 cf3 sa db1 n_mk rk
attribute [simp] Value.cells
def Acc(a:Nat)(e:TypeId)(h:Heap)(s:PV)(l:List PV):Prop:=
 a<=hlen h/\l.all one=true/\((s=nilS/\l=[])\/s= .fs true l\/∃id ver,s= .os id ver 0 l.length/\a<=id/\blk h id=some (.cells ver e true l))
theorem Acc.push{a:Nat}{e:TypeId}{h:Heap}{s v:PV}{l:List PV}{b:Nat}(H:Acc a e h s l)(ho:one v=true)(hf:fits (l.length+1) b=true)(t:Bool):
 ∃s' h',appendR h e 1 b s (.fs t [v])=some (s',h')/\Acc a e h' s' (l++[v])/\(∀i,i < a->blk h' i=blk h i)/\hlen h<=hlen h':=by
 obtain⟨h1,h2,h3⟩:=H;simp only[hlen,blk]at h1 h3⊢;simp only[Acc,hlen,blk];have hall:(l++[v]).all one=true:=by simp[h2,ho]
 have hsrc:srcF h 1 (.fs t [v])=some (1,[v]):=by simp[srcF,vu ho,rowCells,zv ho]
 have hcn:l.all (λv=>cnt v==some 1)=true:=by
  rw[List.all_eq_true]at h2⊢;intro x hx;simp[vu (h2 x hx)]
 rcases h3 with⟨rfl,rfl⟩|rfl|⟨id,ver,rfl,hid,hb⟩
 ·refine⟨.os h.bl.length h.nv 0 1,newBlk h e [v],?_,⟨by simp[newBlk];omega,hall,.inr (.inr ⟨h.bl.length,h.nv,rfl,h1,by simp[newBlk]⟩)⟩,λi hi=>?_,by simp[newBlk]⟩
  ·simp at hf;simp[appendR,hsrc,appF,hf]
  ·simp[newBlk,List.getElem?_append_left (show i < h.bl.length by omega)]
 ·refine⟨.os h.bl.length h.nv 0 (l.length+1),newBlk h e (l++[v]),?_,⟨by simp[newBlk];omega,hall,.inr (.inr ⟨h.bl.length,h.nv,by simp,h1,by simp[newBlk]⟩)⟩,λi hi=>?_,by simp[newBlk]⟩
  ·simp[appendR,hsrc,appF,hcn,hf,te h2]
  ·simp[newBlk,List.getElem?_append_left (show i < h.bl.length by omega)]
 ·have hlt:=(List.getElem?_eq_some_iff.1 hb).1;refine⟨.os id h.nv 0 (l.length+1),⟨h.nv+1,h.bl.set id (.cells h.nv e true (l++[v]))⟩,?_,⟨by simp;omega,hall,.inr (.inr ⟨id,h.nv,by simp,hid,by simp[hlt]⟩)⟩,λi hi=>?_,by simp⟩
  ·simp[appendR,hsrc,appF,hb,hf]
  ·simp[List.getElem?_set,show¬id=i by omega]
theorem Acc.frame{a:Nat}{e:TypeId}{h h':Heap}{s:PV}{l:List PV}(H:Acc a e h s l)(hk:∀i,a<=i->i < hlen h->blk h' i=blk h i)(hl:hlen h<=hlen h'):Acc a e h' s l:=by
 obtain⟨h1,h2,h3⟩:=H;refine⟨by omega,h2,?_⟩;rcases h3 with h3|h3|⟨id,ver,h3,h4,h5⟩
 ·exact .inl h3
 ·exact .inr (.inl h3)
 ·exact .inr (.inr ⟨id,ver,h3,h4,by rw[hk id h4 (sk h5)];exact h5⟩)
theorem Acc.sl{a:Nat}{e:TypeId}{h:Heap}{s:PV}{l:List PV}(H:Acc a e h s l)(P:Program)(hc:closedL l=true):∃r,Deep P h s r/\IsSl r l:=by
 obtain⟨h1,h2,h3⟩:=H;rcases h3 with⟨rfl,rfl⟩|rfl|⟨id,ver,rfl,h4,h5⟩
 ·exact⟨nilS,bt5,.nil⟩
 ·exact⟨.fs true l,du (by simpa[closed]using hc),.inr ⟨true,O⟩⟩
 ·exact⟨.fs false l,cp7 h5 O h2 hc,.inr ⟨false,O⟩⟩
end Go.Pb
set_option linter.unusedVariables false
set_option linter.unusedSimpArgs false
namespace Go.Pb
open Go Go.RowKit
theorem OpD_one{P:Program}{o:AOp}{hf:Bool}{T:Nat->PV}{h:Heap}{K:PV->Heap->Prop}(H:OpD P o hf T h K):∃v h',K v h'/\∀K':PV->Heap->Prop,K' v h'->OpD P o hf T h K':=by
 unfold OpD at H;split at H
 ·rename_i hk;obtain⟨r,h1,h2⟩:=H;exact⟨r,h,h2,λK' hK=>by unfold OpD;rw[hk];exact⟨r,h1,hK⟩⟩
 ·rename_i hk;obtain⟨r,h',h1,h2⟩:=H;exact⟨r,h',h2,λK' hK=>by unfold OpD;rw[hk];exact⟨r,h',h1,hK⟩⟩
 ·rename_i hk;split at H
  ·obtain⟨g,azq,h1,r,h2,h3⟩:=H;exact⟨r,h,h3,λK' hK=>by unfold OpD;rw[hk];exact⟨g,azq,h1,r,h2,hK⟩⟩
  ·exact H.elim
 ·exact H.elim
theorem ah6{P:Program}:∀(l:List AOper){T:Nat->PV}{h:Heap}{K:(Nat->PV)->Heap->Prop},wpD P l T h K->∃T' h',K T' h'/\∀K':(Nat->PV)->Heap->Prop,K' T' h'->wpD P l T h K'
 |[],T,h,K,H=>⟨T,h,H,λ_ hK=>hK⟩
 |o::r,T,h,K,H=>by
  obtain⟨g,hg,h1,h2⟩:=H;cases g with
  |true=>
   obtain⟨v,h',h3,h4⟩:=OpD_one (h1 O);obtain⟨T'',h'',h5,h6⟩:=ah6 r h3;exact⟨T'',h'',h5,λK' hK=>⟨true,hg,λ_=>h4 _ (h6 K' hK),λe=>by cases e⟩⟩
  |false=>
   obtain⟨T'',h'',h5,h6⟩:=ah6 r (h2 O);exact⟨T'',h'',h5,λK' hK=>⟨false,hg,(λe=>by cases e),λ_=>h6 K' hK⟩⟩
theorem OpS_one{P:Program}{o:AOp}{hf:Bool}{T:Nat->PV}{h:Heap}{K:PV->Heap->Prop}(H:OpS P o hf T h K):∃v h',K v h'/\∀K':PV->Heap->Prop,K' v h'->OpS P o hf T h K':=by
 rcases H with H|⟨f,args,g,azq,r,h',e,hc,hF,hk⟩|⟨g,azq,r,h',hI,hF,hk⟩
 ·obtain⟨v,h',h1,h2⟩:=OpD_one H;exact⟨v,h',h1,λK' hK=> .inl (h2 K' hK)⟩
 ·exact⟨r,h',hk,λK' hK=> .inr (.inl ⟨f,args,g,azq,r,h',e,hc,hF,hK⟩)⟩
 ·exact⟨r,h',hk,λK' hK=> .inr (.inr ⟨g,azq,r,h',hI,hF,hK⟩)⟩
theorem ap8{P:Program}:∀(l:List AOper){T:Nat->PV}{h:Heap}{K:(Nat->PV)->Heap->Prop},wpS P l T h K->∃T' h',K T' h'/\∀K':(Nat->PV)->Heap->Prop,K' T' h'->wpS P l T h K'
 |[],T,h,K,⟨T',h',hw,H⟩=>⟨T',h',H,λ_ hK=>⟨T',h',hw,hK⟩⟩
 |o::r,T,h,K,⟨T1,h1,hw,g,hg,k1,k2⟩=>by
  cases g with
  |true=>
   obtain⟨v,h',h3,h4⟩:=OpS_one (k1 O);obtain⟨T'',h'',h5,h6⟩:=ap8 r h3;exact⟨T'',h'',h5,λK' hK=>⟨T1,h1,hw,true,hg,λ_=>h4 _ (h6 K' hK),λe=>by cases e⟩⟩
  |false=>
   obtain⟨T'',h'',h5,h6⟩:=ap8 r (k2 O);exact⟨T'',h'',h5,λK' hK=>⟨T1,h1,hw,false,hg,(λe=>by cases e),λ_=>h6 K' hK⟩⟩
theorem be4{P:Program}:∀(l:List AOper){T:Nat->PV}{h:Heap}{K:(Nat->PV)->Heap->Prop},wpU P l T h K->∃T' h',K T' h'/\∀K':(Nat->PV)->Heap->Prop,K' T' h'->wpU P l T h K'
 |[],T,h,K,H=>⟨T,h,H,λ_ hK=>hK⟩
 |o::r,T,h,K,H=>by
  obtain⟨g,hg,k1,k2⟩:=H;cases g with
  |true=>
   obtain⟨v,h',h3,h4⟩:=OpS_one (k1 O);obtain⟨T'',h'',h5,h6⟩:=be4 r h3;exact⟨T'',h'',h5,λK' hK=>⟨true,hg,λ_=>h4 _ (h6 K' hK),(λe=>by cases e)⟩⟩
  |false=>
   obtain⟨T'',h'',h5,h6⟩:=be4 r (k2 O);exact⟨T'',h'',h5,λK' hK=>⟨false,hg,(λe=>by cases e),λ_=>h6 K' hK⟩⟩
theorem bu7{P:Program}:∀(al:List AOper){T:Nat->PV}{h:Heap}{K:(Nat->PV)->Heap->Prop},wpM P al T h K->∃T' h',K T' h'/\∀K':(Nat->PV)->Heap->Prop,K' T' h'->wpM P al T h K'
 |[],T,h,K,H=>⟨T,h,H,λ_ hK=>hK⟩
 |o::r,T,h,K,H=>by
  obtain⟨v,h',h1,h2⟩:=H;obtain⟨T'',h'',h5,h6⟩:=bu7 r h2;exact⟨T'',h'',h5,λK' hK=>⟨v,h',h1,h6 K' hK⟩⟩
theorem ap9{P:Program}:∀(c:AC){T:Nat->PV}{h:Heap}{Q:Post},wpC P c Q T h->∃e T' h',Q e T' h'/\∀Q':Post,Q' e T' h'->wpC P c Q' T h:=by
 intro c;induction c with
 |skip=>intro T h Q H;exact⟨.normal,T,h,H,λ_ hQ=>hQ⟩
 |region d al=>
  intro T h Q H;rcases H with H|⟨hd,H⟩|⟨T1,h1,hk,H⟩
  ·obtain⟨T',h',h1,h2⟩:=ah6 al H;exact⟨.normal,T',h',h1,λQ' hQ=> .inl (h2 _ hQ)⟩
  ·obtain⟨T',h',h1,h2⟩:=ap8 al H;exact⟨.normal,T',h',h1,λQ' hQ=> .inr (.inl ⟨hd,h2 _ hQ⟩)⟩
  ·obtain⟨T',h',h1,h2⟩:=ah6 al H;exact⟨.normal,T',h',h1,λQ' hQ=> .inr (.inr ⟨_,_,hk,h2 _ hQ⟩)⟩
 |regionM al=>
  intro T h Q H;obtain⟨T',h',h3,h4⟩:=bu7 al H;exact⟨.normal,T',h',h3,λQ' hQ=>h4 _ hQ⟩
 |regionU al=>
  intro T h Q H;obtain⟨T',h',h3,h4⟩:=be4 al H;exact⟨.normal,T',h',h3,λQ' hQ=>h4 _ hQ⟩
 |regionT al la=>
  intro T h Q H;obtain⟨T1,h1,H1,H2⟩:=ah6 al H;obtain⟨T',h',h3,h4⟩:=ap8 [la] H1;exact⟨.normal,T',h',h3,λQ' hQ=>H2 _ (h4 _ hQ)⟩
 |seq a b iha ihb=>
  intro T h Q H;obtain⟨e,T',h',h1,h2⟩:=iha H;cases e with
  |normal=>
   obtain⟨e,T'',h'',h3,h4⟩:=ihb h1;exact⟨e,T'',h'',h3,λQ' hQ=>h2 _ (h4 Q' hQ)⟩
  |exit id=>exact⟨_,T',h',h1,λQ' hQ=>h2 _ hQ⟩
  |goto id=>exact⟨_,T',h',h1,λQ' hQ=>h2 _ hQ⟩
  |ret=>exact⟨_,T',h',h1,λQ' hQ=>h2 _ hQ⟩
  |panic id=>exact⟨_,T',h',h1,λQ' hQ=>h2 _ hQ⟩
  |outgrown=>exact⟨_,T',h',h1,λQ' hQ=>h2 _ hQ⟩
 |cond c a b iha ihb=>
  intro T h Q H;obtain⟨v,hv,h1,h2⟩:=H;cases v with
  |true=>
   obtain⟨e,T',h',h3,h4⟩:=iha (h1 O);exact⟨e,T',h',h3,λQ' hQ=>⟨true,hv,λ_=>h4 Q' hQ,λe=>by cases e⟩⟩
  |false=>
   obtain⟨e,T',h',h3,h4⟩:=ihb (h2 O);exact⟨e,T',h',h3,λQ' hQ=>⟨false,hv,(λe=>by cases e),λ_=>h4 Q' hQ⟩⟩
 |block id b ih=>
  intro T h Q H;obtain⟨e,T',h',h1,h2⟩:=ih H;cases e with
  |exit id'=>
   by_cases e:id'=id
   ·subst e;refine⟨.normal,T',h',by simpa[inBlk]using h1,λQ' hQ=>h2 _ (by simpa[inBlk]using hQ)⟩
   ·refine⟨.exit id',T',h',by simpa[inBlk,e]using h1,λQ' hQ=>h2 _ (by simpa[inBlk,e]using hQ)⟩
  |normal=>exact⟨_,T',h',h1,λQ' hQ=>h2 _ hQ⟩
  |goto id=>exact⟨_,T',h',h1,λQ' hQ=>h2 _ hQ⟩
  |ret=>exact⟨_,T',h',h1,λQ' hQ=>h2 _ hQ⟩
  |panic id=>exact⟨_,T',h',h1,λQ' hQ=>h2 _ hQ⟩
  |outgrown=>exact⟨_,T',h',h1,λQ' hQ=>h2 _ hQ⟩
 |loop b ih=>
  intro T h Q H;obtain⟨I,N,hI,hr⟩:=H;have key:∀N T h,I N T h->∃e T' h',Q e T' h'/\∀Q':Post,Q' e T' h'->wpC P (.loop b) Q' T h:=by
   intro N;induction N using Nat.strongRecOn with
   |_ N ihN=>
    intro T h hI;obtain⟨e,T',h',h1,h2⟩:=ih (hr N T h hI);have lone:∀(e:Exit),(∀K Q:Post,thenP (λT h=>K .normal T h) Q e=Q e)->Q e T' h'->(∀Q':Post,Q' e T' h'->wpC P b Q' T h)->∃e T' h',Q e T' h'/\∀Q':Post,Q' e T' h'->wpC P (.loop b) Q' T h:=by
     intro e he hq h2;refine⟨e,T',h',hq,λQ' hQ=>⟨λM T₁ h₁=>M=0/\T₁=T/\h₁=h,0,⟨O,O,O⟩,?_⟩⟩;rintro M T₁ h₁ ⟨rfl,rfl,rfl⟩;refine h2 _ ?_;have:=he (λ_ T' h'=>∃M,M < 0/\M=0/\T'=T₁/\h'=h₁) Q';rw[show(thenP (λT' h'=>∃M,M < 0/\M=0/\T'=T₁/\h'=h₁) Q') e=Q' e from this];exact hQ
    cases e with
    |normal=>
     obtain⟨M,hlt,hM⟩:=h1;obtain⟨e,T'',h'',h3,h4⟩:=ihN M hlt T' h' hM;refine⟨e,T'',h'',h3,λQ' hQ=>?_⟩;obtain⟨I2,N2,hI2,hr2⟩:=h4 Q' hQ;refine⟨λN T₁ h₁=>(N=N2+1/\T₁=T/\h₁=h)\/(N<=N2/\I2 N T₁ h₁),N2+1,.inl ⟨O,O,O⟩,?_⟩;rintro N₁ T₁ h₁ (⟨rfl,rfl,rfl⟩|⟨hle,hI₁⟩)
     ·exact h2 _ ⟨N2,by omega,.inr ⟨Nat.le_refl _,hI2⟩⟩
     ·obtain⟨e,Ta,ha,h5,h6⟩:=ih (hr2 N₁ T₁ h₁ hI₁);refine h6 _ ?_;cases e with
      |normal=>
       obtain⟨M,hM,hIM⟩:=h5;exact⟨M,hM,.inr ⟨by omega,hIM⟩⟩
      |exit id=>exact h5
      |goto id=>exact h5
      |ret=>exact h5
      |panic id=>exact h5
      |outgrown=>exact h5
    |exit id=>exact lone _ (λ_ _=>O) h1 h2
    |goto id=>exact lone _ (λ_ _=>O) h1 h2
    |ret=>exact lone _ (λ_ _=>O) h1 h2
    |panic id=>exact lone _ (λ_ _=>O) h1 h2
    |outgrown=>exact lone _ (λ_ _=>O) h1 h2
  exact key N T h hI
 |exit id=>intro T h Q H;exact⟨.exit id,T,h,H,λ_ hQ=>hQ⟩
 |ret=>intro T h Q H;exact⟨.ret,T,h,H,λ_ hQ=>hQ⟩
 |scope b ih=>
  intro T h Q H;obtain⟨e,T',h',h1,h2⟩:=ih H;cases e with
  |goto id=>exact h1.elim
  |normal=>exact⟨_,T',h',h1,λQ' hQ=>h2 _ hQ⟩
  |exit id=>exact⟨_,T',h',h1,λQ' hQ=>h2 _ hQ⟩
  |ret=>exact⟨_,T',h',h1,λQ' hQ=>h2 _ hQ⟩
  |panic id=>exact⟨_,T',h',h1,λQ' hQ=>h2 _ hQ⟩
  |outgrown=>exact⟨_,T',h',h1,λQ' hQ=>h2 _ hQ⟩
theorem FnR.mkE{P:Program}{f:FuncId}{own:List Tmp}{n np:Nat}{ac:AC}{rs:List (Tmp×Option (Nat×Bool))}(X:FnText P f own n np ac rs){args:List PV}(Φ:PV->Prop)(hn:args.length<=np)
 (hw:wpC P ac (retPost P rs λv h=>∃r,Deep P h v r/\Φ r) (vn args) ⟨0,[]⟩):∃r,FnR P f args r/\Φ r:=by
 obtain⟨e,T',h',hq,hall⟩:=ap9 ac hw;have key:∀e,retPost P rs (λv h=>∃r,Deep P h v r/\Φ r) e T' h'->∃r,Φ r/\retPost P rs (λv h=>Deep P h v r) e T' h':=by
  intro e hq;cases e with
  |normal=>obtain⟨vs,h1,r,h2,h3⟩:=hq;exact⟨r,h3,vs,h1,h2⟩
  |ret=>obtain⟨vs,h1,r,h2,h3⟩:=hq;exact⟨r,h3,vs,h1,h2⟩
  |exit id=>exact hq.elim
  |goto id=>exact hq.elim
  |panic id=>exact hq.elim
  |outgrown=>exact hq.elim
 obtain⟨r,h1,h2⟩:=key e hq;exact⟨r,FnR.mk X hn (hall _ h2),h1⟩
theorem FnX.mkE{P:Program}{f:FuncId}{own:List Tmp}{n np:Nat}{ac:AC}{rs:List (Tmp×Option (Nat×Bool))}(X:FnText P f own n np ac rs){args:List PV}{h:Heap}(Φ:PV->Heap->Prop)(hn:args.length<=np)
 (hw:wpC P ac (retPost P rs Φ) (vn args) h):∃r h',FnX P f args h r h'/\Φ r h':=by
 obtain⟨e,T',h',hq,hall⟩:=ap9 ac hw;have key:∀e,retPost P rs Φ e T' h'->∃r,Φ r h'/\retPost P rs (λv k=>v=r/\k=h') e T' h':=by
  intro e hq;cases e with
  |normal=>obtain⟨vs,h1,h2⟩:=hq;exact⟨_,h2,vs,h1,O,O⟩
  |ret=>obtain⟨vs,h1,h2⟩:=hq;exact⟨_,h2,vs,h1,O,O⟩
  |exit id=>exact hq.elim
  |goto id=>exact hq.elim
  |panic id=>exact hq.elim
  |outgrown=>exact hq.elim
 obtain⟨r,h1,h2⟩:=key e hq;exact⟨r,h',FnH.mk X hn (hall _ h2),h1⟩
theorem Acc.one{a:Nat}{e:TypeId}{h:Heap}{s:PV}{l:List PV}(H:Acc a e h s l):Pb.one s=true:=by
 rcases H.2.2 with⟨rfl,_⟩|rfl|⟨id,ver,rfl,_⟩<;>rfl
theorem Acc.len{a:Nat}{e:TypeId}{h:Heap}{s:PV}{l:List PV}(H:Acc a e h s l){P:Program}{t ty:TypeId}(ht:slcB (P.underlying t)=true):biF P .len #[t] ty [s]=some (vi l.length):=by
 rcases H.2.2 with⟨rfl,rfl⟩|rfl|⟨id,ver,rfl,_⟩
 ·exact bj3 ht
 ·exact bw7 ht
 ·exact bt1 ht
theorem Acc.cons{a:Nat}{e:TypeId}{h:Heap}{s v:PV}{l:List PV}{b:Nat}(H:Acc a e h s l)(ho:Pb.one v=true)(hf:fits (1+l.length) b=true):
 ∃s' h',appendR h e 1 b (.fs true [v]) s=some (s',h')/\Acc a e h' s' (v::l)/\(∀i,i < hlen h->blk h' i=blk h i)/\hlen h<=hlen h':=by
 obtain⟨h1,h2,h3⟩:=H;have hall:(v::l).all Pb.one=true:=by simp[h2,ho]
 have hcn:l.all (λv=>cnt v==some 1)=true:=by
  rw[List.all_eq_true]at h2⊢;intro x hx;simp[vu (h2 x hx)]
 have hsrc:srcF h 1 s=some (l.length,l):=by
  rcases h3 with⟨rfl,rfl⟩|rfl|⟨id,ver,rfl,hid,hb⟩
  ·rfl
  ·simp[srcF,hcn,te h2]
  ·simp only[blk]at hb;simp[srcF,hb]
 by_cases hl:l=[]
 ·subst hl;exact⟨.fs true [v],h,by simp[appendR,hsrc,appF],⟨h1,by simpa using hall,.inr (.inl rfl)⟩,λi _=>rfl,Nat.le_refl _⟩
 ·have hm:¬l.length=0:=by simpa using hl
  refine⟨.os (hlen h) h.nv 0 (1+l.length),hnew h (.cells h.nv e true (v::l)),?_,⟨by simp;omega,hall,.inr (.inr ⟨hlen h,h.nv,by simp[Nat.add_comm],h1,by simp⟩)⟩,λi hi=>by simp[hi],by simp⟩;simp[appendR,hsrc,appF,hl,hf,rowCells,zv ho,hlen,hnew,newBlk,vu ho]
theorem Acc.deep{a:Nat}{e:TypeId}{h:Heap}{s:PV}{l:List PV}(H:Acc a e h s l)(P:Program)(hc:closedL l=true):∃r,Deep P h s r/\IsSl r l:=H.sl P hc
end Go.Pb
set_option linter.unusedVariables false
set_option linter.unusedSimpArgs false
namespace Go.Pb
open Go Go.RowKit
def boolB(d:Option TypeDesc):Bool:=match d with
 |some .bool=>true
 |_=>false
theorem bq2:boolB (some .bool)=true:=_root_.id O
theorem bi4{d:Option TypeDesc}(h:boolB d=true):d=some .bool:=by
 unfold boolB at h;split at h
 ·rfl
 ·cases h
theorem bd8{P:Program}{α β:Type}{s:Sem α}{a:α}{f:α->Sem β}(h:pureRun P s=some a):pureRun P (s.bind f)=pureRun P (f a):=by
 induction s with
 |pure b=>simp only[pureRun,Option.some.injEq]at h;subst h;rfl
 |program k ih=>exact ih P h
 |mark m k ih=>exact ih h
 |_=>simp[pureRun]at h
section
variable{P:Program}{t:TypeId}{ox oy:Operand}{a b:Bool}
theorem cd7(ht:boolB (P.underlying t)=true):binF P .eql t ox oy (.sc (.bool a)) (.sc (.bool b))=some (.sc (.bool (decide (a=b)))):=by
 have ht:=bi4 ht;have e:∀k,pureRun P (Op.equalIn (k+1) t (.bool a) (.bool b))=some (decide (a=b)):=by
  intro k;simp[Op.equalIn,underlying,program,pureRun,pure,bind,Sem.bind,Sem.instMonad,ht];cases a<;>cases b<;>rfl
 have e':pureRun P (Op.equalIn Op.maxDepth t (.bool a) (.bool b))=some (decide (a=b)):=e 9999;simp[binF,toV,eqGuard,binOp,Op.equal,pure,bind,Sem.instMonad];rw[show∀(f:Unit->Sem Value),(Sem.pure ()).bind f=f () fromλ_=>rfl,bd8 e'];exact⟨_,O,O⟩
theorem cr5(ht:boolB (P.underlying t)=true):binF P .neq t ox oy (.sc (.bool a)) (.sc (.bool b))=some (.sc (.bool (!decide (a=b)))):=by
 have ht:=bi4 ht;have e:∀k,pureRun P (Op.equalIn (k+1) t (.bool a) (.bool b))=some (decide (a=b)):=by
  intro k;simp[Op.equalIn,underlying,program,pureRun,pure,bind,Sem.bind,Sem.instMonad,ht];cases a<;>cases b<;>rfl
 have e':pureRun P (Op.equalIn Op.maxDepth t (.bool a) (.bool b))=some (decide (a=b)):=e 9999;simp[binF,toV,eqGuard,binOp,Op.equal,pure,bind,Sem.instMonad];rw[show∀(f:Unit->Sem Value),(Sem.pure ()).bind f=f () fromλ_=>rfl,bd8 e'];exact⟨_,O,O⟩
end
attribute [simp] bq2 cd7 cr5
end Go.Pb
