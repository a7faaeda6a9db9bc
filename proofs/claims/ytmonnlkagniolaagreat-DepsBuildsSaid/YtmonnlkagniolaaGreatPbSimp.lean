import Derived.Test.YtmonnlkagniolaaGreatPbWp
set_option linter.all false
namespace Go.Pb
open Go Go.RowKit
abbrev vi(n:Int):PV:= .sc (.int .i64 n)
abbrev vb(b:Bool):PV:= .sc (.bool b)
abbrev nilS:PV:= .sc (.slice none 0 0)
@[simp] theorem ee2(k:IntKind)(n:Int):PV.ofConst (.int k n)= .sc (.int k n):=_root_.id O
@[simp] theorem ed7(b:Bool):PV.ofConst (.bool b)= .sc (.bool b):=_root_.id O
@[simp] theorem ds7(s:ByteArray):PV.ofConst (.string s)= .sc (.string s):=_root_.id O
@[simp] theorem dy0(a:Option Addr)(n c:Nat):PV.ofConst (.slice a n c)= .sc (.slice a n c):=_root_.id O
@[simp] theorem dm3(a:Option Addr):PV.ofConst (.pointer a)= .sc (.pointer a):=_root_.id O
@[simp] theorem dr6:PV.ofConst .nilFunc= .sc .nilFunc:=_root_.id O
@[simp] theorem dd8:PV.ofConst .nilIface= .sc .nilIface:=_root_.id O
section
variable(P:Program)(t:TypeId)(ox oy:Operand)(k:IntKind)(a b:Int)
theorem bl0:binF P .add t ox oy (.sc (.int k a)) (.sc (.int k b))=some (.sc (.int k (k.wrap (a+b)))):=by simp[binF,toV,eqGuard,binOp,Op.intArith,pureRun,pure,bind,Sem.bind,Sem.instMonad]
theorem av7:binF P .sub t ox oy (.sc (.int k a)) (.sc (.int k b))=some (.sc (.int k (k.wrap (a-b)))):=by simp[binF,toV,eqGuard,binOp,Op.intArith,pureRun,pure,bind,Sem.bind,Sem.instMonad]
theorem bj4:binF P .mul t ox oy (.sc (.int k a)) (.sc (.int k b))=some (.sc (.int k (k.wrap (a*b)))):=by simp[binF,toV,eqGuard,binOp,Op.intArith,pureRun,pure,bind,Sem.bind,Sem.instMonad]
theorem aw8:binF P .eql t ox oy (.sc (.int k a)) (.sc (.int k b))=some (.sc (.bool (decide (a=b)))):=by simp[binF,toV,eqGuard,binOp,Op.intCmp,pureRun,pure,bind,Sem.bind,Sem.instMonad];rfl
theorem av1:binF P .neq t ox oy (.sc (.int k a)) (.sc (.int k b))=some (.sc (.bool (!decide (a=b)))):=by simp[binF,toV,eqGuard,binOp,Op.intCmp,pureRun,pure,bind,Sem.bind,Sem.instMonad];rfl
theorem bl3:binF P .lss t ox oy (.sc (.int k a)) (.sc (.int k b))=some (.sc (.bool (decide (a < b)))):=by simp[binF,toV,eqGuard,binOp,Op.intCmp,pureRun,pure,bind,Sem.bind,Sem.instMonad]
theorem as0:binF P .leq t ox oy (.sc (.int k a)) (.sc (.int k b))=some (.sc (.bool (decide (a<=b)))):=by simp[binF,toV,eqGuard,binOp,Op.intCmp,pureRun,pure,bind,Sem.bind,Sem.instMonad]
theorem bm7:binF P .gtr t ox oy (.sc (.int k a)) (.sc (.int k b))=some (.sc (.bool (decide (b < a)))):=by simp[binF,toV,eqGuard,binOp,Op.intCmp,pureRun,pure,bind,Sem.bind,Sem.instMonad]
theorem au2:binF P .geq t ox oy (.sc (.int k a)) (.sc (.int k b))=some (.sc (.bool (decide (b<=a)))):=by simp[binF,toV,eqGuard,binOp,Op.intCmp,pureRun,pure,bind,Sem.bind,Sem.instMonad]
end
def idxR(sz:Nat)(v i:PV):Option PV:=match v,i with
 | .fs _ es,.sc (.int _ k)=>if 0<=k/\k < es.length then(match es[k.toNat]? with|some e=>if cnt e=some sz then some (.fp e)else none|none=>none)else none
 | .os id ver off n,.sc (.int _ k)=>if 0<=k/\k < n then some (.op id ver (off+k.toNat*sz))else none
 |_,_=>none
def loadR(h:Heap)(sz:Nat)(agg:Bool)(v:PV):Option PV:=match v with
 | .fp v=>if cnt v=some sz/\v.isAgg=agg then some v else none
 | .op id ver off=>match h.bl[id]? with
   |some (.cells ver' _ _ cs)=>if ver'=ver then fieldOf off sz agg cs else none
   |_=>none
 |_=>none
def faddrR(off sz:Nat)(agg:Bool)(v:PV):Option PV:=match v with
 | .fp (.agg cs)=>(fieldOf off sz agg cs).map .fp
 | .op id ver o=>some (.op id ver (o+off))
 |_=>none
def fieldR(off sz:Nat)(agg:Bool)(v:PV):Option PV:=match v with
 | .agg cs=>fieldOf off sz agg cs
 |_=>none
def pickR(c a b:PV):Option PV:=match c with
 | .sc (.bool v)=>some (bif v then a else b)
 |_=>none
def unR(op:UnOp)(P:Program)(v:PV):Option PV:=match toV v with
 |some a=>(pureRun P (Op.unary op a)).map .ofConst
 |none=>none
def boxR(v:PV):Option PV:=v.cellsOf.map λ_=> .fp v
def bsliceR(sz:Nat)(vs:List PV):Option PV:=if vs.all (λv=>cnt v==some sz)then some (.fs true vs)else none
def extractR(v:PV)(i:Nat):Option PV:=match v with
 | .tup vs=>vs[i]?
 |_=>none
section
variable(P:Program)(T:Nat->PV)(h:Heap)
theorem dg5(x):opQ P T h (.move x)=some (ev T x):=O
theorem dm0(c a b):opQ P T h (.pick c a b)=pickR (ev T c) (ev T a) (ev T b):=O
theorem ec2(op t x y):opQ P T h (.bin op t x y)=binF P op t x y (ev T x) (ev T y):=O
theorem q_un(op x):opQ P T h (.un op x)=unR op P (ev T x):=O
theorem bw0(sz agg x):opQ P T h (.load sz agg x)=loadR h sz agg (ev T x):=O
theorem bh7(off sz agg x):opQ P T h (.faddr off sz agg x)=faddrR off sz agg (ev T x):=O
theorem cj6(sz x i):opQ P T h (.iaddr sz x i)=idxR sz (ev T x) (ev T i):=O
theorem q_bi(b ats ty args):opQ P T h (.bi b ats ty args)=biF P b ats ty (args.map (ev T)):=O
theorem bn4(x i):opQ P T h (.extract x i)=extractR (ev T x) i:=O
theorem dl9(t x):opQ P T h (.box false t x)=boxR (ev T x):=O
theorem by7(e sz z ps):opQ P T h (.bslice false e sz z ps)=bsliceR sz (ps.map (ev T)):=O
theorem bv3(f a b):opQ P T h (.mkFunc f a b)=some (.fn f (a.map (ev T)) (b.map (ev T))):=O
end
def IsSl(v:PV)(es:List PV):Prop:=(∃ad,v= .sc (.slice ad 0 0)/\es=[])\/∃t,v= .fs t es
theorem IsSl.nil:IsSl nilS []:= .inl ⟨none,O,O⟩
theorem IsSl.cnt{v:PV}{es:List PV}(h:IsSl v es):cnt v=some 1:=by rcases h with⟨ad,rfl,_⟩|⟨t,rfl⟩<;>rfl
theorem IsSl.agg{v:PV}{es:List PV}(h:IsSl v es):v.isAgg=false:=by rcases h with⟨ad,rfl,_⟩|⟨t,rfl⟩<;>rfl
theorem IsSl.closed{v:PV}{es:List PV}(h:IsSl v es)(hc:closedL es=true):closed v=true:=by rcases h with⟨ad,rfl,_⟩|⟨t,rfl⟩<;>simp[Pb.closed,hc]
theorem am0{P:Program}{t e:TypeId}(ht:P.underlying t=some (.slice e)){v:PV}{es:List PV}(h:IsSl v es)(ty:TypeId):biF P .len [t].toArray ty [v]=some (vi es.length):=by
 rcases h with⟨ad,rfl,rfl⟩|⟨tt,rfl⟩
 ·cases ad<;>simp[biF,toVs,toV,Builtin.len_,underlying,program,pureRun,pure,bind,Sem.bind,Sem.instMonad,ht,goInt]
 ·simp[biF,toVs,toV,ht]
theorem do3{v:PV}{es:List PV}(h:IsSl v es){k:Nat}{e:PV}(he:es[k]?=some e){sz:Nat}(hc:Pb.cnt e=some sz):idxR sz v (vi (k:Int))=some (.fp e):=by
 rcases h with⟨ad,rfl,rfl⟩|⟨tt,rfl⟩
 ·simp at he
 ·have hlt:=(List.getElem?_eq_some_iff.1 he).1;have h2:=(List.getElem?_eq_some_iff.1 he).2;simp[idxR,hc,hlt,h2]
def All2{α:Type}(R:α->PV->Prop):List α->List PV->Prop
 |[],[]=>True
 |a::l,e::es=>R a e/\All2 R l es
 |_,_=>False
theorem All2.length{α:Type}{R:α->PV->Prop}:∀{l:List α}{es:List PV},All2 R l es->es.length=l.length
 |[],[],_=>rfl
 |[],_::_,h=>by simp[All2]at h
 |_::_,[],h=>by simp[All2]at h
 |_::_,_::_,h=>by simp[All2.length h.2]
theorem All2.get{α:Type}{R:α->PV->Prop}:∀{l:List α}{es:List PV}{k:Nat}(hk:k < l.length),All2 R l es->∃e,es[k]?=some e/\R l[k] e
 |[],_,_,hk,_=>by simp at hk
 |_::_,[],_,_,h=>by simp[All2]at h
 |a::l,e::es,0,_,h=>⟨e,rfl,h.1⟩
 |a::l,e::es,k+1,hk,h=>by simpa using All2.get (k:=k) (by simpa using hk) h.2
theorem All2.closed{α:Type}{R:α->PV->Prop}(hR:∀a e,R a e->Pb.closed e=true):∀{l:List α}{es:List PV},All2 R l es->closedL es=true
 |[],[],_=>rfl
 |[],_::_,h=>by simp[All2]at h
 |_::_,[],h=>by simp[All2]at h
 |_::_,_::_,h=>by simp[closedL,hR _ _ h.1,All2.closed hR h.2]
def SlOf{α:Type}(R:α->PV->Prop)(l:List α)(v:PV):Prop:=∃es,IsSl v es/\All2 R l es
theorem SlOf.len{α:Type}{R:α->PV->Prop}{l:List α}{v:PV}(h:SlOf R l v){P:Program}{t e:TypeId}(ht:P.underlying t=some (.slice e))(ty:TypeId):biF P .len [t].toArray ty [v]=some (vi l.length):=by
 obtain⟨es,h1,h2⟩:=h;rw[am0 ht h1,h2.length]
theorem SlOf.idx{α:Type}{R:α->PV->Prop}{l:List α}{v:PV}(h:SlOf R l v){sz:Nat}(hR:∀a e,R a e->Pb.cnt e=some sz){k:Nat}(hk:k < l.length):∃e,R l[k] e/\idxR sz v (vi (k:Int))=some (.fp e):=by
 obtain⟨es,h1,h2⟩:=h;obtain⟨e,he,hr⟩:=h2.get hk;exact⟨e,hr,do3 h1 he (hR _ _ hr)⟩
theorem SlOf.cnt{α:Type}{R:α->PV->Prop}{l:List α}{v:PV}(h:SlOf R l v):Pb.cnt v=some 1:=by obtain⟨es,h1,_⟩:=h;exact h1.cnt
theorem SlOf.agg{α:Type}{R:α->PV->Prop}{l:List α}{v:PV}(h:SlOf R l v):v.isAgg=false:=by obtain⟨es,h1,_⟩:=h;exact h1.agg
theorem SlOf.closed{α:Type}{R:α->PV->Prop}{l:List α}{v:PV}(h:SlOf R l v)(hR:∀a e,R a e->Pb.closed e=true):Pb.closed v=true:=by obtain⟨es,h1,h2⟩:=h;exact h1.closed (h2.closed hR)
def RInt(n:Int)(v:PV):Prop:=v=vi n
def IsL(l:List Int)(v:PV):Prop:=SlOf RInt l v
def IsM(d:List (List Int))(v:PV):Prop:=SlOf IsL d v
theorem RInt.cnt(n:Int)(v:PV)(h:RInt n v):Pb.cnt v=some 1:=by rw[h];rfl
theorem RInt.closed(n:Int)(v:PV)(h:RInt n v):Pb.closed v=true:=by rw[h];rfl
theorem IsL.closed(l:List Int)(v:PV)(h:IsL l v):Pb.closed v=true:=SlOf.closed h RInt.closed
theorem IsM.closed(l:List (List Int))(v:PV)(h:IsM l v):Pb.closed v=true:=SlOf.closed h IsL.closed
theorem IsL.idx{l:List Int}{v:PV}(h:IsL l v){k:Nat}(hk:k < l.length):idxR 1 v (vi (k:Int))=some (.fp (vi l[k])):=by
 obtain⟨e,he,h2⟩:=SlOf.idx h RInt.cnt hk;rw[h2,he]
theorem bm1{h:Heap}{v:PV}{sz:Nat}{agg:Bool}(h1:cnt v=some sz)(h2:v.isAgg=agg):loadR h sz agg (.fp v)=some v:=by simp[loadR,h1,h2]
theorem cb7{h:Heap}{k:IntKind}{n:Int}:loadR h 1 false (.fp (.sc (.int k n)))=some (.sc (.int k n)):=by simp[loadR,cnt,PV.isAgg]
theorem dq0(T:Nat->PV)(t:Nat)(v:PV):upd T t v t=v:=by simp[upd]
theorem dr8(T:Nat->PV){t s:Nat}(v:PV)(h:(s==t)=false):upd T t v s=T s:=by simp at h;simp[upd,h]
end Go.Pb
