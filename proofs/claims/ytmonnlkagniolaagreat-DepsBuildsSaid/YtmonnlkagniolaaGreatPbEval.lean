import Derived.Test.YtmonnlkagniolaaGreatPbSimp
set_option linter.all false
namespace Go.Pb
open Go Go.RowKit
def OptK(x:Option PV)(K:PV->Prop):Prop:=∃r,x=some r/\K r
def ValK(x:PV)(K:PV->Prop):Prop:=K x
def OptK2(x:Option (PV×Heap))(K:PV->Heap->Prop):Prop:=∃r h',x=some (r,h')/\K r h'
def GK(x:Option Bool)(A B:Prop):Prop:=∃g,x=some g/\(g=true->A)/\(g=false->B)
def CK(x:PV)(A B:Prop):Prop:=∃v,x= .sc (.bool v)/\(v=true->A)/\(v=false->B)
def CallK(P:Program)(h:Heap)(x:Option (FuncId×List PV))(K:PV->Prop):Prop:=∃g as,x=some (g,as)/\∃r,CallD P h g as r/\K r
theorem OptK_some(v:PV)(K:PV->Prop):OptK (some v) K=K v:=by simp[OptK]
theorem OptK2_some(v:PV)(h:Heap)(K:PV->Heap->Prop):OptK2 (some (v,h)) K=K v h:=by
 apply propext;constructor
 ·rintro⟨r,h',e,hk⟩;simp only[Option.some.injEq,Prod.mk.injEq]at e;obtain⟨rfl,rfl⟩:=e;exact hk
 ·intro hk;exact⟨v,h,O,hk⟩
theorem GK_true(A B:Prop):GK (some true) A B=A:=by simp[GK]
theorem GK_false(A B:Prop):GK (some false) A B=B:=by simp[GK]
theorem CK_true(A B:Prop):CK (.sc (.bool true)) A B=A:=by simp[CK]
theorem CK_false(A B:Prop):CK (.sc (.bool false)) A B=B:=by simp[CK]
theorem CK_of{b:Bool}{A B:Prop}(h1:b=true->A)(h2:b=false->B):CK (.sc (.bool b)) A B:=⟨b,O,h1,h2⟩
def gF(v:PV)(w:Bool):Option Bool:=match v with
 | .sc (.bool b)=>some (b==w)
 | .tup []=>some false
 |_=>none
theorem gF_b(b w:Bool):gF (.sc (.bool b)) w=some (b==w):=_root_.id O
theorem gF_u(w:Bool):gF (.tup []) w=some false:=_root_.id O
section
variable(P:Program)(T:Nat->PV)(h:Heap)(hf:Bool)(K:PV->Heap->Prop)(Kw:(Nat->PV)->Heap->Prop)(dst:Option Tmp)(op:AOp)(r:List AOper)(Q:Post)
theorem df8:wpD P (⟨dst,op,none,hf⟩::r) T h Kw=OpD P op hf T h (λv h'=>wpD P r (updO T dst v) h' Kw):=by simp[wpD,guardF]
theorem r1(t:Tmp):(∃vs,resV P T h [(t,none)]=some vs/\K (retV vs) h)=ValK (T t) (λv=>K v h):=by simp[resV,retV,ValK]
theorem r2(t s:Tmp):(∃vs,resV P T h [(t,none),(s,none)]=some vs/\K (retV vs) h)=ValK (.tup [T t,T s]) (λv=>K v h):=by simp[resV,retV,ValK]
theorem r3(t s u:Tmp):(∃vs,resV P T h [(t,none),(s,none),(u,none)]=some vs/\K (retV vs) h)=ValK (.tup [T t,T s,T u]) (λv=>K v h):=by simp[resV,retV,ValK]
theorem r0:(∃vs,resV P T h []=some vs/\K (retV vs) h)=K (.tup []) h:=by simp[resV,retV]
end
section
variable(P:Program)(T:Nat->PV)(h:Heap)(hf:Bool)(K:PV->Heap->Prop)
theorem dq9(x):OpD P (.move x) hf T h K=ValK (ev T x) (λr=>K r h):=by simp[OpD,AOp.kind,opQ,ValK]
theorem by1(f a b):OpD P (.mkFunc f a b) hf T h K=ValK (.fn f (a.map (ev T)) (b.map (ev T))) (λr=>K r h):=by simp[OpD,AOp.kind,opQ,ValK]
theorem bo4(t x):OpD P (.mkIface t x) hf T h K=ValK (.ifc t (ev T x)) (λr=>K r h):=by simp[OpD,AOp.kind,opQ,ValK]
theorem dq6(t:Nat):ev T (.tmp t)=T t:=_root_.id O
theorem ca5(v:Value):ev T (.const v)= .ofConst v:=_root_.id O
theorem da1(f:FuncId):ev T (.func f)= .fn (.func f) [] []:=_root_.id O
theorem bn9(t:Nat)(v:PV):updO T (some t) v=upd T t v:=_root_.id O
theorem bq5(v:PV):updO T none v=T:=_root_.id O
theorem wu(g:FuncId)(first cap args:List PV):callee (.fn (.func g) first cap) args=some (g,first++(args++cap)):=_root_.id O
theorem dn1(b:Bool)(x y:PV):pickR (.sc (.bool b)) x y=some (bif b then x else y):=_root_.id O
theorem cc3(b:Bool):unR .not P (.sc (.bool b))=some (.sc (.bool (!b))):=_root_.id O
theorem bg3:seen false h=h:=_root_.id O
end
inductive Fr where
 |seq (b:AC)
 |blk (id:Nat)
 |scope
 |loop (R:(Nat->PV)->Heap->Prop)
def asPost(P:Program):List Fr->Post->Post
 |[],Q=>Q
 | .seq b::S,Q=>thenP (wpC P b (asPost P S Q)) (asPost P S Q)
 | .blk id::S,Q=>inBlk id (asPost P S Q)
 | .scope::S,Q=>noGo (asPost P S Q)
 | .loop R::S,Q=>thenP R (asPost P S Q)
def runC(P:Program)(c:AC)(S:List Fr)(Q:Post)(T:Nat->PV)(h:Heap):Prop:=wpC P c (asPost P S Q) T h
def popN(P:Program)(S:List Fr)(Q:Post)(T:Nat->PV)(h:Heap):Prop:=asPost P S Q .normal T h
def popX(P:Program)(id:Nat)(S:List Fr)(Q:Post)(T:Nat->PV)(h:Heap):Prop:=asPost P S Q (.exit id) T h
def runD(P:Program)(al:List AOper)(S:List Fr)(Q:Post)(T:Nat->PV)(h:Heap):Prop:=wpD P al T h (asPost P S Q .normal)
def runO(P:Program)(o:AOp)(hf:Bool)(dst:Option Tmp)(r:List AOper)(S:List Fr)(Q:Post)(T:Nat->PV)(h:Heap):Prop:=OpD P o hf T h (λv h'=>runD P r S Q (updO T dst v) h')
def stV(P:Program)(v:PV)(dst:Option Tmp)(r:List AOper)(S:List Fr)(Q:Post)(T:Nat->PV)(h:Heap):Prop:=runD P r S Q (updO T dst v) h
def stO(P:Program)(v:Option PV)(dst:Option Tmp)(r:List AOper)(S:List Fr)(Q:Post)(T:Nat->PV)(h:Heap):Prop:=OptK v (λv=>runD P r S Q (updO T dst v) h)
def stL(P:Program)(v:Option (PV×Heap))(dst:Option Tmp)(r:List AOper)(S:List Fr)(Q:Post)(T:Nat->PV):Prop:=OptK2 v (λv h=>runD P r S Q (updO T dst v) h)
def stK(P:Program)(hh:Heap)(x:Option (FuncId×List PV))(dst:Option Tmp)(r:List AOper)(S:List Fr)(Q:Post)(T:Nat->PV)(h:Heap):Prop:=CallK P hh x (λv=>runD P r S Q (updO T dst v) h)
def stG(P:Program)(g:Option Bool)(o:AOp)(hf:Bool)(dst:Option Tmp)(r:List AOper)(S:List Fr)(Q:Post)(T:Nat->PV)(h:Heap):Prop:=GK g (runO P o hf dst r S Q T h) (runD P r S Q (updO T dst (.tup [])) h)
def stC(P:Program)(v:PV)(a b:AC)(S:List Fr)(Q:Post)(T:Nat->PV)(h:Heap):Prop:=CK v (runC P a S Q T h) (runC P b S Q T h)
section
variable{P:Program}{T:Nat->PV}{h:Heap}{hf:Bool}{dst:Option Tmp}{op:AOp}{r:List AOper}{Q:Post}{S:List Fr}
theorem dp0:runC P .skip S Q T h=popN P S Q T h:=_root_.id O
theorem eb1(a b:AC):runC P (.seq a b) S Q T h=runC P a (.seq b::S) Q T h:=_root_.id O
theorem cd5(c:Operand)(a b:AC):runC P (.cond c a b) S Q T h=stC P (ev T c) a b S Q T h:=_root_.id O
theorem da4(id:Nat)(b:AC):runC P (.block id b) S Q T h=runC P b (.blk id::S) Q T h:=_root_.id O
theorem cq3(b:AC):runC P (.scope b) S Q T h=runC P b (.scope::S) Q T h:=_root_.id O
theorem dm9(id:Nat):runC P (.exit id) S Q T h=popX P id S Q T h:=_root_.id O
theorem td:∀(S:List Fr)(Q:Post),asPost P S Q .ret T h=Q .ret T h
 |[],Q=>rfl
 | .seq b::S,Q=>td S Q
 | .blk id::S,Q=>td S Q
 | .scope::S,Q=>td S Q
 | .loop R::S,Q=>td S Q
theorem cc1:runC P .ret S Q T h=Q .ret T h:=td S Q
theorem dd2:popN P [] Q T h=Q .normal T h:=_root_.id O
theorem ec1(b:AC):popN P (.seq b::S) Q T h=runC P b S Q T h:=_root_.id O
theorem dv6(id:Nat):popN P (.blk id::S) Q T h=popN P S Q T h:=_root_.id O
theorem da3:popN P (.scope::S) Q T h=popN P S Q T h:=_root_.id O
theorem dm6(R):popN P (.loop R::S) Q T h=R T h:=_root_.id O
theorem dd3(id:Nat):popX P id (.blk id::S) Q T h=popN P S Q T h:=by simp[popX,popN,asPost,inBlk]
theorem bb4(id id':Nat)(hne:(id==id')=false):popX P id (.blk id'::S) Q T h=popX P id S Q T h:=by simp at hne;simp[popX,asPost,inBlk,hne]
theorem ea5(id:Nat)(b:AC):popX P id (.seq b::S) Q T h=popX P id S Q T h:=_root_.id O
theorem ck0(id:Nat):popX P id (.scope::S) Q T h=popX P id S Q T h:=_root_.id O
theorem dh1(id:Nat)(R):popX P id (.loop R::S) Q T h=popX P id S Q T h:=_root_.id O
theorem dx3:runD P [] S Q T h=popN P S Q T h:=_root_.id O
theorem al2:runD P (⟨dst,op,none,hf⟩::r) S Q T h=runO P op hf dst r S Q T h:=df8 ..
theorem aa2(d:Tmp)(w:Bool):runD P (⟨dst,op,some (d,w),hf⟩::r) S Q T h=stG P (gF (T d) w) op hf dst r S Q T h:=_root_.id O
theorem be6(o:AOp):stG P (some true) o hf dst r S Q T h=runO P o hf dst r S Q T h:=GK_true ..
theorem as5(o:AOp):stG P (some false) o hf dst r S Q T h=runD P r S Q (updO T dst (.tup [])) h:=GK_false ..
theorem dj2(a b:AC):stC P (.sc (.bool true)) a b S Q T h=runC P a S Q T h:=CK_true ..
theorem cq5(a b:AC):stC P (.sc (.bool false)) a b S Q T h=runC P b S Q T h:=CK_false ..
theorem v_go(v:PV):stV P v dst r S Q T h=runD P r S Q (updO T dst v) h:=_root_.id O
theorem df5(v:PV):stO P (some v) dst r S Q T h=runD P r S Q (updO T dst v) h:=OptK_some ..
theorem de9(v:PV)(h':Heap):stL P (some (v,h')) dst r S Q T=runD P r S Q (updO T dst v) h':=OptK2_some ..
theorem dp6(x):runO P (.move x) hf dst r S Q T h=stV P (ev T x) dst r S Q T h:=dq9 ..
theorem dl1(c a b):runO P (.pick c a b) hf dst r S Q T h=stO P (pickR (ev T c) (ev T a) (ev T b)) dst r S Q T h:=_root_.id O
theorem du7(op t x y):runO P (.bin op t x y) hf dst r S Q T h=stO P (binF P op t x y (ev T x) (ev T y)) dst r S Q T h:=_root_.id O
theorem y_un(op x):runO P (.un op x) hf dst r S Q T h=stO P (unR op P (ev T x)) dst r S Q T h:=_root_.id O
theorem dl3(sz agg x):runO P (.load sz agg x) hf dst r S Q T h=stO P (loadR (seen hf h) sz agg (ev T x)) dst r S Q T h:=_root_.id O
theorem cj8(off sz agg x):runO P (.faddr off sz agg x) hf dst r S Q T h=stO P (faddrR off sz agg (ev T x)) dst r S Q T h:=_root_.id O
theorem db0(off sz agg x):runO P (.field off sz agg x) hf dst r S Q T h=stO P (fieldR off sz agg (ev T x)) dst r S Q T h:=_root_.id O
theorem cr8(sz x i):runO P (.iaddr sz x i) hf dst r S Q T h=stO P (idxR sz (ev T x) (ev T i)) dst r S Q T h:=_root_.id O
theorem y_bi(b ats ty args):runO P (.bi b ats ty args) hf dst r S Q T h=stO P (biF P b ats ty (args.map (ev T))) dst r S Q T h:=_root_.id O
theorem bo6(x i):runO P (.extract x i) hf dst r S Q T h=stO P (extractR (ev T x) i) dst r S Q T h:=_root_.id O
theorem dq3(t x):runO P (.box false t x) hf dst r S Q T h=stO P (boxR (ev T x)) dst r S Q T h:=_root_.id O
theorem bo1(e sz z ps):runO P (.bslice false e sz z ps) hf dst r S Q T h=stO P (bsliceR sz (ps.map (ev T))) dst r S Q T h:=_root_.id O
theorem bu9(f a b):runO P (.mkFunc f a b) hf dst r S Q T h=stV P (.fn f (a.map (ev T)) (b.map (ev T))) dst r S Q T h:=by1 ..
theorem bp5(t x):runO P (.mkIface t x) hf dst r S Q T h=stV P (.ifc t (ev T x)) dst r S Q T h:=bo4 ..
theorem dh8(f args):runO P (.call f args) hf dst r S Q T h=stK P (seen hf h) (callee (ev T f) (args.map (ev T))) dst r S Q T h:=_root_.id O
theorem t_of{b:Bool}{a c:AC}(h1:b=true->runC P a S Q T h)(h2:b=false->runC P c S Q T h):stC P (.sc (.bool b)) a c S Q T h:=CK_of h1 h2
end
def stR(o:Option (List PV))(K:PV->Heap->Prop)(h:Heap):Prop:=∃vs,o=some vs/\K (retV vs) h
def consO(v:Option PV)(l:Option (List PV)):Option (List PV):=v.bind λv=>l.map λl=>v::l
section
variable{P:Program}{T:Nat->PV}{h:Heap}{K:PV->Heap->Prop}{rs:List (Tmp×Option (Nat×Bool))}
theorem dt7:retPost P rs K .ret T h=stR (resV P T h rs) K h:=_root_.id O
theorem bt4:retPost P rs K .normal T h=stR (resV P T h rs) K h:=_root_.id O
theorem eb8:resV P T h []=some []:=_root_.id O
theorem du4(t:Tmp):resV P T h ((t,none)::rs)=consO (some (T t)) (resV P T h rs):=by simp[resV,consO]
theorem bt5(t:Tmp)(sz:Nat)(agg:Bool):resV P T h ((t,some (sz,agg))::rs)=consO (loadR h sz agg (T t)) (resV P T h rs):=_root_.id O
theorem dg4(v:PV)(l:List PV):consO (some v) (some l)=some (v::l):=_root_.id O
theorem q_0:stR (some []) K h=K (.tup []) h:=by simp[stR,retV]
theorem q_1(v:PV):stR (some [v]) K h=K v h:=by simp[stR,retV]
theorem q_2(v v':PV)(l:List PV):stR (some (v::v'::l)) K h=K (.tup (v::v'::l)) h:=by simp[stR,retV]
end
theorem bk8{P:Program}{h:Heap}{v:Value}:Deep P h (.sc v) (.sc v):=eh O
theorem bb1{n:Int}(h1: -9223372036854775808<=n)(h2:n < 9223372036854775808):IntKind.i64.wrap n=n:=by
 simp[IntKind.wrap,IntKind.bits,IntKind.signed,Int.bmod];omega
attribute [simp] dp0 eb1 cd5 da4 cq3 dm9 cc1 dd2 ec1 dv6 da3 dm6 dd3 bb4 ea5 ck0 dh1 dx3 al2 aa2 be6 as5 dj2 cq5 v_go df5 de9
attribute [simp] dp6 dl1 du7 y_un dl3 cj8 db0 cr8 y_bi bo6 dq3 bo1 bu9 bp5 dh8
attribute [simp] dq6 ca5 da1 bn9 bq5 wu dn1 cc3 bg3 gF_b gF_u dq0 dr8 bl0 av7 bj4 aw8 av1 bl3 as0 bm7 au2 cb7
attribute [simp] dt7 bt4 eb8 du4 bt5 dg4 q_0 q_1 q_2 bk8
end Go.Pb
