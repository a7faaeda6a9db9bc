import Derived.Test.YtmonnlkagniolaaGreatPbLaw
set_option linter.all false
namespace Go.Pb
open Go Go.RowKit
abbrev TEnv:=List (Nat×PV)
def look(t:Nat):TEnv->Option PV
 |[]=>none
 |(k,v)::r=>bif Nat.beq t k then some v else look t r
def Ag(E:TEnv)(T:Nat->PV):Prop:=∀t v,look t E=some v->T t=v
def evE(E:TEnv):Operand->Option PV
 | .tmp t=>look t E
 | .const v=>some (.ofConst v)
 | .func f=>some (.fn (.func f) [] [])
 | .global _=>none
def evL(E:TEnv):List Operand->Option (List PV)
 |[]=>some []
 |o::r=>match evE E o with
  |some a=>match evL E r with
   |some l=>some (a::l)
   |none=>none
  |none=>none
theorem fy{E:TEnv}{T:Nat->PV}{o:Operand}{v:PV}(h:Ag E T)(e:evE E o=some v):ev T o=v:=by
 cases o with
 |tmp t=>exact h t v e
 |const u=>simpa[evE,ev]using e
 |func f=>simpa[evE,ev]using e
 |global g=>simp[evE]at e
theorem tx{E:TEnv}{T:Nat->PV}(h:Ag E T):∀{os:List Operand}{vs:List PV},evL E os=some vs->os.map (ev T)=vs
 |[],vs,e=>by simp[evL]at e;simp[e]
 |o::os,vs,e=>by
  simp only[evL]at e;split at e
  ·rename_i a ha;split at e
   ·rename_i l hl;simp only[Option.some.injEq]at e;rw[<-e,List.map_cons,fy h ha,tx h hl]
   ·cases e
  ·cases e
theorem vn{t d:Nat}(h:¬t=d):Nat.beq t d=false:=by
 cases hb:Nat.beq t d with
 |false=>rfl
 |true=>exact absurd (Nat.eq_of_beq_eq_true hb) h
theorem Ag.put{E:TEnv}{T:Nat->PV}(h:Ag E T)(d:Nat)(v:PV):Ag ((d,v)::E) (updO T (some d) v):=by
 intro t u e;simp only[look]at e;by_cases ht:t=d
 ·subst ht;simp only[Nat.beq_refl,cond_true,Option.some.injEq]at e;simp[updO,upd,e]
 ·have:Nat.beq t d=false:=vn ht;simp only[this,cond_false]at e;simp[updO,upd,ht,h t u e]
theorem Ag.nil(T:Nat->PV):Ag [] T:=λt v e=>by simp[look]at e
def SubE(E E0:TEnv):Prop:=∀t v,look t E0=some v->look t E=some v
theorem pr(E:TEnv):SubE E []:=λt v e=>by simp[look]at e
theorem fd{E E0:TEnv}{d:Nat}{v:PV}(h:look d E=some v)(k:SubE E E0):SubE E ((d,v)::E0):=by
 intro t u e;simp only[look]at e;by_cases ht:t=d
 ·subst ht;simp only[Nat.beq_refl,cond_true,Option.some.injEq]at e;rw[h,e]
 ·have:Nat.beq t d=false:=vn ht;simp only[this,cond_false]at e;exact k t u e
theorem Ag.sub{E E0:TEnv}{T:Nat->PV}(h:Ag E T)(s:SubE E E0):Ag E0 T:=λt v e=>h t v (s t v e)
section
variable{P:Program}{S:List Fr}{Q:Post}{E E0:TEnv}{h:Heap}
def RC(P:Program)(c:AC)(S:List Fr)(Q:Post)(E:TEnv)(h:Heap):Prop:=∀T,Ag E T->runC P c S Q T h
def RD(P:Program)(l:List AOper)(S:List Fr)(Q:Post)(E:TEnv)(h:Heap):Prop:=∀T,Ag E T->runD P l S Q T h
def PN(P:Program)(S:List Fr)(Q:Post)(E:TEnv)(h:Heap):Prop:=∀T,Ag E T->popN P S Q T h
def PX(P:Program)(id:Nat)(S:List Fr)(Q:Post)(E:TEnv)(h:Heap):Prop:=∀T,Ag E T->popX P id S Q T h
def again(P:Program)(b:AC)(S:List Fr)(Q:Post):Fr:= .loop λT h=>runC P (.loop b) S Q T h
theorem rm{c:AC}(s:SubE E E0)(k:RC P c S Q E0 h):RC P c S Q E h:=λT hT=>k T (hT.sub s)
theorem ww{l:List AOper}(s:SubE E E0)(k:RD P l S Q E0 h):RD P l S Q E h:=λT hT=>k T (hT.sub s)
theorem ab1{id:Nat}(s:SubE E E0)(k:PX P id S Q E0 h):PX P id S Q E h:=λT hT=>k T (hT.sub s)
theorem ax(k:PN P S Q E h):RC P .skip S Q E h:=k
theorem am{a b:AC}(k:RC P a (.seq b::S) Q E h):RC P (.seq a b) S Q E h:=k
theorem av{d:Bool}{al:List AOper}(k:RD P al S Q E h):RC P (.region d al) S Q E h:=λT hT=> .inl (k T hT)
theorem bf{id:Nat}{b:AC}(k:RC P b (.blk id::S) Q E h):RC P (.block id b) S Q E h:=k
theorem cc5{b:AC}(k:RC P b (.scope::S) Q E h):RC P (.scope b) S Q E h:=k
theorem dg{id:Nat}(k:PX P id S Q E h):RC P (.exit id) S Q E h:=k
theorem bp{c:Operand}{a b:AC}{v:Bool}(hc:evE E c=some (vb v))(h1:v=true->RC P a S Q E h)(h2:v=false->RC P b S Q E h):RC P (.cond c a b) S Q E h:=by
 intro T hT;rw[cd5,fy hT hc];exact t_of (λe=>h1 e T hT) (λe=>h2 e T hT)
theorem bn(k:PN P S Q E h):RD P [] S Q E h:=k
theorem ap{b:AC}(k:RC P b S Q E h):PN P (.seq b::S) Q E h:=k
theorem cy{id:Nat}(k:PN P S Q E h):PN P (.blk id::S) Q E h:=k
theorem cv{b:AC}(k:RC P (.loop b) S Q E h):PN P (again P b S Q::S) Q E h:=k
theorem dy{id:Nat}(k:PN P S Q E h):PX P id (.blk id::S) Q E h:=λT hT=>by rw[dd3];exact k T hT
theorem bb7{id id':Nat}(hne:(id==id')=false)(k:PX P id S Q E h):PX P id (.blk id'::S) Q E h:=λT hT=>by rw[bb4 _ _ hne];exact k T hT
theorem dq{id:Nat}{b:AC}(k:PX P id S Q E h):PX P id (.seq b::S) Q E h:=k
theorem dc{id:Nat}{b:AC}{S':List Fr}{Q':Post}(k:PX P id S Q E h):PX P id (again P b S' Q'::S) Q E h:=k
theorem ag1{b:AC}{Q:Post}{T:Nat->PV}{h:Heap}(H:wpC P b (thenP (λT h=>wpC P (.loop b) Q T h) Q) T h):wpC P (.loop b) Q T h:=by
 obtain⟨e,T',h',h1,h2⟩:=ah1 b H;have lone:∀(e:Exit),(∀K:(Nat->PV)->Heap->Prop,thenP K Q e=Q e)->Q e T' h'->(∀Q':Post,Q' e T' h'->wpC P b Q' T h)->wpC P (.loop b) Q T h:=by
  intro e he hq h2;refine⟨λM T₁ h₁=>M=0/\T₁=T/\h₁=h,0,⟨O,O,O⟩,?_⟩;rintro M T₁ h₁ ⟨rfl,rfl,rfl⟩;refine h2 _ ?_;rw[he];exact hq
 cases e with
 |normal=>
  obtain⟨I2,N2,hI2,hr2⟩:=h1;refine⟨λN T₁ h₁=>(N=N2+1/\T₁=T/\h₁=h)\/(N<=N2/\I2 N T₁ h₁),N2+1,.inl ⟨O,O,O⟩,?_⟩;rintro N₁ T₁ h₁ (⟨rfl,rfl,rfl⟩|⟨hle,hI₁⟩)
  ·exact h2 _ ⟨N2,by omega,.inr ⟨Nat.le_refl _,hI2⟩⟩
  ·obtain⟨e,Ta,ha,h5,h6⟩:=ah1 b (hr2 N₁ T₁ h₁ hI₁);refine h6 _ ?_;cases e with
   |normal=>
    obtain⟨M,hM,hIM⟩:=h5;exact⟨M,hM,.inr ⟨by omega,hIM⟩⟩
   |exit id=>exact h5
   |goto id=>exact h5
   |ret=>exact h5
   |panic id=>exact h5
   |outgrown=>exact h5
 |exit id=>exact lone _ (λ_=>O) h1 h2
 |goto id=>exact lone _ (λ_=>O) h1 h2
 |ret=>exact lone _ (λ_=>O) h1 h2
 |panic id=>exact lone _ (λ_=>O) h1 h2
 |outgrown=>exact lone _ (λ_=>O) h1 h2
theorem bv{b:AC}(k:RC P b (again P b S Q::S) Q E h):RC P (.loop b) S Q E h:=λT hT=>ag1 (k T hT)
def OV(P:Program)(op:AOp)(hf:Bool)(E:TEnv)(h:Heap)(v:PV):Prop:=op.kind=0/\∀T,Ag E T->opQ P T (seen hf h) op=some v
def LV(P:Program)(op:AOp)(E:TEnv)(h:Heap)(v:PV)(h':Heap):Prop:=op.kind=1/\∀T,Ag E T->opL T h op=some (v,h')
def CV(P:Program)(f:Operand)(args:List Operand)(hf:Bool)(E:TEnv)(h:Heap)(v:PV):Prop:=∀T,Ag E T->∃g as,callee (ev T f) (args.map (ev T))=some (g,as)/\CallD P (seen hf h) g as v
theorem OV.opd{op:AOp}{hf:Bool}{v:PV}{T:Nat->PV}(H:OV P op hf E h v)(hT:Ag E T){K:PV->Heap->Prop}(k:K v h):OpD P op hf T h K:=by
 unfold OpD;rw[H.1];exact⟨v,H.2 T hT,k⟩
theorem LV.opd{op:AOp}{hf:Bool}{v:PV}{h':Heap}{T:Nat->PV}(H:LV P op E h v h')(hT:Ag E T){K:PV->Heap->Prop}(k:K v h'):OpD P op hf T h K:=by
 unfold OpD;rw[H.1];exact⟨v,h',H.2 T hT,k⟩
theorem CV.opd{f:Operand}{args:List Operand}{hf:Bool}{v:PV}{T:Nat->PV}(H:CV P f args hf E h v)(hT:Ag E T){K:PV->Heap->Prop}(k:K v h):OpD P (.call f args) hf T h K:=by
 obtain⟨g,as,h1,h2⟩:=H T hT;exact⟨g,as,h1,v,h2,k⟩
section
variable{op:AOp}{hf:Bool}{v:PV}{h':Heap}{r:List AOper}{d:Nat}{f:Operand}{args:List Operand}
theorem af(H:OV P op hf E h v)(k:RD P r S Q ((d,v)::E) h):RD P (⟨some d,op,none,hf⟩::r) S Q E h:=λT hT=>by
 rw[al2];exact H.opd hT (k _ (hT.put d v))
theorem at1(H:LV P op E h v h')(k:RD P r S Q ((d,v)::E) h'):RD P (⟨some d,op,none,hf⟩::r) S Q E h:=λT hT=>by
 rw[al2];exact H.opd hT (k _ (hT.put d v))
theorem aw5(H:LV P op E h v h')(k:RD P r S Q E h'):RD P (⟨none,op,none,hf⟩::r) S Q E h:=λT hT=>by
 rw[al2];exact H.opd hT (k _ hT)
theorem ar8(H:CV P f args hf E h v)(k:RD P r S Q ((d,v)::E) h):RD P (⟨some d,.call f args,none,hf⟩::r) S Q E h:=λT hT=>by
 rw[al2];exact H.opd hT (k _ (hT.put d v))
def gp(p:Prop)[Decidable p](v:PV):PV:=if p then v else .tup []
theorem rl{g:FuncId}{as:List PV}(ef:evE E f=some (.fn (.func g) [] []))(ea:evL E args=some as)(hc:closedL as=true)(hfn:FnR P g as v):CV P f args hf E h v:=λT hT=>by
 refine⟨g,as,?_,.inl ⟨hc,hfn⟩⟩;rw[fy hT ef,tx hT ea,wu];simp
theorem dn3{g:FuncId}{first cap as:List PV}(ef:evE E f=some (.fn (.func g) first cap))(ea:evL E args=some as)(hc:closedL (first++(as++cap))=true)(hfn:FnR P g (first++(as++cap)) v):CV P f args hf E h v:=λT hT=>
 ⟨g,_,by rw[fy hT ef,tx hT ea,wu],.inl ⟨hc,hfn⟩⟩
end
section
variable{hf:Bool}{x y i c:Operand}{a b v w:PV}
theorem ay(ex:evE E x=some a):OV P (.move x) hf E h a:=⟨O,λT hT=>by rw[dg5,fy hT ex]⟩
theorem po{u:PV}(ec:evE E c=some u)(ex:evE E x=some a)(ey:evE E y=some b)(hp:pickR u a b=some v):OV P (.pick c x y) hf E h v:=⟨O,λT hT=>by rw[dm0,fy hT ec,fy hT ex,fy hT ey,hp]⟩
theorem ct{op:BinOp}{t:TypeId}(ex:evE E x=some a)(ey:evE E y=some b)(hb:binF P op t x y a b=some v):OV P (.bin op t x y) hf E h v:=⟨O,λT hT=>by rw[ec2,fy hT ex,fy hT ey,hb]⟩
theorem ju{k:Bool}(ex:evE E x=some (vb k)):OV P (.un .not x) hf E h (vb (!k)):=⟨O,λT hT=>by rw[q_un,fy hT ex,cc3]⟩
def convR(P:Program)(s d:TypeId)(v:PV):Option PV:=match toV v with
 |some a=>(pureRun P (convert s d a)).map .ofConst
 |none=>none
theorem au3{s d:TypeId}(ex:evE E x=some a)(hc:convR P s d a=some v):OV P (.conv s d x) hf E h v:=⟨O,λT hT=>by
 show convR P s d (ev T x)=some v
 rw[fy hT ex,hc]⟩
theorem ck{sz:Nat}{agg:Bool}(ex:evE E x=some (.fp a))(h1:cnt a=some sz)(h2:a.isAgg=agg):OV P (.load sz agg x) hf E h a:=⟨O,λT hT=>by rw[bw0,fy hT ex,bm1 h1 h2]⟩
theorem ak8{sz:Nat}{agg:Bool}(ex:evE E x=some a)(hl:loadR (seen hf h) sz agg a=some v):OV P (.load sz agg x) hf E h v:=⟨O,λT hT=>by rw[bw0,fy hT ex,hl]⟩
theorem ca6{off sz:Nat}{agg:Bool}(hf:fieldR off sz agg a=some w):faddrR off sz agg (.fp a)=some (.fp w):=by
 cases a<;>simp[fieldR]at hf
 simp[faddrR,hf]
theorem co{off sz:Nat}{agg:Bool}(ex:evE E x=some (.fp a))(hw:fieldR off sz agg a=some w):OV P (.faddr off sz agg x) hf E h (.fp w):=⟨O,λT hT=>by rw[bh7,fy hT ex,ca6 hw]⟩
theorem bg{off sz id ver o:Nat}{agg:Bool}(ex:evE E x=some (.op id ver o)):OV P (.faddr off sz agg x) hf E h (.op id ver (o+off)):=⟨O,λT hT=>by rw[bh7,fy hT ex];rfl⟩
theorem bd{sz:Nat}(ex:evE E x=some a)(ei:evE E i=some b)(hi:idxR sz a b=some v):OV P (.iaddr sz x i) hf E h v:=⟨O,λT hT=>by rw[cj6,fy hT ex,fy hT ei,hi]⟩
theorem cp{bu:Builtin}{ats:Array TypeId}{ty:TypeId}{os:List Operand}{vs:List PV}(es:evL E os=some vs)(hb:biF P bu ats ty vs=some v):OV P (.bi bu ats ty os) hf E h v:=⟨O,λT hT=>by rw[q_bi,tx hT es,hb]⟩
theorem be0{vs:List PV}{k:Nat}(ex:evE E x=some (.tup vs))(hk:vs[k]?=some v):OV P (.extract x k) hf E h v:=⟨O,λT hT=>by rw[bn4,fy hT ex];exact hk⟩
theorem dw{t:TypeId}{n:Nat}(ex:evE E x=some a)(hc:cnt a=some n):OV P (.box false t x) hf E h (.fp a):=⟨O,λT hT=>by
 rw[dl9,fy hT ex];cases a<;>simp[cnt]at hc<;>rfl⟩
theorem gb{e:TypeId}{sz:Nat}{z:Bool}{os:List Operand}{vs:List PV}(es:evL E os=some vs)(hc:vs.all (λv=>cnt v==some sz)=true):OV P (.bslice false e sz z os) hf E h (.fs true vs):=⟨O,λT hT=>by
 rw[by7,tx hT es];simp[bsliceR,hc]⟩
theorem ae8{f:Fn}{xs ys:List Operand}{as bs:List PV}(ex:evL E xs=some as)(ey:evL E ys=some bs):OV P (.mkFunc f xs ys) hf E h (.fn f as bs):=⟨O,λT hT=>by rw[bv3,tx hT ex,tx hT ey]⟩
def nilCheckR:PV->Option PV
 | .fp v=>some (.fp v)
 | .op id ver off=>some (.op id ver off)
 | .fn (.func f) a b=>some (.fn (.func f) a b)
 |_=>none
theorem ir(ex:evE E x=some a)(hn:nilCheckR a=some v):OV P (.nilCheck x) hf E h v:=⟨O,λT hT=>by
 show nilCheckR (ev T x)=some v
 rw[fy hT ex,hn]⟩
def buildV:List PV->List (Nat×Nat×PV)->Option (List PV)
 |zs,[]=>some zs
 |zs,(off,sz,o)::r=>match o.cellsOf with
  |some cs=>if cs.length=sz/\off+sz<=zs.length then buildV (spl zs off cs) r else none
  |none=>none
def evP(E:TEnv):List (Nat×Nat×Operand)->Option (List (Nat×Nat×PV))
 |[]=>some []
 |(a,b,o)::r=>match evE E o with
  |some v=>match evP E r with
   |some l=>some ((a,b,v)::l)
   |none=>none
  |none=>none
theorem bt2{T:Nat->PV}(hT:Ag E T):∀{ps:List (Nat×Nat×Operand)}{vs:List (Nat×Nat×PV)}(zs:List PV),evP E ps=some vs->buildF T zs ps=buildV zs vs
 |[],vs,zs,e=>by simp only[evP,Option.some.injEq]at e;subst e;rfl
 |(a,b,o)::ps,vs,zs,e=>by
  simp only[evP]at e;cases hv:evE E o with
  |none=>simp[hv]at e
  |some v=>
   cases hl:evP E ps with
   |none=>simp[hv,hl]at e
   |some l=>
    simp only[hv,hl,Option.some.injEq]at e;subst e;simp only[buildF,buildV,fy hT hv];cases v.cellsOf with
    |none=>rfl
    |some cs=>
     simp only;split
     ·exact bt2 hT _ hl
     ·rfl
theorem mr{zs:List Value}{ps:List (Nat×Nat×Operand)}{vs:List (Nat×Nat×PV)}{cs:List PV}(es:evP E ps=some vs)(hb:buildV (zs.map .sc) vs=some cs):OV P (.build zs ps) hf E h (.agg cs):=⟨O,λT hT=>by
 show(buildF T (zs.map PV.sc) ps).map PV.agg=_
 rw[bt2 hT _ es,hb];rfl⟩
def indexSR(P:Program)(t:TypeId)(v i:PV):Option PV:=match toV v,toV i with
 |some a,some b=>(pureRun P (Instr.index t a b)).map .ofConst
 |_,_=>none
theorem rp{t:TypeId}(ex:evE E x=some a)(ei:evE E i=some b)(hi:indexSR P t a b=some v):OV P (.indexS t x i) hf E h v:=⟨O,λT hT=>by
 show indexSR P t (ev T x) (ev T i)=some v
 rw[fy hT ex,fy hT ei,hi]⟩
def indexAR(len sz:Nat)(agg:Bool)(v i:PV):Option PV:=match v,i with
 | .agg cs,.sc (.int _ k)=>if 0<=k/\k < len then fieldOf (k.toNat*sz) sz agg cs else none
 |_,_=>none
theorem aq2{len sz:Nat}{agg:Bool}(ex:evE E x=some a)(ei:evE E i=some b)(hi:indexAR len sz agg a b=some v):OV P (.indexA len sz agg x i) hf E h v:=⟨O,λT hT=>by
 show indexAR len sz agg (ev T x) (ev T i)=some v
 rw[fy hT ex,fy hT ei,hi]⟩
def iaddrAR(len sz:Nat)(agg:Bool)(v i:PV):Option PV:=match v,i with
 | .fp (.agg cs),.sc (.int _ k)=>if 0<=k/\k < len then(fieldOf (k.toNat*sz) sz agg cs).map .fp else none
 | .op id ver off,.sc (.int _ k)=>if 0<=k/\k < len then some (.op id ver (off+k.toNat*sz))else none
 |_,_=>none
theorem nz{len sz:Nat}{agg:Bool}(ex:evE E x=some a)(ei:evE E i=some b)(hi:iaddrAR len sz agg a b=some v):OV P (.iaddrA len sz agg x i) hf E h v:=⟨O,λT hT=>by
 show iaddrAR len sz agg (ev T x) (ev T i)=some v
 rw[fy hT ex,fy hT ei,hi]⟩
def boundR(d:Nat):Option PV->Option Nat
 |none=>some d
 |some (.sc (.int _ n))=>if 0<=n then some n.toNat else none
 |_=>none
def evO(E:TEnv):Option Operand->Option (Option PV)
 |none=>some none
 |some o=>match evE E o with
  |some v=>some (some v)
  |none=>none
end
def QR(P:Program)(rs:List (Tmp×Option (Nat×Bool)))(R:PV->Prop):Post:=retPost P rs λv h=>∃r,Deep P h v r/\R r
def resE(E:TEnv):List (Tmp×Option (Nat×Bool))->Option (List PV)
 |[]=>some []
 |(t,none)::r=>match look t E with
  |some v=>match resE E r with
   |some l=>some (v::l)
   |none=>none
  |none=>none
 |_=>none
def argE:Nat->List PV->TEnv
 |_,[]=>[]
 |k,a::r=>(k,a)::argE (k+1) r
theorem av0:∀(l:List PV)(k:Nat)(T:Nat->PV),(∀j a,l[j]?=some a->T (k+j)=a)->Ag (argE k l) T
 |[],k,T,_=>Ag.nil T
 |a::l,k,T,hT=>by
  intro t v e;simp only[argE,look]at e;by_cases ht:t=k
  ·subst ht;simp only[Nat.beq_refl,cond_true,Option.some.injEq]at e;have:=hT 0 a O;simpa[e]using this
  ·have hb:Nat.beq t k=false:=vn ht;simp only[hb,cond_false]at e;exact av0 l (k+1) T (λj b hj=>by have:=hT (j+1) b (by simpa using hj);rwa [show k+1+j=k+(j+1) by omega]) t v e
theorem fnE{f:FuncId}{own:List Tmp}{n np:Nat}{ac:AC}{rs:List (Tmp×Option (Nat×Bool))}(X:FnText P f own n np ac rs){args:List PV}{R:PV->Prop}(hn:args.length<=np)
 (H:RC P ac [] (QR P rs R) (argE 0 args) ⟨0,[]⟩):∃r,FnR P f args r/\R r:=by
 refine FnR.mkE X R hn ?_;exact H (tf args) (av0 args 0 _ λj a hj=>by simp[tf,List.getD_eq_getElem?_getD,hj])
end
end Go.Pb
namespace Go.Pb
open Go Go.RowKit
structure TR(α:Type) where
 R:α->PV->Prop
 sz:Nat
 ag:Bool
 cnt:∀{a v},R a v->Pb.cnt v=some sz
 agg:∀{a v},R a v->v.isAgg=ag
 clo:∀{a v},R a v->Pb.closed v=true
abbrev vu8(b:UInt8):PV:= .sc (.int .u8 (b.toNat:Int))
abbrev ue(b:BitVec 32):PV:= .sc (.int .u32 (b.toNat:Int))
abbrev uq(b:BitVec 64):PV:= .sc (.int .u64 (b.toNat:Int))
abbrev vs(l:List UInt8):PV:= .sc (.string ⟨l.toArray⟩)
def tI:TR Int:=⟨λn v=>v=vi n,1,false,λh=>by rw[h];rfl,λh=>by rw[h];rfl,λh=>by rw[h];rfl⟩
def tB:TR Bool:=⟨λn v=>v=vb n,1,false,λh=>by rw[h];rfl,λh=>by rw[h];rfl,λh=>by rw[h];rfl⟩
def tU8:TR UInt8:=⟨λn v=>v=vu8 n,1,false,λh=>by rw[h];rfl,λh=>by rw[h];rfl,λh=>by rw[h];rfl⟩
def cg8:TR (BitVec 32):=⟨λn v=>v=ue n,1,false,λh=>by rw[h];rfl,λh=>by rw[h];rfl,λh=>by rw[h];rfl⟩
def ef3:TR (BitVec 64):=⟨λn v=>v=uq n,1,false,λh=>by rw[h];rfl,λh=>by rw[h];rfl,λh=>by rw[h];rfl⟩
def tS:TR (List UInt8):=⟨λn v=>v=vs n,1,false,λh=>by rw[h];rfl,λh=>by rw[h];rfl,λh=>by rw[h];rfl⟩
def big:Nat:=9223372036854775807
def tSl{α:Type}(t:TR α):TR (List α):=⟨λl v=>SlOf t.R l v/\l.length<=9223372036854775807,1,false,λh=>SlOf.cnt h.1,λh=>SlOf.agg h.1,λh=>SlOf.closed h.1 λa e he=>t.clo he⟩
def ix{α:Type}[Inhabited α](l:List α)(i:Int):α:=l.getD i.toNat default
theorem sy{α:Type}[Inhabited α]{l:List α}{i:Int}(h0:0<=i)(h:i < l.length):ix l i=l[i.toNat]' V:=by
 simp[ix,List.getD_eq_getElem?_getD,show i.toNat < l.length by omega]
theorem ad5{α:Type}[Inhabited α]{l:List α}{i:Nat}(h:i < l.length):ix l (i:Int)=l[i]:=by
 rw[sy V V];rfl
section
variable{α:Type}{t:TR α}{P:Program}
theorem ca{l:List α}{v:PV}(h:(tSl t).R l v){ty e:TypeId}(ht:P.underlying ty=some (.slice e))(ty':TypeId):biF P .len [ty].toArray ty' [v]=some (vi l.length):=SlOf.len h.1 ht ty'
theorem da{l:List α}{v:PV}(h:(tSl t).R l v):(l.length:Int)<=9223372036854775807:=by have:=h.2;omega
theorem de[Inhabited α]{l:List α}{v:PV}{i:Int}(h:(tSl t).R l v)(h0:0<=i)(h1:i < l.length):∃e,idxR t.sz v (vi i)=some (.fp e)/\t.R (ix l i) e:=by
 obtain⟨e,h2,h3⟩:=SlOf.idx h.1 (λa e he=>t.cnt he) (k:=i.toNat) V;refine⟨e,?_,by rw[sy h0 h1];exact h2⟩
 rwa [show((i.toNat:Nat):Int)=i by omega]at h3
theorem ft:(tSl t).R [] nilS:=⟨⟨[],.inl ⟨none,O,O⟩,trivial⟩,by simp⟩
theorem pd{l:List α}{es:List PV}{b:Bool}(h:All2 t.R l es)(hb:l.length<=9223372036854775807):(tSl t).R l (.fs b es):=⟨⟨es,.inr ⟨b,O⟩,h⟩,hb⟩
end
theorem slI{l:List Int}{v:PV}{i:Int}(h:(tSl tI).R l v)(h0:0<=i)(h1:i < l.length):idxR 1 v (vi i)=some (.fp (vi (ix l i))):=by
 obtain⟨e,h2,h3⟩:=de h h0 h1;have e1:e=vi (ix l i):=h3;rw[e1]at h2;exact h2
theorem bh:closedL []=true:=O
theorem aj{v:PV}{r:List PV}(h:closed v=true)(k:closedL r=true):closedL (v::r)=true:=by simp[closedL,h,k]
theorem ji{sz:Nat}:([]:List PV).all (λv=>cnt v==some sz)=true:=O
theorem all_cons{v:PV}{r:List PV}{sz:Nat}(h:cnt v=some sz)(k:r.all (λv=>cnt v==some sz)=true):(v::r).all (λv=>cnt v==some sz)=true:=by
 rw[List.all_cons,k,h];simp
def LET{α β:Type}(e:α)(b:α->β):β:=b e
theorem br{α β:Type}{e:α}{b:α->β}{r:β}(h:LET e b=r):∃w,e=w/\b w=r:=⟨e,O,h⟩
theorem aq8{α:Type}{b:Bool}{x y:α}(h:b=true):(if b=true then x else y)=x:=if_pos h
theorem ao5{α:Type}{b:Bool}{x y:α}(h:b=false):(if b=true then x else y)=y:=if_neg (by simp[h])
def wr(n:Int):Int:=IntKind.i64.wrap n
theorem dj{n:Int}(h1: -9223372036854775808<=n)(h2:n < 9223372036854775808):wr n=n:=bb1 h1 h2
section
variable{P:Program}{t:TypeId}{ox oy:Operand}
theorem dp{a b:Int}:binF P .add t ox oy (vi a) (vi b)=some (vi (wr (a+b))):=bl0 ..
theorem vt{a b:Int}:binF P .sub t ox oy (vi a) (vi b)=some (vi (wr (a-b))):=av7 ..
theorem dt{a b:Int}:binF P .eql t ox oy (vi a) (vi b)=some (vb (decide (a=b))):=aw8 ..
theorem lx{a b:Int}:binF P .neq t ox oy (vi a) (vi b)=some (vb (!decide (a=b))):=av1 ..
theorem cn{a b:Int}:binF P .lss t ox oy (vi a) (vi b)=some (vb (decide (a < b))):=bl3 ..
theorem bb6{a b:Int}:binF P .leq t ox oy (vi a) (vi b)=some (vb (decide (a<=b))):=as0 ..
theorem jr{a b:Int}:binF P .gtr t ox oy (vi a) (vi b)=some (vb (decide (b < a))):=bm7 ..
theorem kj{a b:Int}:binF P .geq t ox oy (vi a) (vi b)=some (vb (decide (b<=a))):=au2 ..
theorem as3{k:IntKind}(hk:k.signed=false)(n:Int):k.wrap n=n%(2^k.bits:Int):=by simp[IntKind.wrap,hk]
theorem ic{k:IntKind}{m n:Int}(h:m=n):some (PV.sc (.int k m))=some (PV.sc (.int k n)):=by rw[h]
theorem dv5{a b:BitVec 64}:binF P .sub t ox oy (uq a) (uq b)=some (uq (a-b)):=by
 rw[av7,as3 rfl];refine ic ?_;rw[BitVec.toNat_sub];have:=a.isLt;have:=b.isLt;simp only[IntKind.bits];omega
theorem ds8{a b:BitVec 64}:binF P .mul t ox oy (uq a) (uq b)=some (uq (a*b)):=by
 rw[bj4,as3 rfl];exact ic (by rw[BitVec.toNat_mul,Int.natCast_emod,Int.natCast_mul];rfl)
theorem uk{α:Type}(a:α):pureRun P (pure a:Sem α)=some a:=O
theorem rj{a b:Nat}:((a:Int)=(b:Int))↔a=b:=by omega
theorem dy9{a b:UInt8}:binF P .eql t ox oy (vu8 a) (vu8 b)=some (vb (decide (a=b))):=by
 rw[aw8];congr 3;simp only[decide_eq_decide];rw[rj,UInt8.toNat_inj]
theorem ea3{a b:UInt8}:binF P .neq t ox oy (vu8 a) (vu8 b)=some (vb (!decide (a=b))):=by
 rw[av1];congr 4;simp only[decide_eq_decide];rw[rj,UInt8.toNat_inj]
theorem ap7{a b:UInt8}:binF P .leq t ox oy (vu8 a) (vu8 b)=some (vb (decide (a<=b))):=by
 rw[as0];congr 3;simp only[decide_eq_decide,UInt8.le_iff_toNat_le];omega
theorem ar1{a b:UInt8}:binF P .geq t ox oy (vu8 a) (vu8 b)=some (vb (decide (b<=a))):=by
 rw[au2];congr 3;simp only[decide_eq_decide,UInt8.le_iff_toNat_le];omega
theorem do4{op:BinOp}{k k':IntKind}{a b:Int}{c:Int}(h1:∀k k' a b,binOp op t (.int k a) (.int k' b)=Op.shift op k a k' b)(hne:∀a b,eqGuard op t ox oy a b=(pure ():Sem Unit))(h2:Op.shift op k a k' b=pure (.int k c)):binF P op t ox oy (.sc (.int k a)) (.sc (.int k' b))=some (.sc (.int k c)):=by
 simp only[binF,toV,hne,h1,h2];rfl
theorem dw4:∀k k' a b,binOp .shr t (.int k a) (.int k' b)=Op.shift .shr k a k' b:=λk k' a b=>O
theorem do6{n:Nat}(a:BitVec n)(b:Nat):Int.fdiv (a.toNat:Int) (2^min b n)=((a>>>b).toNat:Int):=by
 rw[BitVec.toNat_ushiftRight,Nat.shiftRight_eq_div_pow,Int.fdiv_eq_ediv_of_nonneg _ (Int.pow_nonneg V)];by_cases h:b<=n
 ·rw[Nat.min_eq_left h];push_cast;rfl
 ·rw[Nat.min_eq_right V,Nat.div_eq_of_lt (Nat.lt_of_lt_of_le a.isLt (Nat.pow_le_pow_right V V))];have:=Nat.div_eq_of_lt a.isLt;have e:((a.toNat / 2^n:Nat):Int)=0:=by rw[this];rfl
  push_cast at e
  exact_mod_cast e
theorem ds9{a:BitVec 32}{k:IntKind}{y:Int}(h:0<=y):binF P .shr t ox oy (ue a) (.sc (.int k y))=some (ue (a>>>y.toNat)):=do4 dw4 (λ_ _=>O) (by
 simp only[Op.shift];rw[if_neg V];exact congrArg (λz=>(pure (Value.int .u32 z):Sem Value)) (do6 a y.toNat))
theorem ay1{s d:TypeId}{ds:TypeDesc}{k k':IntKind}{n:Int}(hs:P.underlying s=some ds)(hd:P.underlying d=some (.int k')):convR P s d (.sc (.int k n))=some (.sc (.int k' (k'.wrap n))):=by
 simp only[convR,toV,convert,underlying,program,bind,Sem.bind,Sem.instMonad,pure,pureRun,hs,hd];cases ds<;>rfl
theorem c_wi{s d:TypeId}{ds:TypeDesc}{a:BitVec 32}(hs:P.underlying s=some ds)(hd:P.underlying d=some (.int .i64)):convR P s d (ue a)=some (vi (a.toNat:Int)):=by
 have:=a.isLt;rw[ay1 hs hd,bb1 V V]
theorem c_dw{s d:TypeId}{ds:TypeDesc}{a:BitVec 64}(hs:P.underlying s=some ds)(hd:P.underlying d=some (.int .u32)):convR P s d (uq a)=some (ue (a.setWidth 32)):=by
 rw[ay1 hs hd,as3 rfl];exact ic (by rw[BitVec.toNat_setWidth];simp only[IntKind.bits];omega)
theorem pn{l:List UInt8}{ty ty':TypeId}(ht:P.underlying ty=some .string):biF P .len [ty].toArray ty' [vs l]=some (vi l.length):=by
 have e:toVs [vs l]=some [.string ⟨l.toArray⟩]:=O;have e2:pureRun P (Builtin.len_ [ty].toArray ty' [Value.string ⟨l.toArray⟩].toArray)=some (.int .i64 l.length):=by
  simp[Builtin.len_,underlying,program,pureRun,pure,bind,Sem.bind,Sem.instMonad,ht,goInt];rfl
 simp only[biF,e,e2];rfl
theorem uw{l:List UInt8}{ty:TypeId}{i:Int}(ht:P.underlying ty=some .string)(h0:0<=i)(h1:i < l.length):indexSR P ty (vs l) (vi i)=some (vu8 (ix l i)):=by
 have h2:i.toNat < l.length:=by omega
 have h3:(⟨l.toArray⟩:ByteArray)[i.toNat]?=some l[i.toNat]:=by
  rw[getElem?_pos (⟨l.toArray⟩:ByteArray) i.toNat (by simpa[ByteArray.size]using h2)];rfl
 simp only[indexSR,toV,Instr.index,asIntOf,underlying,program,bind,Sem.bind,Sem.instMonad,pure,pureRun,ht];rw[if_pos h0,h3,sy h0 h1];rfl
theorem bn0(l:List UInt8):(⟨l.toArray⟩:ByteArray).toList=l:=by
 have key:∀(m i:Nat)(r:List UInt8),l.length-i=m->i<=l.length->ByteArray.toList.loop ⟨l.toArray⟩ i r=r.reverse++l.drop i:=by
  intro m;induction m with
  |zero=>
   intro i r h h';have:i=l.length:=by omega
   rw[ByteArray.toList.loop,if_neg (by simp[ByteArray.size];omega),List.drop_of_length_le V];simp
  |succ m ih=>
   intro i r h h';rw[ByteArray.toList.loop,if_pos (by simp[ByteArray.size];omega),ih (i+1) _ V V];have e:(⟨l.toArray⟩:ByteArray).get! i=l[i]' V:=by simp[ByteArray.get!,show i < l.length by omega]
   rw[e,List.drop_eq_getElem_cons (show i < l.length by omega)];simp
 simpa[ByteArray.toList]using key _ 0 [] rfl V
theorem au4{l k:List UInt8}:binF P .eql t ox oy (vs l) (vs k)=some (vb (decide (l=k))):=by
 have:((⟨l.toArray⟩:ByteArray).toList==(⟨k.toArray⟩:ByteArray).toList)=decide (l=k):=by
  rw[bn0,bn0];exact Bool.eq_iff_iff.2 OZ
 simp only[binF,toV,eqGuard,binOp,Op.stringOp,this];rfl
end
def RT2(A B:PV->Prop)(v:PV):Prop:=∃a b,v= .tup [a,b]/\A a/\B b
def RT3(A B C:PV->Prop)(v:PV):Prop:=∃a b c,v= .tup [a,b,c]/\A a/\B b/\C c
def tFn(P:Program){α β:Type}(ta:TR α)(tb:TR β):TR (α->β):=⟨λg v=>∃id first cap,v= .fn (.func id) first cap/\closedL first=true/\closedL cap=true/\∀a va,ta.R a va->∃vr,FnR P id (first++([va]++cap)) vr/\tb.R (g a) vr,
 1,false,λh=>by obtain⟨_,_,_,rfl,_⟩:=h;rfl,λh=>by obtain⟨_,_,_,rfl,_⟩:=h;rfl,λh=>by obtain⟨_,_,_,rfl,h1,h2,_⟩:=h;simp[closed,h1,h2]⟩
theorem ds6{P:Program}{α β:Type}{ta:TR α}{tb:TR β}{g:α->β}{id:FuncId}(H:∀a va,ta.R a va->∃vr,FnR P id [va] vr/\tb.R (g a) vr):(tFn P ta tb).R g (.fn (.func id) [] []):=
 ⟨id,[],[],rfl,rfl,rfl,λa va h=>by simpa using H a va h⟩
def tP{α:Type}(t:TR α):TR (Option α):=⟨λo v=>match o with|none=>v= .sc (.pointer none)|some a=>∃e,v= .fp e/\t.R a e,1,false,
 λ{a v} h=>by cases a with|none=>rw[h];rfl|some a=>obtain⟨e,rfl,_⟩:=h;rfl,
 λ{a v} h=>by cases a with|none=>rw[h];rfl|some a=>obtain⟨e,rfl,_⟩:=h;rfl,
 λ{a v} h=>by cases a with|none=>rw[h];rfl|some a=>obtain⟨e,rfl,h⟩:=h;simpa[closed]using t.clo h⟩
end Go.Pb
namespace Go.Pb
open Go Go.RowKit
structure Ent where
 v:PV
 ty:TypeId
 sz:Nat
 es:List PV
def encKV(e:Value×PV):PV:= .agg [.sc e.1,e.2]
def isL:PV->Bool
 | .op _ _ _=>false
 | .om _ _=>false
 |_=>true
def EntV(h:Heap)(ty:TypeId)(es:List PV):PV->Prop
 | .op id ver 0=>∃x cs,es=[x]/\x.cellsOf=some cs/\blk h id=some (.cells ver ty true cs)
 | .os id ver 0 n=>n=es.length/\∃cs,rowCells es=some cs/\blk h id=some (.cells ver ty true cs)
 | .sc (.slice _ 0 0)=>es=[]
 | .fs true es'=>es'=es
 | .om id ver=>∃ms:List (Value×PV),es=ms.map encKV/\blk h id=some (.mp ver ms)
 |_=>False
def EntR(h:Heap)(e:Ent):Prop:=(∀x∈e.es,cnt x=some e.sz)/\EntV h e.ty e.es e.v
def idOf:PV->Option Nat
 | .op id _ _=>some id
 | .os id _ _ _=>some id
 | .om id _=>some id
 |_=>none
def Apart(a b:Ent):Prop:=∀i,idOf a.v=some i->idOf b.v=some i->False
structure Mem(h:Heap)(L:List Ent):Prop where
 ent:∀e∈L,EntR h e
 dis:L.Pairwise Apart
theorem Apart.symm{a b:Ent}(h:Apart a b):Apart b a:=λi h1 h2=>h i h2 h1
theorem Mem.nil(h:Heap):Mem h []:=⟨λe he=>by simp at he,.nil⟩
theorem Mem.at{h:Heap}{L:List Ent}(M:Mem h L){k:Nat}{e:Ent}(hk:L[k]?=some e):EntR h e:=M.ent e (List.mem_of_getElem? hk)
theorem Mem.atF{h:Heap}{L:List Ent}(M:Mem h L){k:Nat}{v:PV}{ty:TypeId}{sz:Nat}{es:List PV}(hk:L[k]?=some ⟨v,ty,sz,es⟩):(∀x∈es,cnt x=some sz)/\EntV h ty es v:=M.ent _ (List.mem_of_getElem? hk)
theorem Mem.sub{h:Heap}{L L':List Ent}(M:Mem h L)(s:L'.Sublist L):Mem h L':=⟨λe he=>M.ent e (s.subset he),M.dis.sublist s⟩
theorem EntR.frame{h h':Heap}{e:Ent}(H:EntR h e)(hb:∀i,idOf e.v=some i->i < hlen h->blk h' i=blk h i):EntR h' e:=by
 refine⟨H.1,?_⟩;have H2:=H.2;unfold EntV at H2⊢;split at H2
 ·obtain⟨x,cs,h1,h2,h3⟩:=H2;exact⟨x,cs,h1,h2,by rw[hb _ (by simp_all[idOf]) (qt h3)];exact h3⟩
 ·obtain⟨h1,cs,h2,h3⟩:=H2;exact⟨h1,cs,h2,by rw[hb _ (by simp_all[idOf]) (qt h3)];exact h3⟩
 ·exact H2
 ·exact H2
 ·obtain⟨ms,h1,h2⟩:=H2;exact⟨ms,h1,by rw[hb _ (by simp_all[idOf]) (qt h2)];exact h2⟩
 ·exact H2
theorem EntR.lt{h:Heap}{e:Ent}(H:EntR h e){i:Nat}(hi:idOf e.v=some i):i < hlen h:=by
 have H2:=H.2;unfold EntV at H2;split at H2
 ·obtain⟨x,cs,h1,h2,h3⟩:=H2;have:=qt h3;simp_all[idOf]
 ·obtain⟨h1,cs,h2,h3⟩:=H2;have:=qt h3;simp_all[idOf]
 ·simp_all[idOf]
 ·simp_all[idOf]
 ·obtain⟨ms,h1,h2⟩:=H2;have:=qt h2;simp_all[idOf]
 ·exact H2.elim
theorem Mem.new{h h':Heap}{L:List Ent}{e:Ent}(M:Mem h L)(he:EntR h' e)(hi:∀i,idOf e.v=some i->hlen h<=i)(hb:∀i,i < hlen h->blk h' i=blk h i):Mem h' (e::L):=by
 refine⟨λx hx=>?_,.cons (λx hx i h1 h2=>?_) M.dis⟩
 ·rcases List.mem_cons.1 hx with rfl|hx
  ·exact he
  ·exact(M.ent x hx).frame λi _ hi=>hb i hi
 ·have:=(M.ent x hx).lt h2;have:=hi i h1;omega
theorem aw4{L:List Ent}(hp:L.Pairwise Apart){k:Nat}{e e':Ent}(hk:L[k]?=some e)(hn:∀x∈L,Apart e x->Apart e' x):(L.set k e').Pairwise Apart:=by
 induction L generalizing k with
 |nil=>simp at hk
 |cons a L ih=>
  cases k with
  |zero=>
   simp only[List.getElem?_cons_zero,Option.some.injEq]at hk;subst hk;simp only[List.set_cons_zero];rw[List.pairwise_cons]at hp⊢;exact⟨λx hx=>hn x (by simp[hx]) (hp.1 x hx),hp.2⟩
  |succ k=>
   simp only[List.getElem?_cons_succ]at hk;simp only[List.set_cons_succ];rw[List.pairwise_cons]at hp⊢;refine⟨λx hx=>?_,ih hp.2 hk λx hx=>hn x (by simp[hx])⟩;rcases List.mem_or_eq_of_mem_set hx with h1|h1
   ·exact hp.1 x h1
   ·subst h1;exact(hn a OZ (hp.1 e (List.mem_of_getElem? hk)).symm).symm
theorem rh{L:List Ent}(hp:L.Pairwise Apart){k:Nat}{e:Ent}(hk:L[k]?=some e){j:Nat}(hj:j≠k){x:Ent}(hx:L[j]?=some x):Apart e x:=by
 rw[List.pairwise_iff_getElem]at hp;obtain⟨h1,rfl⟩:=List.getElem?_eq_some_iff.1 hk;obtain⟨h2,rfl⟩:=List.getElem?_eq_some_iff.1 hx;rcases Nat.lt_or_gt_of_ne hj with h|h
 ·exact(hp j k h2 h1 h).symm
 ·exact hp k j h1 h2 h
theorem Mem.upd{h h':Heap}{L:List Ent}{k:Nat}{e e':Ent}(M:Mem h L)(hk:L[k]?=some e)(he:EntR h' e')(hi:∀i,idOf e'.v=some i->idOf e.v=some i\/hlen h<=i)(hb:∀i,i < hlen h->idOf e.v≠some i->blk h' i=blk h i):Mem h' (L.set k e'):=by
 have key:∀x∈L,Apart e x->Apart e' x:=λx hx ha i h1 h2=>by
  rcases hi i h1 with h3|h3
  ·exact ha i h3 h2
  ·have:=(M.ent x hx).lt h2;omega
 refine⟨λx hx=>?_,aw4 M.dis hk key⟩;obtain⟨j,hj⟩:=List.getElem?_of_mem hx;by_cases hjk:j=k
 ·subst hjk;rw[List.getElem?_set_self (List.getElem?_eq_some_iff.1 hk).1]at hj;simp only[Option.some.injEq]at hj;subst hj;exact he
 ·rw[List.getElem?_set_ne (λe=>hjk e.symm)]at hj;have ha:=rh M.dis hk hjk hj;exact(M.ent x (List.mem_of_getElem? hj)).frame λi h1 h2=>hb i h2 λh3=>ha i h3 h1
section
variable{P:Program}{h:Heap}{L:List Ent}{E:TEnv}{k:Nat}{ty:TypeId}{sz:Nat}
theorem mg{x:PV}{n:Nat}(hx:cnt x=some n):∃cs,x.cellsOf=some cs/\cs.length=n:=by
 cases x<;>simp[cnt]at hx<;>simp[PV.cellsOf,hx]
theorem bk1{x:PV}{n:Nat}(M:Mem h L)(hx:cnt x=some n)(t:TypeId):∃id ver h',ownR h t x=some (.op id ver 0,h')/\Mem h' (⟨.op id ver 0,t,n,[x]⟩::L):=by
 obtain⟨cs,h1,h2⟩:=mg hx;refine⟨hlen h,h.nv,hnew h (.cells h.nv t true cs),by simp only[ownR,h1];rfl,M.new ⟨by simp[hx],x,cs,rfl,h1,by simp⟩ (λi hi=>by simp[idOf]at hi;omega) λi hi=>by simp[hi]⟩
theorem df9{o:Operand}{x:PV}{n:Nat}{t:TypeId}(M:Mem h L)(ex:evE E o=some x)(hx:cnt x=some n):∃id ver h',LV P (.box true t o) E h (.op id ver 0) h'/\Mem h' (⟨.op id ver 0,t,n,[x]⟩::L):=by
 obtain⟨id,ver,h',h1,h2⟩:=bk1 M hx t;exact⟨id,ver,h',⟨O,λT hT=>by show ownR h t (ev T o)=_;rw[fy hT ex,h1]⟩,h2⟩
theorem bw2{z:Value}{n:Nat}{t:TypeId}{x:PV}(M:Mem h L)(hz:PV.ofConst z=x)(hx:cnt x=some n):∃id ver h',LV P (.alloc true t z) E h (.op id ver 0) h'/\Mem h' (⟨.op id ver 0,t,n,[x]⟩::L):=by
 subst hz;obtain⟨id,ver,h',h1,h2⟩:=bk1 M hx t;exact⟨id,ver,h',⟨O,λT hT=>h1⟩,h2⟩
theorem pt{id ver:Nat}{x:PV}{agg:Bool}(M:Mem h L)(hk:L[k]?=some ⟨.op id ver 0,ty,sz,[x]⟩)(ha:x.isAgg=agg):loadR h sz agg (.op id ver 0)=some x:=by
 obtain⟨h1,x',cs,h2,h3,h4⟩:=M.atF hk;simp only[List.cons.injEq,and_true]at h2;subst h2;have hc:=h1 x OZ;rw[am9,h4];obtain⟨cs',h5,h6⟩:=mg hc;rw[h3]at h5;simp only[Option.some.injEq]at h5;subst h5;simp only[loadB,if_true,fieldOf];rw[if_pos V,List.drop_zero,<-h6,List.take_length];subst ha;cases x<;>simp[PV.cellsOf]at h3<;>subst h3<;>simp[mkV,PV.isAgg]
theorem bf3{id ver off sz':Nat}{x w:PV}{agg:Bool}(M:Mem h L)(hk:L[k]?=some ⟨.op id ver 0,ty,sz,[x]⟩)(hf:fieldR off sz' agg x=some w):loadR h sz' agg (.op id ver (0+off))=some w:=by
 obtain⟨h1,x',cs,h2,h3,h4⟩:=M.atF hk;simp only[List.cons.injEq,and_true]at h2;subst h2;rw[am9,h4];cases x<;>simp[fieldR]at hf
 simp only[PV.cellsOf,Option.some.injEq]at h3;subst h3;simpa[loadB]using hf
theorem pw{o:Operand}{id ver:Nat}{x:PV}{agg:Bool}(M:Mem h L)(eo:evE E o=some (.op id ver 0))(hk:L[k]?=some ⟨.op id ver 0,ty,sz,[x]⟩)(ha:x.isAgg=agg):OV P (.load sz agg o) false E h x:=
 ak8 eo (pt M hk ha)
theorem cg{o:Operand}{id ver off sz':Nat}{x w:PV}{agg:Bool}(M:Mem h L)(eo:evE E o=some (.op id ver (0+off)))(hk:L[k]?=some ⟨.op id ver 0,ty,sz,[x]⟩)(hf:fieldR off sz' agg x=some w):OV P (.load sz' agg o) false E h w:=
 ak8 eo (bf3 M hk hf)
theorem bp7{id ver:Nat}{x v:PV}(M:Mem h L)(hk:L[k]?=some ⟨.op id ver 0,ty,sz,[x]⟩)(hv:cnt v=some sz):∃h',storeR h sz (.op id ver 0) v=some (.tup [],h')/\Mem h' (L.set k ⟨.op id ver 0,ty,sz,[v]⟩):=by
 have H:=M.atF hk;obtain⟨h1,x',cs,h2,h3,h4⟩:=H;simp only[List.cons.injEq,and_true]at h2;subst h2;obtain⟨cs',h5,h6⟩:=mg (h1 x OZ);rw[h3]at h5;simp only[Option.some.injEq]at h5;subst h5;obtain⟨ds,h7,h8⟩:=mg hv;have hs:spl cs 0 ds=ds:=by simp[spl];omega
 refine⟨hput h id (.cells ver ty true ds),?_,M.upd hk ⟨by simp[hv],v,ds,rfl,h7,by simp[qt h4]⟩ (λi hi=> .inl hi) λi hi hne=>?_⟩
 ·rw[ah2,h4];simp[storeB,h7,h8,h6,hs]
 ·exact pa _ _ _ _ λe=>hne (by simp[idOf,e])
theorem be2{id ver off:Nat}{cs ds:List PV}{v:PV}(M:Mem h L)(hk:L[k]?=some ⟨.op id ver 0,ty,sz,[.agg cs]⟩)(hv:v.cellsOf=some ds)(hl:off+ds.length<=cs.length):∃h',storeR h ds.length (.op id ver (0+off)) v=some (.tup [],h')/\Mem h' (L.set k ⟨.op id ver 0,ty,sz,[.agg (spl cs off ds)]⟩):=by
 have H:=M.atF hk;obtain⟨h1,x',cs',h2,h3,h4⟩:=H;simp only[List.cons.injEq,and_true]at h2;subst h2;simp only[PV.cellsOf,Option.some.injEq]at h3;subst h3;have hc:=h1 _ (List.mem_singleton.2 O);simp only[cnt,Option.some.injEq]at hc;have hsl:(spl cs off ds).length=sz:=by simp[spl];omega
 refine⟨hput h id (.cells ver ty true (spl cs off ds)),?_,M.upd hk ⟨by simp[cnt,hsl],_,_,rfl,rfl,by simp[qt h4]⟩ (λi hi=> .inl hi) λi hi hne=>?_⟩
 ·rw[ah2,h4,Nat.zero_add];simp[storeB,hv,hl]
 ·exact pa _ _ _ _ λe=>hne (by simp[idOf,e])
theorem bt7{o o':Operand}{id ver:Nat}{x v:PV}(M:Mem h L)(eo:evE E o=some (.op id ver 0))(ev':evE E o'=some v)(hk:L[k]?=some ⟨.op id ver 0,ty,sz,[x]⟩)(hv:cnt v=some sz):∃h',LV P (.store sz o o') E h (.tup []) h'/\Mem h' (L.set k ⟨.op id ver 0,ty,sz,[v]⟩):=by
 obtain⟨h',h1,h2⟩:=bp7 M hk hv;exact⟨h',⟨O,λT hT=>by show storeR h sz (ev T o) (ev T o')=_;rw[fy hT eo,fy hT ev',h1]⟩,h2⟩
theorem bq3{o o':Operand}{id ver off n:Nat}{cs ds:List PV}{v:PV}(M:Mem h L)(eo:evE E o=some (.op id ver (0+off)))(ev':evE E o'=some v)(hk:L[k]?=some ⟨.op id ver 0,ty,sz,[.agg cs]⟩)(hv:v.cellsOf=some ds)(hn:ds.length=n)(hl:off+ds.length<=cs.length):
 ∃h',LV P (.store n o o') E h (.tup []) h'/\Mem h' (L.set k ⟨.op id ver 0,ty,sz,[.agg (spl cs off ds)]⟩):=by
 subst hn;obtain⟨h',h1,h2⟩:=be2 M hk hv hl;exact⟨h',⟨O,λT hT=>by show storeR h ds.length (ev T o) (ev T o')=_;rw[fy hT eo,fy hT ev',h1]⟩,h2⟩
theorem nt:∀{es:List PV},(∀x∈es,cnt x=some sz)->∃cs,rowCells es=some cs/\cs.length=es.length*sz
 |[],_=>⟨[],rfl,by simp⟩
 |e::es,hc=>by
  obtain⟨a,h1,h2⟩:=mg (hc e OZ);obtain⟨b,h3,h4⟩:=nt (es:=es) λx hx=>hc x (by simp[hx]);exact⟨a++b,by simp[rowCells,h1,h3],by simp[h2,h4,Nat.succ_mul];omega⟩
theorem zj:∀{es fs:List PV}{cs ds:List PV},rowCells es=some cs->rowCells fs=some ds->rowCells (es++fs)=some (cs++ds)
 |[],fs,cs,ds,h1,h2=>by simp only[rowCells,Option.some.injEq]at h1;subst h1;simpa using h2
 |e::es,fs,cs,ds,h1,h2=>by
  simp only[rowCells]at h1;cases ha:e.cellsOf with
  |none=>simp[ha]at h1
  |some a=>
   cases hb:rowCells es with
   |none=>simp[ha,hb]at h1
   |some b=>
    simp only[ha,hb,Option.some.injEq]at h1;subst h1;simp[rowCells,ha,zj hb h2]
theorem be1{es:List PV}(hc:∀x∈es,cnt x=some sz):es.all (λv=>cnt v==some sz)=true:=by
 rw[List.all_eq_true];intro x hx;simp[hc x hx]
theorem co0{e:Ent}(H:EntR h e){t e':TypeId}(ht:P.underlying t=some (.slice e'))(hne:isL e.v=true)(ty':TypeId):biF P .len [t].toArray ty' [e.v]=some (vi e.es.length):=by
 have H2:=H.2;unfold EntV at H2;split at H2
 ·rename_i id ver hv;rw[hv]at hne;cases hne
 ·rename_i id ver n hv;rw[hv,cf7 ht,H2.1]
 ·rename_i ad hv;rw[hv,am0 ht (.inl ⟨ad,rfl,rfl⟩),H2]
 ·rename_i es' hv;rw[hv,am0 ht (.inr ⟨true,rfl⟩),H2]
 ·rename_i id ver hv;first|(rw[hv]at hne;cases hne)|(simp only at hv;rw[hv]at hne;cases hne)
 ·exact H2.elim
def Src(h:Heap)(sz:Nat)(x:PV)(news:List PV):Prop:=∃cs,srcF h sz x=some (news.length,cs)/\rowCells news=some cs/\∀y∈news,cnt y=some sz
theorem ds3{x:PV}{news:List PV}(hx:IsSl x news)(hc:∀y∈news,cnt y=some sz):Src h sz x news:=by
 obtain⟨cs,h1,h2⟩:=nt hc;rcases hx with⟨ad,rfl,rfl⟩|⟨t,rfl⟩
 ·exact⟨cs,by simp only[rowCells,Option.some.injEq]at h1;subst h1;rfl,h1,hc⟩
 ·exact⟨cs,by simp[srcF,be1 hc,h1],h1,hc⟩
theorem mem_append{v x:PV}{es news:List PV}{b:Nat}(M:Mem h L)(hk:L[k]?=some ⟨v,ty,sz,es⟩)(hne:isL v=true)(hx:Src h sz x news)(hf:fits (es.length+news.length) b=true):
 ∃v' h',appendR h ty sz b v x=some (v',h')/\isL v'=true/\Mem h' (L.set k ⟨v',ty,sz,es++news⟩):=by
 obtain⟨nc,hs1,hs2,hs3⟩:=hx;have H:=M.at hk;have HF:=M.atF hk;obtain⟨cs,h1,h2⟩:=nt HF.1;have hrow:=zj h1 hs2;have hall:∀y∈es++news,cnt y=some sz:=λy hy=>by
  rcases List.mem_append.1 hy with h3|h3
  ·exact HF.1 y h3
  ·exact hs3 y h3
 by_cases h0:news.length=0
 ·have hn:news=[]:=List.eq_nil_of_length_eq_zero h0;subst hn;rw[List.append_nil];have hset:L.set k ⟨v,ty,sz,es⟩=L:=by
   obtain⟨h5,h6⟩:=List.getElem?_eq_some_iff.1 hk;rw[<-h6,List.set_getElem_self]
  refine⟨v,h,?_,hne,by rw[hset];exact M⟩;have H2:=H.2;simp only[appendR,hs1,List.length_nil];unfold EntV at H2;split at H2
  ·rename_i id ver hv;simp only at hv;rw[hv]at hne;cases hne
  ·rename_i id ver n hv;simp only at hv;rw[hv];simp[appF]
  ·rename_i ad hv;simp only at hv;rw[hv];simp[appF]
  ·rename_i es' hv;simp only at hv;rw[hv];simp[appF]
  ·rename_i id ver hv;simp only at hv;rw[hv]at hne;cases hne
  ·exact H2.elim
 ·have H2:=H.2;simp only[appendR,hs1];unfold EntV at H2;split at H2
  ·rename_i id ver hv;simp only at hv;rw[hv]at hne;cases hne
  ·rename_i id ver n hv;simp only at hv H2;obtain⟨hn,cs',h3,h4⟩:=H2;rw[h1]at h3;simp only[Option.some.injEq]at h3;subst h3 hv;have h4':=h4;simp only[blk]at h4';have htk:cs.take (n*sz)=cs:=by rw[hn,<-h2,List.take_length]
   refine⟨.os id h.nv 0 (n+news.length),hgrow h id (.cells h.nv ty true (cs++nc)),?_,O,M.upd hk ⟨hall,by simp[hn],_,hrow,by simp[qt h4]⟩ (λi hi=> .inl hi) λi hi hne'=>?_⟩
   ·simp only[appF,h0,if_false,h4'];rw[if_pos ⟨trivial,trivial,by subst hn;omega,by rw[hn];exact hf⟩,htk];rfl
   ·exact af4 _ _ _ _ λe=>hne' (by simp[idOf,e])
  ·rename_i ad hv;simp only at hv H2;subst H2 hv;simp only[List.length_nil,Nat.zero_add]at hf;refine⟨.os (hlen h) h.nv 0 news.length,hnew h (.cells h.nv ty true nc),?_,O,M.upd hk ⟨by simpa using hs3,by simp,nc,by simpa using hs2,by simp⟩ (λi hi=> .inr (by simp[idOf]at hi;omega)) λi hi _=>by simp[hi]⟩;simp only[appF,h0,if_false,hf,if_true];rfl
  ·rename_i es' hv;simp only at hv H2;subst H2 hv;refine⟨.os (hlen h) h.nv 0 (es'.length+news.length),hnew h (.cells h.nv ty true (cs++nc)),?_,O,M.upd hk ⟨hall,by simp,_,hrow,by simp⟩ (λi hi=> .inr (by simp[idOf]at hi;omega)) λi hi _=>by simp[hi]⟩;simp only[appF,h0,if_false];rw[if_pos ⟨trivial,be1 HF.1,hf⟩,h1];rfl
  ·rename_i id ver hv;simp only at hv;rw[hv]at hne;cases hne
  ·exact H2.elim
theorem ou{v:PV}{es:List PV}(M:Mem h L)(ty:TypeId)(hv:(∃ad,v= .sc (.slice ad 0 0)/\es=[])\/v= .fs true es)(hc:∀x∈es,cnt x=some sz):Mem h (⟨v,ty,sz,es⟩::L):=by
 refine M.new ⟨hc,?_⟩ (λi hi=>?_) λi hi=>O
 ·rcases hv with⟨ad,rfl,rfl⟩|rfl<;>rfl
 ·rcases hv with⟨ad,rfl,rfl⟩|rfl<;>simp[idOf]at hi
theorem aw7{z:PV}{cs:List PV}(hz:z.cellsOf=some cs)(n:Nat):rowCells (List.replicate n z)=some (repCells n cs):=by
 induction n with
 |zero=>rfl
 |succ n ih=>
  simp only[repCells]at ih;simp[List.replicate_succ,rowCells,hz,ih,repCells]
theorem cc2{z:PV}{zs:List PV}{b n:Nat}{kk kk':IntKind}(M:Mem h L)(hz:z.cellsOf=some zs)(hc:cnt z=some sz)(ty:TypeId)(hf:fits n b=true):∃id ver h',mkSliceR h ty b zs (.sc (.int kk (n:Int))) (.sc (.int kk' (n:Int)))=some (.os id ver 0 n,h')/\Mem h' (⟨.os id ver 0 n,ty,sz,List.replicate n z⟩::L):=by
 refine⟨hlen h,h.nv,hnew h (.cells h.nv ty true (repCells n zs)),?_,M.new ⟨λx hx=>?_,by simp,_,aw7 hz n,by simp⟩ (λi hi=>by simp[idOf]at hi;omega) λi hi=>by simp[hi]⟩
 ·simp[mkSliceR,hf];exact⟨O,O⟩
 ·rw[(List.mem_replicate.1 hx).2];exact hc
theorem cx8{z:Value}{zs:List PV}{zz:PV}{b n:Nat}{kk kk':IntKind}{o o':Operand}(M:Mem h L)(e1:evE E o=some (.sc (.int kk (n:Int))))(e2:evE E o'=some (.sc (.int kk' (n:Int))))(ez:z.cells.toList.map PV.sc=zs)(hz:zz.cellsOf=some zs)(hc:cnt zz=some sz)(hf:fits n b=true):
 ∃id ver h',LV P (.mkSlice ty sz b z o o') E h (.os id ver 0 n) h'/\Mem h' (⟨.os id ver 0 n,ty,sz,List.replicate n zz⟩::L):=by
 obtain⟨id,ver,h',h1,h2⟩:=cc2 (kk:=kk) (kk':=kk') M hz hc ty hf;exact⟨id,ver,h',⟨O,λT hT=>by show mkSliceR h ty b (z.cells.toList.map PV.sc) (ev T o) (ev T o')=_;rw[ez,fy hT e1,fy hT e2,h1]⟩,h2⟩
theorem sn:∀{es cs:List PV}{i:Nat}{x:PV},(∀y∈es,cnt y=some sz)->rowCells es=some cs->es[i]?=some x->i*sz+sz<=cs.length/\x.cellsOf=some ((cs.drop (i*sz)).take sz)
 |[],_,_,_,_,_,hi=>by simp at hi
 |e::es,cs,i,x,hc,hr,hi=>by
  obtain⟨a,h1,h2⟩:=mg (hc e OZ);obtain⟨b,h3,h4⟩:=nt (es:=es) (sz:=sz) λx hx=>hc x (by simp[hx]);simp only[rowCells,h1,h3,Option.some.injEq]at hr;subst hr;cases i with
  |zero=>
   simp only[List.getElem?_cons_zero,Option.some.injEq]at hi;subst hi;refine⟨by simp;omega,?_⟩;rw[h1,Nat.zero_mul,List.drop_zero,<-h2,List.take_left' rfl]
  |succ i=>
   simp only[List.getElem?_cons_succ]at hi;obtain⟨h5,h6⟩:=sn (i:=i) (λy hy=>hc y (by simp[hy])) h3 hi;refine⟨by simp[Nat.succ_mul];omega,?_⟩;have e2:(a++b).drop (a.length+i*sz)=b.drop (i*sz):=by rw[List.drop_append];simp
   rw[h6,show(i+1)*sz=a.length+i*sz by rw[Nat.succ_mul];omega,e2]
theorem bp2{id ver n i:Nat}{es:List PV}{x:PV}{agg:Bool}(M:Mem h L)(hk:L[k]?=some ⟨.os id ver 0 n,ty,sz,es⟩)(hi:es[i]?=some x)(ha:x.isAgg=agg):loadR h sz agg (.op id ver (0+i*sz))=some x:=by
 obtain⟨h1,hn,cs,h2,h3⟩:=M.atF hk;obtain⟨h4,h5⟩:=sn h1 h2 hi;rw[am9,h3,Nat.zero_add];simp only[loadB,if_true,fieldOf];rw[if_pos h4];subst ha;have hx:=h1 x (List.mem_of_getElem? hi);generalize (cs.drop (i*sz)).take sz=ds at h5;cases x<;>simp[PV.cellsOf]at h5<;>subst h5<;>simp[mkV,PV.isAgg]
theorem og{o:Operand}{id ver n i:Nat}{es:List PV}{x:PV}{agg:Bool}(M:Mem h L)(eo:evE E o=some (.op id ver (0+i*sz)))(hk:L[k]?=some ⟨.os id ver 0 n,ty,sz,es⟩)(hi:es[i]?=some x)(ha:x.isAgg=agg):OV P (.load sz agg o) false E h x:=
 ak8 eo (bp2 M hk hi ha)
theorem uj:∀{es cs ds:List PV}{i:Nat}{v:PV},(∀y∈es,cnt y=some sz)->rowCells es=some cs->i < es.length->v.cellsOf=some ds->ds.length=sz->rowCells (es.set i v)=some (spl cs (i*sz) ds)
 |[],_,_,_,_,_,_,hi,_,_=>by simp at hi
 |e::es,cs,ds,i,v,hc,hr,hi,hv,hd=>by
  obtain⟨a,h1,h2⟩:=mg (hc e OZ);obtain⟨b,h3,h4⟩:=nt (es:=es) (sz:=sz) λx hx=>hc x (by simp[hx]);simp only[rowCells,h1,h3,Option.some.injEq]at hr;subst hr;cases i with
  |zero=>
   simp only[List.set_cons_zero,rowCells,hv,h3,Nat.zero_mul,spl,List.take_zero,List.nil_append,Nat.zero_add];rw[hd,<-h2,List.drop_left' rfl]
  |succ i=>
   have:=uj (i:=i) (v:=v) (λy hy=>hc y (by simp[hy])) h3 (by simpa using hi) hv hd;simp only[List.set_cons_succ,rowCells,h1,this,Option.some.injEq];have e1:(a++b).take (a.length+i*sz)=a++b.take (i*sz):=by rw[List.take_append,List.take_of_length_le V];simp
   have e2:(a++b).drop (a.length+i*sz+ds.length)=b.drop (i*sz+ds.length):=by rw[Nat.add_assoc,List.drop_append];simp
   simp only[spl,show(i+1)*sz=a.length+i*sz by rw[Nat.succ_mul];omega,e1,e2,List.append_assoc]
theorem cj5{id ver n i:Nat}{es:List PV}{v:PV}(M:Mem h L)(hk:L[k]?=some ⟨.os id ver 0 n,ty,sz,es⟩)(hi:i < es.length)(hv:cnt v=some sz):∃h',storeR h sz (.op id ver (0+i*sz)) v=some (.tup [],h')/\Mem h' (L.set k ⟨.os id ver 0 n,ty,sz,es.set i v⟩):=by
 obtain⟨h1,hn,cs,h2,h3⟩:=M.atF hk;obtain⟨ds,h4,h5⟩:=mg hv;have hg:=sn h1 h2 (List.getElem?_eq_getElem hi);refine⟨hput h id (.cells ver ty true (spl cs (i*sz) ds)),?_,M.upd hk ⟨λx hx=>?_,by simp[hn],_,uj h1 h2 hi h4 h5,by simp[qt h3]⟩ (λi hi=> .inl hi) λi hi hne=>?_⟩
 ·rw[ah2,h3,Nat.zero_add];simp only[storeB,h4];rw[if_pos ⟨trivial,h5,by omega⟩]
 ·rcases List.mem_or_eq_of_mem_set hx with h6|h6
  ·exact h1 x h6
  ·rw[h6];exact hv
 ·exact pa _ _ _ _ λe=>hne (by simp[idOf,e])
theorem dk6{o o':Operand}{id ver n i:Nat}{es:List PV}{v:PV}(M:Mem h L)(eo:evE E o=some (.op id ver (0+i*sz)))(ev':evE E o'=some v)(hk:L[k]?=some ⟨.os id ver 0 n,ty,sz,es⟩)(hi:i < es.length)(hv:cnt v=some sz):
 ∃h',LV P (.store sz o o') E h (.tup []) h'/\Mem h' (L.set k ⟨.os id ver 0 n,ty,sz,es.set i v⟩):=by
 obtain⟨h',h1,h2⟩:=cj5 M hk hi hv;exact⟨h',⟨O,λT hT=>by show storeR h sz (ev T o) (ev T o')=_;rw[fy hT eo,fy hT ev',h1]⟩,h2⟩
theorem ax0{v:PV}{es:List PV}(M:Mem h L)(hk:L[k]?=some ⟨v,ty,sz,es⟩)(hne:isL v=true)(hc:closedL es=true):∃r,Deep P h v r/\IsSl r es:=by
 have H:=M.at hk;have HF:=M.atF hk;have H2:=H.2;unfold EntV at H2;split at H2
 ·rename_i id ver hv;simp only at hv;rw[hv]at hne;cases hne
 ·rename_i id ver n hv;simp only at hv H2;obtain⟨hn,cs,h2,h3⟩:=H2;have hl:cs.length=es.length*sz:=by
   obtain⟨cs',h4,h5⟩:=nt HF.1;rw[h2]at h4;simp only[Option.some.injEq]at h4;subst h4;exact h5
  subst hv;refine⟨.fs false es,bi5 (sz:=sz) h3 (by subst hn;omega) hn.symm ?_ (be1 HF.1) hc,.inr ⟨false,O⟩⟩;rw[h2,List.drop_zero,hn,<-hl,List.take_length]
 ·rename_i ad hv;simp only at hv H2;subst hv H2;exact⟨_,eh O,.inl ⟨ad,O,O⟩⟩
 ·rename_i es' hv;simp only at hv H2;subst hv H2;exact⟨_,eh (by simpa[closed]using hc),.inr ⟨true,O⟩⟩
 ·rename_i id ver hv;simp only at hv;rw[hv]at hne;cases hne
 ·exact H2.elim
theorem All2.app{α:Type}{R:α->PV->Prop}:∀{l k:List α}{es fs:List PV},All2 R l es->All2 R k fs->All2 R (l++k) (es++fs)
 |[],_,[],_,_,h=>h
 |[],_,_::_,_,h,_=>by simp[All2]at h
 |_::_,_,[],_,h,_=>by simp[All2]at h
 |_::_,_,_::_,_,h,k=>⟨h.1,All2.app h.2 k⟩
theorem All2.set{α:Type}{R:α->PV->Prop}:∀{l:List α}{es:List PV}{i:Nat}{a:α}{v:PV},All2 R l es->R a v->All2 R (l.set i a) (es.set i v)
 |[],[],_,_,_,_,_=>trivial
 |[],_::_,_,_,_,h,_=>by simp[All2]at h
 |_::_,[],_,_,_,h,_=>by simp[All2]at h
 |_::_,_::_,0,_,_,h,hr=>⟨hr,h.2⟩
 |_::_,_::_,i+1,_,_,h,hr=>⟨h.1,All2.set h.2 hr⟩
theorem All2.rep{α:Type}{R:α->PV->Prop}{a:α}{v:PV}(h:R a v):∀n,All2 R (List.replicate n a) (List.replicate n v)
 |0=>trivial
 |n+1=>⟨h,All2.rep h n⟩
theorem All2.cnt{α:Type}{t:TR α}:∀{l:List α}{es:List PV},All2 t.R l es->∀x∈es,Pb.cnt x=some t.sz
 |[],[],_,x,hx=>by simp at hx
 |[],_::_,h,_,_=>by simp[All2]at h
 |_::_,[],h,_,_=>by simp[All2]at h
 |_::_,_::_,h,x,hx=>by
  rcases List.mem_cons.1 hx with rfl|hx
  ·exact t.cnt h.1
  ·exact All2.cnt h.2 x hx
theorem All2.clo{α:Type}{t:TR α}{l:List α}{es:List PV}(h:All2 t.R l es):closedL es=true:=h.closed λa e he=>t.clo he
theorem ly{α:Type}{t:TR α}{l:List α}{x:PV}(hx:(tSl t).R l x):∃news,Src h t.sz x news/\All2 t.R l news:=by
 obtain⟨⟨es,h1,h2⟩,_⟩:=hx;exact⟨es,ds3 h1 h2.cnt,h2⟩
theorem pm{α:Type}[Inhabited α]{R:α->PV->Prop}{l:List α}{es:List PV}{i:Int}(h:All2 R l es)(h0:0<=i)(h1:i < l.length):∃x,es[i.toNat]?=some x/\R (ix l i) x:=by
 obtain⟨e,h2,h3⟩:=h.get (k:=i.toNat) V;exact⟨e,h2,by rw[sy h0 h1];exact h3⟩
theorem qc{α:Type}{t:TR α}{v:PV}{es:List PV}{l:List α}(M:Mem h L)(hk:L[k]?=some ⟨v,ty,sz,es⟩)(hne:isL v=true)(hl:All2 t.R l es)(hb:l.length<=9223372036854775807):∃r,Deep P h v r/\(tSl t).R l r:=by
 obtain⟨r,h1,h2⟩:=ax0 (P:=P) M hk hne hl.clo;exact⟨r,h1,⟨es,h2,hl⟩,hb⟩
theorem iq{m b:Nat}(h1:m<=4611686018427387904)(h2:m*b<=140737488355328):fits m b=true:=by simp[fits,h1,h2]
theorem mem_map(M:Mem h L)(ty:TypeId):Mem ⟨h.nv+1,h.bl++[.mp h.nv []]⟩ (⟨.om (hlen h) h.nv,ty,2,[]⟩::L):=
 M.new ⟨λx hx=>by simp at hx,[],rfl,by simp[blk,hlen]⟩ (λi hi=>by simp[idOf]at hi;omega) λi hi=>by
  simp only[blk];exact List.getElem?_append_left hi
def tKV{α:Type}(t:TR α):TR (Int×α):=⟨λp v=>∃w,v= .agg [vi p.1,w]/\t.R p.2 w,2,true,λh=>by obtain⟨w,rfl,_⟩:=h;rfl,λh=>by obtain⟨w,rfl,_⟩:=h;rfl,λh=>by obtain⟨w,rfl,h⟩:=h;simp[closed,closedL,t.clo h]⟩
def mget{α:Type}(l:List (Int×α))(k:Int):Option α:=match l with
 |[]=>none
 |p::r=>if p.1=k then some p.2 else mget r k
def mput{α:Type}(l:List (Int×α))(k:Int)(v:α):List (Int×α):=match l with
 |[]=>[(k,v)]
 |p::r=>if p.1=k then(k,v)::r else p::mput r k v
end
end Go.Pb
namespace Go.Pb
open Go Go.RowKit
section
variable{P:Program}{S:List Fr}{Q:Post}{E E0:TEnv}{h h':Heap}{op:AOp}{hf:Bool}{v:PV}{r l:List AOper}{d t:Nat}{f:Operand}{args:List Operand}{w b:Bool}
theorem ai(hg:look t E=some (vb b))(hb:b=w)(H:OV P op hf E h v)(k:RD P r S Q ((d,v)::E) h):RD P (⟨some d,op,some (t,w),hf⟩::r) S Q E h:=λT hT=>by
 subst hb;rw[aa2,hT t _ hg,gF_b,show(b==b)=true by simp,be6];exact H.opd hT (k _ (hT.put d v))
theorem lf(hg:look t E=some (vb b))(hb:b=w)(H:CV P f args hf E h v)(k:RD P r S Q ((d,v)::E) h):RD P (⟨some d,.call f args,some (t,w),hf⟩::r) S Q E h:=λT hT=>by
 subst hb;rw[aa2,hT t _ hg,gF_b,show(b==b)=true by simp,be6];exact H.opd hT (k _ (hT.put d v))
theorem ja(hg:look t E=some (vb b))(hb:b=!w)(k:RD P r S Q ((d,.tup [])::E) h):RD P (⟨some d,op,some (t,w),hf⟩::r) S Q E h:=λT hT=>by
 subst hb;rw[aa2,hT t _ hg,gF_b,show((!w)==w)=false by cases w<;>rfl,as5];exact k _ (hT.put d _)
theorem cf1(hg:look t E=some (.tup []))(k:RD P r S Q ((d,.tup [])::E) h):RD P (⟨some d,op,some (t,w),hf⟩::r) S Q E h:=λT hT=>by
 rw[aa2,hT t _ hg,gF_u,as5];exact k _ (hT.put d _)
theorem nd{c b:AC}{F:AC->List Fr->Post->Prop}(h1:F b S Q)(h2:F b S Q->RC P c (.seq b::S) Q E h):RC P c (.seq b::S) Q E h:=h2 h1
theorem be4:DeepL P h [] []:=trivial
theorem tl{v d:PV}{vs ds:List PV}(a:Deep P h v d)(b:DeepL P h vs ds):DeepL P h (v::vs) (d::ds):=⟨a,b⟩
inductive ResV(E:TEnv)(h:Heap):List (Tmp×Option (Nat×Bool))->List PV->Prop
 |nil:ResV E h [] []
 |tmp {t v rs vs} (e:look t E=some v) (k:ResV E h rs vs):ResV E h ((t,none)::rs) (v::vs)
 |cell {t a sz agg v rs vs} (e:look t E=some a) (l:loadR h sz agg a=some v) (k:ResV E h rs vs):ResV E h ((t,some (sz,agg))::rs) (v::vs)
theorem ResV.ok{T:Nat->PV}(hT:Ag E T){rs:List (Tmp×Option (Nat×Bool))}{vs:List PV}(H:ResV E h rs vs):resV P T h rs=some vs:=by
 induction H with
 |nil=>rfl
 |tmp e k ih=>simp[resV,ih,hT _ _ e]
 |cell e l k ih=>
  rw[bt5,hT _ _ e,l,ih];rfl
theorem gi{rs:List (Tmp×Option (Nat×Bool))}{R:PV->Prop}{vs:List PV}{r:PV}(e:ResV E h rs vs)(hd:Deep P h (retV vs) r)(hr:R r):RC P .ret S (QR P rs R) E h:=λT hT=>by
 rw[cc1];exact⟨vs,e.ok hT,r,hd,hr⟩
theorem mk1{c:PV}(h:c.isAgg=false):mkV false [c]=some c:=by simp[mkV,h]
theorem pf{v:PV}(h1:cnt v=some 1)(h2:v.isAgg=false):v.cellsOf=some [v]:=by
 cases v<;>first|rfl|cases h1|cases h2
theorem cq4{α:Type}{t:TR α}{l:List α}{es:List PV}{b:Bool}(H:(tSl t).R l (.fs b es)):All2 t.R l es:=by
 obtain⟨⟨es',h1,h2⟩,_⟩:=H;rcases h1 with⟨ad,h3,_⟩|⟨tt,h3⟩
 ·cases h3
 ·cases h3;exact h2
theorem All2.length_eq{α:Type}{R:α->PV->Prop}{l:List α}{es:List PV}(h:All2 R l es):es.length=l.length:=h.length
theorem bu7{α β:Type}{ta:TR α}{tb:TR β}{g:α->β}{a:α}{va fv:PV}(ef:evE E f=some fv)(rf:(tFn P ta tb).R g fv)(ea:evL E args=some [va])(ra:ta.R a va):∃vr,CV P f args hf E h vr/\tb.R (g a) vr:=by
 obtain⟨id,first,cap,rfl,h1,h2,h3⟩:=rf;obtain⟨vr,h4,h5⟩:=h3 a va ra;exact⟨vr,dn3 ef ea (by rw[th,th,h1,h2];simp[closedL,ta.clo ra]) h4,h5⟩
theorem ck9{g:FuncId}{as ds:List PV}(ef:evE E f=some (.fn (.func g) [] []))(ea:evL E args=some as)(hd:DeepL P (seen hf h) as ds)(hfn:FnR P g ds v)(hv:flat v=true):CV P f args hf E h v:=λT hT=>by
 refine⟨g,as,?_,.inr ⟨ds,hd,hfn,.inl hv⟩⟩;rw[fy hT ef,tx hT ea,wu];simp
theorem bj6{L:List Ent}{k:Nat}{ty sz:Nat}{es:List PV}{α:Type}{R:α->PV->Prop}{ls:List α}(M:Mem h L)(hk:L[k]?=some ⟨v,ty,sz,es⟩){t e':TypeId}(ht:P.underlying t=some (.slice e'))(hne:isL v=true)(hl:All2 R ls es)(ty':TypeId):biF P .len [t].toArray ty' [v]=some (vi ls.length):=by
 have:=co0 (P:=P) (M.at hk) ht hne ty';rw[this,hl.length]
end
section
variable{P:Program}{S:List Fr}{Q:Post}{E:TEnv}{h:Heap}{L:List Ent}{hf:Bool}{r:List AOper}{d k:Nat}{ty:TypeId}{sz:Nat}{o o':Operand}
theorem fa{z:Value}{n:Nat}{t:TypeId}{x:PV}(M:Mem h L)(hz:PV.ofConst z=x)(hx:cnt x=some n)(K:∀id ver h',Mem h' (⟨.op id ver 0,t,n,[x]⟩::L)->RD P r S Q ((d,.op id ver 0)::E) h'):RD P (⟨some d,.alloc true t z,none,hf⟩::r) S Q E h:=by
 obtain⟨id,ver,h',h1,h2⟩:=bw2 (P:=P) (E:=E) (t:=t) M hz hx;exact at1 h1 (K _ _ _ h2)
theorem au5{x:PV}{n:Nat}{t:TypeId}(M:Mem h L)(ex:evE E o=some x)(hx:cnt x=some n)(K:∀id ver h',Mem h' (⟨.op id ver 0,t,n,[x]⟩::L)->RD P r S Q ((d,.op id ver 0)::E) h'):RD P (⟨some d,.box true t o,none,hf⟩::r) S Q E h:=by
 obtain⟨id,ver,h',h1,h2⟩:=df9 (P:=P) (E:=E) (t:=t) M ex hx;exact at1 h1 (K _ _ _ h2)
theorem ek{id ver:Nat}{x v:PV}(M:Mem h L)(eo:evE E o=some (.op id ver 0))(ev':evE E o'=some v)(hk:L[k]?=some ⟨.op id ver 0,ty,sz,[x]⟩)(hv:cnt v=some sz)(K:∀h',Mem h' (L.set k ⟨.op id ver 0,ty,sz,[v]⟩)->RD P r S Q E h'):RD P (⟨none,.store sz o o',none,hf⟩::r) S Q E h:=by
 obtain⟨h',h1,h2⟩:=bt7 (P:=P) M eo ev' hk hv;exact aw5 h1 (K _ h2)
theorem jh{id ver off n:Nat}{cs ds:List PV}{v:PV}(M:Mem h L)(eo:evE E o=some (.op id ver (0+off)))(ev':evE E o'=some v)(hk:L[k]?=some ⟨.op id ver 0,ty,sz,[.agg cs]⟩)(hv:v.cellsOf=some ds)(hn:ds.length=n)(hl:off+ds.length<=cs.length)
 (K:∀h',Mem h' (L.set k ⟨.op id ver 0,ty,sz,[.agg (spl cs off ds)]⟩)->RD P r S Q E h'):RD P (⟨none,.store n o o',none,hf⟩::r) S Q E h:=by
 obtain⟨h',h1,h2⟩:=bq3 (P:=P) M eo ev' hk hv hn hl;exact aw5 h1 (K _ h2)
theorem tq{id ver n i:Nat}{es:List PV}{v:PV}(M:Mem h L)(eo:evE E o=some (.op id ver (0+i*sz)))(ev':evE E o'=some v)(hk:L[k]?=some ⟨.os id ver 0 n,ty,sz,es⟩)(hi:i < es.length)(hv:cnt v=some sz)
 (K:∀h',Mem h' (L.set k ⟨.os id ver 0 n,ty,sz,es.set i v⟩)->RD P r S Q E h'):RD P (⟨none,.store sz o o',none,hf⟩::r) S Q E h:=by
 obtain⟨h',h1,h2⟩:=dk6 (P:=P) M eo ev' hk hi hv;exact aw5 h1 (K _ h2)
theorem vz{z:Value}{zs:List PV}{zz:PV}{b n:Nat}{kk kk':IntKind}(M:Mem h L)(e1:evE E o=some (.sc (.int kk (n:Int))))(e2:evE E o'=some (.sc (.int kk' (n:Int))))(ez:z.cells.toList.map PV.sc=zs)(hz:zz.cellsOf=some zs)(hc:cnt zz=some sz)(hf':fits n b=true)
 (K:∀id ver h',Mem h' (⟨.os id ver 0 n,ty,sz,List.replicate n zz⟩::L)->RD P r S Q ((d,.os id ver 0 n)::E) h'):RD P (⟨some d,.mkSlice ty sz b z o o',none,hf⟩::r) S Q E h:=by
 obtain⟨id,ver,h',h1,h2⟩:=cx8 (P:=P) (ty:=ty) M e1 e2 ez hz hc hf';exact at1 h1 (K _ _ _ h2)
def Wri(v:PV)(es:List PV):Prop:=es=[]\/∃id ver n,v= .os id ver 0 n
theorem bl4{e:TypeId}{b m:Nat}{news:List PV}{id ver n:Nat}{v':PV}{h':Heap}(hq:appF h e sz b m news (.os id ver 0 n)=some (v',h')):∃id ver n,v'= .os id ver 0 n:=by
 unfold appF at hq;split at hq
 ·cases ‹PV.os _ _ _ _=_›
 ·cases ‹PV.os _ _ _ _=_›
 ·rename_i id1 ver1 n1 heq;split at hq
  ·simp only[Option.some.injEq,Prod.mk.injEq]at hq;exact⟨_,_,_,hq.1.symm⟩
  ·split at hq
   ·split at hq
    ·simp only[Option.some.injEq,Prod.mk.injEq]at hq;exact⟨_,_,_,hq.1.symm⟩
    ·cases hq
   ·cases hq
 ·cases hq
theorem cs3{v x v':PV}{es news:List PV}{b:Nat}{h':Heap}(hw:Wri v es)(H:EntV h ty es v)(hne:isL v=true)(hx:Src h sz x news)(hq:appendR h ty sz b v x=some (v',h')):Wri v' (es++news):=by
 obtain⟨nc,hs1,hs2,hs3⟩:=hx;simp only[appendR,hs1]at hq;rcases hw with rfl|⟨id,ver,n,rfl⟩
 ·by_cases h0:news.length=0
  ·left;rw[List.eq_nil_of_length_eq_zero h0];rfl
  ·right;unfold EntV at H;split at H
   ·cases hne
   ·exact bl4 hq
   ·simp only[appF,h0,if_false]at hq;split at hq
    ·simp only[Option.some.injEq,Prod.mk.injEq]at hq;exact⟨_,_,_,hq.1.symm⟩
    ·cases hq
   ·simp only[appF,h0,if_false]at hq;split at hq
    ·simp only[Option.map_eq_some_iff,Prod.mk.injEq]at hq;obtain⟨_,_,h1,_⟩:=hq;exact⟨_,_,_,h1.symm⟩
    ·cases hq
   ·cases hne
   ·exact H.elim
 ·right;exact bl4 hq
theorem jt{t:TypeId}{v x:PV}{es news:List PV}{b:Nat}(M:Mem h L)(eo:evE E o=some v)(ex:evE E o'=some x)(hk:L[k]?=some ⟨v,ty,sz,es⟩)(hne:isL v=true)(hw:Wri v es)(hx:Src h sz x news)(hf':fits (es.length+news.length) b=true)
 (K:∀v' h',isL v'=true->Wri v' (es++news)->Mem h' (L.set k ⟨v',ty,sz,es++news⟩)->RD P r S Q ((d,v')::E) h'):RD P (⟨some d,.append t ty sz b o o',none,hf⟩::r) S Q E h:=by
 obtain⟨v',h',h1,h2,h3⟩:=mem_append M hk hne hx hf';exact at1 ⟨O,λT hT=>by show appendR h ty sz b (ev T o) (ev T o')=_;rw[fy hT eo,fy hT ex,h1]⟩ (K _ _ h2 (cs3 hw (M.atF hk).2 hne hx h1) h3)
theorem zv{id ver n:Nat}{es:List PV}(M:Mem h L)(hk:L[k]?=some ⟨.os id ver 0 n,ty,sz,es⟩):n=es.length:=(M.atF hk).2.1
theorem as1{α:Type}{R:α->PV->Prop}{l:List α}{v:PV}{es:List PV}{i:Int}(hw:Wri v es)(hl:All2 R l es)(h0:0<=i)(h1:i < l.length):∃id ver n,v= .os id ver 0 n:=by
 rcases hw with rfl|h
 ·have:=hl.length;simp at this;omega
 ·exact h
theorem bb3{α β:Type}{ta:TR α}{tb:TR β}{g:α->β}{a:α}{va fv:PV}{f:Operand}{args:List Operand}(ef:evE E f=some fv)(rf:(tFn P ta tb).R g fv)(ea:evL E args=some [va])(ra:ta.R a va)(K:∀vr,tb.R (g a) vr->RD P r S Q ((d,vr)::E) h):RD P (⟨some d,.call f args,none,hf⟩::r) S Q E h:=by
 obtain⟨vr,h1,h2⟩:=bu7 (h:=h) (hf:=hf) ef rf ea ra;exact ar8 h1 (K _ h2)
theorem an7{α β:Type}{ta:TR α}{tb:TR β}{g:α->β}{a:α}{va fv:PV}{f:Operand}{args:List Operand}{t:Nat}{b w:Bool}(hg:look t E=some (vb b))(hb:b=w)(ef:evE E f=some fv)(rf:(tFn P ta tb).R g fv)(ea:evL E args=some [va])(ra:ta.R a va)(K:∀vr,tb.R (g a) vr->RD P r S Q ((d,vr)::E) h):RD P (⟨some d,.call f args,some (t,w),hf⟩::r) S Q E h:=by
 obtain⟨vr,h1,h2⟩:=bu7 (h:=h) (hf:=hf) ef rf ea ra;exact lf hg hb h1 (K _ h2)
theorem sb{off off2 sz1 sz2:Nat}{agg:Bool}{x w u:PV}(h1:fieldR off sz1 true x=some w)(h2:fieldR off2 sz2 agg w=some u):fieldR (off+off2) sz2 agg x=some u:=by
 cases x<;>simp[fieldR]at h1
 rename_i cs;simp only[fieldOf]at h1;split at h1
 ·rename_i hle;simp only[mkV,Option.some.injEq]at h1;subst h1;simp only[fieldR,fieldOf,List.length_take,List.length_drop]at h2⊢;split at h2
  ·rename_i hle2;rw[if_pos V];rw[List.drop_take,List.take_take,List.drop_drop,Nat.min_eq_left V]at h2;exact h2
  ·cases h2
 ·cases h1
end
theorem gg{m b:Nat}(h:fits m b=true):m<=4611686018427387904:=by simp only[fits,decide_eq_true_eq]at h;exact h.2
theorem at2:∀{es cs:List PV},rowCells es=some cs->closedL es=true->closedL cs=true:=λh k=>by rw[qw h,k]
def tAr(n:Nat){α:Type}(t:TR α):TR (List α):=⟨λl v=>l.length=n/\∃es cs,All2 t.R l es/\rowCells es=some cs/\v= .agg cs,n*t.sz,true,
 λh=>by
  obtain⟨h0,es,cs,h1,h2,rfl⟩:=h;obtain⟨cs',h3,h4⟩:=nt h1.cnt;rw[h2]at h3;simp only[Option.some.injEq]at h3;subst h3;simp[cnt,h4,h1.length,h0],
 λh=>by obtain⟨h0,es,cs,h1,h2,rfl⟩:=h;rfl,
 λh=>by obtain⟨h0,es,cs,h1,h2,rfl⟩:=h;simpa[closed]using at2 h2 h1.clo⟩
theorem af2{n:Nat}{α:Type}{t:TR α}[Inhabited α]{l:List α}{v:PV}{i:Int}(h:(tAr n t).R l v)(h0:0<=i)(h1:i < n):∃cs e,v= .agg cs/\fieldOf (i.toNat*t.sz) t.sz t.ag cs=some e/\t.R (ix l i) e:=by
 obtain⟨hl,es,cs,h2,h3,rfl⟩:=h;obtain⟨e,h4,h5⟩:=pm h2 h0 V;obtain⟨h6,h7⟩:=sn h2.cnt h3 h4;refine⟨cs,e,O,?_,h5⟩;simp only[fieldOf];rw[if_pos h6];have ha:=t.agg h5;generalize (cs.drop (i.toNat*t.sz)).take t.sz=ds at h7;rw[<-ha];cases e<;>simp[PV.cellsOf]at h7<;>subst h7<;>simp[mkV,PV.isAgg]
theorem bm8{n:Nat}{α:Type}{t:TR α}[Inhabited α]{l:List α}{v:PV}{i:Int}(h:(tAr n t).R l v)(h0:0<=i)(h1:i < n):∃e,indexAR n t.sz t.ag v (vi i)=some e/\t.R (ix l i) e:=by
 obtain⟨cs,e,rfl,h2,h3⟩:=af2 h h0 h1;exact⟨e,by simp[indexAR,h0,h1,h2],h3⟩
theorem ph{n:Nat}{α:Type}{t:TR α}[Inhabited α]{l:List α}{v:PV}{i:Int}(h:(tAr n t).R l v)(h0:0<=i)(h1:i < n):∃e,iaddrAR n t.sz t.ag (.fp v) (vi i)=some (.fp e)/\t.R (ix l i) e:=by
 obtain⟨cs,e,rfl,h2,h3⟩:=af2 h h0 h1;exact⟨e,by simp[iaddrAR,h0,h1,h2],h3⟩
end Go.Pb
