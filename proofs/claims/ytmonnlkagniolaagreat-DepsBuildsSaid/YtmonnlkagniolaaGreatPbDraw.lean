import Derived.Test.YtmonnlkagniolaaGreatPbCode
set_option linter.all false
namespace Go.Pb
open Go Go.RowKit
def AOp.opers:AOp->List Operand
 | .move x| .un _ x| .conv _ _ x| .load _ _ x| .faddr _ _ _ x| .field _ _ _ x| .extract x _| .box _ _ x| .nilCheck x| .mkIface _ x| .tassert _ _ x| .clr _ _ x=>[x]
 | .pick c a b=>[c,a,b]
 | .bin _ _ x y| .iaddr _ x y| .iaddrA _ _ _ x y| .indexA _ _ _ x y| .indexS _ x y| .store _ x y| .append _ _ _ _ x y| .copy _ _ _ x y| .mkSlice _ _ _ _ x y| .lookup _ _ _ _ _ x y=>[x,y]
 | .bi _ _ _ args=>args
 | .alloc _ _ _| .mkMap _=>[]
 | .build _ parts=>parts.map λp=>p.2.2
 | .bslice _ _ _ _ parts=>parts
 | .slice _ _ x lo hi mx=>x::(lo.toList++(hi.toList++mx.toList))
 | .sliceS _ x lo hi mx=>x::(lo.toList++(hi.toList++mx.toList))
 | .mkFunc _ a b=>a++b
 | .call f args=>f::args
 | .invoke x _ args=>x::args
 | .mapUpdate _ _ m i v=>[m,i,v]
section
variable{P:Program}{T T':Nat->PV}{h:Heap}
theorem ml{l:List Operand}(H:∀o∈l,ev T o=ev T' o):l.map (ev T)=l.map (ev T'):=List.map_congr_left H
theorem aa6:∀(parts:List (Nat×Nat×Operand))(zs:List PV),(∀o∈parts.map (λp=>p.2.2),ev T o=ev T' o)->buildF T zs parts=buildF T' zs parts
 |[],zs,_=>rfl
 |(off,sz,o)::r,zs,H=>by
  simp only[List.map_cons,List.mem_cons,forall_eq_or_imp]at H;simp only[buildF,H.1];split
  ·split
   ·exact aa6 r _ H.2
   ·rfl
  ·rfl
theorem uy{d:Nat}{lo:Option Operand}(H:∀o∈lo.toList,ev T o=ev T' o):boundF T d lo=boundF T' d lo:=by
 cases lo with
 |none=>rfl
 |some o=>simp only[boundF,H o OZ]
theorem av9{lo:Option Operand}(H:∀o∈lo.toList,ev T o=ev T' o):boundM T lo=boundM T' lo:=by
 cases lo with
 |none=>rfl
 |some o=>simp only[boundM,uy H]
theorem rq{lo:Option Operand}(H:∀o∈lo.toList,ev T o=ev T' o):optV T lo=optV T' lo:=by
 cases lo with
 |none=>rfl
 |some o=>simp only[optV,H o OZ]
theorem ae7{ao:AOp}(H:∀o∈ao.opers,ev T o=ev T' o):opQ P T h ao=opQ P T' h ao:=by
 cases ao with
 |build zs parts=>simp only[opQ,aa6 parts _ H]
 |bi b ats ty args=>
  have e:=ml (l:=args) (T:=T) (T':=T') H;simp only[opQ,e]
 |bslice own e sz z parts=>
  have e:=ml (l:=parts) (T:=T) (T':=T') H;cases own<;>simp only[opQ,e]
 |box own t x=>cases own<;>simp only[opQ,H x (by simp[AOp.opers])]
 |alloc own t z=>cases own<;>simp only[opQ]
 |mkFunc f a b=>simp only[opQ,ml (l:=a) λo ho=>H o (by simp[AOp.opers,ho]),ml (l:=b) λo ho=>H o (by simp[AOp.opers,ho])]
 |slice t sz x lo hi mx=>
  simp only[AOp.opers,List.mem_cons,List.mem_append,forall_eq_or_imp]at H;have h1:∀o∈lo.toList,ev T o=ev T' o:=λo ho=>H.2 o (.inl ho);have h2:∀o∈hi.toList,ev T o=ev T' o:=λo ho=>H.2 o (.inr (.inl ho));have h3:∀o∈mx.toList,ev T o=ev T' o:=λo ho=>H.2 o (.inr (.inr ho));simp only[opQ,H.1,uy h1,uy h2,av9 h3,rq h1,rq h2,rq h3]
 |sliceS t x lo hi mx=>
  simp only[AOp.opers,List.mem_cons,List.mem_append,forall_eq_or_imp]at H;have h1:∀o∈lo.toList,ev T o=ev T' o:=λo ho=>H.2 o (.inl ho);have h2:∀o∈hi.toList,ev T o=ev T' o:=λo ho=>H.2 o (.inr (.inl ho));have h3:∀o∈mx.toList,ev T o=ev T' o:=λo ho=>H.2 o (.inr (.inr ho));simp only[opQ,H.1,rq h1,rq h2,rq h3]
 |_=>
  simp only[AOp.opers,List.mem_cons,List.not_mem_nil,or_false,forall_eq_or_imp,forall_eq]at H;first
   |rfl
   |simp only[opQ,H]
   |(obtain⟨h1,h2⟩:=H;simp only[opQ,h1,h2])
   |(obtain⟨h1,h2,h3⟩:=H;simp only[opQ,h1,h2,h3])
theorem ao2{ao:AOp}(H:∀o∈ao.opers,ev T o=ev T' o):opL T h ao=opL T' h ao:=by
 cases ao with
 |bslice own e sz z parts=>
  have e:=ml (l:=parts) (T:=T) (T':=T') H;cases own<;>simp only[opL,e]
 |box own t x=>cases own<;>simp only[opL,H x (by simp[AOp.opers])]
 |alloc own t z=>cases own<;>simp only[opL]
 |store sz x y=>
  simp only[AOp.opers,List.mem_cons,List.not_mem_nil,or_false,forall_eq_or_imp,forall_eq]at H;simp only[opL,H.1,H.2]
 |mkSlice e sz bytes z x y=>
  simp only[AOp.opers,List.mem_cons,List.not_mem_nil,or_false,forall_eq_or_imp,forall_eq]at H;simp only[opL,H.1,H.2]
 |append t e sz bytes x y=>
  simp only[AOp.opers,List.mem_cons,List.not_mem_nil,or_false,forall_eq_or_imp,forall_eq]at H;simp only[opL,H.1,H.2]
 |lookup t k e z ok x i=>
  simp only[AOp.opers,List.mem_cons,List.not_mem_nil,or_false,forall_eq_or_imp,forall_eq]at H;simp only[opL,H.1,H.2]
 |mapUpdate t k m i v=>
  simp only[AOp.opers,List.mem_cons,List.not_mem_nil,or_false,forall_eq_or_imp,forall_eq]at H;simp only[opL,H.1,H.2.1,H.2.2]
 |clr sz z x=>simp only[opL,H x (by simp[AOp.opers])]
 |_=>rfl
theorem bo5{ao:AOp}(H:∀o∈ao.opers,ev T o=ev T' o):opA T ao=opA T' ao:=by
 cases ao with
 |bslice own e sz z parts=>
  have e:=ml (l:=parts) (T:=T) (T':=T') H;cases own<;>simp only[opA,e]
 |box own t x=>cases own<;>simp only[opA,H x (by simp[AOp.opers])]
 |alloc own t z=>cases own<;>simp only[opA]
 |mkSlice e sz bytes z x y=>
  simp only[AOp.opers,List.mem_cons,List.not_mem_nil,or_false,forall_eq_or_imp,forall_eq]at H;simp only[opA,H.1,H.2]
 |_=>rfl
def Operand.tmps:Operand->List Tmp| .tmp t=>[t]|_=>[]
def AOper.looks(o:AOper):List Tmp:=(o.op.opers.flatMap Operand.tmps)++(match o.guard with|some (d,_)=>[d]|none=>[])
theorem bw3{o:Operand}(H:∀t∈Operand.tmps o,T t=T' t):ev T o=ev T' o:=by
 cases o with
 |tmp t=>exact H t (by simp[Operand.tmps])
 |_=>rfl
theorem vu{o:AOper}(H:∀t∈o.looks,T t=T' t):∀y∈o.op.opers,ev T y=ev T' y:=λy hy=>bw3 λt ht=>H t (by
 simp only[AOper.looks,List.mem_append,List.mem_flatMap];exact .inl ⟨y,hy,ht⟩)
theorem au1{o:AOper}(H:∀t∈o.looks,T t=T' t):guardF T o.guard=guardF T' o.guard:=by
 unfold AOper.looks at H;cases hg:o.guard with
 |none=>rfl
 |some p=>
  obtain⟨d,w⟩:=p;rw[hg]at H;simp only[guardF,H d OZ]
end
structure Stp where
 r:PV
 h:Heap
def StepD(P:Program)(o:AOper)(T:Nat->PV)(h:Heap)(r:PV)(h':Heap):Prop:=
 (guardF T o.guard=some false/\r= .tup []/\h'=h)\/
 (guardF T o.guard=some true/\(
   (o.op.kind=0/\opQ P T (seen o.hf h) o.op=some r/\h'=h)\/
   (o.op.kind=1/\opL T h o.op=some (r,h'))\/
   (o.op.kind=2/\h'=h/\∃f args g as,o.op= .call f args/\callee (ev T f) (args.map (ev T))=some (g,as)/\CallD P (seen o.hf h) g as r)))
def RunD(P:Program):List AOper->(Nat->PV)->Heap->List Stp->(Nat->PV)->Heap->Prop
 |[],T,h,[],T',h'=>T'=T/\h'=h
 |o::l,T,h,s::ss,T',h'=>StepD P o T h s.r s.h/\RunD P l (updO T o.dst s.r) s.h ss T' h'
 |_,_,_,_,_,_=>False
theorem av2{P:Program}{o:AOper}{T:Nat->PV}{h:Heap}{K:PV->Heap->Prop}(hg:guardF T o.guard=some true)(hK:OpD P o.op o.hf T h K):∃r h',StepD P o T h r h'/\K r h':=by
 obtain⟨dst,op,guard,hf⟩:=o;simp only at hg hK;unfold OpD at hK;split at hK
 ·rename_i hk;obtain⟨r,hq,hk'⟩:=hK;exact⟨r,h,.inr ⟨hg,.inl ⟨hk,hq,O⟩⟩,hk'⟩
 ·rename_i hk;obtain⟨r,h',hq,hk'⟩:=hK;exact⟨r,h',.inr ⟨hg,.inr (.inl ⟨hk,hq⟩)⟩,hk'⟩
 ·rename_i hk;cases op with
  |call f args=>
   obtain⟨g,as,hc,r,hD,hk'⟩:=hK;exact⟨r,h,.inr ⟨hg,.inr (.inr ⟨hk,O,f,args,g,as,O,hc,hD⟩)⟩,hk'⟩
  |_=>exact hK.elim
 ·exact hK.elim
theorem wl{P:Program}:∀(l:List AOper)(T:Nat->PV)(h:Heap)(K:(Nat->PV)->Heap->Prop),wpD P l T h K->∃ss T' h',RunD P l T h ss T' h'/\K T' h'
 |[],T,h,K,hk=>⟨[],T,h,⟨rfl,rfl⟩,hk⟩
 |o::l,T,h,K,hk=>by
  simp only[wpD]at hk;obtain⟨g,hg,h1,h0⟩:=hk;cases g with
  |true=>
   obtain⟨r,h',hs,hk'⟩:=av2 hg (h1 O);obtain⟨ss,T',h'',hr,hk''⟩:=wl l _ _ _ hk';exact⟨⟨r,h'⟩::ss,T',h'',⟨hs,hr⟩,hk''⟩
  |false=>
   obtain⟨ss,T',h'',hr,hk''⟩:=wl l _ _ _ (h0 O);exact⟨⟨.tup [],h⟩::ss,T',h'',⟨.inl ⟨hg,O,O⟩,hr⟩,hk''⟩
end Go.Pb
