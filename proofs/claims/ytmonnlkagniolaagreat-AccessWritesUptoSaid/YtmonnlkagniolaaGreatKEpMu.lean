import Derived.Test.YtmonnlkagniolaaGreatKTy
import Derived.Test.YtmonnlkagniolaaGreatPbT
import Derived.Test.YtmonnlkagniolaaGreatPbP
set_option linter.all false
set_option maxRecDepth 100000
namespace Go.Proofs.YtmonnlkagniolaaGreat
open Go Go.Pb Go.RowKit
def putF(e:ax)(r:ae)(v:BitVec 32):ax:=
 if r.Header= -1 then{e with Metd:=e.Metd.set r.Field.toNat v}else{e with Fields:=e.Fields.set r.Header.toNat ((ix e.Fields r.Header).set r.Field.toNat v)}
structure EB(e:ax):Prop where
 v:e.Valid.length<=1048576
 f:e.Fields.length<=1048576
 m:e.Metd.length<=1048576
 p:e.Payload.length<=1048576
 i:∀l∈e.Fields,l.length<=1048576
theorem aa1{α:Type}[Inhabited α]{l:List α}{i:Int}(h0:0<=i)(h1:i < l.length):ix l i∈l:=by
 rw[zf h0 h1];exact List.getElem_mem _
theorem EB.setF{e:ax}(h:EB e){k:Nat}{l:List (BitVec 32)}(hl:l.length<=1048576):EB {e with Fields:=e.Fields.set k l}:=
 ⟨h.v,by rw[List.length_set];exact h.f,h.m,h.p,λx hx=>by
  rcases List.mem_or_eq_of_mem_set hx with h1|rfl
  ·exact h.i x h1
  ·exact hl⟩
theorem EB.setM{e:ax}(h:EB e){k:Nat}{v:BitVec 32}:EB {e with Metd:=e.Metd.set k v}:=⟨h.v,h.f,by rw[List.length_set];exact h.m,h.p,h.i⟩
theorem EB.setV{e:ax}(h:EB e){k:Nat}{v:Bool}:EB {e with Valid:=e.Valid.set k v}:=⟨by rw[List.length_set];exact h.v,h.f,h.m,h.p,h.i⟩
def swE(e:ax)(h:Int)(b:Bool):ax:={e with Valid:=e.Valid.set h.toNat b,Fields:=e.Fields.set h.toNat (List.replicate (ix e.Fields h).length 0#32)}
structure RB(rs:List (List (BitVec 32))):Prop where
 o:rs.length<=1048576
 i:∀l∈rs,l.length<=1048576
mutual
def csn:ab->Nat
 |⟨_,_,_,t,e⟩=>1+csl t+csl e
def csl:List ab->Nat
 |[]=>0
 |x::l=>csn x+csl l
end
theorem bs3(x:ab):csn x=1+csl x.Then+csl x.Else:=by
 cases x
 rw[csn]
theorem be1{x:ab}:∀{l:List ab},x∈l->csn x<=csl l
 |[],h=>by cases h
 |y::l,h=>by
  rw[csl];rcases List.mem_cons.1 h with rfl|h
  ·omega
  ·have:=be1 h;omega
theorem aa9{l:List ab}{i:Int}(h0:0<=i)(h1:i < l.length):csl (ix l i).Then < csl l/\csl (ix l i).Else < csl l:=by
 have h:=be1 (aa1 h0 h1);rw[bs3]at h;omega
theorem dg3{α:Type}[Inhabited α]{c:List α}{i:Int}(h0:0<=i)(h1:i < c.length):c.drop i.toNat=ix c i::c.drop (i+1).toNat:=by
 rw[zf h0 h1,show(i+1).toNat=i.toNat+1 by omega];exact List.drop_eq_getElem_cons Y
theorem uq{l:List ab}{i:Int}(h0:0<=i)(h1:i < l.length):csl (l.drop i.toNat)=1+csl (ix l i).Then+csl (ix l i).Else+csl (l.drop (i+1).toNat):=by
 rw[dg3 h0 h1,csl,bs3]
mutual
def poN:ab->List ab
 |⟨a,b,c,t,e⟩=>⟨a,b,c,t,e⟩::(poL t++poL e)
def poL:List ab->List ab
 |[]=>[]
 |x::l=>poN x++poL l
end
theorem et4(x:ab):poN x=x::(poL x.Then++poL x.Else):=by
 cases x
 rw[poN]
theorem cb7{x y:ab}:∀{l:List ab},x∈l->y∈poN x->y∈poL l
 |[],h,_=>by cases h
 |z::l,h,hy=>by
  rw[poL];rcases List.mem_cons.1 h with rfl|h
  ·exact List.mem_append_left _ hy
  ·exact List.mem_append_right _ (cb7 h hy)
mutual
theorem dg7:∀(x:ab),(poN x).length=csn x
 |⟨a,b,c,t,e⟩=>by
  rw[poN,csn,List.length_cons,List.length_append,bc9 t,bc9 e];omega
theorem bc9:∀(l:List ab),(poL l).length=csl l
 |[]=>by rw[poL,csl];rfl
 |x::l=>by rw[poL,csl,List.length_append,dg7 x,bc9 l]
end
mutual
theorem dk0:∀(x:ab),∀y∈poN x,(∀z∈poN y,z∈poN x)/\csn y<=csn x
 |⟨a,b,c,t,e⟩=>by
  intro y hy;rw[poN]at hy;rcases List.mem_cons.1 hy with rfl|hy
  ·exact⟨λz hz=>hz,Nat.le_refl _⟩
  ·rw[poN,csn];rcases List.mem_append.1 hy with h|h
   ·obtain⟨h1,h2⟩:=al1 t y h;exact⟨λz hz=>List.mem_cons_of_mem _ (List.mem_append_left _ (h1 z hz)),by omega⟩
   ·obtain⟨h1,h2⟩:=al1 e y h;exact⟨λz hz=>List.mem_cons_of_mem _ (List.mem_append_right _ (h1 z hz)),by omega⟩
theorem al1:∀(l:List ab),∀y∈poL l,(∀z∈poN y,z∈poL l)/\csn y<=csl l
 |[]=>by intro y hy;rw[poL]at hy;cases hy
 |x::l=>by
  intro y hy;rw[poL]at hy⊢;rw[csl];rcases List.mem_append.1 hy with h|h
  ·obtain⟨h1,h2⟩:=dk0 x y h;exact⟨λz hz=>List.mem_append_left _ (h1 z hz),by omega⟩
  ·obtain⟨h1,h2⟩:=al1 l y h;exact⟨λz hz=>List.mem_append_right _ (h1 z hz),by omega⟩
end
def CB(l:List ab):Prop:=∀y∈poL l,y.Cond.length<=40
structure GL(l:List ab):Prop where
 csl:csl l<=1000
 cb:CB l
structure GN(x:ab):Prop where
 csn:csn x<=1000
 cb:∀y∈poN x,y.Cond.length<=40
theorem GN.cond{x:ab}(h:GN x):x.Cond.length<=40:=h.cb x (by rw[et4];exact List.mem_cons_self)
theorem GL.at{l:List ab}(h:GL l){i:Int}(h0:0<=i)(h1:i < l.length):GN (ix l i):=⟨by have:=be1 (aa1 h0 h1);have:=h.csl;omega,λy hy=>h.cb y (cb7 (aa1 h0 h1) hy)⟩
theorem ca1:∀(l:List ab),l.length<=csl l
 |[]=>by simp
 |x::l=>by
  have:=ca1 l;rw[Go.Proofs.YtmonnlkagniolaaGreat.csl,bs3,List.length_cons];omega
theorem GL.len{l:List ab}(h:GL l):l.length<=1000:=Nat.le_trans (ca1 l) h.csl
theorem GL.nodes{l:List ab}(h:GL l):∀x∈poL l,GN x:=λx hx=>⟨by have:=(al1 l x hx).2;have:=h.csl;omega,λy hy=>h.cb y ((al1 l x hx).1 y hy)⟩
section
variable{σ:Type}(step:ab->σ->Bool×σ)
mutual
def preN:ab->σ->Bool×σ
 |⟨a,b,c,t,e⟩,s=>if(step ⟨a,b,c,t,e⟩ s).1=true then(if(preL t (step ⟨a,b,c,t,e⟩ s).2).1=true then preL e (preL t (step ⟨a,b,c,t,e⟩ s).2).2 else(false,(preL t (step ⟨a,b,c,t,e⟩ s).2).2))else(false,(step ⟨a,b,c,t,e⟩ s).2)
def preL:List ab->σ->Bool×σ
 |[],s=>(true,s)
 |x::l,s=>if(preN x s).1=true then preL l (preN x s).2 else(false,(preN x s).2)
end
def ce9(c:List ab)(s:σ):Bool×σ:=preL step c s
end
end Go.Proofs.YtmonnlkagniolaaGreat
