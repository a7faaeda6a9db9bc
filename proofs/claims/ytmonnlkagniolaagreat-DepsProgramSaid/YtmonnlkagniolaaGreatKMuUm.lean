import Derived.Test.YtmonnlkagniolaaGreatKTy
import Derived.Test.YtmonnlkagniolaaGreatPbP
set_option linter.unusedVariables false
set_option linter.unusedSimpArgs false
set_option maxRecDepth 100000
namespace Go.Proofs.YtmonnlkagniolaaGreat
open Go Go.Pb Go.RowKit
mutual
def csn:ae->Nat
 |⟨_,_,_,t,e⟩=>1+csl t+csl e
def csl:List ae->Nat
 |[]=>0
 |x::l=>csn x+csl l
end
theorem au6(x:ae):csn x=1+csl x.Then+csl x.Else:=by
 cases x
 rw[csn]
theorem bc0{x:ae}:∀{l:List ae},x∈l->csn x<=csl l
 |[],h=>by cases h
 |y::l,h=>by
  rw[csl];rcases List.mem_cons.1 h with rfl|h
  ·omega
  ·have:=bc0 h;omega
theorem kt{l:List ae}{i:Int}(h0:0<=i)(h1:i < l.length):csl (ix l i).Then < csl l/\csl (ix l i).Else < csl l:=by
 have h:=bc0 (am2 h0 h1);rw[au6]at h;omega
theorem aq1{α:Type}[Inhabited α]{c:List α}{i:Int}(h0:0<=i)(h1:i < c.length):c.drop i.toNat=ix c i::c.drop (i+1).toNat:=by
 rw[ul h0 h1,show(i+1).toNat=i.toNat+1 by omega];exact List.drop_eq_getElem_cons V
theorem bh6{α:Type}{c:List α}{i:Int}(h1:(c.length:Int)<=i):c.drop i.toNat=[]:=List.drop_eq_nil_of_le V
theorem iz{l:List ae}{i:Int}(h0:0<=i)(h1:i < l.length):csl (l.drop i.toNat)=1+csl (ix l i).Then+csl (ix l i).Else+csl (l.drop (i+1).toNat):=by
 rw[aq1 h0 h1,csl,au6]
mutual
def poN:ae->List ae
 |⟨a,b,c,t,e⟩=>⟨a,b,c,t,e⟩::(poL t++poL e)
def poL:List ae->List ae
 |[]=>[]
 |x::l=>poN x++poL l
end
theorem ak4(x:ae):poN x=x::(poL x.Then++poL x.Else):=by
 cases x
 rw[poN]
theorem aq2{x y:ae}:∀{l:List ae},x∈l->y∈poN x->y∈poL l
 |[],h,_=>by cases h
 |z::l,h,hy=>by
  rw[poL];rcases List.mem_cons.1 h with rfl|h
  ·exact List.mem_append_left _ hy
  ·exact List.mem_append_right _ (aq2 h hy)
mutual
theorem db3:∀(x:ae),(poN x).length=csn x
 |⟨a,b,c,t,e⟩=>by
  rw[poN,csn,List.length_cons,List.length_append,zq t,zq e];omega
theorem zq:∀(l:List ae),(poL l).length=csl l
 |[]=>by rw[poL,csl];rfl
 |x::l=>by rw[poL,csl,List.length_append,db3 x,zq l]
end
mutual
theorem cs4:∀(x:ae),∀y∈poN x,(∀z∈poN y,z∈poN x)/\csn y<=csn x
 |⟨a,b,c,t,e⟩=>by
  intro y hy;rw[poN]at hy;rcases List.mem_cons.1 hy with rfl|hy
  ·exact⟨λz hz=>hz,Nat.le_refl _⟩
  ·rw[poN,csn];rcases List.mem_append.1 hy with h|h
   ·obtain⟨h1,h2⟩:=aj2 t y h;exact⟨λz hz=>List.mem_cons_of_mem _ (List.mem_append_left _ (h1 z hz)),by omega⟩
   ·obtain⟨h1,h2⟩:=aj2 e y h;exact⟨λz hz=>List.mem_cons_of_mem _ (List.mem_append_right _ (h1 z hz)),by omega⟩
theorem aj2:∀(l:List ae),∀y∈poL l,(∀z∈poN y,z∈poL l)/\csn y<=csl l
 |[]=>by intro y hy;rw[poL]at hy;cases hy
 |x::l=>by
  intro y hy;rw[poL]at hy⊢;rw[csl];rcases List.mem_append.1 hy with h|h
  ·obtain⟨h1,h2⟩:=cs4 x y h;exact⟨λz hz=>List.mem_append_left _ (h1 z hz),by omega⟩
  ·obtain⟨h1,h2⟩:=aj2 l y h;exact⟨λz hz=>List.mem_append_right _ (h1 z hz),by omega⟩
end
def CB(l:List ae):Prop:=∀y∈poL l,y.Cond.length<=40
structure GL(l:List ae):Prop where
 csl:csl l<=1000
 cb:CB l
structure GN(x:ae):Prop where
 csn:csn x<=1000
 cb:∀y∈poN x,y.Cond.length<=40
theorem GN.cond{x:ae}(h:GN x):x.Cond.length<=40:=h.cb x (by rw[ak4];exact List.mem_cons_self)
theorem GL.at{l:List ae}(h:GL l){i:Int}(h0:0<=i)(h1:i < l.length):GN (ix l i):=⟨by have:=bc0 (am2 h0 h1);have:=h.csl;omega,λy hy=>h.cb y (aq2 (am2 h0 h1) hy)⟩
theorem bt7:∀(l:List ae),l.length<=csl l
 |[]=>by simp
 |x::l=>by
  have:=bt7 l;rw[Go.Proofs.YtmonnlkagniolaaGreat.csl,au6,List.length_cons];omega
theorem GL.len{l:List ae}(h:GL l):l.length<=1000:=Nat.le_trans (bt7 l) h.csl
theorem GL.nodes{l:List ae}(h:GL l):∀x∈poL l,GN x:=λx hx=>⟨by have:=(aj2 l x hx).2;have:=h.csl;omega,λy hy=>h.cb y ((aj2 l x hx).1 y hy)⟩
section
variable{σ:Type}(step:ae->σ->Bool×σ)
mutual
def preN:ae->σ->Bool×σ
 |⟨a,b,c,t,e⟩,s=>if(step ⟨a,b,c,t,e⟩ s).1=true then(if(preL t (step ⟨a,b,c,t,e⟩ s).2).1=true then preL e (preL t (step ⟨a,b,c,t,e⟩ s).2).2 else(false,(preL t (step ⟨a,b,c,t,e⟩ s).2).2))else(false,(step ⟨a,b,c,t,e⟩ s).2)
def preL:List ae->σ->Bool×σ
 |[],s=>(true,s)
 |x::l,s=>if(preN x s).1=true then preL l (preN x s).2 else(false,(preN x s).2)
end
theorem cx8(x:ae)(s:σ):preN step x s=if(step x s).1=true then(if(preL step x.Then (step x s).2).1=true then preL step x.Else (preL step x.Then (step x s).2).2 else(false,(preL step x.Then (step x s).2).2))else(false,(step x s).2):=by
 cases x
 rw[preN]
theorem ce9(s:σ):preL step [] s=(true,s):=by rw[preL]
theorem bz5(x:ae)(l:List ae)(s:σ):preL step (x::l) s=if(preN step x s).1=true then preL step l (preN step x s).2 else(false,(preN step x s).2):=by rw[preL]
def ww(c:List ae)(s:σ):Bool×σ:=preL step c s
end
def fi(x0:List bd):List bd:=x0
def kd(x0:List ai):List ai:=x0
def GU(l:List ae):Prop:=∀y∈poL l,y.Cond.length<=2000000
theorem co1{l:List ae}(h:GU l){i:Int}(h0:0<=i)(h1:i < l.length):∀y∈poN (ix l i),y.Cond.length<=2000000:=λy hy=>h y (aq2 (am2 h0 h1) hy)
theorem qj{l:List ae}(h:GU l){i:Int}(h0:0<=i)(h1:i < l.length):(ix l i).Cond.length<=2000000:=co1 h h0 h1 _ (by rw[ak4];exact List.mem_cons_self)
theorem ql{l:List ae}(h:GU l){i:Int}(h0:0<=i)(h1:i < l.length):GU (ix l i).Then:=λy hy=>co1 h h0 h1 y (by rw[ak4];exact List.mem_cons_of_mem _ (List.mem_append_left _ hy))
theorem qk{l:List ae}(h:GU l){i:Int}(h0:0<=i)(h1:i < l.length):GU (ix l i).Else:=λy hy=>co1 h h0 h1 y (by rw[ak4];exact List.mem_cons_of_mem _ (List.mem_append_right _ hy))
end Go.Proofs.YtmonnlkagniolaaGreat
