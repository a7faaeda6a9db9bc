import Derived.Test.YtmonnlkagniolaaGreatKDef
import Derived.Test.YtmonnlkagniolaaGreatPbP
import Derived.Test.YtmonnlkagniolaaGreatKMuUm
import Derived.Test.YtmonnlkagniolaaGreatKSimCellsGaAuDl
set_option linter.unusedVariables false
set_option linter.unusedSimpArgs false
set_option maxRecDepth 100000
namespace Go.Proofs.YtmonnlkagniolaaGreat
open Go Go.Pb Go.RowKit
def SZ(r limit:Int)(z:List ae):Prop:=0<=r/\r<=limit+1/\(r<=limit->r=csl z/\CB z)
theorem bg1(x0:List ae)(limit d:Int)(rec_:List ae->Int->Int->Int)(hl: -1<=limit/\limit<=1000)(hd:0<=d/\d<=1000)
 (hr:∀z l e,csl z < csl x0-> -1<=l/\l<=1000->0<=e/\e<=1000->SZ (rec_ z l e) l z):∀(m:Nat)(n i:Int),m=Int.toNat ((x0.length:Int)-i)->0<=i->0<=n->n<=limit+1->
   0<=kj x0 limit d rec_ (λz=>z) m n i/\kj x0 limit d rec_ (λz=>z) m n i<=limit+1/\(kj x0 limit d rec_ (λz=>z) m n i<=limit->kj x0 limit d rec_ (λz=>z) m n i=n+csl (x0.drop i.toNat)/\CB (x0.drop i.toNat))
 |0,n,i,hm,h0,n0,n1=>by
  rw[kj,bh6 V,csl];refine⟨by omega,by omega,λ_=>⟨by omega,λy hy=>by rw[poL]at hy;cases hy⟩⟩
 |m+1,n,i,hm,h0,n0,n1=>by
  rw[kj];simp only[LET];split
  ·rename_i hc;simp only[Bool.and_eq_true,decide_eq_true_eq]at hc;have e0:wr (limit+1)=limit+1:=db V V;have e1:wr (n+1)=n+1:=db V V;split
   ·rw[e0];exact⟨by omega,by omega,λh=>absurd h V⟩
   ·rename_i hq;simp only[Bool.or_eq_true,decide_eq_true_eq,not_or]at hq;have hlt:=kt (l:=x0) h0 hc.1;have e2:wr (limit-(n+1))=limit-(n+1):=db V V;have e3:wr (d-1)=d-1:=db V V;rw[e1,e2,e3];obtain⟨a1,a2,a3⟩:=hr (ix x0 i).Then (limit-(n+1)) (d-1) hlt.1 V V;generalize rec_ (ix x0 i).Then (limit-(n+1)) (d-1)=r1 at*;have e4:wr (n+1+r1)=n+1+r1:=db V V;have hcd:=iz (l:=x0) (i:=i) h0 hc.1;rw[e4];split
    ·rename_i hs;simp only[decide_eq_true_eq]at hs;have e5:wr (limit-(n+1+r1))=limit-(n+1+r1):=db V V;rw[e5];obtain⟨b1,b2,b3⟩:=hr (ix x0 i).Else (limit-(n+1+r1)) (d-1) hlt.2 V V;generalize rec_ (ix x0 i).Else (limit-(n+1+r1)) (d-1)=r2 at*;have e6:wr (n+1+r1+r2)=n+1+r1+r2:=db V V;rw[e6];obtain⟨q1,q2,q3⟩:=bg1 x0 limit d rec_ hl hd hr m (n+1+r1+r2) (i+1) V V V V;refine⟨q1,q2,λhle=>?_⟩;obtain⟨q4,q5⟩:=q3 hle;have hcs:0<=(csl (x0.drop (i+1).toNat):Int):=Int.natCast_nonneg _;obtain⟨a4,a5⟩:=a3 V;obtain⟨b4,b5⟩:=b3 V;refine⟨by omega,λy hy=>?_⟩;rw[aq1 h0 hc.1,poL,ak4]at hy;rcases List.mem_append.1 hy with hy|hy
     ·rcases List.mem_cons.1 hy with rfl|hy
      ·omega
      ·rcases List.mem_append.1 hy with hy|hy
       ·exact a5 y hy
       ·exact b5 y hy
     ·exact q5 y hy
    ·rename_i hs;simp only[decide_eq_true_eq]at hs;obtain⟨q1,q2,q3⟩:=bg1 x0 limit d rec_ hl hd hr m (n+1+r1) (i+1) V V V V;refine⟨q1,q2,λhle=>?_⟩;obtain⟨q4,q5⟩:=q3 hle;have hcs:0<=(csl (x0.drop (i+1).toNat):Int):=Int.natCast_nonneg _;omega
  ·rename_i hc;simp only[Bool.and_eq_true,decide_eq_true_eq,not_and]at hc;have:=hc V;exact⟨by omega,by omega,λh=>absurd h V⟩
theorem cc0:∀(k:Nat)(z:List ae)(l e:Int),csl z < k-> -1<=l/\l<=1000->0<=e/\e<=1000->SZ (pa k z l e) l z
 |0,z,l,e,h,_,_=>by omega
 |k+1,z,l,e,h,hl,he=>by
  rw[pa];unfold tj;obtain⟨q1,q2,q3⟩:=bg1 z l e (pa k) hl he (λz' l' e' h' hl' he'=>cc0 k z' l' e' V hl' he') (Int.toNat ((z.length:Int)-0)) 0 0 O V V V;refine⟨q1,q2,λhle=>?_⟩;obtain⟨q4,q5⟩:=q3 hle;rw[show Int.toNat 0=0 from rfl,List.drop_zero]at q4 q5;exact⟨by omega,q5⟩
theorem bp3{c:List ae}{n:Int}{y:Bool}(h:lu c n=y)(hy:y=true)(hn:0<=n/\n<=1000):csl c<=n/\CB c:=by
 subst h;unfold lu af0 at hy;simp only[LET,decide_eq_true_eq]at hy;obtain⟨q1,q2,q3⟩:=cc0 (csl c+1) c n 12 V V V;obtain⟨q4,q5⟩:=q3 hy;exact⟨by omega,q5⟩
theorem cj3{x y:List bd}(h:fi x=y):y.length=x.length:=by subst h;rfl
theorem ea8{x y:List ai}(h:kd x=y):y.length=x.length:=by subst h;rfl
theorem jr(b:Bool)(g:List bd)(n:Int):(fu b g n).length=g.length+1:=by
 simp[fu,LET,fi]
theorem at8(x0:List ae)(x1:List bd)(rec_:List ae->List bd->List ay->List ay)(hr:∀z0 z1 z2,(rec_ z0 z1 z2).length<=z2.length+csl z0):
 ∀(m:Nat)(i:Int)(z:List ay),m=Int.toNat ((x0.length:Int)-i)->0<=i->(gz x0 x1 rec_ (λz=>z) m i z).length<=z.length+csl (x0.drop i.toNat)
 |0,i,z,hm,h0=>by rw[gz];omega
 |m+1,i,z,hm,h0=>by
  rw[gz];simp only[LET];rw[iz (l:=x0) (i:=i) h0 V];split
  ·refine Nat.le_trans (at8 x0 x1 rec_ hr m (i+1) _ V V) ?_;refine Nat.le_trans (Nat.add_le_add_right (Nat.le_trans (hr _ _ _) (Nat.add_le_add_right (hr _ _ _) _)) _) ?_;simp only[List.length_append,List.length_cons,List.length_nil];omega
  ·refine Nat.le_trans (at8 x0 x1 rec_ hr m (i+1) _ V V) ?_;refine Nat.le_trans (Nat.add_le_add_right (Nat.le_trans (hr _ _ _) (Nat.add_le_add_right (hr _ _ _) _)) _) ?_;simp only[List.length_append,List.length_cons,List.length_nil];omega
theorem az0:∀(k:Nat)(z0:List ae)(z1:List bd)(z2:List ay),(jx k z0 z1 z2).length<=z2.length+csl z0
 |0,z0,z1,z2=>by rw[jx];omega
 |k+1,z0,z1,z2=>by
  rw[jx];unfold qb;exact at8 z0 z1 _ (az0 k) _ 0 z2 O V
theorem bc1{f:List ae->List bd->List ay->List ay}(h:∀z0 z1 z2,(f z0 z1 z2).length<=z2.length+csl z0){a:List ae}{b:List bd}{c y:List ay}(e:f a b c=y):y.length<=c.length+csl a:=e▸h a b c
theorem bp4(a:ae)(p:af)(u:List Int)(e n:Int):(oq a p u e n).2.1.length<=u.length+1:=by
 unfold oq;simp only[LET];split
 ·simp
 ·split<;>simp
def uU(k t:Int)(c:List ai)(g:List bd):ay:=if k=2 then{Table:= -1,Cond:=c,Guards:=g}else{Table:=t,Cond:=[],Guards:=g}
mutual
def cuN(o:Nat)(g:List bd):ae->List ay
 |⟨k,t,c,th,el⟩=>uU k t c g::(cuL (o+1) (g++[{Unit:=(o:Int),Want:=true}]) th++cuL (o+1+csl th) (g++[{Unit:=(o:Int),Want:=false}]) el)
def cuL(o:Nat)(g:List bd):List ae->List ay
 |[]=>[]
 |x::l=>cuN o g x++cuL (o+csn x) g l
end
theorem dy6(o:Nat)(g:List bd)(x:ae):cuN o g x=uU x.Kind x.Table x.Cond g::(cuL (o+1) (g++[{Unit:=(o:Int),Want:=true}]) x.Then++cuL (o+1+csl x.Then) (g++[{Unit:=(o:Int),Want:=false}]) x.Else):=by
 cases x
 rw[cuN]
mutual
theorem be7:∀(x:ae)(o:Nat)(g:List bd),(cuN o g x).length=csn x
 |⟨k,t,c,th,el⟩,o,g=>by
  rw[cuN,csn,List.length_cons,List.length_append,tm th,tm el];omega
theorem tm:∀(l:List ae)(o:Nat)(g:List bd),(cuL o g l).length=csl l
 |[],o,g=>by rw[cuL,csl];rfl
 |x::l,o,g=>by rw[cuL,csl,List.length_append,be7 x,tm l]
end
theorem az2(x0:List ae)(x1:List bd)(rec_:List ae->List bd->List ay->List ay)(hr:∀l g z,csl l < csl x0->rec_ l g z=z++cuL z.length g l):
 ∀(m:Nat)(i:Int)(z:List ay),m=Int.toNat ((x0.length:Int)-i)->0<=i->gz x0 x1 rec_ (λz=>z) m i z=z++cuL z.length x1 (x0.drop i.toNat)
 |0,i,z,hm,h0=>by rw[gz,bh6 V,cuL,List.append_nil]
 |m+1,i,z,hm,h0=>by
  have hlt:=kt (l:=x0) (i:=i) h0 V;have key:∀u:ay,u=uU (ix x0 i).Kind (ix x0 i).Table (ix x0 i).Cond x1->gz x0 x1 rec_ (λz=>z) m (i+1) (rec_ (ix x0 i).Else (fu false x1 z.length) (rec_ (ix x0 i).Then (fu true x1 z.length) (z++[u])))=z++cuL z.length x1 (x0.drop i.toNat):=by
   intro u hu;rw[az2 x0 x1 rec_ hr m (i+1) _ V V,hr _ _ _ hlt.2,hr _ _ _ hlt.1,aq1 h0 V,cuL,dy6,au6,hu];simp only[fu,fi,LET,List.length_append,List.length_cons,List.length_nil,tm,List.append_assoc,List.cons_append,List.nil_append];rw[show z.length+(csl (ix x0 i).Then+1)=z.length+1+csl (ix x0 i).Then by omega,show z.length+(csl (ix x0 i).Then+csl (ix x0 i).Else+1)=z.length+(1+csl (ix x0 i).Then+csl (ix x0 i).Else) by omega]
  rw[gz];simp only[LET];split
  ·rename_i hk;simp only[decide_eq_true_eq]at hk;exact key _ (by rw[uU,if_pos hk];rfl)
  ·rename_i hk;simp only[decide_eq_true_eq]at hk;exact key _ (by rw[uU,if_neg hk];rfl)
theorem bm8:∀(k:Nat)(l:List ae)(g:List bd)(z:List ay),csl l < k->jx k l g z=z++cuL z.length g l
 |0,l,g,z,h=>absurd h (Nat.not_lt_zero _)
 |k+1,l,g,z,h=>by
  rw[jx];unfold qb;exact az2 l g _ (λy g z hy=>bm8 k y g z V) _ 0 z O V
def Asc:List bd->Int->Int->Prop
 |[],a,b=>True
 |g::r,a,b=>a<=g.Unit/\g.Unit < b/\Asc r (g.Unit+1) b
theorem Asc.app:∀{l:List bd}{a b:Int}(o:Int)(w:Bool),Asc l a b->a<=b->b<=o->Asc (l++[{Unit:=o,Want:=w}]) a (o+1)
 |[],a,b,o,w,_,h0,h1=>by
  refine⟨?_,?_,trivial⟩
  ·show a<=o;omega
  ·show o < o+1;omega
 |g::r,a,b,o,w,h,h0,h1=>by
  obtain⟨k1,k2,k3⟩:=h;exact⟨k1,by omega,Asc.app o w k3 V h1⟩
theorem Asc.mono:∀{l:List bd}{a b c:Int},Asc l a b->b<=c->Asc l a c
 |[],_,_,_,_,_=>trivial
 |g::r,a,b,c,h,hb=>⟨h.1,by have:=h.2.1;omega,h.2.2.mono hb⟩
theorem Asc.at:∀{l:List bd}{a b:Int},Asc l a b->∀k:Nat,(h:k < l.length)->a<=l[k].Unit/\l[k].Unit < b/\(0 < k->∀h2:k-1 < l.length,l[k-1].Unit < l[k].Unit)
 |[],a,b,h,k,hk=>by simp at hk
 |g::r,a,b,h,0,hk=>⟨h.1,h.2.1,λh0=>absurd h0 (Nat.lt_irrefl _)⟩
 |g::r,a,b,h,k+1,hk=>by
  obtain⟨h1,h2,h3⟩:=h;have hk':k < r.length:=by simpa using hk
  obtain⟨k1,k2,k3⟩:=h3.at k hk';refine⟨by simp only[List.getElem_cons_succ];omega,by simpa only[List.getElem_cons_succ]using k2,λ_ h4=>?_⟩;cases k with
  |zero=>simp only[Nat.zero_add,Nat.sub_self,List.getElem_cons_zero,List.getElem_cons_succ];omega
  |succ k=>
   simp only[List.getElem_cons_succ,Nat.add_sub_cancel];have:=k3 V (by simp;omega);simpa using this
def AllG:Nat->List ay->Prop
 |o,[]=>True
 |o,u::r=>Asc u.Guards 0 o/\AllG (o+1) r
theorem AllG.app:∀{a b:List ay}{o:Nat},AllG o a->AllG (o+a.length) b->AllG o (a++b)
 |[],b,o,_,h=>by simpa using h
 |u::a,b,o,h,k=>⟨h.1,AllG.app h.2 (by rw[show o+1+a.length=o+(u::a).length by simp;omega];exact k)⟩
theorem AllG.at:∀{l:List ay}{o:Nat},AllG o l->∀k:Nat,(h:k < l.length)->Asc l[k].Guards 0 ((o+k:Nat):Int)
 |[],o,h,k,hk=>by simp at hk
 |u::l,o,h,0,hk=>by simpa using h.1
 |u::l,o,h,k+1,hk=>by
  have:=h.2.at k (by simpa using hk);rw[show o+1+k=o+(k+1) by omega]at this;simpa using this
theorem al2(k t:Int)(c:List ai)(g:List bd):(uU k t c g).Guards=g:=by unfold uU;split<;>rfl
mutual
theorem ch1:∀(x:ae)(o:Nat)(g:List bd),Asc g 0 o->AllG o (cuN o g x)
 |⟨k,t,c,th,el⟩,o,g,h=>by
  rw[cuN];refine⟨by rw[al2];exact h,AllG.app (ah8 th _ _ (by have:=h.app (o:Int) true V V;simpa using this)) ?_⟩;rw[tm];refine ah8 el _ _ ?_;have:=(h.app (o:Int) false V V).mono (c:=((o+1+csl th:Nat):Int)) V;exact this
theorem ah8:∀(l:List ae)(o:Nat)(g:List bd),Asc g 0 o->AllG o (cuL o g l)
 |[],o,g,h=>by rw[cuL];trivial
 |x::l,o,g,h=>by
  rw[cuL];refine AllG.app (ch1 x o g h) ?_;rw[be7];exact ah8 l _ _ (h.mono V)
end
def tc(x:ae):Int×List ai:=if x.Kind=2 then(-1,x.Cond)else(x.Table,[])
theorem ek9(k t:Int)(c:List ai)(g:List bd)(a b:List ae):((uU k t c g).Table,(uU k t c g).Cond)=tc ⟨k,t,c,a,b⟩:=by
 unfold uU tc;by_cases h:k=2
 ·rw[if_pos h,if_pos h]
 ·rw[if_neg h,if_neg h]
mutual
theorem dy7:∀(x:ae)(o:Nat)(g:List bd),(cuN o g x).map (λu=>(u.Table,u.Cond))=(poN x).map tc
 |⟨k,t,c,th,el⟩,o,g=>by rw[cuN,poN,List.map_cons,List.map_cons,List.map_append,List.map_append,bb4 th,bb4 el,ek9 k t c g th el]
theorem bb4:∀(l:List ae)(o:Nat)(g:List bd),(cuL o g l).map (λu=>(u.Table,u.Cond))=(poL l).map tc
 |[],o,g=>by rw[cuL,poL];rfl
 |x::l,o,g=>by rw[cuL,poL,List.map_append,List.map_append,dy7 x,bb4 l]
end
theorem ep2(l:List ae)(o:Nat)(g:List bd){k:Nat}(h:k < csl l):((cuL o g l)[k]'(by rw[tm];exact h)).Table=(tc ((poL l)[k]'(by rw[zq];exact h))).1/\((cuL o g l)[k]'(by rw[tm];exact h)).Cond=(tc ((poL l)[k]'(by rw[zq];exact h))).2:=by
 have e:=bb4 l o g;have e2:((cuL o g l).map (λu=>(u.Table,u.Cond)))[k]'(by rw[List.length_map,tm];exact h)=((poL l).map tc)[k]'(by rw[List.length_map,zq];exact h):=by simp only[e]
 rw[List.getElem_map,List.getElem_map]at e2;rw[<-e2];exact⟨O,O⟩
theorem bi1{p:af}:lr p=if(rg p).2=0 then cuL 0 [] p.Control else[]:=by
 unfold lr;simp only[LET,wb];rw[bm8 _ _ _ _ (Nat.lt_succ_self _)];by_cases h:(rg p).2=0
 ·simp[h]
 ·simp[h]
theorem cp9{c:List ae}(h:lu c 40=true):csl c<=40/\GU c/\CB c:=by
 have k:=bp3 h O V;exact⟨by omega,λy hy=>by have:=k.2 y hy;omega,k.2⟩
theorem bm7{p:af}{l:List ay}(h:lu p.Control 40=true)(e:lr p=l):SU l:=by
 subst e;rw[bi1];split
 ·obtain⟨h1,_,h3⟩:=cp9 h;refine⟨by rw[tm];exact h1,λk k0 k1=>?_⟩;have hk:k.toNat < csl p.Control:=by rw[tm]at k1;omega
  rw[ul k0 k1,(ep2 p.Control 0 [] hk).2];unfold tc;split
  ·exact h3 _ (List.getElem_mem _)
  ·exact Nat.zero_le _
 ·exact⟨Nat.zero_le _,λk k0 k1=>absurd k1 (by simp;omega)⟩
structure DL(w:Nat)(d:List (List Int)):Prop where
 n:d.length=w
 r:∀k:Int,0<=k->k < w->(ix d k).length=w
theorem dlen{p:af}{l:List ay}{d:List (List Int)}(U:SU l)(e:pm p l=d):DL l.length d:=by
 subst e;have M:=bm9 p l U.n;exact⟨M.n,λk h0 h1=>(M.r k h0 h1).1⟩
def PT(U:List ay)(gs:List bd):Prop:=∀k:Nat,(h:k < gs.length)->(ix U gs[k].Unit).Guards=gs.take k
theorem PT.app{U:List ay}{gs:List bd}{o:Int}{w:Bool}(h:PT U gs)(ho:(ix U o).Guards=gs):PT U (gs++[{Unit:=o,Want:=w}]):=λk hk=>by
 rw[List.length_append,List.length_singleton]at hk;by_cases e:k < gs.length
 ·rw[List.getElem_append_left e,List.take_append_of_le_length V];exact h k e
 ·have:k=gs.length:=by omega
  subst this;rw[List.getElem_append_right (Nat.le_refl _)];simp[ho]
theorem dx2{A B:List ay}{u:ay}:ix (A++u::B) (A.length:Int)=u:=by
 rw[ul V (by simp;omega)];simp
mutual
theorem ed1:∀(x:ae)(o:Nat)(g:List bd)(U A B:List ay),A.length=o->U=A++(cuN o g x++B)->PT U g->∀u∈cuN o g x,PT U u.Guards
 |⟨k,t,c,th,el⟩,o,g,U,A,B,hA,hU,hg=>by
  rw[cuN]at hU⊢;have hu:(ix U (o:Int)).Guards=g:=by rw[hU,<-hA,List.cons_append,dx2,al2]
  intro u hm;rcases List.mem_cons.1 hm with rfl|hm
  ·rw[al2];exact hg
  rcases List.mem_append.1 hm with hm|hm
  ·exact bc5 th (o+1) _ U (A++[uU k t c g]) (cuL (o+1+csl th) (g++[{Unit:=(o:Int),Want:=false}]) el++B) (by simp[hA]) (by rw[hU];simp) (hg.app hu) u hm
  ·exact bc5 el (o+1+csl th) _ U (A++(uU k t c g::cuL (o+1) (g++[{Unit:=(o:Int),Want:=true}]) th)) B (by simp[hA,tm];omega) (by rw[hU];simp) (hg.app hu) u hm
theorem bc5:∀(l:List ae)(o:Nat)(g:List bd)(U A B:List ay),A.length=o->U=A++(cuL o g l++B)->PT U g->∀u∈cuL o g l,PT U u.Guards
 |[],o,g,U,A,B,hA,hU,hg=>by rw[cuL];intro u hm;cases hm
 |x::l,o,g,U,A,B,hA,hU,hg=>by
  rw[cuL]at hU⊢;intro u hm;rcases List.mem_append.1 hm with hm|hm
  ·exact ed1 x o g U A (cuL (o+csn x) g l++B) hA (by rw[hU];simp) hg u hm
  ·exact bc5 l (o+csn x) g U (A++cuN o g x) B (by simp[hA,be7]) (by rw[hU];simp) hg u hm
end
theorem Asc.lt:∀{l:List bd}{a b:Int},Asc l a b->∀i j:Nat,i < j->(hi:i < l.length)->(hj:j < l.length)->l[i].Unit < l[j].Unit
 |[],_,_,_,i,j,_,hi,_=>by simp at hi
 |g::r,a,b,h,0,j+1,_,_,hj=>by
  have:=(h.2.2.at j (by simpa using hj)).1;simp only[List.getElem_cons_zero,List.getElem_cons_succ];omega
 |g::r,a,b,h,i+1,j+1,hij,hi,hj=>by
  have:=h.2.2.lt i j V (by simpa using hi) (by simpa using hj);simpa using this
 |g::r,a,b,h,i,0,hij,_,_=>by omega
structure WG(l:List ay):Prop where
 a:∀k:Int,0<=k->k < l.length->Asc (ix l k).Guards 0 k
 p:∀k:Int,0<=k->k < l.length->PT l (ix l k).Guards
theorem cl7(p:af):WG (lr p):=by
 rw[bi1];split
 ·refine⟨λk h0 h1=>?_,λk h0 h1=>?_⟩
  ·have:=(ah8 p.Control 0 [] trivial).at k.toNat V;rw[ul h0 h1]
   rwa [show((0+k.toNat:Nat):Int)=k by omega]at this
  ·exact bc5 p.Control 0 [] _ [] [] O OZ (λk h=>by simp at h) _ (am2 h0 h1)
 ·exact⟨λk k0 k1=>absurd k1 (by simp;omega),λk k0 k1=>absurd k1 (by simp;omega)⟩
theorem ep5{l:List ay}(W:WG l){j k:Int}(j0:0<=j)(j1:j < l.length)(k0:0<=k)(k1:k < (ix l j).Guards.length):
 0<=(ix (ix l j).Guards k).Unit/\(ix (ix l j).Guards k).Unit < j/\¬Clash l (ix (ix l j).Guards k).Unit j:=by
 have ha:=W.a j j0 j1;have hp:=W.p j j0 j1 k.toNat V;rw[ul (l:=(ix l j).Guards) k0 k1];obtain⟨h1,h2,_⟩:=ha.at k.toNat V;refine⟨h1,h2,?_⟩;rintro⟨_,a,b,⟨a0,a1⟩,⟨b0,b1⟩,e1,e2⟩;rw[hp]at a1 e1 e2;have a2:a.toNat < (ix l j).Guards.length:=by rw[List.length_take]at a1;omega
 have ea:ix (List.take k.toNat (ix l j).Guards) a=(ix l j).Guards[a.toNat]:=by rw[ul a0 a1,List.getElem_take]
 rw[ea,ul b0 b1]at e1 e2;rcases Nat.lt_trichotomy a.toNat b.toNat with h|h|h
 ·have:=ha.lt _ _ h a2 V;omega
 ·apply e2;simp only[h]
 ·have:=ha.lt _ _ h V a2;omega
theorem at4(u:ay)(i:Int):∀(m:Nat)(j:Int),m=Int.toNat ((u.Guards.length:Int)-j)->0<=j->∀k:Int,j<=k->k < u.Guards.length->(ix u.Guards k).Unit=i->ot u i (λ_=>false) m j=true
 |0,j,hm,h0,k,k0,k1,e=>by omega
 |m+1,j,hm,h0,k,k0,k1,e=>by
  rw[ot];split
  ·rfl
  ·rename_i h;simp only[decide_eq_true_eq]at h;have:k≠j:=λq=>h (q▸e);exact at4 u i m (j+1) V V k V k1 e
theorem bq3{u:ay}{k:Int}(k0:0<=k)(k1:k < u.Guards.length):qx u (ix u.Guards k).Unit=true:=at4 u _ _ 0 O V k k0 k1 O
section
variable{p:af}{l:List ay}{d:List (List Int)}(S:S17 p)(U:SU l)(W:WG l)(M:MX p l d)
include S U W M
omit S U in
theorem dt8{j:Int}(j0:0<=j)(j1:j < l.length)(K:Unit->Bool):∀(m:Nat)(k:Int),m=Int.toNat (((ix l j).Guards.length:Int)-k)->0<=k->jp l d j K m k=K ()
 |0,k,hm,h0=>by rw[jp]
 |m+1,k,hm,h0=>by
  have k1:k < (ix l j).Guards.length:=by omega
  obtain⟨h1,h2,h3⟩:=ep5 W j0 j1 h0 k1;have e:=(M.r _ h1 V).2 j j0 j1;rw[if_pos h2]at e;have e2:depP p l (ix (ix l j).Guards k).Unit j=2:=by
   unfold depP;rw[if_neg (λh=>h3 ((Exclusive_iff _ _ _).1 h)),bq3 h0 k1];simp
  rw[jp,if_neg]
  ·exact dt8 j0 j1 K m (k+1) V V
  ·simp only[Bool.or_eq_true,decide_eq_true_eq,not_or,Bool.not_eq_true',decide_eq_false_iff_not,Decidable.not_not];exact⟨⟨by omega,by omega⟩,e.trans e2⟩
omit S U W M in
theorem ds4(i j:Int)(w r:List Int)(a:Int)(K:Unit->Bool):∀(m:Nat)(b:Int),m=Int.toNat ((r.length:Int)-b)->0<=b->(∀b:Int,0<=b->b < r.length->ix w a=ix r b->ix (ix d i) j=2)->jq d j i w r a K m b=K ()
 |0,b,hm,h0,H=>by rw[jq]
 |m+1,b,hm,h0,H=>by
  rw[jq,if_neg]
  ·exact ds4 i j w r a K m (b+1) V V H
  ·simp only[Bool.and_eq_true,decide_eq_true_eq,not_and,Bool.not_eq_true',decide_eq_false_iff_not,Decidable.not_not];exact H b h0 V
omit S U W M in
theorem dr4(i j:Int)(w r:List Int)(K:Unit->Bool)(H:∀a b:Int,0<=a->a < w.length->0<=b->b < r.length->ix w a=ix r b->ix (ix d i) j=2):∀(m:Nat)(a:Int),m=Int.toNat ((w.length:Int)-a)->0<=a->jn d j i w r K m a=K ()
 |0,a,hm,h0=>by rw[jn]
 |m+1,a,hm,h0=>by
  rw[jn,ds4 i j w r a _ _ 0 rfl V (λb b0 b1 e=>H a b h0 V b0 b1 e)];exact dr4 i j w r K H m (a+1) V V
omit W in
theorem cm7{j:Int}(j0:0<=j)(j1:j < l.length)(K:Unit->Bool):∀(m:Nat)(i:Int),m=Int.toNat (j-i)->0<=i->iq p l d j K m i=K ()
 |0,i,hm,h0=>by rw[iq]
 |m+1,i,hm,h0=>by
  have i1:i < l.length:=by omega
  have e:=(M.r i h0 i1).2 j j0 j1;rw[if_pos V]at e;have T:=dm2 S;have cj:=U.c j j0 j1;rw[iq];simp only[LET];by_cases hx:ji l i j=true
  ·rw[hx,if_pos rfl,if_neg]
   ·exact cm7 j0 j1 K m (i+1) V V
   ·have:depP p l i j=0:=by unfold depP;rw[if_pos hx]
    simp[e,this]
  ·rw[if_neg hx,ca2 T S.ab,cn9 T S.ab _ V];rw[dr4 i j _ _ _ (λa b a0 a1 b0 b1 q=>?_) _ 0 rfl V]
   ·exact cm7 j0 j1 K m (i+1) V V
   ·rw[e];unfold depP;have:ij (nh p (ix l j)) (km p (ix l i))=true:=(bp2 _ _).2 ⟨b,a,b0,b1,a0,a1,q.symm⟩;rw[if_neg hx,this];simp
theorem ds7(K:Unit->Bool)(hK:K ()=true):∀(m:Nat)(j:Int),m=Int.toNat ((l.length:Int)-j)->0<=j->jm p l d K m j=true
 |0,j,hm,h0=>by rw[jm];exact hK
 |m+1,j,hm,h0=>by
  have j1:j < l.length:=by omega
  have e:=(M.r j h0 j1).1;rw[jm,if_neg (by simp[e]),dt8 W M h0 j1 _ _ 0 rfl V,cm7 S U M h0 j1 _ _ 0 rfl V];exact ds7 K hK m (j+1) V V
end
theorem DepsProgram_law(x0:af):qf x0=true:=by
 unfold qf;simp only[LET];split
 ·rfl
 ·rename_i h;simp only[Bool.or_eq_true,not_or,Bool.not_eq_true',Bool.not_eq_false]at h;have S:=s17 O h.1;have U:=bm7 h.2 O;have M:=bm9 x0 _ U.n;have W:=cl7 x0;have hw:sx=true:=O;generalize lr x0=l at*;split
  ·rename_i h2;simp only[Bool.or_eq_true,decide_eq_true_eq,Bool.not_eq_true',decide_eq_false_iff_not]at h2;have:=M.n;rw[hw];simp only[Bool.and_true,decide_eq_true_eq];omega
  ·exact ds7 S U W M _ hw _ 0 O V
end Go.Proofs.YtmonnlkagniolaaGreat
