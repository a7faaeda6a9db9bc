import Derived.Test.YtmonnlkagniolaaGreatKExAExFcFrBdCk
import Derived.Test.YtmonnlkagniolaaGreatKPmKpKxWfEv
import Derived.Test.YtmonnlkagniolaaGreatKPmKpKxWfEv
import Derived.Test.YtmonnlkagniolaaGreatKExAExFcFrBdCk
import Derived.Test.YtmonnlkagniolaaGreatPbV
set_option linter.all false
set_option maxRecDepth 100000
namespace Go.Proofs.YtmonnlkagniolaaGreat
open Go Go.Pb Go.RowKit
def hf(p:aa)(j:Int):Int:=((ix p.Headers j).Fields.length:Int)
def nfs(p:aa):Nat->Int
 |0=>0
 |n+1=>nfs p n+hf p n
structure Fit(p:aa):Prop where
 hh:p.Headers.length<=16
 hm:p.Metadata.length<=20
 hr:p.Registers.length<=8
 hf:∀j:Int,0<=j->j < p.Headers.length->hf p j<=20
theorem ei4(p:aa)(j:Int):0<=hf p j:=Int.natCast_nonneg _
theorem ek7{p:aa}(h:jk p=false):Fit p:=by
 have k:=tl h O;exact⟨k.1.1,k.1.2.1,k.1.2.2,λj h0 h1=>by have:=k.2.1 j h0 h1;simp only[hf];omega⟩
section
variable{p:aa}(T:Fit p)
include T
theorem bj7:∀n:Nat,n<=p.Headers.length->0<=nfs p n/\nfs p n<=20*n
 |0,_=>by simp[nfs]
 |n+1,h=>by
  have ih:=bj7 n Y;have h1:=T.hf n Y Y;have h2:=ei4 p n;simp only[nfs];omega
def nf(p:aa):Int:=nfs p p.Headers.length
theorem nf_b:0<=nf p/\nf p<=320:=by
 have:=bj7 T p.Headers.length (Nat.le_refl _);have h:=T.hh;simp only[nf];omega
theorem ba9(K:List Int->List Int)(a b c:Int):∀(m:Nat)(i:Int),m=Int.toNat ((p.Headers.length:Int)-i)->0<=i->i<=p.Headers.length->kj p K m i [nfs p i.toNat,a,b,c]=K [nf p,a,b,c]
 |0,i,hm,h0,h1=>by
  have:i.toNat=p.Headers.length:=by omega
  rw[kj,this];rfl
 |m+1,i,hm,h0,h1=>by
  rw[kj];have h2:=bj7 T i.toNat Y;have h3:=T.hf i h0 Y;have h4:=ei4 p i;have hh:=T.hh;have e:([nfs p i.toNat,a,b,c]:List Int).set (0:Int).toNat (wr (ix ([nfs p i.toNat,a,b,c]:List Int) 0+((ix p.Headers i).Fields.length:Int)))=[nfs p (i+1).toNat,a,b,c]:=by
   have e1:(i+1).toNat=i.toNat+1:=by omega
   have e2:ix ([nfs p i.toNat,a,b,c]:List Int) 0=nfs p i.toNat:=O;rw[e1,e2];show wr (nfs p i.toNat+hf p i)::_=_
   rw[cz Y Y];simp only[nfs];rw[show((i.toNat:Nat):Int)=i by omega]
  rw[e];exact ba9 K a b c m (i+1) Y Y Y
theorem ba2:lz p=[nf p,(p.Headers.length:Int),(p.Metadata.length:Int),(p.Registers.length:Int)]:=by
 unfold lz;exact ba9 T _ _ _ _ _ 0 O Y Y
theorem am6(k:Int)(hk:0<=k/\k<=4):oi p k=if k=0 then 0 else if k=1 then nf p else if k=2 then nf p+p.Headers.length else if k=3 then nf p+p.Headers.length+p.Metadata.length else nf p+p.Headers.length+p.Metadata.length+p.Registers.length:=by
 have hb:=nf_b T;have h1:=T.hh;have h2:=T.hm;have h3:=T.hr;have key:∀a b c d:Int,(0<=a/\a<=320)->(0<=b/\b<=16)->(0<=c/\c<=20)->(0<=d/\d<=8)->lg k [a,b,c,d] (λx=>x) 4 0 0=if k=0 then 0 else if k=1 then a else if k=2 then a+b else if k=3 then a+b+c else a+b+c+d:=by
  intro a b c d ha hb hc hd;have hx:ix ([a,b,c,d]:List Int) 0=a/\ix ([a,b,c,d]:List Int) 1=b/\ix ([a,b,c,d]:List Int) 2=c/\ix ([a,b,c,d]:List Int) 3=d:=⟨O,O,O,O⟩;have w1:wr (0+a)=a:=by rw[cz Y Y];omega
  have w2:wr (a+b)=a+b:=cz Y Y;have w3:wr (a+b+c)=a+b+c:=cz Y Y;have w4:wr (a+b+c+d)=a+b+c+d:=cz Y Y;have:k=0\/k=1\/k=2\/k=3\/k=4:=by omega
  rcases this with rfl|rfl|rfl|rfl|rfl<;>simp[lg,hx.1,hx.2.1,hx.2.2.1,hx.2.2.2,w1,w2,w3,w4,cz (n:=a) Y Y]
 unfold oi;simp only[LET,ba2 T];exact key _ _ _ _ hb Y Y Y
theorem bg0(k i:Int)(hk:0<=k/\k<=3):qt p k i=if i < 0\/ix [nf p,(p.Headers.length:Int),(p.Metadata.length:Int),(p.Registers.length:Int)] k<=i then -1 else oi p k+i:=by
 unfold qt;simp only[LET,ba2 T,Bool.or_eq_true,decide_eq_true_eq];split
 ·rfl
 ·rename_i hc;simp only[not_or]at hc;have hb:=nf_b T;have h1:=T.hh;have h2:=T.hm;have h3:=T.hr;have hx:ix [nf p,(p.Headers.length:Int),(p.Metadata.length:Int),(p.Registers.length:Int)] k<=320:=by
   have:k=0\/k=1\/k=2\/k=3:=by omega
   rcases this with rfl|rfl|rfl|rfl
   ·show nf p<=320;omega
   ·show(p.Headers.length:Int)<=320;omega
   ·show(p.Metadata.length:Int)<=320;omega
   ·show(p.Registers.length:Int)<=320;omega
  have hf:0<=oi p k/\oi p k<=400:=by
   rw[am6 T k Y];split
   ·omega
   ·split
    ·omega
    ·split
     ·omega
     ·split<;>omega
  exact cz Y Y
theorem co1(h:Int):ga p h=if h < 0\/(p.Headers.length:Int)<=h then -1 else nf p+h:=by
 unfold ga;simp only[LET,bg0 T 1 h Y,am6 T 1 Y];rfl
theorem el1(r:Int):fk p r=if r < 0\/(p.Registers.length:Int)<=r then -1 else nf p+p.Headers.length+p.Metadata.length+r:=by
 unfold fk;simp only[LET,bg0 T 3 r Y,am6 T 3 Y];rfl
omit T in
theorem er9{α:Type}[Inhabited α](l:List α)(b i:Int)(h0:0<=i)(h1:i < b):ix (sub l 0 b) i=ix l i:=by
 simp only[ix,sub,Int.toNat_zero,List.drop_zero,Nat.sub_zero,List.getD_eq_getElem?_getD];rw[List.getElem?_take_of_lt Y]
theorem bm3(r:ae)(K:Int->Int)(h0:0<=r.Header)(h1:r.Header < p.Headers.length)(f0:0<=r.Field)(f1:r.Field < hf p r.Header):∀(m:Nat)(i:Int),m=Int.toNat (r.Header-i)->0<=i->i<=r.Header->jd p r K m (r.Field+nfs p i.toNat) i=K (r.Field+nfs p r.Header.toNat)
 |0,i,hm,h2,h3=>by
  have:i=r.Header:=by omega
  subst this;rw[jd]
 |m+1,i,hm,h2,h3=>by
  rw[jd,er9 p.Headers r.Header i h2 Y];have b:=bj7 T i.toNat Y;have h4:=T.hf i h2 Y;have h5:=ei4 p i;have h6:=T.hf r.Header h0 h1;have hh:=T.hh;have e:wr (r.Field+nfs p i.toNat+((ix p.Headers i).Fields.length:Int))=r.Field+nfs p (i+1).toNat:=by
   have e1:(i+1).toNat=i.toNat+1:=by omega
   show wr (r.Field+nfs p i.toNat+hf p i)=_
   rw[cz Y Y,e1];simp only[nfs];rw[show((i.toNat:Nat):Int)=i by omega];omega
  rw[e];exact bm3 r K h0 h1 f0 f1 m (i+1) Y Y Y
theorem bk9(r:ae):fd p r=if r.Header= -1 then(if r.Field < 0\/(p.Metadata.length:Int)<=r.Field then -1 else nf p+p.Headers.length+r.Field)else if r.Header < 0\/(p.Headers.length:Int)<=r.Header\/r.Field < 0\/hf p r.Header<=r.Field then -1 else r.Field+nfs p r.Header.toNat:=by
 unfold fd;simp only[LET,decide_eq_true_eq,Bool.or_eq_true,bg0 T 2 r.Field Y,am6 T 2 Y];split
 ·rfl
 ·split
  ·rename_i h;rw[if_pos];simp only[hf];rcases h with((h|h)|h)|h<;>omega
  ·rename_i h;have h':¬(r.Header < 0\/(p.Headers.length:Int)<=r.Header\/r.Field < 0\/hf p r.Header<=r.Field):=by
    simp only[hf];omega
   rw[if_neg h'];simp only[not_or,Int.not_lt,Int.not_le]at h';have hl:=as6 (l:=p.Headers) (a:=0) (b:=r.Header) Y Y Y;have:=bm3 T r (λx=>x) Y Y Y Y (Int.toNat (((sub p.Headers 0 r.Header).length:Int)-0)) 0 Y Y Y;simpa[nfs]using this
end
theorem yj{α:Type}[Inhabited α]{l:List α}{i k:Int}{a:α}(h0:0<=k)(h1:k < l.length)(hi:0<=i):ix (l.set i.toNat a) k=if k=i then a else ix l k:=by
 unfold ix;rw[List.getD_eq_getElem?_getD,List.getElem?_set,List.getD_eq_getElem?_getD];by_cases e:k=i
 ·subst e;rw[if_pos rfl,if_pos Y,if_pos rfl];rfl
 ·rw[if_neg Y,if_neg e]
theorem bb5{α:Type}[Inhabited α]{l:List α}{x:α}(h:x∈l):∃j:Int,0<=j/\j < l.length/\ix l j=x:=by
 obtain⟨n,hn,rfl⟩:=List.getElem_of_mem h;exact⟨n,by omega,by omega,bo3 hn⟩
structure WR(p:aa)(a b:List Int)(c:List ae)(x:bf):Prop where
 d:x.Kind=1\/x.Kind=4->x.Dst∈c
 h:x.Kind=2\/x.Kind=3->x.Header∈b/\∀f:Int,0<=f->f < (ix p.Headers x.Header).Fields.length->{Header:=x.Header,Field:=f}∈c
 r:x.Kind=5->x.Register∈a
theorem WR.mono{p:aa}{a b a' b':List Int}{c c':List ae}{x:bf}(H:WR p a b c x)(h1:∀z∈a,z∈a')(h2:∀z∈b,z∈b')(h3:∀z∈c,z∈c'):WR p a' b' c' x:=
 ⟨λk=>h3 _ (H.d k),λk=>⟨h2 _ (H.h k).1,λf f0 f1=>h3 _ ((H.h k).2 f f0 f1)⟩,λk=>h1 _ (H.r k)⟩
section
variable{γ:Type}{R:(List ae)×(List Int)×(List Int)->Prop}{p:aa}{B:List bf}
theorem dz6{y:Int}{K:List Int->List Int->List ae->(List ae)×(List Int)×(List Int)}{a b:List Int}:∀(m:Nat)(x:Int)(c:List ae),
 (∀c',(∀z∈c,z∈c')->(∀f:Int,x<=f->f < x+m->{Header:=(ix B y).Header,Field:=f}∈c')->R (K a b c'))->R (ir B y K m x a b c)
 |0,x,c,H=>H c (λz hz=>hz) (λf h1 h2=>by omega)
 |m+1,x,c,H=>by
  rw[ir];refine dz6 m (x+1) _ λc' h1 h2=>H c' (λz hz=>h1 z (List.mem_append_left _ hz)) (λf h3 h4=>?_);by_cases e:f=x
  ·subst e;exact h1 _ (List.mem_append_right _ (List.mem_singleton.2 O))
  ·exact h2 f Y Y
theorem dx7{K:List Int->List Int->List ae->(List ae)×(List Int)×(List Int)}:∀(m:Nat)(i:Int)(a b:List Int)(c:List ae),0<=i->
 (∀k:Int,0<=k->k < i->WR p a b c (ix B k))->(∀a b c,(∀k:Int,0<=k->k < i+m->WR p a b c (ix B k))->R (K a b c))->R (fq p B K m i a b c)
 |0,i,a,b,c,h0,H,HK=>HK a b c (λk h1 h2=>H k h1 Y)
 |m+1,i,a,b,c,h0,H,HK=>by
  have go:∀(a' b':List Int)(c':List ae),(∀z∈a,z∈a')->(∀z∈b,z∈b')->(∀z∈c,z∈c')->WR p a' b' c' (ix B i)->R (fq p B K m (i+1) a' b' c'):=λa' b' c' h1 h2 h3 h4=>
   dx7 m (i+1) a' b' c' Y (λk k0 k1=>by
    by_cases e:k=i
    ·rw[e];exact h4
    ·exact(H k k0 Y).mono h1 h2 h3) (λa b c hh=>HK a b c λk k0 k1=>hh k k0 Y)
  rw[fq];simp only[LET];have kd:(ix B i).Kind=1\/(ix B i).Kind=4->R (fq p B K m (i+1) a b (c++[(ix B i).Dst])):=λk=>
   go a b _ (λz h=>h) (λz h=>h) (λz h=>List.mem_append_left _ h) ⟨λ_=>List.mem_append_right _ (List.mem_singleton.2 rfl),λc=>by omega,λc=>by omega⟩
  have kh:(ix B i).Kind=2\/(ix B i).Kind=3->R (ir B i (λa b c=>fq p B K m (i+1) a b c) (Int.toNat ((((ix p.Headers ((ix B i).Header)).Fields).length:Int)-0)) 0 a (b++[(ix B i).Header]) c):=λk=>
   dz6 _ _ _ λc' h1 h2=>go a _ c' (λz h=>h) (λz h=>List.mem_append_left _ h) h1 ⟨λc=>by omega,λ_=>⟨List.mem_append_right _ (List.mem_singleton.2 rfl),λf f0 f1=>h2 f f0 Y⟩,λc=>by omega⟩
  simp only[decide_eq_true_eq];by_cases k1:(ix B i).Kind=1
  ·simp only[k1,if_true];exact kd (.inl k1)
  ·by_cases k4:(ix B i).Kind=4
   ·simp only[k1,k4,if_true,if_false];simpa[k1,k4]using kd (.inr k4)
   ·by_cases k2:(ix B i).Kind=2
    ·simpa[k2]using kh (.inl k2)
    ·by_cases k3:(ix B i).Kind=3
     ·simpa[k3]using kh (.inr k3)
     ·by_cases k5:(ix B i).Kind=5
      ·simpa[k5]using go (a++[(ix B i).Register]) b c (λz h=>List.mem_append_left _ h) (λz h=>h) (λz h=>h) ⟨λc=>by omega,λc=>by omega,λ_=>List.mem_append_right _ (List.mem_singleton.2 rfl)⟩
      ·simpa[k1,k2,k3,k4,k5]using go a b c (λz h=>h) (λz h=>h) (λz h=>h) ⟨λc=>by omega,λc=>by omega,λc=>by omega⟩
end
theorem cf0(p:aa)(i:Int):∀k:Int,0<=k->k < (ko p i).length->WR p (fc p i).2.2 (fc p i).2.1 (fc p i).1 (ix (ko p i) k):=by
 unfold fc;simp only[LET];generalize ko p i=B;refine dx7 (R:=λw=>∀k:Int,0<=k->k < B.length->WR p w.2.2 w.2.1 w.1 (ix B k)) (p:=p) (B:=B) _ 0 [] [] [] (Int.le_refl 0) (λk h1 h2=>by omega) λa b c H k h1 h2=>?_;refine(H k h1 Y).mono ?_ ?_ ?_
 ·intro z hz;show z∈cpt (a.mergeSort _);rw[at5,List.mem_mergeSort];exact hz
 ·intro z hz;show z∈cpt (b.mergeSort _);rw[at5,List.mem_mergeSort];exact hz
 ·intro z hz;show z∈cpt (c.mergeSort _);rw[at5,List.mem_mergeSort];exact hz
theorem cz6{c:dt}{s:bf}(h:fi c s=0):1<=s.Kind/\s.Kind<=5:=by
 by_cases k1:s.Kind=1
 ·omega
 by_cases k2:s.Kind=2
 ·omega
 by_cases k3:s.Kind=3
 ·omega
 by_cases k4:s.Kind=4
 ·omega
 by_cases k5:s.Kind=5
 ·omega
 unfold fi at h;simp only[LET,k1,k2,k3,k4,k5,decide_false,Bool.false_eq_true,if_false]at h;cases h
theorem cm0{p:aa}{a:Int}:∀(m:Nat)(i:Int),m=Int.toNat ((((ix p.Actions a).Body).length:Int)-i)->(ja p a (λ_=>(0,0)) m i).2=0->∀j:Int,i<=j->j < (ix p.Actions a).Body.length->1<=(ix (ix p.Actions a).Body j).Kind/\(ix (ix p.Actions a).Body j).Kind<=5
 |0,i,hm,h,j,h1,h2=>by omega
 |m+1,i,hm,h,j,h1,h2=>by
  rw[ja]at h;simp only[LET]at h;split at h
  ·rename_i hc;simp only[Bool.not_eq_true',decide_eq_false_iff_not]at hc;exact absurd h hc
  ·rename_i hc;simp only[Bool.not_eq_true',decide_eq_false_iff_not,Decidable.not_not]at hc;by_cases e:j=i
   ·subst e;exact cz6 hc
   ·exact cm0 m (i+1) Y h j Y h2
theorem dq9{p:aa}{a:Int}(h:(lc p a).2=0):∀j:Int,0<=j->j < (ix p.Actions a).Body.length->1<=(ix (ix p.Actions a).Body j).Kind/\(ix (ix p.Actions a).Body j).Kind<=5:=by
 unfold lc at h;split at h
 ·cases h
 ·simp only[LET]at h;split at h
  ·rename_i hc;simp only[Bool.not_eq_true',decide_eq_false_iff_not]at hc;exact absurd h hc
  ·exactλj h0 h1=>cm0 _ 0 rfl h j h0 h1
section
variable{p:aa}{e:ax}{r d:ae}{v:BitVec 32}
theorem cy4(he:gz e d=true)(hr:r.Header= -1\/0<=r.Header)(hd:d≠r):ig (putF e d v) r=ig e r:=by
 have h1:=λh=>aq8 he O h;have h2:=λh=>aq7 he O h;obtain⟨dh,df⟩:=d;obtain⟨rh,rf⟩:=r;simp only at hr h1 h2;unfold putF;by_cases a:dh= -1
 ·have b:=(h1 a).1;subst a;simp only[if_true];unfold ig gz lp;simp only[LET,List.length_set];by_cases k:rh= -1
  ·subst k;simp only[decide_true,if_true];by_cases k2:0<=rf/\rf < e.Metd.length
   ·rw[yj k2.1 k2.2 b,if_neg (show¬rf=df fromλx=>hd (by rw[x]))]
   ·have:(decide (0<=rf)&&decide (rf < (e.Metd.length:Int)))=false:=by simp;omega
    simp[this]
  ·simp only[k,decide_false,Bool.false_eq_true,if_false]
 ·obtain⟨⟨⟨b,_⟩,f⟩,_⟩:=h2 a;simp only[a,if_false];unfold ig gz lp;simp only[LET,List.length_set];by_cases k:rh= -1
  ·simp only[k,decide_true,if_true]
  ·simp only[k,decide_false,Bool.false_eq_true,if_false];by_cases k2:0<=rh/\rh < e.Fields.length
   ·rw[yj k2.1 k2.2 b];by_cases k3:rh=dh
    ·subst k3;simp only[if_true,List.length_set];by_cases k4:0<=rf/\rf < (ix e.Fields rh).length
     ·rw[yj k4.1 k4.2 f,if_neg (show¬rf=df fromλx=>hd (by rw[x]))]
     ·have:(decide (0<=rh)&&decide (rh < (e.Fields.length:Int))&&decide (0<=rf)&&decide (rf < ((ix e.Fields rh).length:Int)))=false:=by
       simp only[Bool.and_eq_false_imp,Bool.and_eq_true,decide_eq_true_eq,decide_eq_false_iff_not];omega
      simp[this]
    ·simp only[k3,if_false]
   ·have:∀q,(decide (0<=rh)&&decide (rh < (e.Fields.length:Int))&&decide (0<=rf)&&q)=false:=λq=>by
     have:(decide (0<=rh)&&decide (rh < (e.Fields.length:Int)))=false:=by simp;omega
     simp[this]
    simp[this]
theorem ef0{i:Int}{b:Bool}(hr:r.Header= -1\/0<=r.Header)(hd:i≠r.Header)(b0:0<=i):ig (swE e i b) r=ig e r:=by
 obtain⟨rh,rf⟩:=r;simp only at hr hd;unfold swE ig gz lp;simp only[LET,List.length_set];by_cases k:rh= -1
 ·simp only[k,decide_true,if_true]
 ·simp only[k,decide_false,Bool.false_eq_true,if_false];by_cases k2:0<=rh/\rh < e.Fields.length
  ·rw[yj k2.1 k2.2 b0,if_neg (show¬rh=i fromλx=>hd x.symm)];by_cases k3:rh < e.Valid.length
   ·rw[yj k2.1 k3 b0,if_neg (show¬rh=i fromλx=>hd x.symm)]
   ·have:∀q,(decide (0<=rh)&&decide (rh < (e.Valid.length:Int))&&q)=false:=λq=>by simp[k3]
    simp[this]
  ·have:∀q q2,(decide (0<=rh)&&decide (rh < (e.Fields.length:Int))&&q&&q2)=false:=λq q2=>by
    have:(decide (0<=rh)&&decide (rh < (e.Fields.length:Int)))=false:=by simp;omega
    simp[this]
   simp[this]
theorem az9:(putF e d v).Valid=e.Valid:=by
 unfold putF;split<;>rfl
end
structure CF(p:aa)(a b:List Int)(c:List ae)(e0:ax)(r0:List (List (BitVec 32)))(e:ax)(rs:List (List (BitVec 32))):Prop where
 vl:e.Valid.length=e0.Valid.length
 rl:rs.length=r0.length
 g:∀r:ae,(r.Header= -1\/(0<=r.Header/\0<=r.Field/\r.Field < (ix p.Headers r.Header).Fields.length))->r∉c->ig e r=ig e0 r
 v:∀i:Int,0<=i->i < e0.Valid.length->i∉b->ix e.Valid i=ix e0.Valid i
 r:∀i:Int,0<=i->i < r0.length->i∉a->ix rs i=ix r0 i
section
variable{p q:aa}{a b:List Int}{c:List ae}{e0 e:ax}{r0 rs:List (List (BitVec 32))}
theorem CF.set(H:CF p a b c e0 r0 e rs){d:ae}{v:BitVec 32}(hd:d∈c):CF p a b c e0 r0 (ot q e d v) rs:=by
 unfold ot;split
 ·exact H
 ·rename_i h;simp only[Bool.or_eq_true,not_or,Bool.not_eq_true',Bool.not_eq_false]at h;exact⟨by rw[az9];exact H.vl,H.rl,λr h1 h2=>by rw[cy4 h.1.2 Y (by rintro rfl;exact h2 hd)];exact H.g r h1 h2,λi h1 h2 h3=>by rw[az9];exact H.v i h1 h2 h3,H.r⟩
theorem CF.sw(H:CF p a b c e0 r0 e rs){i:Int}{y:Bool}(hb:i∈b)(hf:∀f:Int,0<=f->f < (ix p.Headers i).Fields.length->{Header:=i,Field:=f}∈c)(hi:0<=i):CF p a b c e0 r0 (swE e i y) rs:=by
 refine⟨by show(e.Valid.set i.toNat y).length=_;rw[List.length_set];exact H.vl,H.rl,λr h1 h2=>?_,λk h1 h2 h3=>?_,H.r⟩
 ·rw[ef0 Y ?_ hi]
  ·exact H.g r h1 h2
  ·intro x;rcases h1 with h1|⟨h1,h4,h5⟩
   ·omega
   ·exact h2 (by have:=hf r.Field h4 (by rw[x];exact h5);rw[x]at this;exact this)
 ·show ix (e.Valid.set i.toNat y) k=_
  rw[yj h1 (by rw[H.vl];exact h2) hi,if_neg (λx:k=i=>h3 (x▸hb))];exact H.v k h1 h2 h3
theorem CF.wr(H:CF p a b c e0 r0 e rs){r:Int}{i v:BitVec 32}(hr:r∈a):CF p a b c e0 r0 e (ll q rs r i v):=by
 unfold ll;split
 ·exact H
 ·rename_i h;simp only[Bool.or_eq_true,not_or,Bool.not_eq_true',Bool.not_eq_false]at h;have hc:=yn h.1;exact⟨H.vl,by rw[List.length_set];exact H.rl,H.g,H.v,λk h1 h2 h3=>by rw[yj h1 (by rw[H.rl];exact h2) hc.1.1,if_neg (λx:k=r=>h3 (x▸hr))];exact H.r k h1 h2 h3⟩
theorem CF.run{k:cp}{s:au}:∀(m:Nat)(rs:List (List (BitVec 32)))(i:Int)(e:ax),0<=i->(∀j:Int,0<=j->j < i+m->WR p a b c (ix (ix p.Actions k.Action).Body j)/\1<=(ix (ix p.Actions k.Action).Body j).Kind/\(ix (ix p.Actions k.Action).Body j).Kind<=5)->CF p a b c e0 r0 e rs->
 CF p a b c e0 r0 (ft p k s (λrs e=>(e,rs)) m rs i e).1 (ft p k s (λrs e=>(e,rs)) m rs i e).2
 |0,rs,i,e,h0,hw,H=>by rw[ft];exact H
 |m+1,rs,i,e,h0,hw,H=>by
  obtain⟨w,k1,k5⟩:=hw i h0 Y;have ih:=λrs e=>CF.run (k:=k) (s:=s) m rs (i+1) e Y (λj h1 h2=>hw j h1 Y);rw[ft];simp only[LET,decide_eq_true_eq];by_cases q1:(ix (ix p.Actions k.Action).Body i).Kind=1
  ·simp only[q1,if_true];exact ih _ _ (H.set (w.d (.inl q1)))
  simp only[q1,if_false];by_cases q2:(ix (ix p.Actions k.Action).Body i).Kind=2
  ·simp only[q2,if_true];refine ih _ _ ?_;unfold nt;simp only[LET];split
   ·exact H
   ·rename_i hc;simp only[Bool.or_eq_true,decide_eq_true_eq,not_or]at hc;exact H.sw (w.h (.inl q2)).1 (w.h (.inl q2)).2 Y
  simp only[q2,if_false];by_cases q3:(ix (ix p.Actions k.Action).Body i).Kind=3
  ·simp only[q3,if_true];refine ih _ _ ?_;unfold lr;simp only[LET];split
   ·exact H
   ·rename_i hc;simp only[Bool.or_eq_true,decide_eq_true_eq,not_or]at hc;exact H.sw (w.h (.inr q3)).1 (w.h (.inr q3)).2 Y
  simp only[q3,if_false];by_cases q4:(ix (ix p.Actions k.Action).Body i).Kind=4
  ·simp only[q4,if_true];exact ih _ _ (H.set (w.d (.inr q4)))
  simp only[q4,if_false];exact ih _ _ (H.wr (w.r Y))
end
theorem ce3(p:aa)(c:cp)(e:ax)(rs:List (List (BitVec 32))):CF p (fc p c.Action).2.2 (fc p c.Action).2.1 (fc p c.Action).1 e rs (jm p c e rs).1 (jm p c e rs).2:=by
 have idn:CF p (fc p c.Action).2.2 (fc p c.Action).2.1 (fc p c.Action).1 e rs e rs:=⟨O,O,λr _ _=>O,λi _ _ _=>O,λi _ _ _=>O⟩;unfold jm;simp only[LET];split
 ·exact idn
 ·rename_i h;simp only[Bool.or_eq_true,Bool.not_eq_true',decide_eq_false_iff_not,not_or,Decidable.not_not,cf4]at h;have hb:ko p c.Action=(ix p.Actions c.Action).Body:=by
   unfold ko;simp only[LET,h.1];rfl
  have hw:=cf0 p c.Action;rw[hb]at hw;exact CF.run _ _ _ _ (Int.le_refl 0) (λk k0 k1=>⟨hw k k0 Y,dq9 h.1 k k0 Y⟩) idn
theorem bq5{l:List Int}{z:Int}(h:z∈l)(h0:0<=z):z∈nn l:=List.mem_filter.2 ⟨h,by simpa using h0⟩
theorem fd1{p:aa}{f:List ae}{h r:List Int}{x:ae}(hx:x∈f)(h0:0<=fd p x):fd p x∈cls p f h r:=List.mem_append_left _ (bq5 (List.mem_map.2 ⟨x,hx,O⟩) h0)
theorem ex6{p:aa}{f:List ae}{h r:List Int}{x:Int}(hx:x∈h)(h0:0<=ga p x):ga p x∈cls p f h r:=List.mem_append_right _ (List.mem_append_left _ (bq5 (List.mem_map.2 ⟨x,hx,O⟩) h0))
theorem fa1{p:aa}{f:List ae}{h r:List Int}{x:Int}(hx:x∈r)(h0:0<=fk p x):fk p x∈cls p f h r:=List.mem_append_right _ (List.mem_append_right _ (bq5 (List.mem_map.2 ⟨x,hx,O⟩) h0))
theorem cp5{p:aa}{y:bz×Bool}{z a:Int}{K:ay->List Int}(hK:∀cs,z∈cs->z∈K ⟨p,cs⟩)(hz:z∈cls p (fc p a).1 (fc p a).2.1 (fc p a).2.2):∀(m:Nat)(i:Int)(cs:List Int),(z∈cs\/∃j:Int,i<=j/\j < i+m/\ix y.1.Actions j=a)->z∈kg p y K m i ⟨p,cs⟩
 |0,i,cs,h=>by
  rw[kg];rcases h with h|⟨j,h1,h2,_⟩
  ·exact hK cs h
  ·omega
 |m+1,i,cs,h=>by
  rw[kg];simp only[LET,cm4];refine cp5 hK hz m (i+1) _ ?_;rcases h with h|⟨j,h1,h2,h3⟩
  ·exact .inl (List.mem_append_left _ h)
  ·by_cases e:j=i
   ·subst e;subst h3;exact .inl (List.mem_append_right _ hz)
   ·exact .inr ⟨j,by omega,by omega,h3⟩
theorem ez3{p:aa}{t z a:Int}(h0:0<=t)(h1:t < p.Tables.length)(ha:a∈(ix p.Tables t).Actions)(hz:z∈cls p (fc p a).1 (fc p a).2.1 (fc p a).2.2):z∈mn p {Table:=t,Cond:=[],Guards:=[]}:=by
 unfold mn jx;rw[if_neg (by simp;omega)];simp only[LET];rw[if_neg OZ];obtain⟨j,j0,j1,j2⟩:=bb5 ha;refine cp5 (y:=(ix p.Tables t,true)) (λcs h=>?_) hz _ 0 [] (.inr ⟨j,j0,by omega,j2⟩);show z∈cpt (cs.mergeSort _)
 rw[at5,List.mem_mergeSort];exact h
theorem al7{l:List Int}{x:Int}(h:x∈l):gu l x=true:=by
 unfold gu;obtain⟨j,h0,h1,h2⟩:=bb5 h;have:∀(n:Nat)(i:Int),i<=j->j < i+n->jv l x (λ_=>false) n i=true:=by
  intro n;induction n with
  |zero=>intro i h3 h4;omega
  |succ n ih=>
   intro i h3 h4;rw[jv];split
   ·rfl
   ·rename_i h5;simp only[decide_eq_true_eq]at h5;exact ih _ (by have:i≠j:=λe=>h5 (e▸h2);omega) Y
 exact this _ 0 h0 Y
theorem cq6{l:List Int}{x:Int}(h:gu l x=true):x∈l:=by
 unfold gu at h;have:∀(n:Nat)(i:Int),0<=i->i+n<=l.length->jv l x (λ_=>false) n i=true->x∈l:=by
  intro n;induction n with
  |zero=>intro i h3 h4 h5;rw[jv]at h5;cases h5
  |succ n ih=>
   intro i h3 h4 h5;rw[jv]at h5;split at h5
   ·rename_i h6;simp only[decide_eq_true_eq]at h6;rw[<-h6];exact aa1 h3 Y
   ·exact ih _ Y Y h5
 exact this _ 0 (Int.le_refl 0) Y h
theorem dy5(l:List (BitVec 32)):∀(m:Nat)(i:Int),ji l l (λ_=>true) m i=true
 |0,i=>rfl
 |m+1,i=>by
  rw[ji,if_neg OZ];exact dy5 l m _
theorem da4(l:List (BitVec 32)):oe l l=true:=by
 unfold oe;rw[if_neg OZ];exact dy5 l _ _
section
variable{p:aa}{x:dj}{e e':ax}{l:List Int}{y:ax×List (List (BitVec 32))}
theorem eb4(K:Unit->Bool)(hK:K ()=true):∀(m:Nat)(i:Int),im p x K m i=true
 |0,i=>by rw[im];exact hK
 |m+1,i=>by
  rw[im];split
  ·rfl
  ·exact eb4 K hK m _
theorem ec9(K:Unit->Bool)(hK:K ()=true)(N:Nat)(H:∀r:Int,0<=r->r < N->fk p r∈l\/ix y.2 r=ix x.Registers r):∀(m:Nat)(i:Int),0<=i->i+m<=N->ip p x l y K m i=true
 |0,i,h0,h1=>by rw[ip];exact hK
 |m+1,i,h0,h1=>by
  rw[ip];simp only[LET];rw[if_neg]
  ·exact ec9 K hK N H m (i+1) Y Y
  ·rcases H i h0 Y with h|h
   ·simp[al7 h]
   ·rw[h,da4];simp
theorem dz8(h:Int)(K:Unit->Bool)(N:Nat)(H:∀f:Int,0<=f->f < N->fd p {Header:=h,Field:=f}∈l\/ig e {Header:=h,Field:=f}=ig e' {Header:=h,Field:=f}):∀(m:Nat)(i:Int),0<=i->i+m<=N->km p e e' l h K m i=K ()
 |0,i,h0,h1=>by rw[km]
 |m+1,i,h0,h1=>by
  rw[km];simp only[LET];rw[if_neg]
  ·exact dz8 h K N H m (i+1) Y Y
  ·rcases H i h0 Y with q|q
   ·simp[al7 q]
   ·simp[q]
theorem ed1(K:Unit->Bool)(N:Nat)(H:∀f:Int,0<=f->f < N->fd p {Header:= -1,Field:=f}∈l\/ig e {Header:= -1,Field:=f}=ig e' {Header:= -1,Field:=f}):∀(m:Nat)(i:Int),0<=i->i+m<=N->ke p e e' l K m i=K ()
 |0,i,h0,h1=>by rw[ke]
 |m+1,i,h0,h1=>by
  rw[ke];simp only[LET];rw[if_neg]
  ·exact ed1 K N H m (i+1) Y Y
  ·rcases H i h0 Y with q|q
   ·simp[al7 q]
   ·simp[q]
theorem ea2(K:Unit->Bool)(N:Nat)(H:∀h:Int,0<=h->h < N->(ga p h∈l\/lp e h=lp e' h)/\∀f:Int,0<=f->f < (ix p.Headers h).Fields.length->fd p {Header:=h,Field:=f}∈l\/ig e {Header:=h,Field:=f}=ig e' {Header:=h,Field:=f}):∀(m:Nat)(i:Int),0<=i->i+m<=N->kf p e e' l K m i=K ()
 |0,i,h0,h1=>by rw[kf]
 |m+1,i,h0,h1=>by
  obtain⟨q1,q2⟩:=H i h0 Y;rw[kf];simp only[LET];rw[if_neg]
  ·rw[dz8 i _ (ix p.Headers i).Fields.length q2 _ 0 (Int.le_refl 0) Y];exact ea2 K N H m (i+1) Y Y
  ·rcases q1 with q|q
   ·simp[al7 q]
   ·simp[q]
end
theorem AccessWrites_law(x0:aa)(x1:Int)(x2:dj)(hs:csl x0.Control<=1048576)(hE:EB x2.Env)(hR:RB x2.Registers):nk x0 x1 x2=true:=by
 unfold nk;simp only[LET];split
 ·rfl
 ·rename_i h;simp only[Bool.or_eq_true,not_or,decide_eq_true_eq,Bool.not_eq_true,Bool.not_eq_true',Bool.not_eq_false',Bool.not_eq_false,decide_eq_false_iff_not,Decidable.not_not]at h;obtain⟨⟨⟨⟨⟨⟨⟨⟨a1,a2⟩,a3⟩,_⟩,_⟩,_⟩,_⟩,a8⟩,a9⟩:=h;have T:=ek7 a1;have hb:=nf_b T;have F:=ce3 x0 x2.Call x2.Env x2.Registers;have M:∀z,z∈cls x0 (fc x0 x2.Call.Action).1 (fc x0 x2.Call.Action).2.1 (fc x0 x2.Call.Action).2.2->z∈mn x0 {Table:=x1,Cond:=[],Guards:=[]}:=λz hz=>ez3 Y Y (cq6 a8) hz;refine eb4 _ ?_ _ _;generalize mn x0 {Table:=x1,Cond:=[],Guards:=[]}=l at M;generalize jm x0 x2.Call x2.Env x2.Registers=y at F;generalize fc x0 x2.Call.Action=w at F M;have fld:∀r:ae,(r.Header= -1\/(0<=r.Header/\0<=r.Field/\r.Field < (ix x0.Headers r.Header).Fields.length))->0<=fd x0 r->fd x0 r∈l\/ig x2.Env r=ig y.1 r:=λr h1 h2=>by
   by_cases q:r∈w.1
   ·exact .inl (M _ (fd1 q h2))
   ·exact .inr (F.g r h1 q).symm
  refine ec9 _ ?_ y.2.length (λr r0 r1=>?_) _ 0 (Int.le_refl 0) Y
  ·have hch:si x0 x2.Env y.1 l=false:=by
    unfold si;rw[ea2 _ x0.Headers.length (λh h0 h1=>⟨?_,λf f0 f1=>?_⟩) _ 0 (Int.le_refl 0) Y]
    ·rw[ed1 _ x0.Metadata.length (λf f0 f1=>?_) _ 0 (Int.le_refl 0) Y];refine fld _ (.inl O) ?_;rw[bk9 T,if_pos rfl,if_neg (by simp only;omega)];simp only;omega
    ·by_cases q:h∈w.2.1
     ·exact .inl (M _ (ex6 q (by rw[co1 T,if_neg Y];omega)))
     ·refine .inr ?_;unfold lp;rw[F.vl];by_cases k:h < (x2.Env.Valid.length:Int)
      ·rw[F.v h h0 k q]
      ·have:decide (h < (x2.Env.Valid.length:Int))=false:=by simpa using k
       rw[this];simp
    ·refine fld _ (.inr ⟨h0,f0,f1⟩) ?_;have:=bj7 T h.toNat Y;rw[bk9 T,if_neg (by simp only;omega),if_neg (by simp only[hf];omega)];simp only;omega
   rw[hch];rfl
  ·by_cases q:r∈w.2.2
   ·refine .inl (M _ (fa1 q ?_));have:=F.rl;rw[el1 T,if_neg Y];omega
   ·exact .inr (F.r r r0 (by rw[<-F.rl];exact r1) q)
end Go.Proofs.YtmonnlkagniolaaGreat
