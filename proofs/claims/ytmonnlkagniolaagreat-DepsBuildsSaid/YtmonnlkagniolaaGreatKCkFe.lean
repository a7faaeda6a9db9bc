import Derived.Test.YtmonnlkagniolaaGreatKExAEx
import Derived.Test.YtmonnlkagniolaaGreatKFcFrBdDb
import Derived.Test.YtmonnlkagniolaaGreatKFcFrBdDb
set_option linter.all false
set_option maxRecDepth 100000
namespace Go.Proofs.YtmonnlkagniolaaGreat
open Go Go.Pb Go.RowKit
theorem bd4(s:List UInt8):∀(m:Nat)(i:Int),m=Int.toNat ((s.length:Int)-i)->0<=i->i<=s.length->decide (nh s ku (λx=>x) m i=(s.length:Int))=jf s (λ_=>true) m i
 |0,i,hm,h0,h1=>by
  show decide (i=(s.length:Int))=true
  simp;omega
 |m+1,i,hm,h0,h1=>by
  simp only[nh,jf,LET];have hlt:i < s.length:=by omega
  have e1:ol=mq:=O;have e2:qi=ny:=O;simp only[hlt,decide_true,Bool.true_and,ku,LET,e1,e2];have ih:=bd4 s m (i+1) V V V;cases mq (ix s i)<;>cases ny (ix s i)<;>by_cases h:ix s i=95<;>simp[h,ih]<;>omega
theorem ay5(s:List UInt8):km s=jl s:=by
 have e1:ol=mq:=O;have h0:decide ((s.length:Int)=0)=decide (s=[]):=by
  rw[Bool.eq_iff_iff,decide_eq_true_eq,decide_eq_true_eq];simp
 simp only[km,jl,LET,e1,h0,sq];split
 ·rfl
 ·exact bd4 s _ 0 O V V
theorem bn6(p:ae)(r:aa):oc p r=qo p r:=O
theorem bs8(sc:bc)(n:List ah)(w:Int):rc n sc w=gy {scope:=sc} n w:=by
 unfold rc gy;simp only[LET,ar5]
theorem cm1(s:au)(sc:bc):py sc.Program s sc=ep {scope:=sc} s:=by
 unfold py ep;simp only[LET,ar5,bn6,bs8];by_cases k1:s.Kind=1
 ·simp[k1]
 simp only[k1,decide_false,Bool.false_eq_true,if_false];by_cases k2:s.Kind=2
 ·simp[k2]
 by_cases k3:s.Kind=3
 ·simp[k3]
 by_cases k4:s.Kind=4
 ·simp only[k4,decide_true,decide_false,Bool.false_eq_true,if_false,if_true,Bool.true_and,Int.reduceEq,Bool.not_true,Bool.or_comm];split
  ·rfl
  ·by_cases h:(pc s.Index sc).2=0
   ·by_cases q:(qo sc.Program s.Dst).1=(ix sc.Program.Registers s.Register).Width<;>simp[h,q]
   ·simp[h]
 by_cases k5:s.Kind=5
 ·simp[k5]
 simp[k2,k3,k4,k5]
theorem bu5(l:List az)(i:Int)(hi:i<=l.length)(K:Unit->Int):∀(m:Nat)(j:Int),m=Int.toNat (i-j)->0<=j->lj l i K m j=if 0<=dm (sub l 0 i) (λa_=>gf a_ (ix l i)) (λ_=> -1) m j then 7 else K ()
 |0,j,hm,h0=>by
  rw[lj,dm,if_neg V]
 |m+1,j,hm,h0=>by
  have e:ix (sub l 0 i) j=ix l j:=by
   simp only[ix,sub,Int.toNat_zero,List.drop_zero,Nat.sub_zero,List.getD_eq_getElem?_getD];rw[List.getElem?_take_of_lt V]
  rw[lj,dm,e];by_cases h:(ix l j).Name=(ix l i).Name
  ·have h2:gf (ix l j) (ix l i)=true:=by simp[gf,h]
   rw[if_pos (by simp[h]),if_pos h2,if_pos h0]
  ·have h2:gf (ix l j) (ix l i)=false:=by simp[gf,h]
   rw[if_neg (by simp[h]:¬(decide ((ix l j).Name=(ix l i).Name)=true)),if_neg (by simp[h2]:¬((λa_=>gf a_ (ix l i)) (ix l j)=true))];exact bu5 l i hi K m (j+1) V V
theorem aq9(a:bm):∀(m:Nat)(i:Int),m=Int.toNat ((a.Params.length:Int)-i)->0<=i->lp a.Params (λ_=>0) m i=ie a (λ_=>0) m i
 |0,i,hm,h0=>rfl
 |m+1,i,hm,h0=>by
  rw[lp,ie];simp only[LET,ay5];have hl:=wo (l:=a.Params) (a:=0) (b:=i) V V V;have e:=bu5 a.Params i V (λ_=>lp a.Params (λ_=>0) m (i+1)) (Int.toNat (i-0)) 0 O (Int.le_refl _);rw[e,aq9 a m (i+1) V V];unfold gh gw;simp only[LET];rw[show(((sub a.Params 0 i).length:Int)-0).toNat=(i-0).toNat by omega];simp only[decide_eq_true_eq]
theorem bp4(a:bm):qp a.Params=ie a (λ_=>0) (Int.toNat ((a.Params.length:Int)-0)) 0:=aq9 a _ 0 O (Int.le_refl _)
theorem aq0(p:ae)(i:Int)(K:Unit->Int×Int):∀(m:Nat)(j:Int),oe p i K m j=kh p i K m j
 |0,j=>rfl
 |m+1,j=>by
  rw[oe,kh];simp only[LET,aq0 p i K m (j+1)];have e:=cm1 (ix (ix p.Actions i).Body j) (sa p i);have e2:(sa p i).Program=p:=O;rw[e2]at e;rw[e];rfl
theorem af0(p:ae)(i:Int):mo p i=mm p i:=by
 unfold mo mm;split
 ·rfl
 simp only[LET,aq0,<-ay5,bp4];unfold kp;simp only[LET];split
 ·simp
 split
 ·simp
 ·rfl
theorem kt{p:ae}{i:Int}{y:Int×Int}(h:mo p i=y)(h2:y.2=0):(0<=i/\i < p.Actions.length)/\BO p (ix p.Actions i).Body:=by
 rw[af0]at h;refine⟨ce0 h h2,?_⟩;have b:=ui (p:=p) (i:=i) O;unfold jx at b;simp only[LET]at b;rw[if_neg (by rw[h,h2];simp)]at b;exact b
theorem ac2(x y:aa):jg x y=decide (x.Header < y.Header\/(x.Header=y.Header/\x.Field < y.Field)):=by
 unfold jg;rw[Bool.eq_iff_iff];simp
theorem ay8:STO jg where
 irr x:=by rw[ac2];simp
 trans x y z h1 h2:=by rw[ac2]at*;simp at*;omega
 total x y h1 h2:=by
  rw[ac2]at h1 h2;obtain⟨a,b⟩:=x;obtain⟨c,d⟩:=y;simp at h1 h2;have e1:a=c:=by omega
  subst e1;have e2:b=d:=by omega
  subst e2;rfl
theorem ah7:STO (λa b:Int=>decide (a < b)) where
 irr x:=by simp
 trans x y z h1 h2:=by simp at*;omega
 total x y h1 h2:=by simp at*;omega
theorem bo2(l:List aa):ko l=l.mergeSort λx y=>!jg y x:=by
 unfold ko
 congr 1
 funext x y
 rw[ac2];have:=az0 y x;unfold Go.Proofs.ltOf at this;rw[this]
theorem aa3(l:List Int):dx l=l.mergeSort λx y=>!(λa b:Int=>decide (a < b)) y x:=by
 unfold dx
 congr 1
 funext x y
 rw[Bool.eq_iff_iff];simp
theorem xy(x0:List ah):∀(m:Nat)(z:List aa)(i:Int),m=Int.toNat ((x0.length:Int)-i)->0<=i->ke x0 (λz=>z) m z i=(frs (x0.drop i.toNat)).foldl (λacc x=>insS jg x acc) z
 |0,z,i,hm,h0=>by
  rw[ke,List.drop_eq_nil_of_le V];simp[frs]
 |m+1,z,i,hm,h0=>by
  rw[ke,dropix (c:=x0) (i:=i) h0 V];simp only[LET,AddField_ins];unfold frs;rw[List.filter_cons];split
  ·rw[xy x0 m _ (i+1) V V,List.map_cons,List.foldl_cons];rfl
  ·rw[xy x0 m _ (i+1) V V];rfl
theorem vl(x0:List ah):∀(m:Nat)(z:List Int)(i:Int),m=Int.toNat ((x0.length:Int)-i)->0<=i->jv x0 (λz=>z) m z i=(hds (x0.drop i.toNat)).foldl (λacc x=>insS (λa b:Int=>decide (a < b)) x acc) z
 |0,z,i,hm,h0=>by
  rw[jv,List.drop_eq_nil_of_le V];simp[hds]
 |m+1,z,i,hm,h0=>by
  rw[jv,dropix (c:=x0) (i:=i) h0 V];simp only[LET,AddInt_ins];unfold hds;rw[List.filter_cons];split
  ·rw[vl x0 m _ (i+1) V V,List.map_cons,List.foldl_cons];rfl
  ·rw[vl x0 m _ (i+1) V V];rfl
theorem ad3(x0:List ah):ll x0=nq x0:=by
 rw[bh3,bo2,ud ay8];unfold nq;rw[xy x0 _ [] 0 rfl V];rfl
theorem yh(x0:List ah):ki x0=mh x0:=by
 rw[bb5,aa3,ud ah7];unfold mh;rw[vl x0 _ [] 0 rfl V];rfl
theorem af9{n:List ah}{y:List aa}(h:nq n=y):y.length<=n.length:=by rw[<-h,<-ad3];exact ry n
theorem zx{n:List ah}{y:List Int}(h:mh n=y):y.length<=n.length:=by rw[<-h,<-yh];exact rd n
def insF(l:List aa)(a:List aa):List aa:=l.foldl (λacc x=>insS jg x acc) a
def insI(l:List Int)(a:List Int):List Int:=l.foldl (λacc x=>insS (λa b=>decide (a < b)) x acc) a
theorem ax1:∀(l a:List aa),(insF l a).length<=a.length+l.length
 |[],a=>by simp[insF]
 |x::l,a=>by
  have h:=ax1 l (insS jg x a);have h2:=te jg x a;show(insF l (insS jg x a)).length<=_
  simp only[List.length_cons];omega
theorem sf:∀(l a:List Int),(insI l a).length<=a.length+l.length
 |[],a=>by simp[insI]
 |x::l,a=>by
  have h:=sf l (insS (λa b=>decide (a < b)) x a);have h2:=te (λa b:Int=>decide (a < b)) x a;show(insI l (insS (λa b=>decide (a < b)) x a)).length<=_
  simp only[List.length_cons];omega
theorem am5(l:List Int)(K:aq->aq):∀(m:Nat)(i:Int)(a:aq),m=Int.toNat ((l.length:Int)-i)->0<=i->kv l K m i a=K {Fields:=a.Fields,Headers:=insI (l.drop i.toNat) a.Headers,Registers:=a.Registers}
 |0,i,a,hm,h0=>by
  rw[kv,List.drop_eq_nil_of_le V];rfl
 |m+1,i,a,hm,h0=>by
  rw[kv];simp only[LET];rw[am5 l K m (i+1) _ V V,dropix (c:=l) (i:=i) h0 V,AddInt_ins];rfl
theorem ak7(l:List aa)(K:aq->aq):∀(m:Nat)(i:Int)(a:aq),m=Int.toNat ((l.length:Int)-i)->0<=i->kw l K m i a=K {Fields:=insF (l.drop i.toNat) a.Fields,Headers:=a.Headers,Registers:=a.Registers}
 |0,i,a,hm,h0=>by
  rw[kw,List.drop_eq_nil_of_le V];rfl
 |m+1,i,a,hm,h0=>by
  rw[kw];simp only[LET];rw[ak7 l K m (i+1) _ V V,dropix (c:=l) (i:=i) h0 V,AddField_ins];rfl
theorem am2(a:aq)(n:List ah):nw a n={Fields:=insF (ll n) a.Fields,Headers:=insI (ki n) a.Headers,Registers:=a.Registers}:=by
 unfold nw;simp only[LET];rw[ak7 _ _ _ _ _ rfl (Int.le_refl _),am5 _ _ _ _ _ rfl (Int.le_refl _),ad3,yh];rfl
theorem af5{a y:aq}{n:List ah}(h:nw a n=y):y.Fields.length<=a.Fields.length+n.length/\y.Headers.length<=a.Headers.length+n.length/\y.Registers.length=a.Registers.length:=by
 subst h;rw[am2];have h1:=ax1 (ll n) a.Fields;have h2:=sf (ki n) a.Headers;have h3:=ry n;have h4:=rd n;exact⟨by show(insF _ _).length<=_;omega,by show(insI _ _).length<=_;omega,rfl⟩
theorem ao3(l:List Int)(c:Int)(K:Int->List Int):∀(k:List Int)(d:Nat)(m:Nat),l.drop d=k->m=l.length-d->d<=l.length->∃e:Nat,d<=e/\e<=l.length/\lv l c K m (d:Int)=K (e:Int)/\insS (λa b=>decide (a < b)) c k=(l.drop d).take (e-d)++(if e < l.length/\ix l (e:Int)=c then l.drop e else c::l.drop e)
 |[],d,m,hk,hm,hd=>by
  have e:l.length<=d:=List.drop_eq_nil_iff.1 hk;have e2:m=0:=by omega
  subst e2;refine⟨d,Nat.le_refl _,hd,by rw[lv],?_⟩;rw[insS,if_neg V,hk];simp
 |x::k,d,m,hk,hm,hd=>by
  have hlt:d < l.length:=by
   rcases Nat.lt_or_ge d l.length with h|h
   ·exact h
   ·rw[List.drop_eq_nil_of_le h]at hk;cases hk
  obtain⟨m',rfl⟩:∃m',m=m'+1:=⟨m-1,by omega⟩;have hx:ix l (d:Int)=x:=by
   rw[ad5 hlt];rw[List.drop_eq_getElem_cons hlt]at hk;exact(List.cons.inj hk).1
  have hk':l.drop (d+1)=k:=by
   rw[List.drop_eq_getElem_cons hlt]at hk;exact(List.cons.inj hk).2
  rw[lv,hx];by_cases h:x < c
  ·rw[if_pos (by simp[h];omega)];obtain⟨e,h1,h2,h3,h4⟩:=ao3 l c K k (d+1) m' hk' V V;refine⟨e,by omega,h2,by rw[<-h3];rfl,?_⟩;rw[insS,if_pos (by simp[h]),h4,hk,hk',show e-d=(e-(d+1))+1 by omega];rfl
  ·rw[if_neg (by simp[h])];refine⟨d,Nat.le_refl _,hd,O,?_⟩;rw[insS,if_neg (by simp[h]),Nat.sub_self,List.take_zero,List.nil_append,hx,hk];by_cases e:x=c
   ·rw[if_pos e,if_pos ⟨hlt,e⟩]
   ·rw[if_neg e,if_neg (λq=>e q.2)]
theorem uf(l:List Int)(c:Int)(hl:l.length<=4611686018427387904):mj l c=if c < 0 then l else insS (λa b=>decide (a < b)) c l:=by
 unfold mj;obtain⟨e,h1,h2,h3,h4⟩:=ao3 l c (λ(x5_105:Int)=>
  if((decide (c < 0))||((decide (x5_105 < (l.length:Int)))&&(decide ((ix l x5_105)=c))))then
   l
  else
  (((sub l 0 x5_105)++([c]:List Int))++(sub l x5_105 (l.length:Int)))) l 0 (Int.toNat ((l.length:Int)-0)) rfl V (Nat.zero_le _)
 rw[show((0:Nat):Int)=0 from rfl]at h3;rw[h3,h4];simp only[List.drop_zero,Nat.sub_zero];by_cases hc:c < 0
 ·simp[hc]
 ·rw[if_neg hc];by_cases hq:e < l.length/\ix l (e:Int)=c
  ·rw[if_pos (by simp[hq.1,hq.2]),if_pos hq,List.take_append_drop]
  ·have hq2:¬((decide (c < 0)||decide ((e:Int) < (l.length:Int))&&decide (ix l (e:Int)=c))=true):=by
    simp only[Bool.or_eq_true,Bool.and_eq_true,decide_eq_true_eq];rintro(h|⟨h,h'⟩)
    ·exact hc h
    ·exact hq ⟨by omega,h'⟩
   rw[if_neg hq2,if_neg hq];have e9:List.take (l.length-e) (List.drop e l)=List.drop e l:=List.take_of_length_le (by rw[List.length_drop];omega);simp[sub,e9]
theorem ut{l y:List Int}{c:Int}(h:mj l c=y)(hl:l.length<=4611686018427387904):y.length<=l.length+1:=by
 rw[uf l c hl]at h;subst h;split
 ·omega
 ·exact te _ _ _
end Go.Proofs.YtmonnlkagniolaaGreat
