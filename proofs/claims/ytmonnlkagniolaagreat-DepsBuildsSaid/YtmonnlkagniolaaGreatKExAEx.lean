import Derived.Test.YtmonnlkagniolaaGreatKDef
import Derived.Test.YtmonnlkagniolaaGreatPbP
set_option linter.all false
set_option maxRecDepth 100000
namespace Go.Proofs.YtmonnlkagniolaaGreat
open Go Go.Pb Go.RowKit
theorem ug(w:Int):qr [w]=decide (1<=w/\w<=32):=by
 unfold qr;have e:(Int.toNat (((([w]:List Int)).length:Int)-0))=1:=by simp
 rw[e,nk,nk];have hx:ix ([w]:List Int) 0=w:=O;rw[hx];by_cases h:1<=w/\w<=32
 ·rw[if_neg (by simp;omega)];simp[h]
 ·rw[if_pos (by simp;omega)];simp[h]
theorem cw4{w:Int}{b:Bool}(h:qr [w]=b)(h2:b=true):0<=wr (32-w):=by
 rw[ug]at h;subst h2;simp only[decide_eq_true_eq]at h;rw[dj V V];omega
theorem ac9(op:Int):en op<=3/\ -1<=en op:=by
 unfold en;simp only[LET]
 repeat' split
 all_goals omega
theorem ar{op y:Int}(h:en op=y):y<=3/\ -1<=y:=by rw[<-h];exact ac9 op
theorem xl(s:bc)(n:List ah)(rec_:bc->List ah->Int->Int×Int×Int)(a:Int)(ha:0<=a)(K:Int->List Int->Int×Int×Int)(hr:∀z:Int,0<=z->(rec_ s n z).2.2=0->z < (rec_ s n z).2.1)(hK:∀x z,a < x->(K x z).2.2=0->a < (K x z).2.1):
 ∀(m:Nat)(x i:Int)(z:List Int),a < x->(df s n rec_ K m x i z).2.2=0->a < (df s n rec_ K m x i z).2.1
 |0,x,i,z,hx,h=>by rw[df]at h⊢;exact hK x z hx h
 |m+1,x,i,z,hx,h=>by
  rw[df]at h⊢;simp only[LET]at h⊢;split at h
  ·rename_i hc;simp only[Bool.not_eq_true',decide_eq_false_iff_not]at hc;exact absurd h hc
  ·rename_i hc;rw[if_neg hc];simp only[Bool.not_eq_true',decide_eq_false_iff_not,Decidable.not_not]at hc;have:=hr x V hc;exact xl s n rec_ a ha K hr hK m _ _ _ V h
theorem ro:∀(k:Nat)(s:bc)(n:List ah)(a:Int),0<=a->n.length<=1000000->(dh k s n a).2.2=0->a < (dh k s n a).2.1
 |0,s,n,a,ha,hn,h=>by rw[dh]at h;cases h
 |k+1,s,n,a,ha,hn,h=>by
  rw[dh]at h⊢;unfold ee at h⊢;simp only[LET]at h⊢;split at h
  ·cases h
  ·rename_i h1;rw[if_neg h1];simp only[decide_eq_true_eq,Int.not_le]at h1;have ew:wr (a+1)=a+1:=dj V V;split at h
   ·cases h
   ·rename_i h2;rw[if_neg h2];split at h
    ·rename_i h3;rw[if_pos h3];show a < wr (a+1)
     omega
    ·rename_i h3;rw[if_neg h3];exact xl s n _ a ha _ (λz hz hz2=>ro k s n z hz hn hz2) (λx z hx _=>hx) _ _ _ _ V h
theorem ub(s:bc)(n:List ah)(r1 r2:bc->List ah->Int->Int×Int×Int)(a:Int)(ha:0<=a)(K:Int->List Int->Int×Int×Int)(hr:∀z:Int,a < z->r1 s n z=r2 s n z)(hn:∀z:Int,0<=z->(r1 s n z).2.2=0->z < (r1 s n z).2.1):
 ∀(m:Nat)(x i:Int)(z:List Int),a < x->df s n r1 K m x i z=df s n r2 K m x i z
 |0,x,i,z,hx=>by rw[df,df]
 |m+1,x,i,z,hx=>by
  rw[df,df];simp only[LET,<-hr x hx];split
  ·rfl
  ·rename_i hc;simp only[Bool.not_eq_true',decide_eq_false_iff_not,Decidable.not_not]at hc;have:=hn x V hc;exact ub s n r1 r2 a ha K hr hn m _ _ _ V
theorem aj0:∀(k k':Nat)(s:bc)(n:List ah)(a:Int),0<=a->n.length<=1000000->n.length-a.toNat < k->n.length-a.toNat < k'->dh k s n a=dh k' s n a
 |0,k',s,n,a,ha,hn,h1,h2=>by omega
 |k+1,0,s,n,a,ha,hn,h1,h2=>by omega
 |k+1,k'+1,s,n,a,ha,hn,h1,h2=>by
  rw[dh,dh];unfold ee;simp only[LET];split
  ·rfl
  ·rename_i h3;simp only[decide_eq_true_eq,Int.not_le]at h3;have ew:wr (a+1)=a+1:=dj V V;split
   ·rfl
   ·split
    ·rfl
    ·exact ub s n _ _ a ha _ (λz hz=>aj0 k k' s n z V hn V V) (λz hz h=>ro k s n z hz hn h) _ _ _ _ V
theorem ba9(s:bc)(n:List ah)(a:Int)(ha:0<=a)(hn:n.length<=1000000):db s n a=ee db s n a:=by
 have e:db s n a=ee (dh (n.length-a.toNat)) s n a:=by
  unfold db;rw[dh]
 rw[e];unfold ee;simp only[LET];split
 ·rfl
 ·rename_i h3;simp only[decide_eq_true_eq,Int.not_le]at h3;have ew:wr (a+1)=a+1:=dj V V;split
  ·rfl
  ·split
   ·rfl
   ·exact ub s n _ _ a ha _ (λz hz=>aj0 (n.length-a.toNat) (n.length-z.toNat+1) s n z V hn V V) (λz hz h=>ro _ s n z hz hn h) _ _ _ _ V
theorem cnext{s:bc}{n:List ah}{a:Int}(ha:0<=a)(hn:n.length<=1000000)(h:(db s n a).2.2=0):a < (db s n a).2.1:=ro _ s n a ha hn h
structure Ok(s:bc)(n:List ah)(a:Int):Prop where
 lo:0<=a
 len:n.length<=1000000
 ok:(db s n a).2.2=0
def nx(s:bc)(n:List ah)(a:Int):Int:=(db s n a).2.1
def wd(s:bc)(n:List ah)(a:Int):Int:=(db s n a).1
theorem Ok.lt{s:bc}{n:List ah}{a:Int}(h:Ok s n a):a < n.length:=by
 have:=h.ok;rw[ba9 s n a h.lo h.len]at this;unfold ee at this;by_cases hc:(n.length:Int)<=a
 ·rw[if_pos (by simpa using hc)]at this;cases this
 ·omega
theorem Ok.wr1{s:bc}{n:List ah}{a:Int}(h:Ok s n a):wr (a+1)=a+1:=by
 have:=h.lt;have:=h.len;have:=h.lo;exact dj V V
theorem Ok.step{s:bc}{n:List ah}{a:Int}(h:Ok s n a):
 (en (ix n a).Op=0/\(iu s (ix n a)).2=0/\wd s n a=(iu s (ix n a)).1/\nx s n a=a+1)\/
 (en (ix n a).Op=1/\Ok s n (a+1)/\(ia (ix n a) [wd s n (a+1),0,0]).2=0/\wd s n a=(ia (ix n a) [wd s n (a+1),0,0]).1/\nx s n a=nx s n (a+1))\/
 (en (ix n a).Op=2/\Ok s n (a+1)/\Ok s n (nx s n (a+1))/\(ia (ix n a) [wd s n (a+1),wd s n (nx s n (a+1)),0]).2=0/\wd s n a=(ia (ix n a) [wd s n (a+1),wd s n (nx s n (a+1)),0]).1/\nx s n a=nx s n (nx s n (a+1)))\/
 (en (ix n a).Op=3/\Ok s n (a+1)/\Ok s n (nx s n (a+1))/\Ok s n (nx s n (nx s n (a+1)))/\(ia (ix n a) [wd s n (a+1),wd s n (nx s n (a+1)),wd s n (nx s n (nx s n (a+1)))]).2=0/\wd s n a=(ia (ix n a) [wd s n (a+1),wd s n (nx s n (a+1)),wd s n (nx s n (nx s n (a+1)))]).1/\nx s n a=nx s n (nx s n (nx s n (a+1)))):=by
 have hlt:=h.lt;have hw:=h.wr1;have hok:=h.ok;have hlo:=h.lo;have har:=ac9 (ix n a).Op;have e:db s n a=ee db s n a:=ba9 s n a h.lo h.len;have mk:∀z:Int,0<=z->(db s n z).2.2=0->Ok s n z:=λz h0 h1=>⟨h0,h.len,h1⟩;simp only[wd,nx];rw[e]at hok⊢;unfold ee at hok⊢;simp only[LET,hw]at hok⊢;rw[if_neg (show¬(decide ((n.length:Int)<=a)=true) by simpa using hlt)]at hok⊢;by_cases hn:en (ix n a).Op < 0
 ·rw[if_pos (by simpa using hn)]at hok;cases hok
 rw[if_neg (show¬(decide (en (ix n a).Op < 0)=true) by simpa using hn)]at hok⊢;by_cases h0:en (ix n a).Op=0
 ·rw[if_pos (by simpa using h0)]at hok⊢;exact .inl ⟨h0,hok,O,O⟩
 rw[if_neg (show¬(decide (en (ix n a).Op=0)=true) by simpa using h0)]at hok⊢;right;have hcase:en (ix n a).Op=1\/en (ix n a).Op=2\/en (ix n a).Op=3:=by omega
 rcases hcase with ha|ha|ha
 ·left;rw[ha]at hok⊢;rw[show Int.toNat (1-0)=1 from rfl]at hok⊢;simp only[df,LET]at hok⊢;by_cases c1:(db s n (a+1)).2.2=0
  ·rw[if_neg (by simp[c1])]at hok⊢;exact⟨trivial,mk _ V c1,hok,O,O⟩
  ·rw[if_pos (by simp[c1])]at hok;exact absurd hok c1
 ·right;left;rw[ha]at hok⊢;rw[show Int.toNat (2-0)=2 from rfl]at hok⊢;simp only[df,LET]at hok⊢;by_cases c1:(db s n (a+1)).2.2=0
  ·rw[if_neg (by simp[c1])]at hok⊢;have n1:=cnext (s:=s) (n:=n) (a:=a+1) V h.len c1;by_cases c2:(db s n (db s n (a+1)).2.1).2.2=0
   ·rw[if_neg (by simp[c2])]at hok⊢;exact⟨trivial,mk _ V c1,mk _ V c2,hok,O,O⟩
   ·rw[if_pos (by simp[c2])]at hok;exact absurd hok c2
  ·rw[if_pos (by simp[c1])]at hok;exact absurd hok c1
 ·right;right;rw[ha]at hok⊢;rw[show Int.toNat (3-0)=3 from rfl]at hok⊢;simp only[df,LET]at hok⊢;by_cases c1:(db s n (a+1)).2.2=0
  ·rw[if_neg (by simp[c1])]at hok⊢;have n1:=cnext (s:=s) (n:=n) (a:=a+1) V h.len c1;by_cases c2:(db s n (db s n (a+1)).2.1).2.2=0
   ·rw[if_neg (by simp[c2])]at hok⊢;have n2:=cnext (s:=s) (n:=n) V h.len c2;by_cases c3:(db s n (db s n (db s n (a+1)).2.1).2.1).2.2=0
    ·rw[if_neg (by simp[c3])]at hok⊢;exact⟨trivial,mk _ V c1,mk _ V c2,mk _ V c3,hok,O,O⟩
    ·rw[if_pos (by simp[c3])]at hok;exact absurd hok c3
   ·rw[if_pos (by simp[c2])]at hok;exact absurd hok c2
  ·rw[if_pos (by simp[c1])]at hok;exact absurd hok c1
theorem aa0(op:Int):en op=if 1<=op/\op<=4 then 0 else if 5<=op/\op<=8 then 1 else if 9<=op/\op<=16 then 2 else if op=17 then 3 else -1:=by
 by_cases h:1<=op/\op<=17
 ·have:op=1\/op=2\/op=3\/op=4\/op=5\/op=6\/op=7\/op=8\/op=9\/op=10\/op=11\/op=12\/op=13\/op=14\/op=15\/op=16\/op=17:=by omega
  rcases this with rfl|rfl|rfl|rfl|rfl|rfl|rfl|rfl|rfl|rfl|rfl|rfl|rfl|rfl|rfl|rfl|rfl<;>rfl
 ·rw[if_neg V,if_neg V,if_neg V,if_neg V];have e:∀k:Int,1<=k->k<=17->decide (op=k)=false:=λk h1 h2=>by simp;omega
  unfold en;simp only[LET,e 1 V V,e 2 V V,e 3 V V,e 4 V V,e 5 V V,e 6 V V,e 7 V V,e 8 V V,e 9 V V,e 10 V V,e 11 V V,e 12 V V,e 13 V V,e 14 V V,e 15 V V,e 16 V V,e 17 V V,Bool.false_eq_true,if_false]
theorem yr(x:ah)(u v w:Int)(ho:5<=x.Op/\x.Op<=17):ia x [u,v,w]=
 if x.Op=5 then(u,0)else if x.Op=6\/x.Op=7 then(if x.N < 0\/31 < x.N then(0,9)else(u,0))else
 if x.Op=8 then(if x.N < 0 then(0,9)else if¬(oi x.W).2=0\/wr (u-x.W) < x.N then(0,10)else(x.W,0))else
 if x.Op=14 then oi (wr (u+v))else if x.Op=17 then(if¬u=1\/¬v=w then(0,10)else(v,0))else
 if¬u=v then(0,10)else if x.Op=15\/x.Op=16 then(1,0)else(u,0):=by
 have e0:ix [u,v,w] 0=u:=O;have e1:ix [u,v,w] 1=v:=O;have e2:ix [u,v,w] 2=w:=O;have:x.Op=5\/x.Op=6\/x.Op=7\/x.Op=8\/x.Op=9\/x.Op=10\/x.Op=11\/x.Op=12\/x.Op=13\/x.Op=14\/x.Op=15\/x.Op=16\/x.Op=17:=by omega
 unfold ia;simp only[LET,e0,e1,e2];rcases this with h|h|h|h|h|h|h|h|h|h|h|h|h<;>simp[h,aa0]
theorem xa(op:Int):mn op=en op:=by
 rw[aa0];unfold mn;simp only[Bool.and_eq_true,decide_eq_true_eq]
theorem ee8(op:Int):mn op<=3/\ -1<=mn op:=by rw[xa];exact ac9 op
theorem rar{op y:Int}(h:mn op=y):y<=3/\ -1<=y:=by rw[<-h];exact ee8 op
theorem opl{x:Int}{op:Int}(h:x=mn op):(5<=op/\op<=8->x=1)/\(9<=op/\op<=16->x=2)/\(op=17->x=3)/\(op<=4->x<=0)/\(18<=op->x<=0):=by
 rw[xa,aa0]at h;subst h;split
 ·omega
 ·split
  ·omega
  ·split
   ·omega
   ·split<;>omega
theorem rval{w:Int}{y:Bool}(h:qz w=y)(h2:y=true):1<=w/\w<=32:=by
 rw[h2]at h;unfold qz at h;simpa using h
theorem jor{p q:Prop}[Decidable p][Decidable q]{x:Bool}(h:x=(if decide p=true then decide p else decide q))(hx:x=false):¬p/\¬q:=by
 subst hx;by_cases hp:p
 ·simp[hp]at h
 ·simp[hp]at h;exact⟨hp,h⟩
theorem az6(w:Int):qf w=oi w:=O
theorem bu4(w:Int):pp w=oq w:=by
 by_cases h:1<=w/\w<=32
 ·have:∃k:Fin 33,w=(k.val:Int):=⟨⟨w.toNat,by omega⟩,by simp;omega⟩;obtain⟨k,rfl⟩:=this;revert h;revert k;decide+kernel
 ·unfold pp oq qz;simp only[LET,ug];rw[if_pos (by simp;omega),if_pos (by simp;omega)]
theorem cy3(x:ah)(s:bc):rv x s=iu s x:=by
 unfold rv iu;simp only[LET,bu4,az6];unfold oc mc;simp only[LET];by_cases h1:x.Op=1
 ·simp only[h1,decide_true,if_true];try rfl
 ·simp only[h1,decide_false,if_false,Bool.false_eq_true];by_cases h2:x.Op=2
  ·simp only[h2,decide_true,if_true];by_cases h3:x.N= -1
   ·simp only[h3,decide_true,Bool.not_true,if_false,Bool.false_eq_true];by_cases h4:(decide (x.W < 0)||decide ((s.Program.Metadata.length:Int)<=x.W))=true
    ·simp only[h4,if_true,Bool.not_false]
    ·simp only[h4,if_false,Bool.not_true,Bool.false_eq_true]
   ·simp only[h3,decide_false,Bool.not_false,if_true];by_cases h5:(decide (x.N < 0)||decide ((s.Program.Headers.length:Int)<=x.N))=true
    ·simp only[h5,if_true,Bool.not_false]
    ·simp only[h5,if_false,Bool.false_eq_true];by_cases h4:(decide (x.W < 0)||decide (((ix s.Program.Headers x.N).Fields.length:Int)<=x.W))=true
     ·simp only[h4,if_true,Bool.not_false]
     ·simp only[h4,if_false,Bool.not_true,Bool.false_eq_true]
  ·simp only[h2,decide_false,if_false,Bool.false_eq_true]
theorem ay6(x:ah):(∀u,5<=x.Op/\x.Op<=8->iz x [u]=ia x [u,0,0])/\(∀u v,9<=x.Op/\x.Op<=16->iz x [u,v]=ia x [u,v,0])/\(∀u v w,x.Op=17->iz x [u,v,w]=ia x [u,v,w]):=by
 refine⟨λu h=>?_,λu v h=>?_,λu v w h=>?_⟩
 ·have e0:ix [u] 0=u:=O;rw[yr _ _ _ _ V];unfold iz;simp only[LET,e0];have:x.Op=5\/x.Op=6\/x.Op=7\/x.Op=8:=by omega
  rcases this with h|h|h|h
  ·simp[h]
  ·simp[h]
  ·simp[h]
  ·simp only[h];by_cases h1:x.N < 0
   ·simp[h1]
   ·unfold oi;by_cases h2:x.W < 1\/32 < x.W
    ·simp[h1,h2]
    ·have h3:¬x.W < 1:=by omega
     have h4:¬32 < x.W:=by omega
     simp[h1,h3,h4]
 ·have e0:ix [u,v] 0=u:=O;have e1:ix [u,v] 1=v:=O;rw[yr _ _ _ _ V];unfold iz;simp only[LET,e0,e1];have:x.Op=9\/x.Op=10\/x.Op=11\/x.Op=12\/x.Op=13\/x.Op=14\/x.Op=15\/x.Op=16:=by omega
  rcases this with h|h|h|h|h|h|h|h<;>simp[h,az6]
 ·have e0:ix [u,v,w] 0=u:=O;have e1:ix [u,v,w] 1=v:=O;have e2:ix [u,v,w] 2=w:=O;rw[yr _ _ _ _ V];unfold iz;simp only[LET,e0,e1,e2];simp[h]
def REL(r c:Int×Int×Int):Prop:=r.2.2=c.2.2/\(c.2.2=0->r.1=c.1/\r.2.1=c.2.1)
theorem REL.of_eq{r c:Int×Int×Int}(h:r=c):REL r c:=by subst h;exact⟨O,λ_=>⟨O,O⟩⟩
theorem bv1(s:bc)(n:List ah)(r1:List ah->Int->bc->Int×Int×Int)(r2:bc->List ah->Int->Int×Int×Int)(hr:∀z,REL (r1 n z s) (r2 s n z))(K1 K2:Int->List Int->Int×Int×Int)(j k:Nat)(hK:∀x(z:List Int),z.length=k->K1 x z=K2 x (z++List.replicate j 0)):
 ∀(m:Nat)(x i:Int)(z:List Int),(z.length:Int)=i->z.length+m=k->REL (mv n s r1 K1 m x i z) (df s n r2 K2 m x i (z++List.replicate (m+j) 0))
 |0,x,i,z,hi,hk=>by
  rw[mv,df,hK x z V,Nat.zero_add];exact .of_eq O
 |m+1,x,i,z,hi,hk=>by
  rw[mv,df];simp only[LET];obtain⟨e1,e2⟩:=hr x;by_cases hc:(r2 s n x).2.2=0
  ·have hd:(r1 n x s).2.2=0:=e1.trans hc;rw[if_neg (show¬(!decide ((r1 n x s).2.2=0))=true by simp[hd]),if_neg (show¬(!decide ((r2 s n x).2.2=0))=true by simp[hc])];obtain⟨e3,e4⟩:=e2 hc;rw[e3,e4,show(z++List.replicate (m+1+j) (0:Int)).set i.toNat (r2 s n x).1=(z++[(r2 s n x).1])++List.replicate (m+j) 0 by
    rw[show m+1+j=(m+j)+1 by omega,List.replicate_succ,show i.toNat=z.length by omega];simp]
   exact bv1 s n r1 r2 hr K1 K2 j k hK m _ _ _ (by simp;omega) (by simp;omega)
  ·have hd:¬(r1 n x s).2.2=0:=λh=>hc (e1.symm.trans h);rw[if_pos (show(!decide ((r1 n x s).2.2=0))=true by simp[hd]),if_pos (show(!decide ((r2 s n x).2.2=0))=true by simp[hc])];exact⟨e1,λh=>absurd h hc⟩
theorem bx0:∀(k:Nat)(s:bc)(n:List ah)(a:Int),REL (jb k n a s) (dh k s n a)
 |0,s,n,a=> .of_eq rfl
 |k+1,s,n,a=>by
  rw[jb,dh];unfold pb ee;simp only[LET,xa,cy3];split
  ·exact⟨O,λh=>absurd h OO⟩
  split
  ·exact⟨O,λh=>absurd h OO⟩
  split
  ·exact .of_eq O
  rename_i h1 h2 h3;simp only[decide_eq_true_eq]at h2 h3;have hb:=ac9 (ix n a).Op;have ho:=opl (xa (ix n a).Op).symm;have hz:=aa0 (ix n a).Op;obtain⟨o1,o2,o3⟩:=ay6 (ix n a);have main:=bv1 s n (jb k) (dh k) (bx0 k s n) (λx z=>((iz (ix n a) z).1,x,(iz (ix n a) z).2)) (λx z=>((ia (ix n a) z).1,x,(ia (ix n a) z).2)) (3-(en (ix n a).Op).toNat) (en (ix n a).Op).toNat ?_ (Int.toNat (en (ix n a).Op-0)) (wr (a+1)) 0 [] O OZ
  ·rw[List.nil_append,show(en (ix n a).Op-0).toNat+(3-(en (ix n a).Op).toNat)=3 by omega]at main;exact main
  ·intro x z hz;have hc:en (ix n a).Op=1\/en (ix n a).Op=2\/en (ix n a).Op=3:=by omega
   rcases hc with hc|hc|hc
   ·rw[hc]at hz⊢;have hl:z.length=1:=hz
    match z,hl with
    |[u],_=>rw[show[u]++List.replicate (3-Int.toNat 1) (0:Int)=[u,0,0] from rfl,o1 u V]
   ·rw[hc]at hz⊢;have hl:z.length=2:=hz
    match z,hl with
    |[u,v],_=>rw[show[u,v]++List.replicate (3-Int.toNat 2) (0:Int)=[u,v,0] from rfl,o2 u v V]
   ·rw[hc]at hz⊢;have hl:z.length=3:=hz
    match z,hl with
    |[u,v,w],_=>rw[show[u,v,w]++List.replicate (3-Int.toNat 3) (0:Int)=[u,v,w] from rfl,o3 u v w V]
theorem rel(s:bc)(n:List ah)(a:Int):REL (si n a s) (db s n a):=bx0 _ s n a
theorem ax5(k:Nat)(n:List ah)(a:Int)(s:bc)(ha:0<=a)(hn:n.length<=1000000)(h:(jb k n a s).2.2=0):a < (jb k n a s).2.1:=by
 obtain⟨e1,e2⟩:=bx0 k s n a;have h':=h;rw[e1]at h';rw[(e2 h').2];exact ro k s n a ha hn h'
theorem ar5(n:List ah)(s:bc):pk n s=pc n s:=by
 unfold pk pc;simp only[LET];obtain⟨e1,e2⟩:=rel s n 0;split
 ·rfl
 ·rw[e1];by_cases hc:(db s n 0).2.2=0
  ·rw[(e2 hc).1,(e2 hc).2]
  ·have hd:(!decide ((db s n 0).2.2=0))=true:=by simp[hc]
   simp only[hd,if_true]
end Go.Proofs.YtmonnlkagniolaaGreat
