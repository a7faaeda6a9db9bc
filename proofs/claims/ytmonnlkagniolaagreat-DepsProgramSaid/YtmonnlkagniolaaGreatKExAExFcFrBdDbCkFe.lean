import Derived.Test.YtmonnlkagniolaaGreatKDef
import Derived.Test.YtmonnlkagniolaaGreatPbP
import Derived.Test.YtmonnlkagniolaaGreatPbV
import Derived.Test.YtmonnlkagniolaaGreatPbV
import Derived.Test.YtmonnlkagniolaaGreatKCoFo
import Derived.Test.YtmonnlkagniolaaGreatPbV
set_option linter.unusedVariables false
set_option linter.unusedSimpArgs false
set_option maxRecDepth 100000
namespace Go.Proofs.YtmonnlkagniolaaGreat
open Go Go.Pb Go.RowKit
theorem xa(w:Int):rt [w]=decide (1<=w/\w<=32):=by
 unfold rt;have e:(Int.toNat (((([w]:List Int)).length:Int)-0))=1:=by simp
 rw[e,ov,ov];have hx:ix ([w]:List Int) 0=w:=O;rw[hx];by_cases h:1<=w/\w<=32
 ·rw[if_neg (by simp;omega)];simp[h]
 ·rw[if_pos (by simp;omega)];simp[h]
theorem cs7{w:Int}{b:Bool}(h:rt [w]=b)(h2:b=true):0<=wr (32-w):=by
 rw[xa]at h;subst h2;simp only[decide_eq_true_eq]at h;rw[db V V];omega
theorem ai6(op:Int):fg op<=3/\ -1<=fg op:=by
 unfold fg;simp only[LET]
 repeat' split
 all_goals omega
theorem ar{op y:Int}(h:fg op=y):y<=3/\ -1<=y:=by rw[<-h];exact ai6 op
theorem aa9(s:bf)(n:List ai)(rec_:bf->List ai->Int->Int×Int×Int)(a:Int)(ha:0<=a)(K:Int->List Int->Int×Int×Int)(hr:∀z:Int,0<=z->(rec_ s n z).2.2=0->z < (rec_ s n z).2.1)(hK:∀x z,a < x->(K x z).2.2=0->a < (K x z).2.1):
 ∀(m:Nat)(x i:Int)(z:List Int),a < x->(dj s n rec_ K m x i z).2.2=0->a < (dj s n rec_ K m x i z).2.1
 |0,x,i,z,hx,h=>by rw[dj]at h⊢;exact hK x z hx h
 |m+1,x,i,z,hx,h=>by
  rw[dj]at h⊢;simp only[LET]at h⊢;split at h
  ·rename_i hc;simp only[Bool.not_eq_true',decide_eq_false_iff_not]at hc;exact absurd h hc
  ·rename_i hc;rw[if_neg hc];simp only[Bool.not_eq_true',decide_eq_false_iff_not,Decidable.not_not]at hc;have:=hr x V hc;exact aa9 s n rec_ a ha K hr hK m _ _ _ V h
theorem tx:∀(k:Nat)(s:bf)(n:List ai)(a:Int),0<=a->n.length<=1000000->(dp k s n a).2.2=0->a < (dp k s n a).2.1
 |0,s,n,a,ha,hn,h=>by rw[dp]at h;cases h
 |k+1,s,n,a,ha,hn,h=>by
  rw[dp]at h⊢;unfold fa at h⊢;simp only[LET]at h⊢;split at h
  ·cases h
  ·rename_i h1;rw[if_neg h1];simp only[decide_eq_true_eq,Int.not_le]at h1;have ew:wr (a+1)=a+1:=db V V;split at h
   ·cases h
   ·rename_i h2;rw[if_neg h2];split at h
    ·rename_i h3;rw[if_pos h3];show a < wr (a+1)
     omega
    ·rename_i h3;rw[if_neg h3];exact aa9 s n _ a ha _ (λz hz hz2=>tx k s n z hz hn hz2) (λx z hx _=>hx) _ _ _ _ V h
theorem wl(s:bf)(n:List ai)(r1 r2:bf->List ai->Int->Int×Int×Int)(a:Int)(ha:0<=a)(K:Int->List Int->Int×Int×Int)(hr:∀z:Int,a < z->r1 s n z=r2 s n z)(hn:∀z:Int,0<=z->(r1 s n z).2.2=0->z < (r1 s n z).2.1):
 ∀(m:Nat)(x i:Int)(z:List Int),a < x->dj s n r1 K m x i z=dj s n r2 K m x i z
 |0,x,i,z,hx=>by rw[dj,dj]
 |m+1,x,i,z,hx=>by
  rw[dj,dj];simp only[LET,<-hr x hx];split
  ·rfl
  ·rename_i hc;simp only[Bool.not_eq_true',decide_eq_false_iff_not,Decidable.not_not]at hc;have:=hn x V hc;exact wl s n r1 r2 a ha K hr hn m _ _ _ V
theorem at0:∀(k k':Nat)(s:bf)(n:List ai)(a:Int),0<=a->n.length<=1000000->n.length-a.toNat < k->n.length-a.toNat < k'->dp k s n a=dp k' s n a
 |0,k',s,n,a,ha,hn,h1,h2=>by omega
 |k+1,0,s,n,a,ha,hn,h1,h2=>by omega
 |k+1,k'+1,s,n,a,ha,hn,h1,h2=>by
  rw[dp,dp];unfold fa;simp only[LET];split
  ·rfl
  ·rename_i h3;simp only[decide_eq_true_eq,Int.not_le]at h3;have ew:wr (a+1)=a+1:=db V V;split
   ·rfl
   ·split
    ·rfl
    ·exact wl s n _ _ a ha _ (λz hz=>at0 k k' s n z V hn V V) (λz hz h=>tx k s n z hz hn h) _ _ _ _ V
theorem bm3(s:bf)(n:List ai)(a:Int)(ha:0<=a)(hn:n.length<=1000000):di s n a=fa di s n a:=by
 have e:di s n a=fa (dp (n.length-a.toNat)) s n a:=by
  unfold di;rw[dp]
 rw[e];unfold fa;simp only[LET];split
 ·rfl
 ·rename_i h3;simp only[decide_eq_true_eq,Int.not_le]at h3;have ew:wr (a+1)=a+1:=db V V;split
  ·rfl
  ·split
   ·rfl
   ·exact wl s n _ _ a ha _ (λz hz=>at0 (n.length-a.toNat) (n.length-z.toNat+1) s n z V hn V V) (λz hz h=>tx _ s n z hz hn h) _ _ _ _ V
theorem cnext{s:bf}{n:List ai}{a:Int}(ha:0<=a)(hn:n.length<=1000000)(h:(di s n a).2.2=0):a < (di s n a).2.1:=tx _ s n a ha hn h
structure Ok(s:bf)(n:List ai)(a:Int):Prop where
 lo:0<=a
 len:n.length<=1000000
 ok:(di s n a).2.2=0
def nx(s:bf)(n:List ai)(a:Int):Int:=(di s n a).2.1
def wd(s:bf)(n:List ai)(a:Int):Int:=(di s n a).1
theorem Ok.lt{s:bf}{n:List ai}{a:Int}(h:Ok s n a):a < n.length:=by
 have:=h.ok;rw[bm3 s n a h.lo h.len]at this;unfold fa at this;by_cases hc:(n.length:Int)<=a
 ·rw[if_pos (by simpa using hc)]at this;cases this
 ·omega
theorem Ok.wr1{s:bf}{n:List ai}{a:Int}(h:Ok s n a):wr (a+1)=a+1:=by
 have:=h.lt;have:=h.len;have:=h.lo;exact db V V
theorem Ok.step{s:bf}{n:List ai}{a:Int}(h:Ok s n a):
 (fg (ix n a).Op=0/\(jo s (ix n a)).2=0/\wd s n a=(jo s (ix n a)).1/\nx s n a=a+1)\/
 (fg (ix n a).Op=1/\Ok s n (a+1)/\(ir (ix n a) [wd s n (a+1),0,0]).2=0/\wd s n a=(ir (ix n a) [wd s n (a+1),0,0]).1/\nx s n a=nx s n (a+1))\/
 (fg (ix n a).Op=2/\Ok s n (a+1)/\Ok s n (nx s n (a+1))/\(ir (ix n a) [wd s n (a+1),wd s n (nx s n (a+1)),0]).2=0/\wd s n a=(ir (ix n a) [wd s n (a+1),wd s n (nx s n (a+1)),0]).1/\nx s n a=nx s n (nx s n (a+1)))\/
 (fg (ix n a).Op=3/\Ok s n (a+1)/\Ok s n (nx s n (a+1))/\Ok s n (nx s n (nx s n (a+1)))/\(ir (ix n a) [wd s n (a+1),wd s n (nx s n (a+1)),wd s n (nx s n (nx s n (a+1)))]).2=0/\wd s n a=(ir (ix n a) [wd s n (a+1),wd s n (nx s n (a+1)),wd s n (nx s n (nx s n (a+1)))]).1/\nx s n a=nx s n (nx s n (nx s n (a+1)))):=by
 have hlt:=h.lt;have hw:=h.wr1;have hok:=h.ok;have hlo:=h.lo;have har:=ai6 (ix n a).Op;have e:di s n a=fa di s n a:=bm3 s n a h.lo h.len;have mk:∀z:Int,0<=z->(di s n z).2.2=0->Ok s n z:=λz h0 h1=>⟨h0,h.len,h1⟩;simp only[wd,nx];rw[e]at hok⊢;unfold fa at hok⊢;simp only[LET,hw]at hok⊢;rw[if_neg (show¬(decide ((n.length:Int)<=a)=true) by simpa using hlt)]at hok⊢;by_cases hn:fg (ix n a).Op < 0
 ·rw[if_pos (by simpa using hn)]at hok;cases hok
 rw[if_neg (show¬(decide (fg (ix n a).Op < 0)=true) by simpa using hn)]at hok⊢;by_cases h0:fg (ix n a).Op=0
 ·rw[if_pos (by simpa using h0)]at hok⊢;exact .inl ⟨h0,hok,O,O⟩
 rw[if_neg (show¬(decide (fg (ix n a).Op=0)=true) by simpa using h0)]at hok⊢;right;have hcase:fg (ix n a).Op=1\/fg (ix n a).Op=2\/fg (ix n a).Op=3:=by omega
 rcases hcase with ha|ha|ha
 ·left;rw[ha]at hok⊢;rw[show Int.toNat (1-0)=1 from rfl]at hok⊢;simp only[dj,LET]at hok⊢;by_cases c1:(di s n (a+1)).2.2=0
  ·rw[if_neg (by simp[c1])]at hok⊢;exact⟨trivial,mk _ V c1,hok,O,O⟩
  ·rw[if_pos (by simp[c1])]at hok;exact absurd hok c1
 ·right;left;rw[ha]at hok⊢;rw[show Int.toNat (2-0)=2 from rfl]at hok⊢;simp only[dj,LET]at hok⊢;by_cases c1:(di s n (a+1)).2.2=0
  ·rw[if_neg (by simp[c1])]at hok⊢;have n1:=cnext (s:=s) (n:=n) (a:=a+1) V h.len c1;by_cases c2:(di s n (di s n (a+1)).2.1).2.2=0
   ·rw[if_neg (by simp[c2])]at hok⊢;exact⟨trivial,mk _ V c1,mk _ V c2,hok,O,O⟩
   ·rw[if_pos (by simp[c2])]at hok;exact absurd hok c2
  ·rw[if_pos (by simp[c1])]at hok;exact absurd hok c1
 ·right;right;rw[ha]at hok⊢;rw[show Int.toNat (3-0)=3 from rfl]at hok⊢;simp only[dj,LET]at hok⊢;by_cases c1:(di s n (a+1)).2.2=0
  ·rw[if_neg (by simp[c1])]at hok⊢;have n1:=cnext (s:=s) (n:=n) (a:=a+1) V h.len c1;by_cases c2:(di s n (di s n (a+1)).2.1).2.2=0
   ·rw[if_neg (by simp[c2])]at hok⊢;have n2:=cnext (s:=s) (n:=n) V h.len c2;by_cases c3:(di s n (di s n (di s n (a+1)).2.1).2.1).2.2=0
    ·rw[if_neg (by simp[c3])]at hok⊢;exact⟨trivial,mk _ V c1,mk _ V c2,mk _ V c3,hok,O,O⟩
    ·rw[if_pos (by simp[c3])]at hok;exact absurd hok c3
   ·rw[if_pos (by simp[c2])]at hok;exact absurd hok c2
  ·rw[if_pos (by simp[c1])]at hok;exact absurd hok c1
theorem ag6(op:Int):fg op=if 1<=op/\op<=4 then 0 else if 5<=op/\op<=8 then 1 else if 9<=op/\op<=16 then 2 else if op=17 then 3 else -1:=by
 by_cases h:1<=op/\op<=17
 ·have:op=1\/op=2\/op=3\/op=4\/op=5\/op=6\/op=7\/op=8\/op=9\/op=10\/op=11\/op=12\/op=13\/op=14\/op=15\/op=16\/op=17:=by omega
  rcases this with rfl|rfl|rfl|rfl|rfl|rfl|rfl|rfl|rfl|rfl|rfl|rfl|rfl|rfl|rfl|rfl|rfl<;>rfl
 ·rw[if_neg V,if_neg V,if_neg V,if_neg V];have e:∀k:Int,1<=k->k<=17->decide (op=k)=false:=λk h1 h2=>by simp;omega
  unfold fg;simp only[LET,e 1 V V,e 2 V V,e 3 V V,e 4 V V,e 5 V V,e 6 V V,e 7 V V,e 8 V V,e 9 V V,e 10 V V,e 11 V V,e 12 V V,e 13 V V,e 14 V V,e 15 V V,e 16 V V,e 17 V V,Bool.false_eq_true,if_false]
theorem ac0(x:ai)(u v w:Int)(ho:5<=x.Op/\x.Op<=17):ir x [u,v,w]=
 if x.Op=5 then(u,0)else if x.Op=6\/x.Op=7 then(if x.N < 0\/31 < x.N then(0,9)else(u,0))else
 if x.Op=8 then(if x.N < 0 then(0,9)else if¬(pz x.W).2=0\/wr (u-x.W) < x.N then(0,10)else(x.W,0))else
 if x.Op=14 then pz (wr (u+v))else if x.Op=17 then(if¬u=1\/¬v=w then(0,10)else(v,0))else
 if¬u=v then(0,10)else if x.Op=15\/x.Op=16 then(1,0)else(u,0):=by
 have e0:ix [u,v,w] 0=u:=O;have e1:ix [u,v,w] 1=v:=O;have e2:ix [u,v,w] 2=w:=O;have:x.Op=5\/x.Op=6\/x.Op=7\/x.Op=8\/x.Op=9\/x.Op=10\/x.Op=11\/x.Op=12\/x.Op=13\/x.Op=14\/x.Op=15\/x.Op=16\/x.Op=17:=by omega
 unfold ir;simp only[LET,e0,e1,e2];rcases this with h|h|h|h|h|h|h|h|h|h|h|h|h<;>simp[h,ag6]
theorem zy(op:Int):og op=fg op:=by
 rw[ag6];unfold og;simp only[Bool.and_eq_true,decide_eq_true_eq]
theorem ev7(op:Int):og op<=3/\ -1<=og op:=by rw[zy];exact ai6 op
theorem rar{op y:Int}(h:og op=y):y<=3/\ -1<=y:=by rw[<-h];exact ev7 op
theorem opl{x:Int}{op:Int}(h:x=og op):(5<=op/\op<=8->x=1)/\(9<=op/\op<=16->x=2)/\(op=17->x=3)/\(op<=4->x<=0)/\(18<=op->x<=0):=by
 rw[zy,ag6]at h;subst h;split
 ·omega
 ·split
  ·omega
  ·split
   ·omega
   ·split<;>omega
theorem rval{w:Int}{y:Bool}(h:su w=y)(h2:y=true):1<=w/\w<=32:=by
 rw[h2]at h;unfold su at h;simpa using h
theorem jor{p q:Prop}[Decidable p][Decidable q]{x:Bool}(h:x=(if decide p=true then decide p else decide q))(hx:x=false):¬p/\¬q:=by
 subst hx;by_cases hp:p
 ·simp[hp]at h
 ·simp[hp]at h;exact⟨hp,h⟩
theorem bh0(w:Int):rp w=pz w:=O
theorem cq0(w:Int):qu w=qe w:=by
 by_cases h:1<=w/\w<=32
 ·have:∃k:Fin 33,w=(k.val:Int):=⟨⟨w.toNat,by omega⟩,by simp;omega⟩;obtain⟨k,rfl⟩:=this;revert h;revert k;decide+kernel
 ·unfold qu qe su;simp only[LET,xa];rw[if_pos (by simp;omega),if_pos (by simp;omega)]
theorem dd3(x:ai)(s:bf):tv x s=jo s x:=by
 unfold tv jo;simp only[LET,cq0,bh0];unfold po na;simp only[LET];by_cases h1:x.Op=1
 ·simp only[h1,decide_true,if_true];try rfl
 ·simp only[h1,decide_false,if_false,Bool.false_eq_true];by_cases h2:x.Op=2
  ·simp only[h2,decide_true,if_true];by_cases h3:x.N= -1
   ·simp only[h3,decide_true,Bool.not_true,if_false,Bool.false_eq_true];by_cases h4:(decide (x.W < 0)||decide ((s.Program.Metadata.length:Int)<=x.W))=true
    ·simp only[h4,if_true,Bool.not_false]
    ·simp only[h4,if_false,Bool.not_true,Bool.false_eq_true]
   ·simp only[h3,decide_false,Bool.not_false,if_true];by_cases h5:(decide (x.N < 0)||decide ((s.Program.Headers.length:Int)<=x.N))=true
    ·simp only[h5,if_true,Bool.not_false]
    ·simp only[h5,if_false,Bool.false_eq_true];by_cases h4:(decide (x.W < 0)||decide (((ix s.Program.Headers x.N).Fields.length:Int)<=x.W))=true
     ·simp only[h4,if_true,Bool.not_false]
     ·simp only[h4,if_false,Bool.not_true,Bool.false_eq_true]
  ·simp only[h2,decide_false,if_false,Bool.false_eq_true]
theorem bh5(x:ai):(∀u,5<=x.Op/\x.Op<=8->jw x [u]=ir x [u,0,0])/\(∀u v,9<=x.Op/\x.Op<=16->jw x [u,v]=ir x [u,v,0])/\(∀u v w,x.Op=17->jw x [u,v,w]=ir x [u,v,w]):=by
 refine⟨λu h=>?_,λu v h=>?_,λu v w h=>?_⟩
 ·have e0:ix [u] 0=u:=O;rw[ac0 _ _ _ _ V];unfold jw;simp only[LET,e0];have:x.Op=5\/x.Op=6\/x.Op=7\/x.Op=8:=by omega
  rcases this with h|h|h|h
  ·simp[h]
  ·simp[h]
  ·simp[h]
  ·simp only[h];by_cases h1:x.N < 0
   ·simp[h1]
   ·unfold pz;by_cases h2:x.W < 1\/32 < x.W
    ·simp[h1,h2]
    ·have h3:¬x.W < 1:=by omega
     have h4:¬32 < x.W:=by omega
     simp[h1,h3,h4]
 ·have e0:ix [u,v] 0=u:=O;have e1:ix [u,v] 1=v:=O;rw[ac0 _ _ _ _ V];unfold jw;simp only[LET,e0,e1];have:x.Op=9\/x.Op=10\/x.Op=11\/x.Op=12\/x.Op=13\/x.Op=14\/x.Op=15\/x.Op=16:=by omega
  rcases this with h|h|h|h|h|h|h|h<;>simp[h,bh0]
 ·have e0:ix [u,v,w] 0=u:=O;have e1:ix [u,v,w] 1=v:=O;have e2:ix [u,v,w] 2=w:=O;rw[ac0 _ _ _ _ V];unfold jw;simp only[LET,e0,e1,e2];simp[h]
def REL(r c:Int×Int×Int):Prop:=r.2.2=c.2.2/\(c.2.2=0->r.1=c.1/\r.2.1=c.2.1)
theorem REL.of_eq{r c:Int×Int×Int}(h:r=c):REL r c:=by subst h;exact⟨O,λ_=>⟨O,O⟩⟩
theorem cp5(s:bf)(n:List ai)(r1:List ai->Int->bf->Int×Int×Int)(r2:bf->List ai->Int->Int×Int×Int)(hr:∀z,REL (r1 n z s) (r2 s n z))(K1 K2:Int->List Int->Int×Int×Int)(j k:Nat)(hK:∀x(z:List Int),z.length=k->K1 x z=K2 x (z++List.replicate j 0)):
 ∀(m:Nat)(x i:Int)(z:List Int),(z.length:Int)=i->z.length+m=k->REL (od n s r1 K1 m x i z) (dj s n r2 K2 m x i (z++List.replicate (m+j) 0))
 |0,x,i,z,hi,hk=>by
  rw[od,dj,hK x z V,Nat.zero_add];exact .of_eq O
 |m+1,x,i,z,hi,hk=>by
  rw[od,dj];simp only[LET];obtain⟨e1,e2⟩:=hr x;by_cases hc:(r2 s n x).2.2=0
  ·have hd:(r1 n x s).2.2=0:=e1.trans hc;rw[if_neg (show¬(!decide ((r1 n x s).2.2=0))=true by simp[hd]),if_neg (show¬(!decide ((r2 s n x).2.2=0))=true by simp[hc])];obtain⟨e3,e4⟩:=e2 hc;rw[e3,e4,show(z++List.replicate (m+1+j) (0:Int)).set i.toNat (r2 s n x).1=(z++[(r2 s n x).1])++List.replicate (m+j) 0 by
    rw[show m+1+j=(m+j)+1 by omega,List.replicate_succ,show i.toNat=z.length by omega];simp]
   exact cp5 s n r1 r2 hr K1 K2 j k hK m _ _ _ (by simp;omega) (by simp;omega)
  ·have hd:¬(r1 n x s).2.2=0:=λh=>hc (e1.symm.trans h);rw[if_pos (show(!decide ((r1 n x s).2.2=0))=true by simp[hd]),if_pos (show(!decide ((r2 s n x).2.2=0))=true by simp[hc])];exact⟨e1,λh=>absurd h hc⟩
theorem cc6:∀(k:Nat)(s:bf)(n:List ai)(a:Int),REL (jz k n a s) (dp k s n a)
 |0,s,n,a=> .of_eq rfl
 |k+1,s,n,a=>by
  rw[jz,dp];unfold qi fa;simp only[LET,zy,dd3];split
  ·exact⟨O,λh=>absurd h OO⟩
  split
  ·exact⟨O,λh=>absurd h OO⟩
  split
  ·exact .of_eq O
  rename_i h1 h2 h3;simp only[decide_eq_true_eq]at h2 h3;have hb:=ai6 (ix n a).Op;have ho:=opl (zy (ix n a).Op).symm;have hz:=ag6 (ix n a).Op;obtain⟨o1,o2,o3⟩:=bh5 (ix n a);have main:=cp5 s n (jz k) (dp k) (cc6 k s n) (λx z=>((jw (ix n a) z).1,x,(jw (ix n a) z).2)) (λx z=>((ir (ix n a) z).1,x,(ir (ix n a) z).2)) (3-(fg (ix n a).Op).toNat) (fg (ix n a).Op).toNat ?_ (Int.toNat (fg (ix n a).Op-0)) (wr (a+1)) 0 [] O OZ
  ·rw[List.nil_append,show(fg (ix n a).Op-0).toNat+(3-(fg (ix n a).Op).toNat)=3 by omega]at main;exact main
  ·intro x z hz;have hc:fg (ix n a).Op=1\/fg (ix n a).Op=2\/fg (ix n a).Op=3:=by omega
   rcases hc with hc|hc|hc
   ·rw[hc]at hz⊢;have hl:z.length=1:=hz
    match z,hl with
    |[u],_=>rw[show[u]++List.replicate (3-Int.toNat 1) (0:Int)=[u,0,0] from rfl,o1 u V]
   ·rw[hc]at hz⊢;have hl:z.length=2:=hz
    match z,hl with
    |[u,v],_=>rw[show[u,v]++List.replicate (3-Int.toNat 2) (0:Int)=[u,v,0] from rfl,o2 u v V]
   ·rw[hc]at hz⊢;have hl:z.length=3:=hz
    match z,hl with
    |[u,v,w],_=>rw[show[u,v,w]++List.replicate (3-Int.toNat 3) (0:Int)=[u,v,w] from rfl,o3 u v w V]
theorem rel(s:bf)(n:List ai)(a:Int):REL (ue n a s) (di s n a):=cc6 _ s n a
theorem bh9(k:Nat)(n:List ai)(a:Int)(s:bf)(ha:0<=a)(hn:n.length<=1000000)(h:(jz k n a s).2.2=0):a < (jz k n a s).2.1:=by
 obtain⟨e1,e2⟩:=cc6 k s n a;have h':=h;rw[e1]at h';rw[(e2 h').2];exact tx k s n a ha hn h'
theorem ay9(n:List ai)(s:bf):qq n s=pr n s:=by
 unfold qq pr;simp only[LET];obtain⟨e1,e2⟩:=rel s n 0;split
 ·rfl
 ·rw[e1];by_cases hc:(di s n 0).2.2=0
  ·rw[(e2 hc).1,(e2 hc).2]
  ·have hd:(!decide ((di s n 0).2.2=0))=true:=by simp[hc]
   simp only[hd,if_true]
theorem dropix{α:Type}[Inhabited α]{c:List α}{i:Int}(h0:0<=i)(h1:i < c.length):c.drop i.toNat=ix c i::c.drop (i+1).toNat:=by
 rw[ul h0 h1,show(i+1).toNat=i.toNat+1 by omega];exact List.drop_eq_getElem_cons V
def frs(x0:List ai):List aa:=(x0.filter λx=>decide (x.Op=2)).map λx=>({Header:=x.N,Field:=x.W}:aa)
def hds(x0:List ai):List Int:=(x0.filter λx=>decide (x.Op=4)).map (·.N)
theorem am3(x0:List ai)(K:List aa->List aa):∀(m:Nat)(i:Int)(z:List aa),m=Int.toNat ((x0.length:Int)-i)->0<=i->jv x0 K m i z=K (z++frs (x0.drop i.toNat))
 |0,i,z,hm,h0=>by
  rw[jv,List.drop_eq_nil_of_le V];simp[frs]
 |m+1,i,z,hm,h0=>by
  rw[jv,dropix (c:=x0) (i:=i) h0 V];unfold frs;rw[List.filter_cons];split
  ·rw[am3 x0 K m (i+1) _ V V];simp[frs]
  ·rw[am3 x0 K m (i+1) _ V V];simp[frs]
theorem ae0(x0:List ai)(K:List Int->List Int):∀(m:Nat)(i:Int)(z:List Int),m=Int.toNat ((x0.length:Int)-i)->0<=i->jg x0 K m i z=K (z++hds (x0.drop i.toNat))
 |0,i,z,hm,h0=>by
  rw[jg,List.drop_eq_nil_of_le V];simp[hds]
 |m+1,i,z,hm,h0=>by
  rw[jg,dropix (c:=x0) (i:=i) h0 V];unfold hds;rw[List.filter_cons];split
  ·rw[ae0 x0 K m (i+1) _ V V];simp[hds]
  ·rw[ae0 x0 K m (i+1) _ V V];simp[hds]
theorem bo0(x0:List ai):mr x0=cpt (lj (frs x0)):=by
 unfold mr;rw[am3 x0 _ _ 0 [] rfl V];rfl
theorem bj0(x0:List ai):lc x0=cpt (en (hds x0)):=by
 unfold lc;rw[ae0 x0 _ _ 0 [] rfl V];rfl
theorem AddField_true(x0:List aa)(x1:aa)(K:Bool->List aa->List aa):∀(m:Nat)(i:Int)(z:List aa),m=Int.toNat ((x0.length:Int)-i)->0<=i->gk x0 x1 K m true i z=K true (z++x0.drop i.toNat)
 |0,i,z,hm,h0=>by
  rw[gk,List.drop_eq_nil_of_le V,List.append_nil]
 |m+1,i,z,hm,h0=>by
  rw[gk,if_neg OZ,AddField_true x0 x1 K m (i+1) _ V V,dropix (c:=x0) (i:=i) h0 V,List.append_assoc];rfl
theorem AddField_false(x0:List aa)(x1:aa):∀(m:Nat)(i:Int)(z:List aa),m=Int.toNat ((x0.length:Int)-i)->0<=i->gk x0 x1 (λp l=>if(!p)=true then l++[x1]else l) m false i z=z++insS ke x1 (x0.drop i.toNat)
 |0,i,z,hm,h0=>by
  rw[gk,List.drop_eq_nil_of_le V,insS];rfl
 |m+1,i,z,hm,h0=>by
  have e1:(i+1).toNat=i.toNat+1:=by omega
  rw[gk,dropix (c:=x0) (i:=i) h0 V,insS];by_cases hl:ke (ix x0 i) x1=true
  ·rw[if_neg (by simp[hl]),if_pos hl,AddField_false x0 x1 m (i+1) _ V V,List.append_assoc];rfl
  ·have hl2:ke (ix x0 i) x1=false:=by simpa using hl
   rw[if_pos (by simp[hl2]),if_neg hl];by_cases he:ix x0 i=x1
   ·rw[if_neg (by simp[he]),if_pos he,AddField_true x0 x1 _ m (i+1) _ V V,if_neg OZ,List.append_assoc];rfl
   ·rw[if_pos (by simp[he]),if_neg he,AddField_true x0 x1 _ m (i+1) _ V V,if_neg OZ,List.append_assoc,List.append_assoc];rfl
theorem AddField_ins(l:List aa)(x:aa):lb l x=insS ke x l:=by
 unfold lb;rw[AddField_false l x _ 0 [] rfl V];simp
theorem AddField_len{l y:List aa}{x:aa}(h:lb l x=y):y.length<=l.length+1:=by
 rw[<-h,AddField_ins];exact vf _ _ _
theorem AddInt_true(x0:List Int)(x1:Int)(K:Bool->List Int->List Int):∀(m:Nat)(i:Int)(z:List Int),m=Int.toNat ((x0.length:Int)-i)->0<=i->im x0 x1 K m true i z=K true (z++x0.drop i.toNat)
 |0,i,z,hm,h0=>by
  rw[im,List.drop_eq_nil_of_le V,List.append_nil]
 |m+1,i,z,hm,h0=>by
  rw[im,if_neg OZ,AddInt_true x0 x1 K m (i+1) _ V V,dropix (c:=x0) (i:=i) h0 V,List.append_assoc];rfl
theorem AddInt_false(x0:List Int)(x1:Int):∀(m:Nat)(i:Int)(z:List Int),m=Int.toNat ((x0.length:Int)-i)->0<=i->im x0 x1 (λp l=>if(!p)=true then l++[x1]else l) m false i z=z++insS (λa b=>decide (a < b)) x1 (x0.drop i.toNat)
 |0,i,z,hm,h0=>by
  rw[im,List.drop_eq_nil_of_le V,insS];rfl
 |m+1,i,z,hm,h0=>by
  have e1:(i+1).toNat=i.toNat+1:=by omega
  rw[im,dropix (c:=x0) (i:=i) h0 V,insS];by_cases hl:ix x0 i < x1
  ·have hl1:(λa b:Int=>decide (a < b)) (ix x0 i) x1=true:=by simpa using hl
   rw[if_neg (by simp;omega),if_pos hl1,AddInt_false x0 x1 m (i+1) _ V V,List.append_assoc];rfl
  ·have hl2:¬(λa b:Int=>decide (a < b)) (ix x0 i) x1=true:=by simpa using hl
   rw[if_pos (by simp;omega),if_neg hl2];by_cases he:ix x0 i=x1
   ·rw[if_neg (by simp[he]),if_pos he,AddInt_true x0 x1 _ m (i+1) _ V V,if_neg OZ,List.append_assoc];rfl
   ·rw[if_pos (by simp[he]),if_neg he,AddInt_true x0 x1 _ m (i+1) _ V V,if_neg OZ,List.append_assoc,List.append_assoc];rfl
theorem AddInt_ins(l:List Int)(x:Int):iv l x=insS (λa b=>decide (a < b)) x l:=by
 unfold iv;rw[AddInt_false l x _ 0 [] rfl V];simp
theorem AddInt_len{l y:List Int}{x:Int}(h:iv l x=y):y.length<=l.length+1:=by
 rw[<-h,AddInt_ins];exact vf _ _ _
theorem ag3{α:Type}[Inhabited α][DecidableEq α](l:List α):(cpt l).length<=l.length:=ao7 l _
theorem cf4{n:List ai}{s:bf}(h:(pr n s).2=0):n.length<=24:=by
 unfold pr at h;split at h
 ·simp at h
 ·rename_i h1;simp at h1;omega
theorem bu5{c:dq}{n:List ai}{w:Int}(h:iu c n w=0):n.length<=24:=by
 unfold iu at h;simp only[LET]at h;split at h
 ·simp at h
 ·exact cf4 h
theorem cx5{c:dq}{s:aw}(h:fh c s=0):(s.Kind=1\/s.Kind=5->s.Value.length<=24)/\(s.Kind=4\/s.Kind=5->s.Index.length<=24)/\(s.Kind=2\/s.Kind=3->0<=s.Header/\s.Header < c.scope.Program.Headers.length):=by
 unfold fh at h;simp only[LET]at h;by_cases k1:s.Kind=1
 ·rw[if_pos (by simp[k1])]at h;split at h
  ·simp at h
  ·exact⟨λ_=>bu5 h,λq=>by omega,λq=>by omega⟩
 rw[if_neg (by simp[k1])]at h;by_cases k2:s.Kind=2\/s.Kind=3
 ·have e:(if decide (s.Kind=2)=true then(if(decide (s.Header < 0)||decide ((c.scope.Program.Headers.length:Int)<=s.Header))=true then(8:Int)else 0)else(if(decide (s.Header < 0)||decide ((c.scope.Program.Headers.length:Int)<=s.Header))=true then 8 else 0))=0:=by
   rcases k2 with k2|k2
   ·simpa[k2]using h
   ·simpa[k2]using h
  rw[ite_self]at e;split at e
  ·simp at e
  ·rename_i h1;simp at h1;exact⟨λq=>by omega,λq=>by omega,λ_=>by omega⟩
 by_cases k4:s.Kind=4
 ·rw[if_neg (by simp;omega),if_neg (by simp;omega),if_pos (by simp[k4]),if_pos (by simp[k4])]at h;split at h
  ·simp at h
  split at h
  ·rename_i h1;rw[h]at h1;simp at h1
  ·rename_i h1;simp at h1;exact⟨λq=>by omega,λ_=>cf4 h1,λq=>by omega⟩
 by_cases k5:s.Kind=5
 ·rw[if_neg (by simp;omega),if_neg (by simp;omega),if_neg (by simp;omega),if_pos (by simp[k5])]at h;split at h
  ·simp at h
  split at h
  ·rename_i h1;rw[h]at h1;simp at h1
  ·rename_i h1;simp at h1;rw[if_pos (by simp[k5])]at h;exact⟨λ_=>bu5 h,λ_=>cf4 h1,λq=>by omega⟩
 exact⟨λq=>by omega,λq=>by omega,λq=>by omega⟩
theorem cf2(p:af)(i:Int):∀(m:Nat)(j:Int),m=Int.toNat (((ix p.Actions i).Body.length:Int)-j)->(lg p i (λ_=>(0,0)) m j).2=0->∀k,j<=k->k < ((ix p.Actions i).Body.length:Int)->fh {scope:={Program:=p,Params:=(ix p.Actions i).Params}} (ix (ix p.Actions i).Body k)=0
 |0,j,hm,h,k,h1,h2=>by omega
 |m+1,j,hm,h,k,h1,h2=>by
  rw[lg]at h;simp only[LET]at h;split at h
  ·rename_i h3;simp at h3;exact absurd h h3
  ·rename_i h3;simp at h3;by_cases e:k=j
   ·subst e;exact h3
   ·exact cf2 p i m (j+1) V h k V h2
theorem cp2{p:af}{i:Int}{y:Int×Int}(h:ng p i=y)(h2:y.2=0):0<=i/\i < p.Actions.length:=by
 subst h;unfold ng at h2;split at h2
 ·simp at h2
 ·rename_i h1;simp at h1;omega
theorem ct9{a:bt}(h:lk a=0):a.Body.length<=12:=by
 unfold lk at h;simp only[LET]at h;split at h
 ·simp at h
 split at h
 ·simp at h
 ·rename_i h1;simp at h1;omega
def BO(p:af)(l:List aw):Prop:=l.length<=12/\∀k:Int,0<=k->k < l.length->((ix l k).Kind=1\/(ix l k).Kind=5->(ix l k).Value.length<=24)/\((ix l k).Kind=4\/(ix l k).Kind=5->(ix l k).Index.length<=24)/\((ix l k).Kind=2\/(ix l k).Kind=3->0<=(ix l k).Header/\(ix l k).Header < p.Headers.length)
theorem xz{p:af}{i:Int}{y:List aw}(h:kw p i=y):BO p y:=by
 unfold kw at h;simp only[LET]at h;subst h;split
 ·exact⟨by simp,λk h1 h2=>absurd h2 (by simp;omega)⟩
 ·rename_i h1;simp at h1;unfold ng at h1;split at h1
  ·simp at h1
  simp only[LET]at h1;split at h1
  ·rename_i h3;simp at h3;exact absurd h1 h3
  ·rename_i h3;simp at h3;exact⟨ct9 h3,λk k1 k2=>cx5 (cf2 p i _ 0 O h1 k k1 k2)⟩
theorem bo_v{p:af}{l:List aw}{k:Int}(h:BO p l)(h0:0<=k)(h1:k < l.length)(hk:(ix l k).Kind=1\/(ix l k).Kind=5):(ix l k).Value.length<=24:=(h.2 k h0 h1).1 hk
theorem bo_i{p:af}{l:List aw}{k:Int}(h:BO p l)(h0:0<=k)(h1:k < l.length)(hk:(ix l k).Kind=4\/(ix l k).Kind=5):(ix l k).Index.length<=24:=(h.2 k h0 h1).2.1 hk
theorem bo_h{p:af}{l:List aw}{k:Int}(h:BO p l)(h0:0<=k)(h1:k < l.length)(hk:(ix l k).Kind=2\/(ix l k).Kind=3):0<=(ix l k).Header/\(ix l k).Header < p.Headers.length:=(h.2 k h0 h1).2.2 hk
theorem jot{p q:Prop}[Decidable p][Decidable q]{x:Bool}(h:x=(if decide p=true then decide p else decide q))(hx:x=true):p\/q:=by
 subst h;by_cases hp:p
 ·exact .inl hp
 ·simp[hp]at hx;exact .inr hx
theorem cd6(n:List ai)(K:List aa->List aa)(b:Nat)(hK:∀l:List aa,l.length<=b->(K l).length<=b):∀(m:Nat)(j:Int)(z:List aa),z.length+m<=b->(jv n K m j z).length<=b
 |0,j,z,h=>by rw[jv];exact hK z V
 |m+1,j,z,h=>by
  rw[jv];split
  ·exact cd6 n K b hK m (j+1) _ (by simp;omega)
  ·exact cd6 n K b hK m (j+1) z V
theorem co4(n:List ai)(K:List Int->List Int)(b:Nat)(hK:∀l:List Int,l.length<=b->(K l).length<=b):∀(m:Nat)(j:Int)(z:List Int),z.length+m<=b->(jg n K m j z).length<=b
 |0,j,z,h=>by rw[jg];exact hK z V
 |m+1,j,z,h=>by
  rw[jg];split
  ·exact co4 n K b hK m (j+1) _ (by simp;omega)
  ·exact co4 n K b hK m (j+1) z V
theorem tr(n:List ai):(mr n).length<=n.length:=by
 unfold mr;refine cd6 n _ n.length (λl hl=>?_) _ _ _ OZ;simp only[LET];refine Nat.le_trans (ag3 _) ?_;rw[lj,List.length_mergeSort];exact hl
theorem sw(n:List ai):(lc n).length<=n.length:=by
 unfold lc;refine co4 n _ n.length (λl hl=>?_) _ _ _ OZ;simp only[LET];refine Nat.le_trans (ag3 _) ?_;rw[en,List.length_mergeSort];exact hl
theorem nq{a y:cn}{n:List ai}(h:dx a n=y):y.fields.length<=a.fields.length+n.length/\y.headers.length<=a.headers.length+n.length/\y.registers.length=a.registers.length:=by
 subst h;unfold dx;have h1:=tr n;have h2:=sw n;refine⟨?_,?_,O⟩
 ·show(a.fields++mr n).length<=_
  rw[List.length_append];omega
 ·show(a.headers++lc n).length<=_
  rw[List.length_append];omega
theorem an1{a:cn}{y:List aa×List Int×List Int}(h:dg a=y):y.1.length<=a.fields.length/\y.2.1.length<=a.headers.length/\y.2.2.length<=a.registers.length:=by
 subst h;unfold dg;simp only[LET];refine⟨Nat.le_trans (ag3 _) ?_,Nat.le_trans (ag3 _) ?_,Nat.le_trans (ag3 _) ?_⟩
 ·rw[ga,List.length_mergeSort];exact Nat.le_refl _
 ·rw[en,List.length_mergeSort];exact Nat.le_refl _
 ·rw[en,List.length_mergeSort];exact Nat.le_refl _
def SmH(p:af):Prop:=∀k:Int,0<=k->k < p.Headers.length->(ix p.Headers k).Fields.length<=1000
def AB(p:af):Prop:=SmH p/\∀k:Int,0<=k->k < p.Tables.length->(ix p.Tables k).Keys.length<=24/\(ix p.Tables k).Actions.length<=24
def nn(l:List Int):List Int:=l.filter λx=>decide (0<=x)
theorem xw(l:List Int):(nn l).length<=l.length:=List.length_filter_le _ _
theorem ao8(n:Int)(c:au):gu n c={p:=c.p,cells:=c.cells++nn [n]}:=by
 unfold gu nn;by_cases h:0<=n<;>simp[h]
theorem au2{n:Int}{c y:au}(h:gu n c=y):y.cells.length<=c.cells.length+1:=by
 subst h;rw[ao8];show(c.cells++nn [n]).length<=_
 have:=xw [n];rw[List.length_append];simpa using this
theorem cj8(l:List aa)(K:au->au):∀(m:Nat)(i:Int)(c:au),m=Int.toNat ((l.length:Int)-i)->0<=i->gh l K m i c=K {p:=c.p,cells:=c.cells++nn ((l.drop i.toNat).map (ka c.p))}
 |0,i,c,hm,h0=>by
  rw[gh,List.drop_eq_nil_of_le V];simp[nn]
 |m+1,i,c,hm,h0=>by
  rw[gh];simp only[LET];rw[cj8 l K m (i+1) _ V V,ao8,dropix (c:=l) (i:=i) h0 V];simp only[nn,List.map_cons,List.append_assoc];rw[<-List.filter_append];rfl
theorem cc2(l:List Int)(K:au->au):∀(m:Nat)(i:Int)(c:au),m=Int.toNat ((l.length:Int)-i)->0<=i->gj l K m i c=K {p:=c.p,cells:=c.cells++nn ((l.drop i.toNat).map (kp c.p))}
 |0,i,c,hm,h0=>by
  rw[gj,List.drop_eq_nil_of_le V];simp[nn]
 |m+1,i,c,hm,h0=>by
  rw[gj];simp only[LET];rw[cc2 l K m (i+1) _ V V,ao8,dropix (c:=l) (i:=i) h0 V];simp only[nn,List.map_cons,List.append_assoc];rw[<-List.filter_append];rfl
theorem ci7(l:List Int)(K:au->au):∀(m:Nat)(i:Int)(c:au),m=Int.toNat ((l.length:Int)-i)->0<=i->gi l K m i c=K {p:=c.p,cells:=c.cells++nn ((l.drop i.toNat).map (je c.p))}
 |0,i,c,hm,h0=>by
  rw[gi,List.drop_eq_nil_of_le V];simp[nn]
 |m+1,i,c,hm,h0=>by
  rw[gi];simp only[LET];rw[ci7 l K m (i+1) _ V V,ao8,dropix (c:=l) (i:=i) h0 V];simp only[nn,List.map_cons,List.append_assoc];rw[<-List.filter_append];rfl
def cls(p:af)(f:List aa)(h r:List Int):List Int:=nn (f.map (ka p))++(nn (h.map (kp p))++nn (r.map (je p)))
theorem cl0(c:au)(f:List aa)(h r:List Int):fw c f h r={p:=c.p,cells:=c.cells++cls c.p f h r}:=by
 unfold fw;rw[cj8 _ _ _ _ _ rfl (Int.le_refl _),cc2 _ _ _ _ _ rfl (Int.le_refl _),ci7 _ _ _ _ _ rfl (Int.le_refl _)];simp[cls]
theorem aq9(p:af)(f:List aa)(h r:List Int):(cls p f h r).length<=f.length+h.length+r.length:=by
 unfold cls;have h1:=xw (f.map (ka p));have h2:=xw (h.map (kp p));have h3:=xw (r.map (je p));simp only[List.length_append,List.length_map]at*;omega
theorem aq6{c y:au}{f:List aa}{h r:List Int}(e:fw c f h r=y):y.cells.length<=c.cells.length+(f.length+h.length+r.length):=by
 subst e;rw[cl0];show(c.cells++cls c.p f h r).length<=_
 have:=aq9 c.p f h r;rw[List.length_append];omega
def QL(r:List aa×List Int×List Int):Prop:=r.1.length<=13000/\r.2.1.length<=13000/\r.2.2.length<=13000
theorem dt1(p:af)(y:List aw)(hb:BO p y)(K:cn->List aa×List Int×List Int)(Q:List aa×List Int×List Int->Prop)(B:Nat)(hK:∀z:cn,z.fields.length<=B->z.headers.length<=B->z.registers.length<=B->Q (K z)):∀(m:Nat)(j:Int)(z:cn),m=Int.toNat ((y.length:Int)-j)->0<=j->z.fields.length+50*m<=B->z.headers.length+50*m<=B->z.registers.length+50*m<=B->Q (ie y K m j z)
 |0,j,z,hm,h0,h1,h2,h3=>by rw[ie];exact hK z V V V
 |m+1,j,⟨zf,zh,zr⟩,hm,h0,h1,h2,h3=>by
  have b:=hb.2 j h0 V;have rec_:=λz'=>dt1 p y hb K Q B hK m (j+1) z' V V;rw[ie];simp only[LET];dsimp only at h1 h2 h3;have t1:(ix y j).Kind=1->(ix y j).Value.length<=24:=λk=>b.1 (.inl k);have t2:(ix y j).Kind=5->(ix y j).Value.length<=24:=λk=>b.1 (.inr k);have t3:(ix y j).Kind=4->(ix y j).Index.length<=24:=λk=>b.2.1 (.inl k);have t4:(ix y j).Kind=5->(ix y j).Index.length<=24:=λk=>b.2.1 (.inr k);split
  ·rename_i k;have ev:=nq (a:=⟨zf,zh,zr⟩) (n:=(ix y j).Value) O;have t:=t1 (by simpa using k);dsimp only at ev;split<;>(refine rec_ _ ?_ ?_ ?_<;>(try simp only[List.length_append,List.length_cons,List.length_nil])<;>(try dsimp only)<;>omega)
  split
  ·split<;>(refine rec_ _ ?_ ?_ ?_<;>(try simp only[List.length_append,List.length_cons,List.length_nil])<;>(try dsimp only)<;>omega)
  split
  ·rename_i k;have ev:=nq (a:=⟨zf,zh,zr⟩) (n:=(ix y j).Index) O;have t:=t3 (by simpa using k);dsimp only at ev;split<;>(refine rec_ _ ?_ ?_ ?_<;>(try simp only[List.length_append,List.length_cons,List.length_nil])<;>(try dsimp only)<;>omega)
  split
  ·rename_i k;have ev:=nq (a:=⟨zf,zh,zr⟩) (n:=(ix y j).Index) O;have ev2:=nq (a:=dx ⟨zf,zh,zr⟩ (ix y j).Index) (n:=(ix y j).Value) O;have t:=t4 (by simpa using k);have t':=t2 (by simpa using k);dsimp only at ev;split<;>(refine rec_ _ ?_ ?_ ?_<;>(try simp only[List.length_append,List.length_cons,List.length_nil])<;>(try dsimp only)<;>omega)
  split<;>(refine rec_ _ ?_ ?_ ?_<;>(try simp only[List.length_append,List.length_cons,List.length_nil])<;>(try dsimp only)<;>omega)
theorem ab3{p:af}{i:Int}{y:List aa×List Int×List Int}(h:jd p i=y):QL y:=by
 subst h;unfold jd;simp only[LET];have hb:BO p (kw p i):=xz O;refine dt1 p _ hb _ QL 600 (λz h1 h2 h3=>?_) _ 0 _ O (Int.le_refl _) ?_ ?_ ?_
 ·have:=an1 (a:=z) O;exact⟨by show(dg _).1.length<=_;omega,by show(dg _).2.1.length<=_;omega,by show(dg _).2.2.length<=_;omega⟩
 all_goals(have:=hb.1;simp only[List.length_nil];omega)
theorem dr6(y:List aw)(j:Int)(K:List Int->List Int->List aa->List aa×List Int×List Int)(Q:List aa×List Int×List Int->Prop)(a b:List Int):∀(m:Nat)(i:Int)(c:List aa),(∀c':List aa,c'.length=c.length+m->Q (K a b c'))->Q (jk y j K m i a b c)
 |0,i,c,h=>by rw[jk];exact h c O
 |m+1,i,c,h=>by
  rw[jk];exact dr6 y j K Q a b m (i+1) _ λc' hc=>h c' (by rw[hc];simp;omega)
theorem ds6(p:af)(hs:SmH p)(y:List aw)(hb:BO p y)(K:List Int->List Int->List aa->List aa×List Int×List Int)(Q:List aa×List Int×List Int->Prop)(B:Nat)(hK:∀(a b:List Int)(c:List aa),a.length<=B->b.length<=B->c.length<=B->Q (K a b c)):∀(m:Nat)(j:Int)(a b:List Int)(c:List aa),m=Int.toNat ((y.length:Int)-j)->0<=j->a.length+1001*m<=B->b.length+1001*m<=B->c.length+1001*m<=B->Q (fd p y K m j a b c)
 |0,j,a,b,c,hm,h0,h1,h2,h3=>by rw[fd];exact hK a b c V V V
 |m+1,j,a,b,c,hm,h0,h1,h2,h3=>by
  have bb:=hb.2 j h0 V;have rec_:=λa' b' c'=>ds6 p hs y hb K Q B hK m (j+1) a' b' c' V V;rw[fd];simp only[LET];by_cases k1:(ix y j).Kind=1\/(ix y j).Kind=4
  ·have e:(if decide ((ix y j).Kind=1)=true then decide ((ix y j).Kind=1)else decide ((ix y j).Kind=4))=true:=by rcases k1 with k|k<;>simp[k]
   have:=rec_ a b (c++[(ix y j).Dst]) V V (by simp;omega);rcases k1 with k|k
   ·rw[if_pos (by simp[k]),if_pos (by simp[k])];exact this
   ·rw[if_neg (by simp[k]),if_pos (by simp[k])];exact this
  have n1:¬((ix y j).Kind=1):=λe=>k1 (.inl e);have n4:¬((ix y j).Kind=4):=λe=>k1 (.inr e);rw[if_neg (by simp[n1]),if_neg (by simp[n4])];by_cases k2:(ix y j).Kind=2\/(ix y j).Kind=3
  ·have hh:=bb.2.2 k2;have sm:=hs _ hh.1 hh.2;have:=dr6 y j (λa b c=>fd p y K m (j+1) a b c) Q a (b++[(ix y j).Header]) (Int.toNat ((((ix p.Headers (ix y j).Header).Fields).length:Int)-0)) 0 c λc' hc=>rec_ a (b++[(ix y j).Header]) c' V (by simp;omega) V;rcases k2 with k|k
   ·rw[if_pos (by simp[k]),if_pos (by simp[k])];exact this
   ·rw[if_neg (by simp[k]),if_pos (by simp[k])];exact this
  have n2:¬((ix y j).Kind=2):=λe=>k2 (.inl e);have n3:¬((ix y j).Kind=3):=λe=>k2 (.inr e);rw[if_neg (by simp[n2]),if_neg (by simp[n3])];split
  ·exact rec_ _ _ _ (by simp;omega) V V
  ·exact rec_ _ _ _ V V V
theorem yx{p:af}(hs:SmH p){i:Int}{y:List aa×List Int×List Int}(h:ik p i=y):QL y:=by
 subst h;unfold ik;simp only[LET];have hb:BO p (kw p i):=xz O;refine ds6 p hs _ hb _ QL 12500 (λa b c h1 h2 h3=>?_) _ 0 _ _ _ O (Int.le_refl _) ?_ ?_ ?_
 ·have:=an1 (a:=⟨c,b,a⟩) O;dsimp only at this;exact⟨by show(dg _).1.length<=_;omega,by show(dg _).2.1.length<=_;omega,by show(dg _).2.2.length<=_;omega⟩
 all_goals(have:=hb.1;simp only[List.length_nil];omega)
theorem an4{p:af}{u:ay}{y:ca×Bool}(h:il p u=y)(hp:AB p):y.1.Keys.length<=24/\y.1.Actions.length<=24:=by
 subst h;unfold il;split
 ·exact⟨by simp,by simp⟩
 ·rename_i h1;simp at h1;exact hp.2 _ V V
structure SU(l:List ay):Prop where
 n:l.length<=40
 c:∀k:Int,0<=k->k < l.length->(ix l k).Cond.length<=40
theorem f17{l:List bg}(h:ep l=true):l.length<=16:=by
 unfold ep at h;split at h
 ·cases h
 ·rename_i hc;simp only[decide_eq_true_eq]at hc;omega
theorem cn5{p:af}{K:Unit->Bool}:∀(m:Nat)(i:Int),m=Int.toNat ((p.Headers.length:Int)-i)->oc p K m i=true->(∀k:Int,i<=k->k < p.Headers.length->(ix p.Headers k).Fields.length<=16)/\K ()=true
 |0,i,hm,h=>⟨λk h1 h2=>by omega,by rw[oc]at h;exact h⟩
 |m+1,i,hm,h=>by
  rw[oc]at h;split at h
  ·cases h
  ·rename_i hc;simp only[Bool.or_eq_true,decide_eq_true_eq,not_or,Bool.not_eq_true',Bool.not_eq_false]at hc;have r:=cn5 m (i+1) V h;refine⟨λk h1 h2=>?_,r.2⟩;by_cases e:k=i
   ·subst e;exact f17 hc.2
   ·exact r.1 k V h2
theorem ck8{p:af}{K:Unit->Bool}:∀(m:Nat)(i:Int),nt p K m i=true->K ()=true
 |0,i,h=>by rw[nt]at h;exact h
 |m+1,i,h=>by
  rw[nt]at h;split at h
  ·cases h
  ·exact ck8 m _ h
theorem cb2{p:af}{K:Unit->Bool}:∀(m:Nat)(i:Int),oe p K m i=true->K ()=true
 |0,i,h=>by rw[oe]at h;exact h
 |m+1,i,h=>by
  rw[oe]at h;simp only[LET]at h;split at h
  ·cases h
  ·exact cb2 m _ h
theorem cp8{p:af}{K:Unit->Bool}:∀(m:Nat)(i:Int),m=Int.toNat ((p.Tables.length:Int)-i)->pp p K m i=true->∀k:Int,i<=k->k < p.Tables.length->(ix p.Tables k).Keys.length<=24/\(ix p.Tables k).Actions.length<=24
 |0,i,hm,h,k,h1,h2=>by omega
 |m+1,i,hm,h,k,h1,h2=>by
  rw[pp]at h;split at h
  ·cases h
  ·rename_i hc;simp only[Bool.or_eq_true,decide_eq_true_eq,not_or]at hc;by_cases e:k=i
   ·subst e;exact⟨by omega,by omega⟩
   ·exact cp8 m (i+1) V h k V h2
structure S17(p:af):Prop where
 hh:p.Headers.length<=12
 hm:p.Metadata.length<=16
 hr:p.Registers.length<=8
 hf:∀k:Int,0<=k->k < p.Headers.length->(ix p.Headers k).Fields.length<=16
 ab:AB p
theorem s17{p:af}{b:Bool}(h:pf p=b)(hb:b=true):S17 p:=by
 subst hb;unfold pf at h;split at h
 ·cases h
 ·rename_i hc;simp only[Bool.or_eq_true,decide_eq_true_eq,not_or,Bool.not_eq_true',Bool.not_eq_false]at hc;have a:=cn5 _ 0 O h;have c:=cp8 _ 0 O (cb2 _ _ (ck8 _ _ a.2));exact⟨by omega,f17 hc.1.1.1.1.1.2,by omega,a.1,λk h0 h1=>Nat.le_trans (a.1 k h0 h1) OO,c⟩
def RL(z:List (List Int))(n:Int)(m:Int):Prop:=∀k:Int,0<=k->k < m->k < z.length->((ix z k).length:Int)=n
theorem eu5{z:List (List Int)}{n:Int}:RL z n 0:=λk h0 h1 _=>by omega
theorem xj{α:Type}[Inhabited α]{l:List α}{i k:Int}{a:α}(h0:0<=k)(h1:k < l.length)(hi:0<=i):ix (l.set i.toNat a) k=if k=i then a else ix l k:=by
 rw[ul h0 (by rw[List.length_set];exact h1),ul h0 h1,List.getElem_set];by_cases e:k=i
 ·subst e;simp
 ·rw[if_neg V,if_neg e]
theorem eg0{z:List (List Int)}{n m:Int}{r:List Int}(h:RL z n m)(h0:0<=m)(hr:(r.length:Int)=n):RL (z.set m.toNat r) n (m+1):=λk k0 k1 k2=>by
 rw[List.length_set]at k2;rw[xj k0 k2 h0];split
 ·exact hr
 ·exact h k k0 V k2
theorem wc{z:List (List Int)}{n m i:Int}{j:Nat}{v:Int}(h:RL z n m)(h0:0<=i)(h1:i < m)(h2:i < z.length):RL (z.set i.toNat ((ix z i).set j v)) n m:=λk k0 k1 k2=>by
 rw[List.length_set]at k2;rw[xj k0 k2 h0];split
 ·rw[List.length_set];exact h i h0 h1 h2
 ·exact h k k0 k1 k2
theorem df1{z:List (List Int)}{n m m':Int}(h:RL z n m)(hm:m'<=m):RL z n m':=λk k0 k1 k2=>h k k0 V k2
theorem bj7(s:List UInt8):∀(m:Nat)(i:Int),m=Int.toNat ((s.length:Int)-i)->0<=i->i<=s.length->decide (ou s ll (λx=>x) m i=(s.length:Int))=kf s (λ_=>true) m i
 |0,i,hm,h0,h1=>by
  show decide (i=(s.length:Int))=true
  simp;omega
 |m+1,i,hm,h0,h1=>by
  simp only[ou,kf,LET];have hlt:i < s.length:=by omega
  have e1:qh=nr:=O;have e2:rn=pg:=O;simp only[hlt,decide_true,Bool.true_and,ll,LET,e1,e2];have ih:=bj7 s m (i+1) V V V;cases nr (ix s i)<;>cases pg (ix s i)<;>by_cases h:ix s i=95<;>simp[h,ih]<;>omega
theorem bh3(s:List UInt8):li s=ki s:=by
 have e1:qh=nr:=O;have h0:decide ((s.length:Int)=0)=decide (s=[]):=by
  rw[Bool.eq_iff_iff,decide_eq_true_eq,decide_eq_true_eq];simp
 simp only[li,ki,LET,e1,h0,uw];split
 ·rfl
 ·exact bj7 s _ 0 O V V
theorem cb1(p:af)(r:aa):po p r=rx p r:=O
theorem ch2(sc:bf)(n:List ai)(w:Int):sy n sc w=iu {scope:=sc} n w:=by
 unfold sy iu;simp only[LET,ay9]
theorem dd0(s:aw)(sc:bf):re sc.Program s sc=fh {scope:=sc} s:=by
 unfold re fh;simp only[LET,ay9,cb1,ch2];by_cases k1:s.Kind=1
 ·simp[k1]
 simp only[k1,decide_false,Bool.false_eq_true,if_false];by_cases k2:s.Kind=2
 ·simp[k2]
 by_cases k3:s.Kind=3
 ·simp[k3]
 by_cases k4:s.Kind=4
 ·simp only[k4,decide_true,decide_false,Bool.false_eq_true,if_false,if_true,Bool.true_and,Int.reduceEq,Bool.not_true,Bool.or_comm];split
  ·rfl
  ·by_cases h:(pr s.Index sc).2=0
   ·by_cases q:(rx sc.Program s.Dst).1=(ix sc.Program.Registers s.Register).Width<;>simp[h,q]
   ·simp[h]
 by_cases k5:s.Kind=5
 ·simp[k5]
 simp[k2,k3,k4,k5]
theorem cm0(l:List bg)(i:Int)(hi:i<=l.length)(K:Unit->Int):∀(m:Nat)(j:Int),m=Int.toNat (i-j)->0<=j->mf l i K m j=if 0<=dv (sub l 0 i) (λa_=>gy a_ (ix l i)) (λ_=> -1) m j then 7 else K ()
 |0,j,hm,h0=>by
  rw[mf,dv,if_neg V]
 |m+1,j,hm,h0=>by
  have e:ix (sub l 0 i) j=ix l j:=by
   simp only[ix,sub,Int.toNat_zero,List.drop_zero,Nat.sub_zero,List.getD_eq_getElem?_getD];rw[List.getElem?_take_of_lt V]
  rw[mf,dv,e];by_cases h:(ix l j).Name=(ix l i).Name
  ·have h2:gy (ix l j) (ix l i)=true:=by simp[gy,h]
   rw[if_pos (by simp[h]),if_pos h2,if_pos h0]
  ·have h2:gy (ix l j) (ix l i)=false:=by simp[gy,h]
   rw[if_neg (by simp[h]:¬(decide ((ix l j).Name=(ix l i).Name)=true)),if_neg (by simp[h2]:¬((λa_=>gy a_ (ix l i)) (ix l j)=true))];exact cm0 l i hi K m (j+1) V V
theorem ba3(a:bt):∀(m:Nat)(i:Int),m=Int.toNat ((a.Params.length:Int)-i)->0<=i->mh a.Params (λ_=>0) m i=jb a (λ_=>0) m i
 |0,i,hm,h0=>rfl
 |m+1,i,hm,h0=>by
  rw[mh,jb];simp only[LET,bh3];have hl:=za (l:=a.Params) (a:=0) (b:=i) V V V;have e:=cm0 a.Params i V (λ_=>mh a.Params (λ_=>0) m (i+1)) (Int.toNat (i-0)) 0 O (Int.le_refl _);rw[e,ba3 a m (i+1) V V];unfold ib io;simp only[LET];rw[show(((sub a.Params 0 i).length:Int)-0).toNat=(i-0).toNat by omega];simp only[decide_eq_true_eq]
theorem cb0(a:bt):ry a.Params=jb a (λ_=>0) (Int.toNat ((a.Params.length:Int)-0)) 0:=ba3 a _ 0 O (Int.le_refl _)
theorem ay0(p:af)(i:Int)(K:Unit->Int×Int):∀(m:Nat)(j:Int),pq p i K m j=lg p i K m j
 |0,j=>rfl
 |m+1,j=>by
  rw[pq,lg];simp only[LET,ay0 p i K m (j+1)];have e:=dd0 (ix (ix p.Actions i).Body j) (uf p i);have e2:(uf p i).Program=p:=O;rw[e2]at e;rw[e];rfl
theorem al7(p:af)(i:Int):ny p i=ng p i:=by
 unfold ny ng;split
 ·rfl
 simp only[LET,ay0,<-bh3,cb0];unfold lk;simp only[LET];split
 ·simp
 split
 ·simp
 ·rfl
theorem dc{p:af}{i:Int}{y:Int×Int}(h:ny p i=y)(h2:y.2=0):(0<=i/\i < p.Actions.length)/\BO p (ix p.Actions i).Body:=by
 rw[al7]at h;refine⟨cp2 h h2,?_⟩;have b:=xz (p:=p) (i:=i) O;unfold kw at b;simp only[LET]at b;rw[if_neg (by rw[h,h2];simp)]at b;exact b
theorem ah2(x y:aa):ke x y=decide (x.Header < y.Header\/(x.Header=y.Header/\x.Field < y.Field)):=by
 unfold ke;rw[Bool.eq_iff_iff];simp
theorem bj4:STO ke where
 irr x:=by rw[ah2];simp
 trans x y z h1 h2:=by rw[ah2]at*;simp at*;omega
 total x y h1 h2:=by
  rw[ah2]at h1 h2;obtain⟨a,b⟩:=x;obtain⟨c,d⟩:=y;simp at h1 h2;have e1:a=c:=by omega
  subst e1;have e2:b=d:=by omega
  subst e2;rfl
theorem aq8:STO (λa b:Int=>decide (a < b)) where
 irr x:=by simp
 trans x y z h1 h2:=by simp at*;omega
 total x y h1 h2:=by simp at*;omega
theorem ca9(l:List aa):lj l=l.mergeSort λx y=>!ke y x:=by
 unfold lj
 congr 1
 funext x y
 rw[ah2];have:=bm4 y x;unfold Go.Proofs.ltOf at this;rw[this]
theorem af4(l:List Int):en l=l.mergeSort λx y=>!(λa b:Int=>decide (a < b)) y x:=by
 unfold en
 congr 1
 funext x y
 rw[Bool.eq_iff_iff];simp
theorem ae3(x0:List ai):∀(m:Nat)(z:List aa)(i:Int),m=Int.toNat ((x0.length:Int)-i)->0<=i->lf x0 (λz=>z) m z i=(frs (x0.drop i.toNat)).foldl (λacc x=>insS ke x acc) z
 |0,z,i,hm,h0=>by
  rw[lf,List.drop_eq_nil_of_le V];simp[frs]
 |m+1,z,i,hm,h0=>by
  rw[lf,dropix (c:=x0) (i:=i) h0 V];simp only[LET,AddField_ins];unfold frs;rw[List.filter_cons];split
  ·rw[ae3 x0 m _ (i+1) V V,List.map_cons,List.foldl_cons];rfl
  ·rw[ae3 x0 m _ (i+1) V V];rfl
theorem yg(x0:List ai):∀(m:Nat)(z:List Int)(i:Int),m=Int.toNat ((x0.length:Int)-i)->0<=i->kr x0 (λz=>z) m z i=(hds (x0.drop i.toNat)).foldl (λacc x=>insS (λa b:Int=>decide (a < b)) x acc) z
 |0,z,i,hm,h0=>by
  rw[kr,List.drop_eq_nil_of_le V];simp[hds]
 |m+1,z,i,hm,h0=>by
  rw[kr,dropix (c:=x0) (i:=i) h0 V];simp only[LET,AddInt_ins];unfold hds;rw[List.filter_cons];split
  ·rw[yg x0 m _ (i+1) V V,List.map_cons,List.foldl_cons];rfl
  ·rw[yg x0 m _ (i+1) V V];rfl
theorem al5(x0:List ai):mr x0=oz x0:=by
 rw[bo0,ca9,xe bj4];unfold oz;rw[ae3 x0 _ [] 0 rfl V];rfl
theorem ae8(x0:List ai):lc x0=nd x0:=by
 rw[bj0,af4,xe aq8];unfold nd;rw[yg x0 _ [] 0 rfl V];rfl
theorem am8{n:List ai}{y:List aa}(h:oz n=y):y.length<=n.length:=by rw[<-h,<-al5];exact tr n
theorem aj3{n:List ai}{y:List Int}(h:nd n=y):y.length<=n.length:=by rw[<-h,<-ae8];exact sw n
def insF(l:List aa)(a:List aa):List aa:=l.foldl (λacc x=>insS ke x acc) a
def insI(l:List Int)(a:List Int):List Int:=l.foldl (λacc x=>insS (λa b=>decide (a < b)) x acc) a
theorem bj9:∀(l a:List aa),(insF l a).length<=a.length+l.length
 |[],a=>by simp[insF]
 |x::l,a=>by
  have h:=bj9 l (insS ke x a);have h2:=vf ke x a;show(insF l (insS ke x a)).length<=_
  simp only[List.length_cons];omega
theorem ud:∀(l a:List Int),(insI l a).length<=a.length+l.length
 |[],a=>by simp[insI]
 |x::l,a=>by
  have h:=ud l (insS (λa b=>decide (a < b)) x a);have h2:=vf (λa b:Int=>decide (a < b)) x a;show(insI l (insS (λa b=>decide (a < b)) x a)).length<=_
  simp only[List.length_cons];omega
theorem as6(l:List Int)(K:av->av):∀(m:Nat)(i:Int)(a:av),m=Int.toNat ((l.length:Int)-i)->0<=i->lp l K m i a=K {Fields:=a.Fields,Headers:=insI (l.drop i.toNat) a.Headers,Registers:=a.Registers}
 |0,i,a,hm,h0=>by
  rw[lp,List.drop_eq_nil_of_le V];rfl
 |m+1,i,a,hm,h0=>by
  rw[lp];simp only[LET];rw[as6 l K m (i+1) _ V V,dropix (c:=l) (i:=i) h0 V,AddInt_ins];rfl
theorem au9(l:List aa)(K:av->av):∀(m:Nat)(i:Int)(a:av),m=Int.toNat ((l.length:Int)-i)->0<=i->lm l K m i a=K {Fields:=insF (l.drop i.toNat) a.Fields,Headers:=a.Headers,Registers:=a.Registers}
 |0,i,a,hm,h0=>by
  rw[lm,List.drop_eq_nil_of_le V];rfl
 |m+1,i,a,hm,h0=>by
  rw[lm];simp only[LET];rw[au9 l K m (i+1) _ V V,dropix (c:=l) (i:=i) h0 V,AddField_ins];rfl
theorem ar0(a:av)(n:List ai):ph a n={Fields:=insF (mr n) a.Fields,Headers:=insI (lc n) a.Headers,Registers:=a.Registers}:=by
 unfold ph;simp only[LET];rw[au9 _ _ _ _ _ rfl (Int.le_refl _),as6 _ _ _ _ _ rfl (Int.le_refl _),al5,ae8];rfl
theorem an6{a y:av}{n:List ai}(h:ph a n=y):y.Fields.length<=a.Fields.length+n.length/\y.Headers.length<=a.Headers.length+n.length/\y.Registers.length=a.Registers.length:=by
 subst h;rw[ar0];have h1:=bj9 (mr n) a.Fields;have h2:=ud (lc n) a.Headers;have h3:=tr n;have h4:=sw n;exact⟨by show(insF _ _).length<=_;omega,by show(insI _ _).length<=_;omega,rfl⟩
theorem ay7(l:List Int)(c:Int)(K:Int->List Int):∀(k:List Int)(d:Nat)(m:Nat),l.drop d=k->m=l.length-d->d<=l.length->∃e:Nat,d<=e/\e<=l.length/\mm l c K m (d:Int)=K (e:Int)/\insS (λa b=>decide (a < b)) c k=(l.drop d).take (e-d)++(if e < l.length/\ix l (e:Int)=c then l.drop e else c::l.drop e)
 |[],d,m,hk,hm,hd=>by
  have e:l.length<=d:=List.drop_eq_nil_iff.1 hk;have e2:m=0:=by omega
  subst e2;refine⟨d,Nat.le_refl _,hd,by rw[mm],?_⟩;rw[insS,if_neg V,hk];simp
 |x::k,d,m,hk,hm,hd=>by
  have hlt:d < l.length:=by
   rcases Nat.lt_or_ge d l.length with h|h
   ·exact h
   ·rw[List.drop_eq_nil_of_le h]at hk;cases hk
  obtain⟨m',rfl⟩:∃m',m=m'+1:=⟨m-1,by omega⟩;have hx:ix l (d:Int)=x:=by
   rw[al4 hlt];rw[List.drop_eq_getElem_cons hlt]at hk;exact(List.cons.inj hk).1
  have hk':l.drop (d+1)=k:=by
   rw[List.drop_eq_getElem_cons hlt]at hk;exact(List.cons.inj hk).2
  rw[mm,hx];by_cases h:x < c
  ·rw[if_pos (by simp[h];omega)];obtain⟨e,h1,h2,h3,h4⟩:=ay7 l c K k (d+1) m' hk' V V;refine⟨e,by omega,h2,by rw[<-h3];rfl,?_⟩;rw[insS,if_pos (by simp[h]),h4,hk,hk',show e-d=(e-(d+1))+1 by omega];rfl
  ·rw[if_neg (by simp[h])];refine⟨d,Nat.le_refl _,hd,O,?_⟩;rw[insS,if_neg (by simp[h]),Nat.sub_self,List.take_zero,List.nil_append,hx,hk];by_cases e:x=c
   ·rw[if_pos e,if_pos ⟨hlt,e⟩]
   ·rw[if_neg e,if_neg (λq=>e q.2)]
theorem xf(l:List Int)(c:Int)(hl:l.length<=4611686018427387904):nb l c=if c < 0 then l else insS (λa b=>decide (a < b)) c l:=by
 unfold nb;obtain⟨e,h1,h2,h3,h4⟩:=ay7 l c (λ(x5_105:Int)=>
  if((decide (c < 0))||((decide (x5_105 < (l.length:Int)))&&(decide ((ix l x5_105)=c))))then
   l
  else
  (((sub l 0 x5_105)++([c]:List Int))++(sub l x5_105 (l.length:Int)))) l 0 (Int.toNat ((l.length:Int)-0)) rfl V (Nat.zero_le _)
 rw[show((0:Nat):Int)=0 from rfl]at h3;rw[h3,h4];simp only[List.drop_zero,Nat.sub_zero];by_cases hc:c < 0
 ·simp[hc]
 ·rw[if_neg hc];by_cases hq:e < l.length/\ix l (e:Int)=c
  ·rw[if_pos (by simp[hq.1,hq.2]),if_pos hq,List.take_append_drop]
  ·have hq2:¬((decide (c < 0)||decide ((e:Int) < (l.length:Int))&&decide (ix l (e:Int)=c))=true):=by
    simp only[Bool.or_eq_true,Bool.and_eq_true,decide_eq_true_eq];rintro(h|⟨h,h'⟩)
    ·exact hc h
    ·exact hq ⟨by omega,h'⟩
   rw[if_neg hq2,if_neg hq];have e9:List.take (l.length-e) (List.drop e l)=List.drop e l:=List.take_of_length_le (by rw[List.length_drop];omega);simp[sub,e9]
theorem xp{l y:List Int}{c:Int}(h:nb l c=y)(hl:l.length<=4611686018427387904):y.length<=l.length+1:=by
 rw[xf l c hl]at h;subst h;split
 ·omega
 ·exact vf _ _ _
end Go.Proofs.YtmonnlkagniolaaGreat
