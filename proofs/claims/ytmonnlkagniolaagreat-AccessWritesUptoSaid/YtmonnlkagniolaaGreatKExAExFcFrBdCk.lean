import Derived.Test.YtmonnlkagniolaaGreatKDef
import Derived.Test.YtmonnlkagniolaaGreatPbP
import Derived.Test.YtmonnlkagniolaaGreatPbV
import Derived.Test.YtmonnlkagniolaaGreatPbV
import Derived.Test.YtmonnlkagniolaaGreatKCoFo
import Derived.Test.YtmonnlkagniolaaGreatPbV
set_option linter.all false
set_option maxRecDepth 100000
namespace Go.Proofs.YtmonnlkagniolaaGreat
open Go Go.Pb Go.RowKit
theorem ya(w:Int):ru [w]=decide (1<=w/\w<=32):=by
 unfold ru;have e:(Int.toNat (((([w]:List Int)).length:Int)-0))=1:=by simp
 rw[e,mg,mg];have hx:ix ([w]:List Int) 0=w:=O;rw[hx];by_cases h:1<=w/\w<=32
 ·rw[if_neg (by simp;omega)];simp[h]
 ·rw[if_pos (by simp;omega)];simp[h]
theorem cy1{w:Int}{b:Bool}(h:ru [w]=b)(h2:b=true):0<=wr (32-w):=by
 rw[ya]at h;subst h2;simp only[decide_eq_true_eq]at h;rw[cz Y Y];omega
theorem aa5(op:Int):ej op<=3/\ -1<=ej op:=by
 unfold ej;simp only[LET]
 repeat' split
 all_goals omega
theorem ar{op y:Int}(h:ej op=y):y<=3/\ -1<=y:=by rw[<-h];exact aa5 op
theorem pr3{s:au}{x:ak}(h:(fg s x).2=0)(h1:x.Op=3):0<=x.N:=by
 unfold fg at h;rw[if_neg (by simp[h1]),if_neg (by simp[h1]),if_pos (by simp[h1])]at h;split at h
 ·cases h
 ·rename_i hc;simp only[Bool.or_eq_true,decide_eq_true_eq,not_or]at hc;omega
theorem pr4{s:au}{x:ak}(h:(fg s x).2=0)(h1:x.Op=4):0<=x.N:=by
 unfold fg at h;rw[if_neg (by simp[h1]),if_neg (by simp[h1]),if_neg (by simp[h1])]at h;split at h
 ·cases h
 ·rename_i hc;simp only[Bool.or_eq_true,decide_eq_true_eq,not_or]at hc;omega
theorem af2(s:au)(n:List ak)(rec_:au->List ak->Int->Int×Int×Int)(a:Int)(ha:0<=a)(K:Int->List Int->Int×Int×Int)(hr:∀z:Int,0<=z->(rec_ s n z).2.2=0->z < (rec_ s n z).2.1)(hK:∀x z,a < x->(K x z).2.2=0->a < (K x z).2.1):
 ∀(m:Nat)(x i:Int)(z:List Int),a < x->(dm s n rec_ K m x i z).2.2=0->a < (dm s n rec_ K m x i z).2.1
 |0,x,i,z,hx,h=>by rw[dm]at h⊢;exact hK x z hx h
 |m+1,x,i,z,hx,h=>by
  rw[dm]at h⊢;simp only[LET]at h⊢;split at h
  ·rename_i hc;simp only[Bool.not_eq_true',decide_eq_false_iff_not]at hc;exact absurd h hc
  ·rename_i hc;rw[if_neg hc];simp only[Bool.not_eq_true',decide_eq_false_iff_not,Decidable.not_not]at hc;have:=hr x Y hc;exact af2 s n rec_ a ha K hr hK m _ _ _ Y h
theorem tz:∀(k:Nat)(s:au)(n:List ak)(a:Int),0<=a->n.length<=1000000->(dp k s n a).2.2=0->a < (dp k s n a).2.1
 |0,s,n,a,ha,hn,h=>by rw[dp]at h;cases h
 |k+1,s,n,a,ha,hn,h=>by
  rw[dp]at h⊢;unfold fe at h⊢;simp only[LET]at h⊢;split at h
  ·cases h
  ·rename_i h1;rw[if_neg h1];simp only[decide_eq_true_eq,Int.not_le]at h1;have ew:wr (a+1)=a+1:=cz Y Y;split at h
   ·cases h
   ·rename_i h2;rw[if_neg h2];split at h
    ·rename_i h3;rw[if_pos h3];show a < wr (a+1)
     omega
    ·rename_i h3;rw[if_neg h3];exact af2 s n _ a ha _ (λz hz hz2=>tz k s n z hz hn hz2) (λx z hx _=>hx) _ _ _ _ Y h
theorem xn(s:au)(n:List ak)(r1 r2:au->List ak->Int->Int×Int×Int)(a:Int)(ha:0<=a)(K:Int->List Int->Int×Int×Int)(hr:∀z:Int,a < z->r1 s n z=r2 s n z)(hn:∀z:Int,0<=z->(r1 s n z).2.2=0->z < (r1 s n z).2.1):
 ∀(m:Nat)(x i:Int)(z:List Int),a < x->dm s n r1 K m x i z=dm s n r2 K m x i z
 |0,x,i,z,hx=>by rw[dm,dm]
 |m+1,x,i,z,hx=>by
  rw[dm,dm];simp only[LET,<-hr x hx];split
  ·rfl
  ·rename_i hc;simp only[Bool.not_eq_true',decide_eq_false_iff_not,Decidable.not_not]at hc;have:=hn x Y hc;exact xn s n r1 r2 a ha K hr hn m _ _ _ Y
theorem ax2:∀(k k':Nat)(s:au)(n:List ak)(a:Int),0<=a->n.length<=1000000->n.length-a.toNat < k->n.length-a.toNat < k'->dp k s n a=dp k' s n a
 |0,k',s,n,a,ha,hn,h1,h2=>by omega
 |k+1,0,s,n,a,ha,hn,h1,h2=>by omega
 |k+1,k'+1,s,n,a,ha,hn,h1,h2=>by
  rw[dp,dp];unfold fe;simp only[LET];split
  ·rfl
  ·rename_i h3;simp only[decide_eq_true_eq,Int.not_le]at h3;have ew:wr (a+1)=a+1:=cz Y Y;split
   ·rfl
   ·split
    ·rfl
    ·exact xn s n _ _ a ha _ (λz hz=>ax2 k k' s n z Y hn Y Y) (λz hz h=>tz k s n z hz hn h) _ _ _ _ Y
theorem bi4(s:au)(n:List ak)(a:Int)(ha:0<=a)(hn:n.length<=1000000):dc s n a=fe dc s n a:=by
 have e:dc s n a=fe (dp (n.length-a.toNat)) s n a:=by
  unfold dc;rw[dp]
 rw[e];unfold fe;simp only[LET];split
 ·rfl
 ·rename_i h3;simp only[decide_eq_true_eq,Int.not_le]at h3;have ew:wr (a+1)=a+1:=cz Y Y;split
  ·rfl
  ·split
   ·rfl
   ·exact xn s n _ _ a ha _ (λz hz=>ax2 (n.length-a.toNat) (n.length-z.toNat+1) s n z Y hn Y Y) (λz hz h=>tz _ s n z hz hn h) _ _ _ _ Y
theorem cnext{s:au}{n:List ak}{a:Int}(ha:0<=a)(hn:n.length<=1000000)(h:(dc s n a).2.2=0):a < (dc s n a).2.1:=tz _ s n a ha hn h
structure Ok(s:au)(n:List ak)(a:Int):Prop where
 lo:0<=a
 len:n.length<=1000000
 ok:(dc s n a).2.2=0
def nx(s:au)(n:List ak)(a:Int):Int:=(dc s n a).2.1
def wd(s:au)(n:List ak)(a:Int):Int:=(dc s n a).1
theorem Ok.lt{s:au}{n:List ak}{a:Int}(h:Ok s n a):a < n.length:=by
 have:=h.ok;rw[bi4 s n a h.lo h.len]at this;unfold fe at this;by_cases hc:(n.length:Int)<=a
 ·rw[if_pos (by simpa using hc)]at this;cases this
 ·omega
theorem Ok.wr1{s:au}{n:List ak}{a:Int}(h:Ok s n a):wr (a+1)=a+1:=by
 have:=h.lt;have:=h.len;have:=h.lo;exact cz Y Y
theorem Ok.step{s:au}{n:List ak}{a:Int}(h:Ok s n a):
 (ej (ix n a).Op=0/\(fg s (ix n a)).2=0/\wd s n a=(fg s (ix n a)).1/\nx s n a=a+1)\/
 (ej (ix n a).Op=1/\Ok s n (a+1)/\(ii (ix n a) [wd s n (a+1),0,0]).2=0/\wd s n a=(ii (ix n a) [wd s n (a+1),0,0]).1/\nx s n a=nx s n (a+1))\/
 (ej (ix n a).Op=2/\Ok s n (a+1)/\Ok s n (nx s n (a+1))/\(ii (ix n a) [wd s n (a+1),wd s n (nx s n (a+1)),0]).2=0/\wd s n a=(ii (ix n a) [wd s n (a+1),wd s n (nx s n (a+1)),0]).1/\nx s n a=nx s n (nx s n (a+1)))\/
 (ej (ix n a).Op=3/\Ok s n (a+1)/\Ok s n (nx s n (a+1))/\Ok s n (nx s n (nx s n (a+1)))/\(ii (ix n a) [wd s n (a+1),wd s n (nx s n (a+1)),wd s n (nx s n (nx s n (a+1)))]).2=0/\wd s n a=(ii (ix n a) [wd s n (a+1),wd s n (nx s n (a+1)),wd s n (nx s n (nx s n (a+1)))]).1/\nx s n a=nx s n (nx s n (nx s n (a+1)))):=by
 have hlt:=h.lt;have hw:=h.wr1;have hok:=h.ok;have hlo:=h.lo;have har:=aa5 (ix n a).Op;have e:dc s n a=fe dc s n a:=bi4 s n a h.lo h.len;have mk:∀z:Int,0<=z->(dc s n z).2.2=0->Ok s n z:=λz h0 h1=>⟨h0,h.len,h1⟩;simp only[wd,nx];rw[e]at hok⊢;unfold fe at hok⊢;simp only[LET,hw]at hok⊢;rw[if_neg (show¬(decide ((n.length:Int)<=a)=true) by simpa using hlt)]at hok⊢;by_cases hn:ej (ix n a).Op < 0
 ·rw[if_pos (by simpa using hn)]at hok;cases hok
 rw[if_neg (show¬(decide (ej (ix n a).Op < 0)=true) by simpa using hn)]at hok⊢;by_cases h0:ej (ix n a).Op=0
 ·rw[if_pos (by simpa using h0)]at hok⊢;exact .inl ⟨h0,hok,O,O⟩
 rw[if_neg (show¬(decide (ej (ix n a).Op=0)=true) by simpa using h0)]at hok⊢;right;have hcase:ej (ix n a).Op=1\/ej (ix n a).Op=2\/ej (ix n a).Op=3:=by omega
 rcases hcase with ha|ha|ha
 ·left;rw[ha]at hok⊢;rw[show Int.toNat (1-0)=1 from rfl]at hok⊢;simp only[dm,LET]at hok⊢;by_cases c1:(dc s n (a+1)).2.2=0
  ·rw[if_neg (by simp[c1])]at hok⊢;exact⟨trivial,mk _ Y c1,hok,O,O⟩
  ·rw[if_pos (by simp[c1])]at hok;exact absurd hok c1
 ·right;left;rw[ha]at hok⊢;rw[show Int.toNat (2-0)=2 from rfl]at hok⊢;simp only[dm,LET]at hok⊢;by_cases c1:(dc s n (a+1)).2.2=0
  ·rw[if_neg (by simp[c1])]at hok⊢;have n1:=cnext (s:=s) (n:=n) (a:=a+1) Y h.len c1;by_cases c2:(dc s n (dc s n (a+1)).2.1).2.2=0
   ·rw[if_neg (by simp[c2])]at hok⊢;exact⟨trivial,mk _ Y c1,mk _ Y c2,hok,O,O⟩
   ·rw[if_pos (by simp[c2])]at hok;exact absurd hok c2
  ·rw[if_pos (by simp[c1])]at hok;exact absurd hok c1
 ·right;right;rw[ha]at hok⊢;rw[show Int.toNat (3-0)=3 from rfl]at hok⊢;simp only[dm,LET]at hok⊢;by_cases c1:(dc s n (a+1)).2.2=0
  ·rw[if_neg (by simp[c1])]at hok⊢;have n1:=cnext (s:=s) (n:=n) (a:=a+1) Y h.len c1;by_cases c2:(dc s n (dc s n (a+1)).2.1).2.2=0
   ·rw[if_neg (by simp[c2])]at hok⊢;have n2:=cnext (s:=s) (n:=n) Y h.len c2;by_cases c3:(dc s n (dc s n (dc s n (a+1)).2.1).2.1).2.2=0
    ·rw[if_neg (by simp[c3])]at hok⊢;exact⟨trivial,mk _ Y c1,mk _ Y c2,mk _ Y c3,hok,O,O⟩
    ·rw[if_pos (by simp[c3])]at hok;exact absurd hok c3
   ·rw[if_pos (by simp[c2])]at hok;exact absurd hok c2
  ·rw[if_pos (by simp[c1])]at hok;exact absurd hok c1
theorem Ok.gt{s:au}{n:List ak}{a:Int}(h:Ok s n a):a < nx s n a:=cnext h.lo h.len h.ok
theorem cq{n:List ak}{s:au}{y:Int×Int}(h:mh n s=y)(h2:y.2=0):n.length<=24/\Ok s n 0/\y.1=wd s n 0/\(n.length:Int)<=nx s n 0:=by
 subst h;unfold mh at h2⊢;simp only[LET]at h2⊢;split at h2
 ·cases h2
 ·rename_i h3;rw[if_neg h3];simp only[decide_eq_true_eq,Int.not_lt]at h3;split at h2
  ·rename_i h4;simp only[Bool.not_eq_true',decide_eq_false_iff_not]at h4;exact absurd h2 h4
  ·rename_i h4;rw[if_neg h4];simp only[Bool.not_eq_true',decide_eq_false_iff_not,Decidable.not_not]at h4;split at h2
   ·cases h2
   ·rename_i h5;rw[if_neg h5];simp only[decide_eq_true_eq,Int.not_lt]at h5;exact⟨by omega,⟨by omega,by omega,h4⟩,rfl,h5⟩
theorem wl(op:Int):ej op=if 1<=op/\op<=4 then 0 else if 5<=op/\op<=8 then 1 else if 9<=op/\op<=16 then 2 else if op=17 then 3 else -1:=by
 by_cases h:1<=op/\op<=17
 ·have:op=1\/op=2\/op=3\/op=4\/op=5\/op=6\/op=7\/op=8\/op=9\/op=10\/op=11\/op=12\/op=13\/op=14\/op=15\/op=16\/op=17:=by omega
  rcases this with rfl|rfl|rfl|rfl|rfl|rfl|rfl|rfl|rfl|rfl|rfl|rfl|rfl|rfl|rfl|rfl|rfl<;>rfl
 ·rw[if_neg Y,if_neg Y,if_neg Y,if_neg Y];have e:∀k:Int,1<=k->k<=17->decide (op=k)=false:=λk h1 h2=>by simp;omega
  unfold ej;simp only[LET,e 1 Y Y,e 2 Y Y,e 3 Y Y,e 4 Y Y,e 5 Y Y,e 6 Y Y,e 7 Y Y,e 8 Y Y,e 9 Y Y,e 10 Y Y,e 11 Y Y,e 12 Y Y,e 13 Y Y,e 14 Y Y,e 15 Y Y,e 16 Y Y,e 17 Y Y,Bool.false_eq_true,if_false]
theorem ah0(x:ak)(u v w:Int)(ho:5<=x.Op/\x.Op<=17):ii x [u,v,w]=
 if x.Op=5 then(u,0)else if x.Op=6\/x.Op=7 then(if x.N < 0\/31 < x.N then(0,9)else(u,0))else
 if x.Op=8 then(if x.N < 0 then(0,9)else if¬(nr x.W).2=0\/wr (u-x.W) < x.N then(0,10)else(x.W,0))else
 if x.Op=14 then nr (wr (u+v))else if x.Op=17 then(if¬u=1\/¬v=w then(0,10)else(v,0))else
 if¬u=v then(0,10)else if x.Op=15\/x.Op=16 then(1,0)else(u,0):=by
 have e0:ix [u,v,w] 0=u:=O;have e1:ix [u,v,w] 1=v:=O;have e2:ix [u,v,w] 2=w:=O;have:x.Op=5\/x.Op=6\/x.Op=7\/x.Op=8\/x.Op=9\/x.Op=10\/x.Op=11\/x.Op=12\/x.Op=13\/x.Op=14\/x.Op=15\/x.Op=16\/x.Op=17:=by omega
 unfold ii;simp only[LET,e0,e1,e2];rcases this with h|h|h|h|h|h|h|h|h|h|h|h|h<;>simp[h,wl]
theorem pz(op:Int):gi op=ej op:=by
 rw[wl];unfold gi;simp only[Bool.and_eq_true,decide_eq_true_eq]
theorem ay5(op:Int):gi op<=3/\ -1<=gi op:=by rw[pz];exact aa5 op
theorem rar{op y:Int}(h:gi op=y):y<=3/\ -1<=y:=by rw[<-h];exact ay5 op
theorem opl{x:Int}{op:Int}(h:x=gi op):(5<=op/\op<=8->x=1)/\(9<=op/\op<=16->x=2)/\(op=17->x=3)/\(op<=4->x<=0)/\(18<=op->x<=0):=by
 rw[pz,wl]at h;subst h;split
 ·omega
 ·split
  ·omega
  ·split
   ·omega
   ·split<;>omega
theorem rval{w:Int}{y:Bool}(h:iu w=y)(h2:y=true):1<=w/\w<=32:=by
 rw[h2]at h;unfold iu at h;simpa using h
theorem jor{p q:Prop}[Decidable p][Decidable q]{x:Bool}(h:x=(if decide p=true then decide p else decide q))(hx:x=false):¬p/\¬q:=by
 subst hx;by_cases hp:p
 ·simp[hp]at h
 ·simp[hp]at h;exact⟨hp,h⟩
theorem rpow{w:Int}(h:0<=w/\w<=32):(ju w).toNat=2^w.toNat:=by
 have:∃k:Fin 33,w=(k.val:Int):=⟨⟨w.toNat,by omega⟩,by simp;omega⟩;obtain⟨k,rfl⟩:=this;clear h;revert k;decide+kernel
theorem bl4{w:Int}(h:0<=w/\w<=32):ju w≠0#64:=by
 intro hc;have h1:=rpow h;rw[hc]at h1;have h2:0 < 2^w.toNat:=Nat.two_pow_pos _;have h3:(0#64).toNat=0:=O;omega
theorem ds7{w:Int}{b:Bool}{y:BitVec 64}(h:iu w=b)(h2:b=true)(h3:ju w=y):y≠0#64:=by
 have:=rval h h2;rw[<-h3];exact bl4 Y
theorem co4{n w:Int}{b:Bool}{y:BitVec 64}(h:iu w=b)(h2:(b=true/\¬n < 0)/\¬wr (32-w) < n)(h3:ju n=y):y≠0#64:=by
 have:=rval h h2.1.1;rw[<-h3];have e:=h2.2;rw[cz Y Y]at e;exact bl4 Y
theorem rslc{n w:Int}{b:Bool}(h2:(b=true/\¬n < 0)/\¬wr (32-w) < n)(hw:1<=w/\w<=32:=by omega):0<=n/\n<=32-w:=by
 have e:=h2.2;rw[cz Y Y]at e;omega
theorem bk7(w:Int):qs w=nr w:=O
theorem cx0(w:Int):ol w=kn w:=by
 by_cases h:1<=w/\w<=32
 ·have:∃k:Fin 33,w=(k.val:Int):=⟨⟨w.toNat,by omega⟩,by simp;omega⟩;obtain⟨k,rfl⟩:=this;revert h;revert k;decide+kernel
 ·unfold ol kn iu;simp only[LET,ya];rw[if_pos (by simp;omega),if_pos (by simp;omega)]
theorem cz0(x:ak)(s:au):uc x s=fg s x:=by
 unfold uc fg;simp only[LET,cx0,bk7];unfold ni lu;simp only[LET];by_cases h1:x.Op=1
 ·simp only[h1,decide_true,if_true];try rfl
 ·simp only[h1,decide_false,if_false,Bool.false_eq_true];by_cases h2:x.Op=2
  ·simp only[h2,decide_true,if_true];by_cases h3:x.N= -1
   ·simp only[h3,decide_true,Bool.not_true,if_false,Bool.false_eq_true];by_cases h4:(decide (x.W < 0)||decide ((s.Program.Metadata.length:Int)<=x.W))=true
    ·simp only[h4,if_true,Bool.not_false]
    ·simp only[h4,if_false,Bool.not_true,Bool.false_eq_true]
   ·simp only[h3,decide_false,Bool.not_false,if_true];by_cases h5:(decide (x.N < 0)||decide ((s.Program.Headers.length:Int)<=x.N))=true
    ·simp only[h5,if_true,Bool.not_false]
    ·simp only[h5,if_false,Bool.false_eq_true];by_cases h4:(decide (x.W < 0)||decide (((ix s.Program.Headers x.N).Fields.length:Int)<=x.W))=true
     ·simp only[h4,if_true,Bool.not_false]
     ·simp only[h4,if_false,Bool.not_true,Bool.false_eq_true]
  ·simp only[h2,decide_false,if_false,Bool.false_eq_true]
theorem bj4(x:ak):(∀u,5<=x.Op/\x.Op<=8->iw x [u]=ii x [u,0,0])/\(∀u v,9<=x.Op/\x.Op<=16->iw x [u,v]=ii x [u,v,0])/\(∀u v w,x.Op=17->iw x [u,v,w]=ii x [u,v,w]):=by
 refine⟨λu h=>?_,λu v h=>?_,λu v w h=>?_⟩
 ·have e0:ix [u] 0=u:=O;rw[ah0 _ _ _ _ Y];unfold iw;simp only[LET,e0];have:x.Op=5\/x.Op=6\/x.Op=7\/x.Op=8:=by omega
  rcases this with h|h|h|h
  ·simp[h]
  ·simp[h]
  ·simp[h]
  ·simp only[h];by_cases h1:x.N < 0
   ·simp[h1]
   ·unfold nr;by_cases h2:x.W < 1\/32 < x.W
    ·simp[h1,h2]
    ·have h3:¬x.W < 1:=by omega
     have h4:¬32 < x.W:=by omega
     simp[h1,h3,h4]
 ·have e0:ix [u,v] 0=u:=O;have e1:ix [u,v] 1=v:=O;rw[ah0 _ _ _ _ Y];unfold iw;simp only[LET,e0,e1];have:x.Op=9\/x.Op=10\/x.Op=11\/x.Op=12\/x.Op=13\/x.Op=14\/x.Op=15\/x.Op=16:=by omega
  rcases this with h|h|h|h|h|h|h|h<;>simp[h,bk7]
 ·have e0:ix [u,v,w] 0=u:=O;have e1:ix [u,v,w] 1=v:=O;have e2:ix [u,v,w] 2=w:=O;rw[ah0 _ _ _ _ Y];unfold iw;simp only[LET,e0,e1,e2];simp[h]
def REL(r c:Int×Int×Int):Prop:=r.2.2=c.2.2/\(c.2.2=0->r.1=c.1/\r.2.1=c.2.1)
theorem REL.of_eq{r c:Int×Int×Int}(h:r=c):REL r c:=by subst h;exact⟨O,λ_=>⟨O,O⟩⟩
theorem cw2(s:au)(n:List ak)(r1:List ak->Int->au->Int×Int×Int)(r2:au->List ak->Int->Int×Int×Int)(hr:∀z,REL (r1 n z s) (r2 s n z))(K1 K2:Int->List Int->Int×Int×Int)(j k:Nat)(hK:∀x(z:List Int),z.length=k->K1 x z=K2 x (z++List.replicate j 0)):
 ∀(m:Nat)(x i:Int)(z:List Int),(z.length:Int)=i->z.length+m=k->REL (mb n s r1 K1 m x i z) (dm s n r2 K2 m x i (z++List.replicate (m+j) 0))
 |0,x,i,z,hi,hk=>by
  rw[mb,dm,hK x z Y,Nat.zero_add];exact .of_eq O
 |m+1,x,i,z,hi,hk=>by
  rw[mb,dm];simp only[LET];obtain⟨e1,e2⟩:=hr x;by_cases hc:(r2 s n x).2.2=0
  ·have hd:(r1 n x s).2.2=0:=e1.trans hc;rw[if_neg (show¬(!decide ((r1 n x s).2.2=0))=true by simp[hd]),if_neg (show¬(!decide ((r2 s n x).2.2=0))=true by simp[hc])];obtain⟨e3,e4⟩:=e2 hc;rw[e3,e4,show(z++List.replicate (m+1+j) (0:Int)).set i.toNat (r2 s n x).1=(z++[(r2 s n x).1])++List.replicate (m+j) 0 by
    rw[show m+1+j=(m+j)+1 by omega,List.replicate_succ,show i.toNat=z.length by omega];simp]
   exact cw2 s n r1 r2 hr K1 K2 j k hK m _ _ _ (by simp;omega) (by simp;omega)
  ·have hd:¬(r1 n x s).2.2=0:=λh=>hc (e1.symm.trans h);rw[if_pos (show(!decide ((r1 n x s).2.2=0))=true by simp[hd]),if_pos (show(!decide ((r2 s n x).2.2=0))=true by simp[hc])];exact⟨e1,λh=>absurd h hc⟩
theorem cn0:∀(k:Nat)(s:au)(n:List ak)(a:Int),REL (jc k n a s) (dp k s n a)
 |0,s,n,a=> .of_eq rfl
 |k+1,s,n,a=>by
  rw[jc,dp];unfold oo fe;simp only[LET,pz,cz0];split
  ·exact⟨O,λh=>absurd h OO⟩
  split
  ·exact⟨O,λh=>absurd h OO⟩
  split
  ·exact .of_eq O
  rename_i h1 h2 h3;simp only[decide_eq_true_eq]at h2 h3;have hb:=aa5 (ix n a).Op;have ho:=opl (pz (ix n a).Op).symm;have hz:=wl (ix n a).Op;obtain⟨o1,o2,o3⟩:=bj4 (ix n a);have main:=cw2 s n (jc k) (dp k) (cn0 k s n) (λx z=>((iw (ix n a) z).1,x,(iw (ix n a) z).2)) (λx z=>((ii (ix n a) z).1,x,(ii (ix n a) z).2)) (3-(ej (ix n a).Op).toNat) (ej (ix n a).Op).toNat ?_ (Int.toNat (ej (ix n a).Op-0)) (wr (a+1)) 0 [] O OZ
  ·rw[List.nil_append,show(ej (ix n a).Op-0).toNat+(3-(ej (ix n a).Op).toNat)=3 by omega]at main;exact main
  ·intro x z hz;have hc:ej (ix n a).Op=1\/ej (ix n a).Op=2\/ej (ix n a).Op=3:=by omega
   rcases hc with hc|hc|hc
   ·rw[hc]at hz⊢;have hl:z.length=1:=hz
    match z,hl with
    |[u],_=>rw[show[u]++List.replicate (3-Int.toNat 1) (0:Int)=[u,0,0] from rfl,o1 u Y]
   ·rw[hc]at hz⊢;have hl:z.length=2:=hz
    match z,hl with
    |[u,v],_=>rw[show[u,v]++List.replicate (3-Int.toNat 2) (0:Int)=[u,v,0] from rfl,o2 u v Y]
   ·rw[hc]at hz⊢;have hl:z.length=3:=hz
    match z,hl with
    |[u,v,w],_=>rw[show[u,v,w]++List.replicate (3-Int.toNat 3) (0:Int)=[u,v,w] from rfl,o3 u v w Y]
theorem rel(s:au)(n:List ak)(a:Int):REL (ph n a s) (dc s n a):=cn0 _ s n a
theorem bi6(k:Nat)(n:List ak)(a:Int)(s:au)(ha:0<=a)(hn:n.length<=1000000)(h:(jc k n a s).2.2=0):a < (jc k n a s).2.1:=by
 obtain⟨e1,e2⟩:=cn0 k s n a;have h':=h;rw[e1]at h';rw[(e2 h').2];exact tz k s n a ha hn h'
theorem ap7(n:List ak)(s:au):ma n s=mh n s:=by
 unfold ma mh;simp only[LET];obtain⟨e1,e2⟩:=rel s n 0;split
 ·rfl
 ·rw[e1];by_cases hc:(dc s n 0).2.2=0
  ·rw[(e2 hc).1,(e2 hc).2]
  ·have hd:(!decide ((dc s n 0).2.2=0))=true:=by simp[hc]
   simp only[hd,if_true]
theorem dropix{α:Type}[Inhabited α]{c:List α}{i:Int}(h0:0<=i)(h1:i < c.length):c.drop i.toNat=ix c i::c.drop (i+1).toNat:=by
 rw[zf h0 h1,show(i+1).toNat=i.toNat+1 by omega];exact List.drop_eq_getElem_cons Y
def frs(x0:List ak):List ae:=(x0.filter λx=>decide (x.Op=2)).map λx=>({Header:=x.N,Field:=x.W}:ae)
def hds(x0:List ak):List Int:=(x0.filter λx=>decide (x.Op=4)).map (·.N)
theorem bh4{α:Type}[Inhabited α][DecidableEq α](l:List α):(cpt l).length<=l.length:=at9 l _
theorem cm7{n:List ak}{s:au}(h:(mh n s).2=0):n.length<=24:=by
 unfold mh at h;split at h
 ·simp at h
 ·rename_i h1;simp at h1;omega
theorem bu6{c:dt}{n:List ak}{w:Int}(h:ij c n w=0):n.length<=24:=by
 unfold ij at h;simp only[LET]at h;split at h
 ·simp at h
 ·exact cm7 h
theorem db1{c:dt}{s:bf}(h:fi c s=0):(s.Kind=1\/s.Kind=5->s.Value.length<=24)/\(s.Kind=4\/s.Kind=5->s.Index.length<=24)/\(s.Kind=2\/s.Kind=3->0<=s.Header/\s.Header < c.scope.Program.Headers.length):=by
 unfold fi at h;simp only[LET]at h;by_cases k1:s.Kind=1
 ·rw[if_pos (by simp[k1])]at h;split at h
  ·simp at h
  ·exact⟨λ_=>bu6 h,λq=>by omega,λq=>by omega⟩
 rw[if_neg (by simp[k1])]at h;by_cases k2:s.Kind=2\/s.Kind=3
 ·have e:(if decide (s.Kind=2)=true then(if(decide (s.Header < 0)||decide ((c.scope.Program.Headers.length:Int)<=s.Header))=true then(8:Int)else 0)else(if(decide (s.Header < 0)||decide ((c.scope.Program.Headers.length:Int)<=s.Header))=true then 8 else 0))=0:=by
   rcases k2 with k2|k2
   ·simpa[k2]using h
   ·simpa[k2]using h
  rw[ite_self]at e;split at e
  ·simp at e
  ·rename_i h1;simp at h1;exact⟨λq=>by omega,λq=>by omega,λ_=>by omega⟩
 by_cases k4:s.Kind=4
 ·rw[if_neg (by simp;omega),if_neg (by simp;omega),if_pos (by simp[k4]),if_pos (by simp[k4])]at h;split at h
  ·simp at h
  split at h
  ·rename_i h1;rw[h]at h1;simp at h1
  ·rename_i h1;simp at h1;exact⟨λq=>by omega,λ_=>cm7 h1,λq=>by omega⟩
 by_cases k5:s.Kind=5
 ·rw[if_neg (by simp;omega),if_neg (by simp;omega),if_neg (by simp;omega),if_pos (by simp[k5])]at h;split at h
  ·simp at h
  split at h
  ·rename_i h1;rw[h]at h1;simp at h1
  ·rename_i h1;simp at h1;rw[if_pos (by simp[k5])]at h;exact⟨λ_=>bu6 h,λ_=>cm7 h1,λq=>by omega⟩
 exact⟨λq=>by omega,λq=>by omega,λq=>by omega⟩
theorem dy0(p:aa)(i:Int):∀(m:Nat)(j:Int),m=Int.toNat (((ix p.Actions i).Body.length:Int)-j)->(ja p i (λ_=>(0,0)) m j).2=0->∀k,j<=k->k < ((ix p.Actions i).Body.length:Int)->fi {scope:={Program:=p,Params:=(ix p.Actions i).Params}} (ix (ix p.Actions i).Body k)=0
 |0,j,hm,h,k,h1,h2=>by omega
 |m+1,j,hm,h,k,h1,h2=>by
  rw[ja]at h;simp only[LET]at h;split at h
  ·rename_i h3;simp at h3;exact absurd h h3
  ·rename_i h3;simp at h3;by_cases e:k=j
   ·subst e;exact h3
   ·exact dy0 p i m (j+1) Y h k Y h2
theorem ec7{p:aa}{i:Int}{y:Int×Int}(h:lc p i=y)(h2:y.2=0):0<=i/\i < p.Actions.length:=by
 subst h;unfold lc at h2;split at h2
 ·simp at h2
 ·rename_i h1;simp at h1;omega
theorem du3{a:cm}(h:jz a=0):a.Body.length<=12:=by
 unfold jz at h;simp only[LET]at h;split at h
 ·simp at h
 split at h
 ·simp at h
 ·rename_i h1;simp at h1;omega
def BO(p:aa)(l:List bf):Prop:=l.length<=12/\∀k:Int,0<=k->k < l.length->((ix l k).Kind=1\/(ix l k).Kind=5->(ix l k).Value.length<=24)/\((ix l k).Kind=4\/(ix l k).Kind=5->(ix l k).Index.length<=24)/\((ix l k).Kind=2\/(ix l k).Kind=3->0<=(ix l k).Header/\(ix l k).Header < p.Headers.length)
theorem bh2{p:aa}{i:Int}{y:List bf}(h:ko p i=y):BO p y:=by
 unfold ko at h;simp only[LET]at h;subst h;split
 ·exact⟨by simp,λk h1 h2=>absurd h2 (by simp;omega)⟩
 ·rename_i h1;simp at h1;unfold lc at h1;split at h1
  ·simp at h1
  simp only[LET]at h1;split at h1
  ·rename_i h3;simp at h3;exact absurd h1 h3
  ·rename_i h3;simp at h3;exact⟨du3 h3,λk k1 k2=>db1 (dy0 p i _ 0 O h1 k k1 k2)⟩
theorem bo_h{p:aa}{l:List bf}{k:Int}(h:BO p l)(h0:0<=k)(h1:k < l.length)(hk:(ix l k).Kind=2\/(ix l k).Kind=3):0<=(ix l k).Header/\(ix l k).Header < p.Headers.length:=(h.2 k h0 h1).2.2 hk
theorem jot{p q:Prop}[Decidable p][Decidable q]{x:Bool}(h:x=(if decide p=true then decide p else decide q))(hx:x=true):p\/q:=by
 subst h;by_cases hp:p
 ·exact .inl hp
 ·simp[hp]at hx;exact .inr hx
theorem bk2{a:kt}{y:List ae×List Int×List Int}(h:gy a=y):y.1.length<=a.fields.length/\y.2.1.length<=a.headers.length/\y.2.2.length<=a.registers.length:=by
 subst h;unfold gy;simp only[LET];refine⟨Nat.le_trans (bh4 _) ?_,Nat.le_trans (bh4 _) ?_,Nat.le_trans (bh4 _) ?_⟩
 ·rw[jo,List.length_mergeSort];exact Nat.le_refl _
 ·rw[je,List.length_mergeSort];exact Nat.le_refl _
 ·rw[je,List.length_mergeSort];exact Nat.le_refl _
def SmH(p:aa):Prop:=∀k:Int,0<=k->k < p.Headers.length->(ix p.Headers k).Fields.length<=1000
def AB(p:aa):Prop:=SmH p/\∀k:Int,0<=k->k < p.Tables.length->(ix p.Tables k).Keys.length<=24/\(ix p.Tables k).Actions.length<=24
def nn(l:List Int):List Int:=l.filter λx=>decide (0<=x)
theorem bf0(l:List Int):(nn l).length<=l.length:=List.length_filter_le _ _
theorem as2(n:Int)(c:ay):gj n c={p:=c.p,cells:=c.cells++nn [n]}:=by
 unfold gj nn;by_cases h:0<=n<;>simp[h]
theorem au7{n:Int}{c y:ay}(h:gj n c=y):y.cells.length<=c.cells.length+1:=by
 subst h;rw[as2];show(c.cells++nn [n]).length<=_
 have:=bf0 [n];rw[List.length_append];simpa using this
theorem cs6(l:List ae)(K:ay->ay):∀(m:Nat)(i:Int)(c:ay),m=Int.toNat ((l.length:Int)-i)->0<=i->gh l K m i c=K {p:=c.p,cells:=c.cells++nn ((l.drop i.toNat).map (fd c.p))}
 |0,i,c,hm,h0=>by
  rw[gh,List.drop_eq_nil_of_le Y];simp[nn]
 |m+1,i,c,hm,h0=>by
  rw[gh];simp only[LET];rw[cs6 l K m (i+1) _ Y Y,as2,dropix (c:=l) (i:=i) h0 Y];simp only[nn,List.map_cons,List.append_assoc];rw[<-List.filter_append];rfl
theorem ci2(l:List Int)(K:ay->ay):∀(m:Nat)(i:Int)(c:ay),m=Int.toNat ((l.length:Int)-i)->0<=i->gg l K m i c=K {p:=c.p,cells:=c.cells++nn ((l.drop i.toNat).map (ga c.p))}
 |0,i,c,hm,h0=>by
  rw[gg,List.drop_eq_nil_of_le Y];simp[nn]
 |m+1,i,c,hm,h0=>by
  rw[gg];simp only[LET];rw[ci2 l K m (i+1) _ Y Y,as2,dropix (c:=l) (i:=i) h0 Y];simp only[nn,List.map_cons,List.append_assoc];rw[<-List.filter_append];rfl
theorem co0(l:List Int)(K:ay->ay):∀(m:Nat)(i:Int)(c:ay),m=Int.toNat ((l.length:Int)-i)->0<=i->gf l K m i c=K {p:=c.p,cells:=c.cells++nn ((l.drop i.toNat).map (fk c.p))}
 |0,i,c,hm,h0=>by
  rw[gf,List.drop_eq_nil_of_le Y];simp[nn]
 |m+1,i,c,hm,h0=>by
  rw[gf];simp only[LET];rw[co0 l K m (i+1) _ Y Y,as2,dropix (c:=l) (i:=i) h0 Y];simp only[nn,List.map_cons,List.append_assoc];rw[<-List.filter_append];rfl
def cls(p:aa)(f:List ae)(h r:List Int):List Int:=nn (f.map (fd p))++(nn (h.map (ga p))++nn (r.map (fk p)))
theorem cm4(c:ay)(f:List ae)(h r:List Int):jh c f h r={p:=c.p,cells:=c.cells++cls c.p f h r}:=by
 unfold jh;rw[cs6 _ _ _ _ _ rfl (Int.le_refl _),ci2 _ _ _ _ _ rfl (Int.le_refl _),co0 _ _ _ _ _ rfl (Int.le_refl _)];simp[cls]
theorem dh4(p:aa)(f:List ae)(h r:List Int):(cls p f h r).length<=f.length+h.length+r.length:=by
 unfold cls;have h1:=bf0 (f.map (fd p));have h2:=bf0 (h.map (ga p));have h3:=bf0 (r.map (fk p));simp only[List.length_append,List.length_map]at*;omega
theorem dt8{c y:ay}{f:List ae}{h r:List Int}(e:jh c f h r=y):y.cells.length<=c.cells.length+(f.length+h.length+r.length):=by
 subst e;rw[cm4];show(c.cells++cls c.p f h r).length<=_
 have:=dh4 c.p f h r;rw[List.length_append];omega
def QL(r:List ae×List Int×List Int):Prop:=r.1.length<=13000/\r.2.1.length<=13000/\r.2.2.length<=13000
theorem ed4(y:List bf)(j:Int)(K:List Int->List Int->List ae->List ae×List Int×List Int)(Q:List ae×List Int×List Int->Prop)(a b:List Int):∀(m:Nat)(i:Int)(c:List ae),(∀c':List ae,c'.length=c.length+m->Q (K a b c'))->Q (ir y j K m i a b c)
 |0,i,c,h=>by rw[ir];exact h c O
 |m+1,i,c,h=>by
  rw[ir];exact ed4 y j K Q a b m (i+1) _ λc' hc=>h c' (by rw[hc];simp;omega)
theorem ed2(p:aa)(hs:SmH p)(y:List bf)(hb:BO p y)(K:List Int->List Int->List ae->List ae×List Int×List Int)(Q:List ae×List Int×List Int->Prop)(B:Nat)(hK:∀(a b:List Int)(c:List ae),a.length<=B->b.length<=B->c.length<=B->Q (K a b c)):∀(m:Nat)(j:Int)(a b:List Int)(c:List ae),m=Int.toNat ((y.length:Int)-j)->0<=j->a.length+1001*m<=B->b.length+1001*m<=B->c.length+1001*m<=B->Q (fq p y K m j a b c)
 |0,j,a,b,c,hm,h0,h1,h2,h3=>by rw[fq];exact hK a b c Y Y Y
 |m+1,j,a,b,c,hm,h0,h1,h2,h3=>by
  have bb:=hb.2 j h0 Y;have rec_:=λa' b' c'=>ed2 p hs y hb K Q B hK m (j+1) a' b' c' Y Y;rw[fq];simp only[LET];by_cases k1:(ix y j).Kind=1\/(ix y j).Kind=4
  ·have e:(if decide ((ix y j).Kind=1)=true then decide ((ix y j).Kind=1)else decide ((ix y j).Kind=4))=true:=by rcases k1 with k|k<;>simp[k]
   have:=rec_ a b (c++[(ix y j).Dst]) Y Y (by simp;omega);rcases k1 with k|k
   ·rw[if_pos (by simp[k]),if_pos (by simp[k])];exact this
   ·rw[if_neg (by simp[k]),if_pos (by simp[k])];exact this
  have n1:¬((ix y j).Kind=1):=λe=>k1 (.inl e);have n4:¬((ix y j).Kind=4):=λe=>k1 (.inr e);rw[if_neg (by simp[n1]),if_neg (by simp[n4])];by_cases k2:(ix y j).Kind=2\/(ix y j).Kind=3
  ·have hh:=bb.2.2 k2;have sm:=hs _ hh.1 hh.2;have:=ed4 y j (λa b c=>fq p y K m (j+1) a b c) Q a (b++[(ix y j).Header]) (Int.toNat ((((ix p.Headers (ix y j).Header).Fields).length:Int)-0)) 0 c λc' hc=>rec_ a (b++[(ix y j).Header]) c' Y (by simp;omega) Y;rcases k2 with k|k
   ·rw[if_pos (by simp[k]),if_pos (by simp[k])];exact this
   ·rw[if_neg (by simp[k]),if_pos (by simp[k])];exact this
  have n2:¬((ix y j).Kind=2):=λe=>k2 (.inl e);have n3:¬((ix y j).Kind=3):=λe=>k2 (.inr e);rw[if_neg (by simp[n2]),if_neg (by simp[n3])];split
  ·exact rec_ _ _ _ (by simp;omega) Y Y
  ·exact rec_ _ _ _ Y Y Y
theorem bl1{p:aa}(hs:SmH p){i:Int}{y:List ae×List Int×List Int}(h:fc p i=y):QL y:=by
 subst h;unfold fc;simp only[LET];have hb:BO p (ko p i):=bh2 O;refine ed2 p hs _ hb _ QL 12500 (λa b c h1 h2 h3=>?_) _ 0 _ _ _ O (Int.le_refl _) ?_ ?_ ?_
 ·have:=bk2 (a:=⟨c,b,a⟩) O;dsimp only at this;exact⟨by show(gy _).1.length<=_;omega,by show(gy _).2.1.length<=_;omega,by show(gy _).2.2.length<=_;omega⟩
 all_goals(have:=hb.1;simp only[List.length_nil];omega)
theorem bj2{p:aa}{u:ia}{y:bz×Bool}(h:jx p u=y)(hp:AB p):y.1.Keys.length<=24/\y.1.Actions.length<=24:=by
 subst h;unfold jx;split
 ·exact⟨by simp,by simp⟩
 ·rename_i h1;simp at h1;exact hp.2 _ Y Y
theorem cd1{h:bm}(e:ur h=true):h.Fields.length<=20:=by
 unfold ur at e;split at e
 ·cases e
 ·rename_i hc;simp only[Bool.or_eq_true,decide_eq_true_eq,not_or]at hc;omega
theorem dx4{p:aa}{K:Unit->Bool}:∀(m:Nat)(i:Int),m=Int.toNat ((p.Headers.length:Int)-i)->jt p K m i=false->(∀j,i<=j->j < p.Headers.length->(ix p.Headers j).Fields.length<=20)/\K ()=false
 |0,i,hm,h=>⟨λj h1 h2=>by omega,by rw[jt]at h;exact h⟩
 |m+1,i,hm,h=>by
  rw[jt]at h;simp only[LET]at h;split at h
  ·cases h
  ·rename_i hc;have r:=dx4 m (i+1) Y h;refine⟨λj h1 h2=>?_,r.2⟩;by_cases e:j=i
   ·subst e;exact cd1 (by simpa using hc)
   ·exact r.1 j Y h2
theorem dw9{p:aa}{K:Unit->Bool}:∀(m:Nat)(i:Int),js p K m i=false->K ()=false
 |0,i,h=>by rw[js]at h;exact h
 |m+1,i,h=>by
  rw[js]at h;simp only[LET]at h;split at h
  ·cases h
  ·exact dw9 m (i+1) h
theorem ea6{p:aa}{K:Unit->Bool}:∀(m:Nat)(i:Int),m=Int.toNat ((p.Tables.length:Int)-i)->kw p K m i=false->∀j,i<=j->j < p.Tables.length->(ix p.Tables j).Keys.length<=24/\(ix p.Tables j).Actions.length<=24
 |0,i,hm,h,j,h1,h2=>by omega
 |m+1,i,hm,h,j,h1,h2=>by
  rw[kw]at h;split at h
  ·cases h
  ·rename_i hc;simp only[Bool.or_eq_true,decide_eq_true_eq,not_or]at hc;by_cases e:j=i
   ·subst e;exact⟨by omega,by omega⟩
   ·exact ea6 m (i+1) Y h j Y h2
theorem tl{p:aa}{b:Bool}(h:jk p=b)(hb:b=false):(p.Headers.length<=16/\p.Metadata.length<=20/\p.Registers.length<=8)/\(∀j:Int,0<=j->j < p.Headers.length->(ix p.Headers j).Fields.length<=20)/\AB p:=by
 subst hb;unfold jk at h;split at h
 ·cases h
 ·rename_i hc;simp only[Bool.or_eq_true,decide_eq_true_eq,not_or]at hc;have a:=dx4 _ 0 O h;have b:=dw9 _ 0 a.2;have c:=ea6 _ 0 O b;exact⟨by omega,a.1,λk k1 k2=>Nat.le_trans (a.1 k k1 k2) OO,c⟩
theorem tlAB{p:aa}{b:Bool}(h:jk p=b)(hb:b=false):AB p:=(tl h hb).2.2
theorem bl2(s:List UInt8):∀(m:Nat)(i:Int),m=Int.toNat ((s.length:Int)-i)->0<=i->i<=s.length->decide (mi s ki (λx=>x) m i=(s.length:Int))=jf s (λ_=>true) m i
 |0,i,hm,h0,h1=>by
  show decide (i=(s.length:Int))=true
  simp;omega
 |m+1,i,hm,h0,h1=>by
  simp only[mi,jf,LET];have hlt:i < s.length:=by omega
  have e1:ny=mc:=O;have e2:qx=mm:=O;simp only[hlt,decide_true,Bool.true_and,ki,LET,e1,e2];have ih:=bl2 s m (i+1) Y Y Y;cases mc (ix s i)<;>cases mm (ix s i)<;>by_cases h:ix s i=95<;>simp[h,ih]<;>omega
theorem bn5(s:List UInt8):jy s=fb s:=by
 have e1:ny=mc:=O;have h0:decide ((s.length:Int)=0)=decide (s=[]):=by
  rw[Bool.eq_iff_iff,decide_eq_true_eq,decide_eq_true_eq];simp
 simp only[jy,fb,LET,e1,h0,vo];split
 ·rfl
 ·exact bl2 s _ 0 O Y Y
theorem cg0(p:aa)(r:ae):ni p r=rq p r:=O
theorem ck3(sc:au)(n:List ak)(w:Int):tf n sc w=ij {scope:=sc} n w:=by
 unfold tf ij;simp only[LET,ap7]
theorem de7(s:bf)(sc:au):pv sc.Program s sc=fi {scope:=sc} s:=by
 unfold pv fi;simp only[LET,ap7,cg0,ck3];by_cases k1:s.Kind=1
 ·simp[k1]
 simp only[k1,decide_false,Bool.false_eq_true,if_false];by_cases k2:s.Kind=2
 ·simp[k2]
 by_cases k3:s.Kind=3
 ·simp[k3]
 by_cases k4:s.Kind=4
 ·simp only[k4,decide_true,decide_false,Bool.false_eq_true,if_false,if_true,Bool.true_and,Int.reduceEq,Bool.not_true,Bool.or_comm];split
  ·rfl
  ·by_cases h:(mh s.Index sc).2=0
   ·by_cases q:(rq sc.Program s.Dst).1=(ix sc.Program.Registers s.Register).Width<;>simp[h,q]
   ·simp[h]
 by_cases k5:s.Kind=5
 ·simp[k5]
 simp[k2,k3,k4,k5]
theorem ci3(l:List av)(i:Int)(hi:i<=l.length)(K:Unit->Int):∀(m:Nat)(j:Int),m=Int.toNat (i-j)->0<=j->lh l i K m j=if 0<=ee (sub l 0 i) (λa_=>gq a_ (ix l i)) (λ_=> -1) m j then 7 else K ()
 |0,j,hm,h0=>by
  rw[lh,ee,if_neg Y]
 |m+1,j,hm,h0=>by
  have e:ix (sub l 0 i) j=ix l j:=by
   simp only[ix,sub,Int.toNat_zero,List.drop_zero,Nat.sub_zero,List.getD_eq_getElem?_getD];rw[List.getElem?_take_of_lt Y]
  rw[lh,ee,e];by_cases h:(ix l j).Name=(ix l i).Name
  ·have h2:gq (ix l j) (ix l i)=true:=by simp[gq,h]
   rw[if_pos (by simp[h]),if_pos h2,if_pos h0]
  ·have h2:gq (ix l j) (ix l i)=false:=by simp[gq,h]
   rw[if_neg (by simp[h]:¬(decide ((ix l j).Name=(ix l i).Name)=true)),if_neg (by simp[h2]:¬((λa_=>gq a_ (ix l i)) (ix l j)=true))];exact ci3 l i hi K m (j+1) Y Y
theorem bc2(a:cm):∀(m:Nat)(i:Int),m=Int.toNat ((a.Params.length:Int)-i)->0<=i->lj a.Params (λ_=>0) m i=io a (λ_=>0) m i
 |0,i,hm,h0=>rfl
 |m+1,i,hm,h0=>by
  rw[lj,io];simp only[LET,bn5];have hl:=as6 (l:=a.Params) (a:=0) (b:=i) Y Y Y;have e:=ci3 a.Params i Y (λ_=>lj a.Params (λ_=>0) m (i+1)) (Int.toNat (i-0)) 0 O (Int.le_refl _);rw[e,bc2 a m (i+1) Y Y];unfold gw il;simp only[LET];rw[show(((sub a.Params 0 i).length:Int)-0).toNat=(i-0).toNat by omega];simp only[decide_eq_true_eq]
theorem cd0(a:cm):sa a.Params=io a (λ_=>0) (Int.toNat ((a.Params.length:Int)-0)) 0:=bc2 a _ 0 O (Int.le_refl _)
theorem az3(p:aa)(i:Int)(K:Unit->Int×Int):∀(m:Nat)(j:Int),nl p i K m j=ja p i K m j
 |0,j=>rfl
 |m+1,j=>by
  rw[nl,ja];simp only[LET,az3 p i K m (j+1)];have e:=de7 (ix (ix p.Actions i).Body j) (qk p i);have e2:(qk p i).Program=p:=O;rw[e2]at e;rw[e];rfl
theorem cf4(p:aa)(i:Int):me p i=lc p i:=by
 unfold me lc;split
 ·rfl
 simp only[LET,az3,<-bn5,cd0];unfold jz;simp only[LET];split
 ·simp
 split
 ·simp
 ·rfl
end Go.Proofs.YtmonnlkagniolaaGreat
