import Derived.Test.YtmonnlkagniolaaGreatKExAExFcFrBdCk
import Derived.Test.YtmonnlkagniolaaGreatKExAExFcFrBdCk
import Derived.Test.YtmonnlkagniolaaGreatPbLaw
import Derived.Test.YtmonnlkagniolaaGreatPbV
import Derived.Test.YtmonnlkagniolaaGreatKEpMu
set_option linter.all false
set_option maxRecDepth 100000
namespace Go.Proofs.YtmonnlkagniolaaGreat
open Go Go.Pb Go.RowKit
theorem bw3{p:aa}{r:ae}{y:Int}(h:fx p r=y):y<=32:=by
 subst h;unfold fx;simp only[LET]
 repeat' split
 all_goals first|omega|(rename_i hc;simp only[Bool.or_eq_true,decide_eq_true_eq,not_or]at hc;omega)
theorem ka{p:aa}{e:ax}{y:Bool}(h:mq p e=y)(hy:y=true):e.Valid.length=p.Headers.length/\e.Fields.length=p.Headers.length/\e.Metd.length=p.Metadata.length:=by
 subst hy;unfold mq at h;split at h
 ·cases h
 ·rename_i hc;simp only[Bool.or_eq_true,Bool.not_eq_true',decide_eq_false_iff_not,not_or,Decidable.not_not]at hc;omega
theorem RB.set{rs:List (List (BitVec 32))}(h:RB rs){k:Nat}{l:List (BitVec 32)}(hl:l.length<=1048576):RB (rs.set k l):=
 ⟨by rw[List.length_set];exact h.o,λx hx=>by
  rcases List.mem_or_eq_of_mem_set hx with h1|rfl
  ·exact h.i x h1
  ·exact hl⟩
theorem bq1{l:List (List (BitVec 32))}(h:∀x∈l,x.length<=1048576)(i:Int):(ix l i).length<=1048576:=by
 unfold ix;rw[List.getD_eq_getElem?_getD];cases hk:l[i.toNat]? with
 |none=>simp;decide
 |some x=>exact h x (List.mem_of_getElem? hk)
theorem EB.put{e:ax}(h:EB e)(r:ae)(v:BitVec 32):EB (putF e r v):=by
 unfold putF;split
 ·exact h.setM
 ·exact h.setF (by rw[List.length_set];exact bq1 h.i _)
theorem EB.sw{e:ax}(h:EB e)(i:Int)(b:Bool):EB (swE e i b):=by
 have:=h.setV (k:=i.toNat) (v:=b);exact this.setF (by rw[List.length_replicate];exact bq1 h.i _)
theorem aq8{x:ax}{r:ae}{y:Bool}(h:gz x r=y)(h2:y=true)(h3:r.Header= -1):0<=r.Field/\r.Field < x.Metd.length:=by
 subst h;unfold gz at h2;rw[if_pos (by simpa using h3)]at h2;simpa using h2
theorem aq7{x:ax}{r:ae}{y:Bool}(h:gz x r=y)(h2:y=true)(h3:¬r.Header= -1):((0<=r.Header/\r.Header < x.Fields.length)/\0<=r.Field)/\r.Field < (ix x.Fields r.Header).length:=by
 subst h;unfold gz at h2;rw[if_neg (by simpa using h3)]at h2;simpa using h2
theorem ch0{α:Type}{t:TR α}(h1:∀a e,t.R a e->1<=wt e):∀{l:List α}{es:List PV},All2 t.R l es->l.length<=wtL es
 |[],[],_=>by simp
 |a::l,e::es,h=>by
  obtain⟨h2,h3⟩:=h;have:=ch0 h1 h3;have:=h1 _ _ h2;simp only[wtL,List.length_cons];omega
 |[],_::_,h=>by simp[All2]at h
 |_::_,[],h=>by simp[All2]at h
theorem aw9{α:Type}{t:TR α}(h1:∀a e,t.R a e->1<=wt e){l:List α}{v:PV}(r:(tSl t).R l v):l.length<=wt v:=by
 obtain⟨⟨es,he,hl⟩,_⟩:=r;have:=ch0 h1 hl;rcases he with⟨ad,rfl,rfl⟩|⟨tg,rfl⟩
 ·simp only[wtL]at this;omega
 ·simp only[wt];omega
theorem cj8{α:Type}{t:TR α}{l:List α}{v:PV}(r:(tSl t).R l v):1<=wt v:=by
 obtain⟨⟨es,he,hl⟩,_⟩:=r;rcases he with⟨ad,rfl,rfl⟩|⟨tg,rfl⟩
 ·simp[wt]
 ·simp only[wt];omega
theorem cq3{α:Type}{t:TR α}:∀{l:List α}{es:List PV},All2 t.R l es->∀a∈l,∃e,t.R a e/\wt e<=wtL es
 |a::l,e::es,h,b,hb=>by
  obtain⟨h2,h3⟩:=h;rcases List.mem_cons.1 hb with rfl|hb
  ·exact⟨e,h2,by simp only[wtL];omega⟩
  ·obtain⟨e',h4,h5⟩:=cq3 h3 b hb;exact⟨e',h4,by simp only[wtL];omega⟩
 |[],_,_,_,hb=>by cases hb
 |_::_,[],h,_,_=>by simp[All2]at h
theorem eb7{α:Type}{t:TR α}{l:List α}{v:PV}(r:(tSl t).R l v):∀a∈l,∃e,t.R a e/\wt e<=wt v:=by
 intro a ha;obtain⟨⟨es,he,hl⟩,_⟩:=r;obtain⟨e,h1,h2⟩:=cq3 hl a ha;refine⟨e,h1,?_⟩;rcases he with⟨ad,rfl,rfl⟩|⟨tg,rfl⟩
 ·simp only[wtL]at h2;omega
 ·simp only[wt];omega
theorem wB(a:Bool)(e:PV)(h:tB.R a e):1<=wt e:=by have h':e=_:=h;subst h';simp[wt]
theorem w32(a:BitVec 32)(e:PV)(h:gv.R a e):1<=wt e:=by have h':e=_:=h;subst h';simp[wt]
theorem w8(a:UInt8)(e:PV)(h:tU8.R a e):1<=wt e:=by have h':e=_:=h;subst h';simp[wt]
theorem ew6{rs:List (List (BitVec 32))}{v:PV}(r:(tSl (tSl gv)).R rs v)(hw:wt v<=1048576):RB rs:=by
 have k5:=aw9 (λa e h=>cj8 h) r;refine⟨by omega,λl hl=>?_⟩;obtain⟨e,h1,h2⟩:=eb7 r l hl;have:=aw9 w32 h1;omega
theorem el0{e:ax}{v:PV}(r:ax.t.R e v)(hw:wt v<=1048576):EB e:=by
 have r:ax.R e v:=r;unfold ax.R at r;obtain⟨c11,c12,c13,c14,h0,hc11,hc12,hc13,hc14⟩:=r;subst h0;rw[wt]at hw;simp only[wtL]at hw;have k1:=aw9 wB hc11;have k2:=aw9 (λa e h=>cj8 h) hc12;have k3:=aw9 w32 hc13;have k4:=aw9 w8 hc14;refine⟨by omega,by omega,by omega,by omega,λl hl=>?_⟩;obtain⟨e,h1,h2⟩:=eb7 hc12 l hl;have:=aw9 w32 h1;omega
theorem bd1{v:PV}{es:List PV}(h:Wri v es)(h0:0 < es.length):∃id ver n,v= .os id ver 0 n:=by
 rcases h with e|h
 ·subst e;simp at h0
 ·exact h
structure PW(y:BitVec 64)(i:Int):Prop where
 lo:0<=i
 hi:i<=32
 eq:y.toNat=2^i.toNat
theorem pw0:PW 1#64 0:=⟨by omega,by omega,rfl⟩
theorem pw1{y:BitVec 64}{i:Int}(h:PW y i)(hi:i < 32):PW (2#64*y) (i+1):=by
 obtain⟨a,b,c⟩:=h;refine⟨by omega,by omega,?_⟩;have h1:2^i.toNat<=2^32:=Nat.pow_le_pow_right Y Y;rw[BitVec.toNat_mul,c,show(i+1).toNat=i.toNat+1 by omega,Nat.pow_succ];show 2*2^i.toNat%2^64=_
 rw[Nat.mod_eq_of_lt Y];omega
theorem PW.nz{y:BitVec 64}{i:Int}(h:PW y i):y≠0#64:=by
 rintro rfl;have h1:=h.eq;have h2:0 < 2^i.toNat:=Nat.two_pow_pos _;rw[<-h1]at h2;simp at h2
theorem yn{p:aa}{rs:List (List (BitVec 32))}{r:Int}{i:BitVec 32}{b:Bool}(h:rn p rs r i=b)(hb:b=true:=by rfl):(0<=r/\r < p.Registers.length)/\r < rs.length/\i.toNat < (ix rs r).length:=by
 subst hb;unfold rn at h;simp only[Bool.and_eq_true,decide_eq_true_eq]at h;omega
theorem cg7{r:cj}(h:¬te r=0):1<=r.Width/\r.Width<=32:=by
 unfold te at h;split at h
 ·exact absurd O h
 ·rename_i hc;simp only[Bool.or_eq_true,decide_eq_true_eq,not_or]at hc;omega
theorem EB.rSet{p:aa}{e y:ax}{r:ae}{v:BitVec 32}(h:EB e)(e1:ot p e r v=y):EB y:=by
 subst e1;unfold ot;split
 ·exact h
 ·exact h.put _ _
theorem EB.rAdd{p:aa}{e y:ax}{i:Int}(h:EB e)(e1:nt p e i=y):EB y:=by
 subst e1;unfold nt;simp only[LET];split
 ·exact h
 ·exact h.sw _ _
theorem EB.rRem{p:aa}{e y:ax}{i:Int}(h:EB e)(e1:lr p e i=y):EB y:=by
 subst e1;unfold lr;simp only[LET];split
 ·exact h
 ·exact h.sw _ _
theorem RB.rWrite{p:aa}{rs y:List (List (BitVec 32))}{r:Int}{i v:BitVec 32}(h:RB rs)(e1:ll p rs r i v=y):RB y:=by
 subst e1;unfold ll;split
 ·exact h
 ·exact h.set (by rw[List.length_set];exact bq1 h.i _)
theorem av9{p:aa}{i:Int}{y:Int×Int}(h:me p i=y)(h2:y.2=0):0<=i/\i < p.Actions.length:=by
 subst h;unfold me at h2;split at h2
 ·simp at h2
 ·rename_i h1;simp at h1;omega
theorem aq4(x0:List ab)(rec_:List ab->List ab)(hr:∀z,(rec_ z).length<=csl z):∀(m:Nat)(i:Int)(z:List ab),m=Int.toNat ((x0.length:Int)-i)->0<=i->(jr x0 rec_ (λz=>z) m i z).length<=z.length+csl (x0.drop i.toNat)
 |0,i,z,hm,h0=>by rw[jr];omega
 |m+1,i,z,hm,h0=>by
  rw[jr];simp only[LET];have:=aq4 x0 rec_ hr m (i+1) (((z++([ix x0 i]:List ab))++rec_ (ix x0 i).Then)++rec_ (ix x0 i).Else) Y Y;have h1:=hr (ix x0 i).Then;have h2:=hr (ix x0 i).Else;rw[uq (l:=x0) (i:=i) h0 Y];simp only[List.length_append,List.length_cons,List.length_nil]at this;omega
theorem ai4:∀(k:Nat)(z:List ab),(jp k z).length<=csl z
 |0,z=>by rw[jp];simp
 |k+1,z=>by
  rw[jp];unfold ou;have:=aq4 z _ (ai4 k) (Int.toNat ((z.length:Int)-0)) 0 [] O Y;simpa using this
theorem lenle{f:List ab->List ab}(h:∀z,(f z).length<=csl z){z y:List ab}(e:f z=y):y.length<=csl z:=e▸h z
theorem bq0{v:PV}{es:List PV}(h:IsSl v es):wtL es<=wt v:=by
 rcases h with⟨ad,rfl,rfl⟩|⟨tg,rfl⟩
 ·simp[wtL]
 ·simp[wt]
mutual
theorem ep2:∀(a:ab)(v:PV),ab.R a v->csn a<=wt v
 |⟨k,t,c,th,el⟩,v,h=>by
  simp only[ab.R]at h;obtain⟨c2,c3,c4,h0,h2,h3,h4⟩:=h;subst h0;obtain⟨⟨es3,i3,l3⟩,_⟩:=h3;obtain⟨⟨es4,i4,l4⟩,_⟩:=h4;have k3:=bf2 th es3 l3;have k4:=bf2 el es4 l4;have j3:=bq0 i3;have j4:=bq0 i4;simp only[csn,wt,wtL];omega
theorem bf2:∀(l:List ab)(es:List PV),ab.Rl l es->csl l<=wtL es
 |[],[],_=>by simp[csl]
 |a::l,e::es,h=>by
  simp only[ab.Rl]at h;have:=ep2 a e h.1;have:=bf2 l es h.2;simp only[csl,wtL];omega
 |[],_::_,h=>by simp[ab.Rl]at h
 |_::_,[],h=>by simp[ab.Rl]at h
end
theorem bc8{x:aa}{v:PV}(r:aa.t.R x v):csl x.Control<=wt v:=by
 obtain⟨c1,c2,c3,c4,c5,c6,c7,c8,h0,_,_,_,_,_,_,h7,_⟩:=r;obtain⟨⟨es,he,hl⟩,_⟩:=h7;have k:=bf2 _ _ ((ab.Rl_eq _ _).symm▸hl);have j:=bq0 he;subst h0;simp only[wt,wtL];omega
theorem zg{x:dj}{v:PV}(r:dj.t.R x v)(hw:wt v<=1048576):EB x.Env/\RB x.Registers:=by
 have r:dj.R x v:=r;unfold dj.R at r;obtain⟨c0,c1,c2,c3,c4,c6,h0,hc0,hc1,hc2,hc3,hc4,hc6⟩:=r;subst h0;have hw:wt c0+wt c1+wt c2+wt c3+wt c4<=1048576:=by
  rw[wt]at hw;simp only[wtL]at hw;clear hc0 hc1 hc2 hc3 hc4 hc6;omega
 have e:EB x.Env:=el0 (v:= .agg [c0,c1,c2,c3]) ⟨c0,c1,c2,c3,O,hc0,hc1,hc2,hc3⟩ (by
  clear hc0 hc1 hc2 hc3 hc4 hc6;simp only[wt,wtL];omega)
 exact⟨e,ew6 hc4 Y⟩
structure TLB(p:aa):Prop where
 hh:p.Headers.length<=1000
 hm:p.Metadata.length<=1000
 hr:p.Registers.length<=1000
 ha:p.Actions.length<=1000
 ht:p.Tables.length<=1000
 hs:p.States.length<=1000
 hd:p.Deparser.length<=1000
theorem tlb{p:aa}{b:Bool}(h:jk p=b)(hb:b=false):TLB p:=by
 subst hb;unfold jk at h;split at h
 ·cases h
 ·rename_i hc;simp only[Bool.or_eq_true,decide_eq_true_eq,not_or]at hc;exact⟨by omega,by omega,by omega,by omega,by omega,by omega,by omega⟩
theorem cz4{p:aa}{rs:List (List (BitVec 32))}{r:Int}{i v:BitVec 32}:(ll p rs r i v).length=rs.length:=by
 unfold ll
 repeat' split
 all_goals simp[ao7]
theorem ck7{p:aa}{c:cp}{s:au}{N:Nat}:∀(m:Nat)(rs:List (List (BitVec 32)))(i:Int)(e:ax),rs.length=N->(ft p c s (λrs e=>(e,rs)) m rs i e).2.length=N
 |0,rs,i,e,h=>by rw[ft];exact h
 |m+1,rs,i,e,h=>by
  rw[ft];simp only[LET]
  repeat' split
  all_goals exact ck7 m _ _ _ (by first|exact h|rw[cz4];exact h)
theorem cy8{p:aa}{c:cp}{e:ax}{rs:List (List (BitVec 32))}{y:ax×List (List (BitVec 32))}(h:jm p c e rs=y):y.2.length=rs.length:=by
 subst h;unfold jm;simp only[LET];split
 ·rfl
 ·exact ck7 _ _ _ _ O
theorem db7{n:List ak}{s:au}{y:Int×Int}(h:ma n s=y)(h2:y.2=0):Ok s n 0:=(cq (by rw[ap7]at h;exact h) h2).2.1
theorem Ok.rw{s:au}{n:List ak}{a:Int}(h:Ok s n a):ph n a s=(wd s n a,nx s n a,0):=by
 obtain⟨e1,e2⟩:=rel s n a;have:=e2 h.ok;exact Prod.ext this.1 (Prod.ext this.2 (e1.trans h.ok))
def EI(s:au)(n:List ak)(a x i:Int):Prop:=(i=0/\x=a+1)\/(i=1/\x=nx s n (a+1))\/(i=2/\x=nx s n (nx s n (a+1)))\/(i=3/\x=nx s n (nx s n (nx s n (a+1))))
section
variable{s:au}{n:List ak}{a x i:Int}
theorem dv5(h:Ok s n a):EI s n a (wr (a+1)) 0:= .inl ⟨O,h.wr1⟩
theorem bn1(h:EI s n a x i):0<=i/\i<=3:=by
 rcases h with h|h|h|h<;>omega
theorem cn8(hv:Ok s n a)(h:EI s n a x i)(hi:i < ej (ix n a).Op):Ok s n x/\a < x:=by
 rcases hv.step with t|t|t|t
 ·have:=bn1 h;omega
 ·rcases h with h|h|h|h
  ·rw[h.2];exact⟨t.2.1,by omega⟩
  all_goals omega
 ·have g1:=t.2.1.gt;rcases h with h|h|h|h
  ·rw[h.2];exact⟨t.2.1,by omega⟩
  ·rw[h.2];exact⟨t.2.2.1,by omega⟩
  all_goals omega
 ·have g1:=t.2.1.gt;have g2:=t.2.2.1.gt;rcases h with h|h|h|h
  ·rw[h.2];exact⟨t.2.1,by omega⟩
  ·rw[h.2];exact⟨t.2.2.1,by omega⟩
  ·rw[h.2];exact⟨t.2.2.2.1,by omega⟩
  ·omega
theorem dy4(hv:Ok s n a)(h:EI s n a x i){y:Int}(hy:gi (ix n a).Op=y)(hi:i < y):Ok s n x:=(cn8 hv h (by rw[<-pz,hy];exact hi)).1
theorem eh8(hv:Ok s n a)(h:EI s n a x i){y:Int}(hy:gi (ix n a).Op=y)(hi:i < y):n.length-x.toNat < n.length-a.toNat:=by
 obtain⟨k,l⟩:=cn8 hv h (by rw[<-pz,hy];exact hi);have:=k.lt;have:=hv.lo;omega
theorem at3(h:EI s n a x i){z:Int}(hz:z=nx s n x)(hi:i < 3:=by omega):EI s n a z (i+1):=by
 subst hz;rcases h with h|h|h|h
 ·exact .inr (.inl ⟨by omega,by rw[h.2]⟩)
 ·exact .inr (.inr (.inl ⟨by omega,by rw[h.2]⟩))
 ·exact .inr (.inr (.inr ⟨by omega,by rw[h.2]⟩))
 ·omega
theorem Ok.arn(h:Ok s n a):0<=ej (ix n a).Op:=by
 rcases h.step with t|t|t|t<;>(have:=t.1;omega)
theorem bw5(h:Ok s n a)(h1:¬(ix n a).Op=1)(h2:¬(ix n a).Op=2)(h3:¬(ix n a).Op=3)(h4:¬(ix n a).Op=4):0<=gi (ix n a).Op:=by
 rw[pz];exact h.arn
theorem cx4(h:Ok s n a)(h1:¬(ix n a).Op=1)(h2:¬(ix n a).Op=2)(h3:¬(ix n a).Op=3)(h4:¬(ix n a).Op=4):1<=gi (ix n a).Op:=by
 rw[pz];have:=h.arn;have e:=wl (ix n a).Op;split at e
 ·omega
 ·split at e
  ·omega
  ·split at e
   ·omega
   ·split at e<;>omega
theorem lf0(h:Ok s n a)(h1:1<=(ix n a).Op/\(ix n a).Op<=4):ej (ix n a).Op=0/\(fg s (ix n a)).2=0/\wd s n a=(fg s (ix n a)).1/\nx s n a=a+1:=by
 have e:=wl (ix n a).Op;rw[if_pos h1]at e;rcases h.step with t|t|t|t
 ·exact t
 all_goals(have:=t.1;omega)
theorem lf3(h:Ok s n a)(h1:(ix n a).Op=3):0<=(ix n a).N:=pr3 (lf0 h Y).2.1 h1
theorem lf4(h:Ok s n a)(h1:(ix n a).Op=4):0<=(ix n a).N:=pr4 (lf0 h Y).2.1 h1
end
section
variable{s:au}{n:List ak}{a:Int}{e:ax}{g:List (BitVec 32)}(rec_:List ak->Int->au->ax->List (BitVec 32)->bn)
def lfv(x:ak)(w:Int)(e:ax)(g:List (BitVec 32)):BitVec 32:=
 if x.Op=1 then BitVec.ofInt 32 x.N else if x.Op=2 then gn (BitVec.setWidth 64 (ig e {Header:=x.N,Field:=x.W})) w
 else if x.Op=3 then(if x.N < (g.length:Int)then gn (BitVec.setWidth 64 (ix g x.N)) w else 0#32)else vt (decide (x.N < (e.Valid.length:Int))&&ix e.Valid x.N)
theorem rB0(h:Ok s n a)(ha:ej (ix n a).Op=0):kx rec_ n a s e g={V:=lfv (ix n a) (wd s n a) e g,W:=wd s n a,To:=nx s n a}:=by
 have ho:1<=(ix n a).Op/\(ix n a).Op<=4:=by
  have e:=wl (ix n a).Op;split at e
  ·assumption
  ·split at e
   ·omega
   ·split at e
    ·omega
    ·split at e<;>omega
 obtain⟨_,_,_,t⟩:=lf0 h ho;unfold kx lfv;simp only[LET,h.rw,h.wr1,t,decide_eq_true_eq];split
 ·rfl
 split
 ·rfl
 split
 ·split<;>rfl
 rw[if_pos Y]
theorem rB1(h:Ok s n a)(ha:¬ej (ix n a).Op=0):kx rec_ n a s e g=jl n a s e g rec_ (λx z=>{V:=rc (ix n a) z,W:=wd s n a,To:=x}) (Int.toNat (ej (ix n a).Op)) (a+1) 0 []:=by
 have ho:¬(1<=(ix n a).Op/\(ix n a).Op<=4):=λhc=>ha (lf0 h hc).1;unfold kx;simp only[LET,h.rw,h.wr1,decide_eq_true_eq];rw[if_neg Y,if_neg Y,if_neg Y,if_neg Y,pz,Int.sub_zero]
theorem rL1(K:Int->List bn->bn)(m:Nat)(x i:Int)(z:List bn)(hi:i < ej (ix n a).Op)(h0:0<=i):jl n a s e g rec_ K (m+1) x i z=jl n a s e g rec_ K m (rec_ n x s e g).To (i+1) (z++[rec_ n x s e g]):=by
 have:=aa5 (ix n a).Op;rw[jl];simp only[LET,pz,decide_eq_true_eq];rw[if_pos hi,cz Y Y]
theorem fm6(h:Ok s n a)(ha:ej (ix n a).Op=1):kx rec_ n a s e g={V:=rc (ix n a) [rec_ n (a+1) s e g],W:=wd s n a,To:=(rec_ n (a+1) s e g).To}:=by
 rw[rB1 rec_ h Y,ha,show Int.toNat 1=0+1 from rfl,rL1 _ _ _ _ _ _ Y Y,jl];rfl
theorem fm7(h:Ok s n a)(ha:ej (ix n a).Op=2):kx rec_ n a s e g={V:=rc (ix n a) [rec_ n (a+1) s e g,rec_ n (rec_ n (a+1) s e g).To s e g],W:=wd s n a,To:=(rec_ n (rec_ n (a+1) s e g).To s e g).To}:=by
 rw[rB1 rec_ h Y,ha,show Int.toNat 2=0+1+1 from rfl,rL1 _ _ _ _ _ _ Y Y,rL1 _ _ _ _ _ _ Y Y,jl];rfl
theorem fm1(h:Ok s n a)(ha:ej (ix n a).Op=3):kx rec_ n a s e g={V:=rc (ix n a) [rec_ n (a+1) s e g,rec_ n (rec_ n (a+1) s e g).To s e g,rec_ n (rec_ n (rec_ n (a+1) s e g).To s e g).To s e g],W:=wd s n a,To:=(rec_ n (rec_ n (rec_ n (a+1) s e g).To s e g).To s e g).To}:=by
 rw[rB1 rec_ h Y,ha,show Int.toNat 3=0+1+1+1 from rfl,rL1 _ _ _ _ _ _ Y Y,rL1 _ _ _ _ _ _ Y Y,rL1 _ _ _ _ _ _ Y Y,jl];rfl
end
theorem su:∀(k:Nat)(n:List ak)(a:Int)(s:au)(e:ax)(g:List (BitVec 32)),Ok s n a->(oa k n a s e g).To=nx s n a
 |0,n,a,s,e,g,h=>rfl
 |k+1,n,a,s,e,g,h=>by
  rw[oa];rcases h.step with t|t|t|t
  ·rw[rB0 _ h t.1]
  ·rw[fm6 _ h t.1,t.2.2.2.2];exact su k n _ s e g t.2.1
  ·rw[fm7 _ h t.1,t.2.2.2.2.2,su k n _ s e g t.2.1];exact su k n _ s e g t.2.2.1
  ·rw[fm1 _ h t.1,t.2.2.2.2.2.2,su k n _ s e g t.2.1,su k n _ s e g t.2.2.1];exact su k n _ s e g t.2.2.2.1
end Go.Proofs.YtmonnlkagniolaaGreat
