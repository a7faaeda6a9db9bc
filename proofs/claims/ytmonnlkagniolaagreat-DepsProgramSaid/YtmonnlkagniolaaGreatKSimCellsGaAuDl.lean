import Derived.Test.YtmonnlkagniolaaGreatKExAExFcFrBdDbCkFe
import Derived.Test.YtmonnlkagniolaaGreatKExAExFcFrBdDbCkFe
import Derived.Test.YtmonnlkagniolaaGreatKExAExFcFrBdDbCkFe
set_option linter.unusedVariables false
set_option linter.unusedSimpArgs false
set_option maxRecDepth 100000
namespace Go.Proofs.YtmonnlkagniolaaGreat
open Go Go.Pb Go.RowKit
def st(z:cn):av:={Fields:=insF z.fields [],Headers:=insI z.headers [],Registers:=insI z.registers []}
theorem ar3(a b l:List aa):insF (a++b) l=insF b (insF a l):=by unfold insF;rw[List.foldl_append]
theorem qg(a b l:List Int):insI (a++b) l=insI b (insI a l):=by unfold insI;rw[List.foldl_append]
theorem ch0(l:List aa):ga l=l.mergeSort λx y=>!ke y x:=by
 unfold ga
 congr 1
 funext x y
 rw[ah2];have:=bk3 y x;unfold Go.Proofs.ltOf at this;rw[this]
theorem xk(z:cn):dg z=((st z).Fields,(st z).Headers,(st z).Registers):=by
 unfold dg;simp only[LET];show(cpt (ga z.fields),cpt (en z.headers),cpt (en z.registers))=_
 rw[ch0,af4,af4,xe bj4,xe aq8,xe aq8];rfl
theorem bp9(z:cn)(n:List ai):ph (st z) n=st (dx z n):=by
 rw[ar0];unfold dx st;simp only[LET,ar3,qg]
theorem co3(f:List aa)(h r:List Int)(x:Int):({Fields:=(st ⟨f,h,r⟩).Fields,Headers:=iv (st ⟨f,h,r⟩).Headers x,Registers:=(st ⟨f,h,r⟩).Registers}:av)=st ⟨f,h++[x],r⟩:=by
 simp only[st,qg,AddInt_ins];rfl
theorem dj4{c:dq}{s:aw}(h:fh c s=0):1<=s.Kind/\s.Kind<=5:=by
 by_cases k1:s.Kind=1
 ·omega
 by_cases k2:s.Kind=2
 ·omega
 by_cases k3:s.Kind=3
 ·omega
 by_cases k4:s.Kind=4
 ·omega
 by_cases k5:s.Kind=5
 ·omega
 unfold fh at h;simp[LET,k1,k2,k3,k4,k5]at h
theorem cn7(p:af)(i:Int):∀(m:Nat)(j:Int)(z:cn),lz p i (λa=>(a.Fields,a.Headers,a.Registers)) m j (st z)=ie (ix p.Actions i).Body (λz=>((dg z).1,(dg z).2.1,(dg z).2.2)) m j z
 |0,j,z=>by
  rw[lz,ie,xk]
 |m+1,j,⟨zf,zh,zr⟩=>by
  have ih:=λz=>cn7 p i m (j+1) z;rw[lz,ie];simp only[LET];generalize ix (ix p.Actions i).Body j=s;by_cases k1:s.Kind=1
  ·simp only[k1,Int.reduceEq,decide_true,decide_false,Bool.or_false,Bool.false_or,Bool.true_or,Bool.or_true,Bool.true_and,if_true,if_false,Bool.false_eq_true,Bool.or_self,bp9];generalize dx ⟨zf,zh,zr⟩ s.Value=w;obtain⟨wf,wh,wr⟩:=w;split
   ·rw[<-ih];congr 1;exact co3 _ _ _ _
   ·exact ih _
  by_cases k2:s.Kind=2
  ·simp only[k2,Int.reduceEq,decide_true,decide_false,Bool.or_false,Bool.false_or,Bool.true_or,Bool.or_true,Bool.true_and,Bool.false_and,if_true,if_false,Bool.false_eq_true,Bool.or_self];rw[<-ih];congr 1;exact co3 _ _ _ _
  by_cases k4:s.Kind=4
  ·simp only[k4,Int.reduceEq,decide_true,decide_false,Bool.or_false,Bool.false_or,Bool.true_or,Bool.or_true,Bool.true_and,Bool.false_and,if_true,if_false,Bool.false_eq_true,Bool.or_self,bp9];generalize dx ⟨zf,zh,zr⟩ s.Index=w;obtain⟨wf,wh,wr⟩:=w;split
   ·rw[<-ih];congr 1;simp only[st,qg,AddInt_ins];rfl
   ·rw[<-ih];congr 1;simp only[st,qg,AddInt_ins];rfl
  by_cases k5:s.Kind=5
  ·simp only[k5,Int.reduceEq,decide_true,decide_false,Bool.or_false,Bool.false_or,Bool.true_or,Bool.or_true,Bool.true_and,Bool.false_and,if_true,if_false,Bool.false_eq_true,Bool.or_self,bp9];exact ih _
  simp only[k1,k2,k4,k5,decide_false,Bool.or_false,Bool.false_and,if_false,Bool.false_eq_true,Bool.or_self];exact ih _
theorem az1(p:af)(i:Int):qd p i=jd p i:=by
 unfold qd jd kw;simp only[LET,al7];split
 ·simp only[List.length_nil];show _=ie [] _ 0 0 _
  rw[ie,xk];rfl
 ·exact cn7 p i _ _ ⟨[],[],[]⟩
theorem bq4{p:af}{i:Int}{y:List aa×List Int×List Int}(h:qd p i=y):QL y:=ab3 (by rw[<-az1];exact h)
theorem cb6(p:af)(i j:Int)(f:List aa)(h r:List Int)(K1:av->List aa×List Int×List Int)(K2:List Int->List Int->List aa->List aa×List Int×List Int)(hK:∀f,K1 ⟨insF f [],insI h [],insI r []⟩=K2 r (h++[(ix (ix p.Actions i).Body j).Header]) f):∀(m:Nat)(x:Int)(f:List aa),mn p i j K1 m x ⟨insF f [],insI h [],insI r []⟩=jk (ix p.Actions i).Body j K2 m x r (h++[(ix (ix p.Actions i).Body j).Header]) f
 |0,x,f=>by rw[mn,jk];exact hK f
 |m+1,x,f'=>by
  rw[mn,jk];simp only[LET];rw[<-cb6 p i j f h r K1 K2 hK m (x+1) _]
  congr 1
  simp only[ar3,AddField_ins];rfl
theorem cj0(p:af)(i:Int)(hk:∀k:Int,0<=k->k < (ix p.Actions i).Body.length->1<=(ix (ix p.Actions i).Body k).Kind/\(ix (ix p.Actions i).Body k).Kind<=5):∀(m:Nat)(j:Int)(f:List aa)(h r:List Int),m=Int.toNat (((ix p.Actions i).Body.length:Int)-j)->0<=j->jh p i (λa=>(a.Fields,a.Headers,a.Registers)) m j ⟨insF f [],insI h [],insI r []⟩=fd p (ix p.Actions i).Body (λr h f=>((dg ⟨f,h,r⟩).1,(dg ⟨f,h,r⟩).2.1,(dg ⟨f,h,r⟩).2.2)) m j r h f
 |0,j,f,h,r,hm,h0=>by
  rw[jh,fd,xk];rfl
 |m+1,j,f,h,r,hm,h0=>by
  have ih:=λf h r=>cj0 p i hk m (j+1) f h r V V;have kk:=hk j h0 V;rw[jh,fd];simp only[LET];have eF:∀x,lb (insF f []) x=insF (f++[x]) []:=λx=>by rw[ar3,AddField_ins];rfl
  have eR:∀x,iv (insI r []) x=insI (r++[x]) []:=λx=>by rw[qg,AddInt_ins];rfl
  have eH:∀x,iv (insI h []) x=insI (h++[x]) []:=λx=>by rw[qg,AddInt_ins];rfl
  by_cases k1:(ix (ix p.Actions i).Body j).Kind=1
  ·simp only[k1,decide_true,if_true,eF];exact ih _ _ _
  by_cases k4:(ix (ix p.Actions i).Body j).Kind=4
  ·simp only[k4,Int.reduceEq,decide_true,decide_false,if_true,if_false,Bool.false_eq_true,eF];exact ih _ _ _
  by_cases k2:(ix (ix p.Actions i).Body j).Kind=2\/(ix (ix p.Actions i).Body j).Kind=3
  ·have e:=cb6 p i j f h r (λa=>jh p i (λa=>(a.Fields,a.Headers,a.Registers)) m (j+1) ⟨a.Fields,iv a.Headers (ix (ix p.Actions i).Body j).Header,a.Registers⟩) (λa b c=>fd p (ix p.Actions i).Body (λr h f=>((dg ⟨f,h,r⟩).1,(dg ⟨f,h,r⟩).2.1,(dg ⟨f,h,r⟩).2.2)) m (j+1) a b c) (λf'=>by
    show jh p i _ m (j+1) ⟨insF f' [],iv (insI h []) _,insI r []⟩=_
    rw[eH];exact ih _ _ _) (Int.toNat ((((ix p.Headers (ix (ix p.Actions i).Body j).Header).Fields).length:Int)-0)) 0 f
   rcases k2 with k|k
   ·simp only[k,Int.reduceEq,decide_true,decide_false,if_true,if_false,Bool.false_eq_true];exact e
   ·simp only[k,Int.reduceEq,decide_true,decide_false,if_true,if_false,Bool.false_eq_true];exact e
  have k5:(ix (ix p.Actions i).Body j).Kind=5:=by omega
  simp only[k5,Int.reduceEq,decide_true,decide_false,if_true,if_false,Bool.false_eq_true,eR];exact ih _ _ _
theorem at1(p:af)(i:Int):pd p i=ik p i:=by
 unfold pd ik kw;simp only[LET,al7];split
 ·simp only[List.length_nil];show _=fd p [] _ 0 0 _ _ _
  rw[fd,xk];rfl
 ·rename_i hc;simp at hc;refine cj0 p i ?_ _ 0 [] [] [] O (Int.le_refl _);intro k k0 k1;unfold ng at hc;split at hc
  ·simp at hc
  simp only[LET]at hc;split at hc
  ·rename_i h3;simp at h3;exact absurd hc h3
  ·exact dj4 (cf2 p i _ 0 O hc k k0 k1)
theorem bm0{p:af}(hs:SmH p){i:Int}{y:List aa×List Int×List Int}(h:pd p i=y):QL y:=yx hs (by rw[<-at1];exact h)
def hf(p:af)(j:Int):Int:=((ix p.Headers j).Fields.length:Int)
def nfs(p:af):Nat->Int
 |0=>0
 |n+1=>nfs p n+hf p n
structure Fit(p:af):Prop where
 hh:p.Headers.length<=16
 hm:p.Metadata.length<=20
 hr:p.Registers.length<=8
 hf:∀j:Int,0<=j->j < p.Headers.length->hf p j<=20
theorem dp2(p:af)(j:Int):0<=hf p j:=Int.natCast_nonneg _
section
variable{p:af}(T:Fit p)
include T
theorem aw7:∀n:Nat,n<=p.Headers.length->0<=nfs p n/\nfs p n<=20*n
 |0,_=>by simp[nfs]
 |n+1,h=>by
  have ih:=aw7 n V;have h1:=T.hf n V V;have h2:=dp2 p n;simp only[nfs];omega
def nf(p:af):Int:=nfs p p.Headers.length
theorem nf_b:0<=nf p/\nf p<=320:=by
 have:=aw7 T p.Headers.length (Nat.le_refl _);have h:=T.hh;simp only[nf];omega
theorem ay1(K:List Int->List Int)(a b c:Int):∀(m:Nat)(i:Int),m=Int.toNat ((p.Headers.length:Int)-i)->0<=i->i<=p.Headers.length->ln p K m i [nfs p i.toNat,a,b,c]=K [nf p,a,b,c]
 |0,i,hm,h0,h1=>by
  have:i.toNat=p.Headers.length:=by omega
  rw[ln,this];rfl
 |m+1,i,hm,h0,h1=>by
  rw[ln];have h2:=aw7 T i.toNat V;have h3:=T.hf i h0 V;have h4:=dp2 p i;have hh:=T.hh;have e:([nfs p i.toNat,a,b,c]:List Int).set (0:Int).toNat (wr (ix ([nfs p i.toNat,a,b,c]:List Int) 0+((ix p.Headers i).Fields.length:Int)))=[nfs p (i+1).toNat,a,b,c]:=by
   have e1:(i+1).toNat=i.toNat+1:=by omega
   have e2:ix ([nfs p i.toNat,a,b,c]:List Int) 0=nfs p i.toNat:=O;rw[e1,e2];show wr (nfs p i.toNat+hf p i)::_=_
   rw[db V V];simp only[nfs];rw[show((i.toNat:Nat):Int)=i by omega]
  rw[e];exact ay1 K a b c m (i+1) V V V
theorem az3:nk p=[nf p,(p.Headers.length:Int),(p.Metadata.length:Int),(p.Registers.length:Int)]:=by
 unfold nk;exact ay1 T _ _ _ _ _ 0 O V V
theorem aj1(k:Int)(hk:0<=k/\k<=4):qc p k=if k=0 then 0 else if k=1 then nf p else if k=2 then nf p+p.Headers.length else if k=3 then nf p+p.Headers.length+p.Metadata.length else nf p+p.Headers.length+p.Metadata.length+p.Registers.length:=by
 have hb:=nf_b T;have h1:=T.hh;have h2:=T.hm;have h3:=T.hr;have key:∀a b c d:Int,(0<=a/\a<=320)->(0<=b/\b<=16)->(0<=c/\c<=20)->(0<=d/\d<=8)->me k [a,b,c,d] (λx=>x) 4 0 0=if k=0 then 0 else if k=1 then a else if k=2 then a+b else if k=3 then a+b+c else a+b+c+d:=by
  intro a b c d ha hb hc hd;have hx:ix ([a,b,c,d]:List Int) 0=a/\ix ([a,b,c,d]:List Int) 1=b/\ix ([a,b,c,d]:List Int) 2=c/\ix ([a,b,c,d]:List Int) 3=d:=⟨O,O,O,O⟩;have w1:wr (0+a)=a:=by rw[db V V];omega
  have w2:wr (a+b)=a+b:=db V V;have w3:wr (a+b+c)=a+b+c:=db V V;have w4:wr (a+b+c+d)=a+b+c+d:=db V V;have:k=0\/k=1\/k=2\/k=3\/k=4:=by omega
  rcases this with rfl|rfl|rfl|rfl|rfl<;>simp[me,hx.1,hx.2.1,hx.2.2.1,hx.2.2.2,w1,w2,w3,w4,db (n:=a) V V]
 unfold qc;simp only[LET,az3 T];exact key _ _ _ _ hb V V V
theorem bb8(k i:Int)(hk:0<=k/\k<=3):rr p k i=if i < 0\/ix [nf p,(p.Headers.length:Int),(p.Metadata.length:Int),(p.Registers.length:Int)] k<=i then -1 else qc p k+i:=by
 unfold rr;simp only[LET,az3 T,Bool.or_eq_true,decide_eq_true_eq];split
 ·rfl
 ·rename_i hc;simp only[not_or]at hc;have hb:=nf_b T;have h1:=T.hh;have h2:=T.hm;have h3:=T.hr;have hx:ix [nf p,(p.Headers.length:Int),(p.Metadata.length:Int),(p.Registers.length:Int)] k<=320:=by
   have:k=0\/k=1\/k=2\/k=3:=by omega
   rcases this with rfl|rfl|rfl|rfl
   ·show nf p<=320;omega
   ·show(p.Headers.length:Int)<=320;omega
   ·show(p.Metadata.length:Int)<=320;omega
   ·show(p.Registers.length:Int)<=320;omega
  have hf:0<=qc p k/\qc p k<=400:=by
   rw[aj1 T k V];split
   ·omega
   ·split
    ·omega
    ·split
     ·omega
     ·split<;>omega
  exact db V V
theorem ci5(h:Int):kp p h=if h < 0\/(p.Headers.length:Int)<=h then -1 else nf p+h:=by
 unfold kp;simp only[LET,bb8 T 1 h V,aj1 T 1 V];rfl
theorem eg4(r:Int):je p r=if r < 0\/(p.Registers.length:Int)<=r then -1 else nf p+p.Headers.length+p.Metadata.length+r:=by
 unfold je;simp only[LET,bb8 T 3 r V,aj1 T 3 V];rfl
omit T in
theorem eb5{α:Type}[Inhabited α](l:List α)(b i:Int)(h0:0<=i)(h1:i < b):ix (sub l 0 b) i=ix l i:=by
 simp only[ix,sub,Int.toNat_zero,List.drop_zero,Nat.sub_zero,List.getD_eq_getElem?_getD];rw[List.getElem?_take_of_lt V]
theorem bi7(r:aa)(K:Int->Int)(h0:0<=r.Header)(h1:r.Header < p.Headers.length)(f0:0<=r.Field)(f1:r.Field < hf p r.Header):∀(m:Nat)(i:Int),m=Int.toNat (r.Header-i)->0<=i->i<=r.Header->kb p r K m (r.Field+nfs p i.toNat) i=K (r.Field+nfs p r.Header.toNat)
 |0,i,hm,h2,h3=>by
  have:i=r.Header:=by omega
  subst this;rw[kb]
 |m+1,i,hm,h2,h3=>by
  rw[kb,eb5 p.Headers r.Header i h2 V];have b:=aw7 T i.toNat V;have h4:=T.hf i h2 V;have h5:=dp2 p i;have h6:=T.hf r.Header h0 h1;have hh:=T.hh;have e:wr (r.Field+nfs p i.toNat+((ix p.Headers i).Fields.length:Int))=r.Field+nfs p (i+1).toNat:=by
   have e1:(i+1).toNat=i.toNat+1:=by omega
   show wr (r.Field+nfs p i.toNat+hf p i)=_
   rw[db V V,e1];simp only[nfs];rw[show((i.toNat:Nat):Int)=i by omega];omega
  rw[e];exact bi7 r K h0 h1 f0 f1 m (i+1) V V V
theorem ck9(r:aa):ka p r=if r.Header= -1 then(if r.Field < 0\/(p.Metadata.length:Int)<=r.Field then -1 else nf p+p.Headers.length+r.Field)else if r.Header < 0\/(p.Headers.length:Int)<=r.Header\/r.Field < 0\/hf p r.Header<=r.Field then -1 else r.Field+nfs p r.Header.toNat:=by
 unfold ka;simp only[LET,decide_eq_true_eq,Bool.or_eq_true,bb8 T 2 r.Field V,aj1 T 2 V];split
 ·rfl
 ·split
  ·rename_i h;rw[if_pos];simp only[hf];rcases h with((h|h)|h)|h<;>omega
  ·rename_i h;have h':¬(r.Header < 0\/(p.Headers.length:Int)<=r.Header\/r.Field < 0\/hf p r.Header<=r.Field):=by
    simp only[hf];omega
   rw[if_neg h'];simp only[not_or,Int.not_lt,Int.not_le]at h';have hl:=za (l:=p.Headers) (a:=0) (b:=r.Header) V V V;have:=bi7 T r (λx=>x) V V V V (Int.toNat (((sub p.Headers 0 r.Header).length:Int)-0)) 0 V V V;simpa[nfs]using this
end
section
variable{p:af}(T:Fit p)
include T
theorem bg4(K:Int->Int)(h:Int)(h1:h<=p.Headers.length):∀(m:Nat)(i:Int),m=Int.toNat (h-i)->0<=i->i<=h->ml p K m (nfs p i.toNat) i=K (nfs p h.toNat)
 |0,i,hm,h2,h3=>by
  have:i=h:=by omega
  subst this;rw[ml]
 |m+1,i,hm,h2,h3=>by
  rw[ml];have b:=aw7 T i.toNat V;have h4:=T.hf i h2 V;have h5:=dp2 p i;have hh:=T.hh;have e:wr (nfs p i.toNat+((ix p.Headers i).Fields.length:Int))=nfs p (i+1).toNat:=by
   have e1:(i+1).toNat=i.toNat+1:=by omega
   show wr (nfs p i.toNat+hf p i)=_
   rw[db V V,e1];simp only[nfs];rw[show((i.toNat:Nat):Int)=i by omega]
  rw[e];exact bg4 K h h1 m (i+1) V V V
theorem bj1(h:Int)(h0:0<=h)(h1:h<=p.Headers.length):pc p h=nfs p h.toNat:=by
 unfold pc;have:=bg4 T (λx=>x) h h1 (Int.toNat (h-0)) 0 O V h0;simpa[nfs]using this
theorem ad4:pc p (p.Headers.length:Int)=nf p:=by
 rw[bj1 T _ V V];rfl
theorem bx5(h:Int):jf p h=if h < 0\/(p.Headers.length:Int)<=h then -1 else nf p+h:=by
 unfold jf;simp only[LET,ad4 T,Bool.or_eq_true,decide_eq_true_eq];have:=nf_b T;have:=T.hh;split
 ·rfl
 ·exact db V V
theorem dj2(r:Int):iw p r=if r < 0\/(p.Registers.length:Int)<=r then -1 else nf p+p.Headers.length+p.Metadata.length+r:=by
 unfold iw;simp only[LET,ad4 T,Bool.or_eq_true,decide_eq_true_eq];have:=nf_b T;have:=T.hh;have:=T.hm;have:=T.hr;split
 ·rfl
 ·rw[db (n:=nf p+p.Headers.length) V V,db (n:=nf p+p.Headers.length+p.Metadata.length) V V];exact db V V
theorem bx8(r:aa):gb p r=ka p r:=by
 rw[ck9 T];unfold gb;simp only[LET,ad4 T,Bool.or_eq_true,Bool.and_eq_true,decide_eq_true_eq];have b:=nf_b T;have:=T.hh;have:=T.hm;by_cases hm:r.Header= -1
 ·rw[if_pos hm];by_cases hf:0<=r.Field/\r.Field < (p.Metadata.length:Int)
  ·rw[if_pos ⟨⟨hm,hf.1⟩,hf.2⟩,if_neg V,db (n:=nf p+p.Headers.length) V V];exact db V V
  ·rw[if_neg (λh=>hf ⟨h.1.2,h.2⟩),if_pos (.inl (.inl (.inl V))),if_pos V]
 ·rw[if_neg (λh=>hm h.1.1),if_neg hm];by_cases hc:r.Header < 0\/(p.Headers.length:Int)<=r.Header\/r.Field < 0\/hf p r.Header<=r.Field
  ·rw[if_pos hc,if_pos (by simp only[hf]at hc;omega)]
  ·rw[if_neg hc,if_neg (by simp only[hf]at hc;omega)];simp only[not_or,Int.not_lt,Int.not_le]at hc;rw[bj1 T _ V V];have b2:=aw7 T r.Header.toNat V;have b3:=T.hf r.Header V V;rw[db V V];omega
-- the width of a cell
omit T in
end
theorem bf8(x:Int)(t a:List Int):insI (nn (x::t)) a=insI (nn t) (if x < 0 then a else insS (λa b=>decide (a < b)) x a):=by
 unfold nn;by_cases h:x < 0
 ·rw[List.filter_cons_of_neg (by simp;omega),if_pos h]
 ·rw[List.filter_cons_of_pos (by simp;omega),if_neg h];rfl
theorem cq7(x:Int)(a:List Int):(if x < 0 then a else insS (λa b=>decide (a < b)) x a).length<=a.length+1:=by
 split
 ·omega
 ·exact vf _ _ _
theorem ds9(p:af)(l:List aa)(K:List Int->List Int):∀(m:Nat)(i:Int)(a:List Int),m=Int.toNat ((l.length:Int)-i)->0<=i->a.length+m<=4611686018427387904->mq p l K m a i=K (insI (nn ((l.drop i.toNat).map (gb p))) a)
 |0,i,a,hm,h0,hb=>by
  rw[mq,List.drop_eq_nil_of_le V];rfl
 |m+1,i,a,hm,h0,hb=>by
  have hl:=cq7 (gb p (ix l i)) a;rw[mq];simp only[LET];rw[xf _ _ V,ds9 p l K m (i+1) _ V V V,dropix (c:=l) (i:=i) h0 V,List.map_cons,bf8]
theorem ds8(p:af)(l:List Int)(K:List Int->List Int):∀(m:Nat)(i:Int)(a:List Int),m=Int.toNat ((l.length:Int)-i)->0<=i->a.length+m<=4611686018427387904->mj p l K m a i=K (insI (nn ((l.drop i.toNat).map (jf p))) a)
 |0,i,a,hm,h0,hb=>by
  rw[mj,List.drop_eq_nil_of_le V];rfl
 |m+1,i,a,hm,h0,hb=>by
  have hl:=cq7 (jf p (ix l i)) a;rw[mj];simp only[LET];rw[xf _ _ V,ds8 p l K m (i+1) _ V V V,dropix (c:=l) (i:=i) h0 V,List.map_cons,bf8]
theorem ds3(p:af)(l:List Int)(K:List Int->List Int):∀(m:Nat)(i:Int)(a:List Int),m=Int.toNat ((l.length:Int)-i)->0<=i->a.length+m<=4611686018427387904->mu p l K m a i=K (insI (nn ((l.drop i.toNat).map (iw p))) a)
 |0,i,a,hm,h0,hb=>by
  rw[mu,List.drop_eq_nil_of_le V];rfl
 |m+1,i,a,hm,h0,hb=>by
  have hl:=cq7 (iw p (ix l i)) a;rw[mu];simp only[LET];rw[xf _ _ V,ds3 p l K m (i+1) _ V V V,dropix (c:=l) (i:=i) h0 V,List.map_cons,bf8]
def gl(p:af)(f:List aa)(h r:List Int):List Int:=nn (f.map (gb p))++(nn (h.map (jf p))++nn (r.map (iw p)))
theorem ea7(p:af)(f:List aa)(h r:List Int):(gl p f h r).length<=f.length+h.length+r.length:=by
 unfold gl;have h1:=xw (f.map (gb p));have h2:=xw (h.map (jf p));have h3:=xw (r.map (iw p));simp only[List.length_append,List.length_map]at*;omega
theorem ax0(p:af)(l:List Int)(f:List aa)(h r:List Int)(hb:l.length+(f.length+h.length+r.length)<=4000000):pb p l f h r=insI (gl p f h r) l:=by
 unfold pb;have h1:=xw (f.map (gb p));have h2:=xw (h.map (jf p));rw[List.length_map]at h1 h2;have b1:=ud (nn (f.map (gb p))) l;have b2:=ud (nn (h.map (jf p))) (insI (nn (f.map (gb p))) l);rw[ds9 _ _ _ _ _ _ rfl (Int.le_refl _) V];simp only[Int.toNat_zero,List.drop_zero];rw[ds8 _ _ _ _ _ _ rfl (Int.le_refl _) V];simp only[Int.toNat_zero,List.drop_zero];rw[ds3 _ _ _ _ _ _ rfl (Int.le_refl _) V];simp only[Int.toNat_zero,List.drop_zero];unfold gl;rw[qg,qg]
theorem ad7{p:af}{l y:List Int}{f:List aa}{h r:List Int}(e:pb p l f h r=y)(hb:l.length+(f.length+h.length+r.length)<=4000000):y.length<=l.length+(f.length+h.length+r.length):=by
 rw[ax0 p l f h r hb]at e;subst e;have h1:=ud (gl p f h r) l;have h2:=ea7 p f h r;omega
theorem ad9(c:au):fe c=insI c.cells []:=by
 unfold fe;simp only[LET];show cpt (en c.cells)=_
 rw[af4,xe aq8];rfl
section
variable{p:af}(T:Fit p)
include T
theorem cq6(f:List aa)(h r:List Int):gl p f h r=cls p f h r:=by
 have e1:gb p=ka p:=by funext x;exact bx8 T x
 have e2:jf p=kp p:=by funext x;rw[bx5 T,ci5 T]
 have e3:iw p=je p:=by funext x;rw[dj2 T,eg4 T]
 unfold gl cls;rw[e1,e2,e3]
theorem ab6(l:List Int)(f:List aa)(h r:List Int)(hb:l.length+(f.length+h.length+r.length)<=4000000):pb p l f h r=insI (cls p f h r) l:=by
 rw[ax0 p l f h r hb,cq6 T]
theorem bn1(l:List Int)(x:aa)(hb:l.length<=4000000):nb l (gb p x)=insI (cls p [x] [] []) l:=by
 rw[xf _ _ V,<-cq6 T];show _=insI (nn [gb p x]++(nn []++nn [])) l
 rw[show nn []++nn []=([]:List Int) from rfl,List.append_nil,bf8];rfl
omit T in
theorem bx0(cs:List Int)(f:List aa)(h r:List Int):fw ⟨p,cs⟩ f h r=⟨p,cs++cls p f h r⟩:=cl0 _ _ _ _
theorem ci1(u:ay)(t:ca)(ht:ix p.Tables u.Table=t)(K:List Int->List Int)(K':au->List Int)(B:Nat)(hB:B<=4000000)(hK:∀cs,(insI cs []).length<=B->K (insI cs [])=K' ⟨p,cs⟩):∀(m:Nat)(i:Int)(cs:List Int),(insI cs []).length+m<=B->oh p u K m (insI cs []) i=mg (t,true) K' m i ⟨p,cs⟩
 |0,i,cs,hb=>by rw[oh,mg];exact hK cs V
 |m+1,i,cs,hb=>by
  rw[oh,mg];simp only[LET];rw[bx0,ht,bn1 T _ _ V,<-qg];refine ci1 u t ht K K' B hB hK m (i+1) _ ?_;have h1:=ud (cls p [(ix t.Keys i).Field] [] []) (insI cs []);have h2:=aq9 p [(ix t.Keys i).Field] [] [];rw[qg];simp only[List.length_cons,List.length_nil]at h2;omega
theorem cl3(u:ay)(t:ca)(ht:ix p.Tables u.Table=t)(K:List Int->List Int)(K':au->List Int)(B:Nat)(hB:B<=4000000)(hK:∀cs,(insI cs []).length<=B->K (insI cs [])=K' ⟨p,cs⟩):∀(m:Nat)(i:Int)(cs:List Int),(insI cs []).length+39000*m<=B->ly p u K m (insI cs []) i=ld p (t,true) K' m i ⟨p,cs⟩
 |0,i,cs,hb=>by rw[ly,ld];exact hK cs V
 |m+1,i,cs,hb=>by
  have q:=ab3 (p:=p) (i:=ix t.Actions i) O;unfold QL at q;rw[ly,ld];simp only[LET];rw[bx0,ht,az1,ab6 T _ _ _ _ V,<-qg];refine cl3 u t ht K K' B hB hK m (i+1) _ ?_;have h1:=ud (cls p (jd p (ix t.Actions i)).1 (jd p (ix t.Actions i)).2.1 (jd p (ix t.Actions i)).2.2) (insI cs []);have h2:=aq9 p (jd p (ix t.Actions i)).1 (jd p (ix t.Actions i)).2.1 (jd p (ix t.Actions i)).2.2;rw[qg];omega
theorem co8(hs:SmH p)(u:ay)(t:ca)(ht:ix p.Tables u.Table=t)(K:List Int->List Int)(K':au->List Int)(B:Nat)(hB:B<=4000000)(hK:∀cs,(insI cs []).length<=B->K (insI cs [])=K' ⟨p,cs⟩):∀(m:Nat)(i:Int)(cs:List Int),(insI cs []).length+39000*m<=B->mi p u K m (insI cs []) i=lv p (t,true) K' m i ⟨p,cs⟩
 |0,i,cs,hb=>by rw[mi,lv];exact hK cs V
 |m+1,i,cs,hb=>by
  have q:=yx hs (i:=ix t.Actions i) O;unfold QL at q;rw[mi,lv];simp only[LET];rw[bx0,ht,at1,ab6 T _ _ _ _ V,<-qg];refine co8 hs u t ht K K' B hB hK m (i+1) _ ?_;have h1:=ud (cls p (ik p (ix t.Actions i)).1 (ik p (ix t.Actions i)).2.1 (ik p (ix t.Actions i)).2.2) (insI cs []);have h2:=aq9 p (ik p (ix t.Actions i)).1 (ik p (ix t.Actions i)).2.1 (ik p (ix t.Actions i)).2.2;rw[qg];omega
theorem cn9(hA:AB p)(u:ay)(hc:u.Cond.length<=60):rq p u=nh p u:=by
 unfold rq nh;simp only[LET];split
 ·rw[bx0,ad9,<-al5,<-ae8];have h1:=tr u.Cond;have h2:=sw u.Cond;rw[ab6 T _ _ _ _ (by simp only[List.length_nil];omega)];rfl
 ·rename_i hn;unfold il;split
  ·rfl
  ·rename_i hd;simp at hd;have b:=hA.2 u.Table V V;rw[if_neg OZ];have e:=ci1 T u (ix p.Tables u.Table) O (λa=>ly p u (λa=>a) (Int.toNat ((((ix p.Tables u.Table).Actions).length:Int)-0)) a 0) (λc=>ld p (ix p.Tables u.Table,true) (λc=>fe ⟨c.p,c.cells⟩) (Int.toNat ((((ix p.Tables u.Table).Actions).length:Int)-0)) 0 ⟨c.p,c.cells⟩) 24 V (λcs hcs=>cl3 T u (ix p.Tables u.Table) O (λa=>a) (λc=>fe ⟨c.p,c.cells⟩) 4000000 V (λcs' _=>(ad9 ⟨p,cs'⟩).symm) _ 0 cs V) (Int.toNat ((((ix p.Tables u.Table).Keys).length:Int)-0)) 0 [] (by show 0+_<=24;omega);exact e
theorem ca2(hA:AB p)(u:ay):qt p u=km p u:=by
 unfold qt km;simp only[LET];unfold il;split
 ·rfl
 ·rename_i hd;simp at hd;have b:=hA.2 u.Table V V;rw[if_neg OZ];exact co8 T hA.1 u (ix p.Tables u.Table) O (λa=>a) (λc=>fe ⟨c.p,c.cells⟩) 4000000 V (λcs' _=>(ad9 ⟨p,cs'⟩).symm) _ 0 [] (by show 0+_<=4000000;omega)
end
theorem Index_L1(l:List bd)(g:bd):∀(m:Nat)(j:Int),m=Int.toNat ((l.length:Int)-j)->0<=j->(0<=ek l g (λ_=> -1) m j↔∃k:Int,j<=k/\k < l.length/\g=ix l k)
 |0,j,hm,h0=>by
  rw[ek];constructor
  ·intro h;omega
  ·rintro⟨k,h1,h2,_⟩;omega
 |m+1,j,hm,h0=>by
  rw[ek];split
  ·rename_i e;simp only[decide_eq_true_eq]at e;exact⟨λ_=>⟨j,by omega,by omega,e⟩,λ_=>h0⟩
  ·rename_i e;simp only[decide_eq_true_eq]at e;rw[Index_L1 l g m (j+1) V V];constructor
   ·rintro⟨k,h1,h2,h3⟩;exact⟨k,by omega,h2,h3⟩
   ·rintro⟨k,h1,h2,h3⟩;have:k≠j:=λe2=>by subst e2;exact e h3
    exact⟨k,by omega,h2,h3⟩
theorem Contains_iff(l:List bd)(g:bd):gn l g=true↔∃k:Int,0<=k/\k < l.length/\g=ix l k:=by
 unfold gn ju;simp only[LET,decide_eq_true_eq];exact Index_L1 l g _ 0 V V
theorem IndexF_L1(l:List bd)(f:bd->Bool):∀(m:Nat)(j:Int),m=Int.toNat ((l.length:Int)-j)->0<=j->(0<=dw l f (λ_=> -1) m j↔∃k:Int,j<=k/\k < l.length/\f (ix l k)=true)
 |0,j,hm,h0=>by
  rw[dw];constructor
  ·intro h;omega
  ·rintro⟨k,h1,h2,_⟩;omega
 |m+1,j,hm,h0=>by
  rw[dw];split
  ·rename_i e;exact⟨λ_=>⟨j,by omega,by omega,e⟩,λ_=>h0⟩
  ·rename_i e;rw[IndexF_L1 l f m (j+1) V V];constructor
   ·rintro⟨k,h1,h2,h3⟩;exact⟨k,by omega,h2,h3⟩
   ·rintro⟨k,h1,h2,h3⟩;have:k≠j:=λe2=>by subst e2;exact e h3
    exact⟨k,by omega,h2,h3⟩
def Clash(l:List ay)(i j:Int):Prop:=(0<=i/\i < l.length/\0<=j/\j < l.length)/\∃a b:Int,(0<=a/\a < (ix l i).Guards.length)/\(0<=b/\b < (ix l j).Guards.length)/\(ix (ix l i).Guards a).Unit=(ix (ix l j).Guards b).Unit/\(ix (ix l i).Guards a).Want≠(ix (ix l j).Guards b).Want
theorem Clash.symm{l:List ay}{i j:Int}(h:Clash l i j):Clash l j i:=by
 obtain⟨h1,a,b,h2,h3,h4,h5⟩:=h;exact⟨by omega,b,a,h3,h2,h4.symm,λe=>h5 e.symm⟩
theorem Exclusive_iff(l:List ay)(i j:Int):ji l i j=true↔Clash l i j:=by
 unfold ji ig ip Clash;simp only[LET,Bool.or_eq_true,decide_eq_true_eq];split
 ·rename_i h;constructor
  ·intro h;cases h
  ·rintro⟨h1,_⟩;omega
 ·rename_i h;rw[decide_eq_true_eq,IndexF_L1 _ _ _ 0 V V];constructor
  ·rintro⟨a,a0,a1,ha⟩;simp only[ol,LET,Contains_iff]at ha;obtain⟨b,b0,b1,hb⟩:=ha;refine⟨by omega,a,b,⟨a0,a1⟩,⟨b0,b1⟩,?_,?_⟩
   ·rw[<-hb]
   ·rw[<-hb];simp
  ·rintro⟨_,a,b,⟨a0,a1⟩,⟨b0,b1⟩,h1,h2⟩;refine⟨a,a0,a1,?_⟩;simp only[ol,LET,Contains_iff];refine⟨b,b0,b1,?_⟩;have e:(!(ix (ix l i).Guards a).Want)=(ix (ix l j).Guards b).Want:=by
    cases h3:(ix (ix l i).Guards a).Want<;>cases h4:(ix (ix l j).Guards b).Want<;>simp_all
   rw[e,h1]
theorem ax1(a b:List Int)(x:Int)(K:Unit->Bool):∀(m:Nat)(j:Int),m=Int.toNat ((b.length:Int)-j)->0<=j->(nz a b x K m j=true↔(∃k:Int,j<=k/\k < b.length/\ix a x=ix b k)\/K ()=true)
 |0,j,hm,h0=>by
  rw[nz];exact⟨.inr,λh=>by rcases h with⟨k,h1,h2,_⟩|h;omega;exact h⟩
 |m+1,j,hm,h0=>by
  rw[nz];split
  ·rename_i hc;simp only[decide_eq_true_eq]at hc;exact⟨λ_=> .inl ⟨j,Int.le_refl _,by omega,hc⟩,λ_=>O⟩
  ·rename_i hc;simp only[decide_eq_true_eq]at hc;rw[ax1 a b x K m (j+1) V V];refine or_congr ⟨λ⟨k,h1,h2,h3⟩=>⟨k,by omega,h2,h3⟩,λ⟨k,h1,h2,h3⟩=>⟨k,?_,h2,h3⟩⟩ Iff.rfl;by_cases e:k=j
   ·subst e;exact absurd h3 hc
   ·omega
theorem ax3(a b:List Int):∀(m:Nat)(j:Int),m=Int.toNat ((a.length:Int)-j)->0<=j->(oa a b (λ_=>false) m j=true↔∃x k:Int,j<=x/\x < a.length/\0<=k/\k < b.length/\ix a x=ix b k)
 |0,j,hm,h0=>by
  rw[oa];exact⟨λh=>(by cases h),λ⟨x,k,h1,h2,_⟩=>by omega⟩
 |m+1,j,hm,h0=>by
  rw[oa,ax1 a b j _ _ 0 rfl V,ax3 a b m (j+1) V V];constructor
  ·rintro(⟨k,h1,h2,h3⟩|⟨x,k,h1,h2,h3⟩)
   ·exact⟨j,k,Int.le_refl _,by omega,h1,h2,h3⟩
   ·exact⟨x,k,by omega,h2,h3⟩
  ·rintro⟨x,k,h1,h2,h3,h4,h5⟩;by_cases e:x=j
   ·subst e;exact .inl ⟨k,h3,h4,h5⟩
   ·exact .inr ⟨x,k,by omega,h2,h3,h4,h5⟩
theorem bp2(a b:List Int):ij a b=true↔∃x k:Int,0<=x/\x < a.length/\0<=k/\k < b.length/\ix a x=ix b k:=ax3 a b _ 0 O V
def dep(l:List ay)(w r:List (List Int))(i c:Int):Int:=
 if ji l i c=true then 0 else if((qx (ix l c) i||ij (ix r c) (ix w i))||ij (ix w c) (ix w i))=true then 2 else if ij (ix w c) (ix r i)=true then 1 else 0
def upd(d:List (List Int))(i c v:Int):List (List Int):=d.set i.toNat ((ix d i).set c.toNat v)
def stepd(l:List ay)(w r:List (List Int))(i:Int)(d:List (List Int))(c:Int):List (List Int):=if c<=i then d else if dep l w r i c=0 then d else upd d i c (dep l w r i c)
def ah1(l:List ay)(w r:List (List Int))(i:Int):Nat->Int->List (List Int)->List (List Int)
 |0,j,d=>d
 |m+1,j,d=>ah1 l w r i m (j+1) (stepd l w r i d j)
theorem L3_run(l:List ay)(w r:List (List Int))(i:Int)(K:List (List Int)->List (List Int))(hl:l.length<=40):∀(m:Nat)(j:Int)(d:List (List Int)),m=Int.toNat ((l.length:Int)-j)->0<=j->kn l w r i K K m j d=K (ah1 l w r i m j d)
 |0,j,d,hm,h0=>by rw[kn,ah1]
 |m+1,j,d,hm,h0=>by
  have hw:wr ((l.length:Int)-1)=(l.length:Int)-1:=db V V;have ih:=λd=>L3_run l w r i K hl m (j+1) d V V;have fin:∀d,j=(l.length:Int)-1->K d=K (ah1 l w r i m (j+1) d):=λd hc=>by
   have:m=0:=by omega
   subst this;rw[ah1]
  rw[kn,ah1];simp only[LET,hw,ih];unfold stepd dep upd;by_cases h1:j<=i
  ·rw[if_pos (by simpa using h1),if_pos h1]
  ·rw[if_neg (by simpa using h1),if_neg h1];cases ji l i j with
   |true=>simp;exact fin _
   |false=>
    simp only[Bool.false_eq_true,if_false];cases((qx (ix l j) i||ij (ix r j) (ix w i))||ij (ix w j) (ix w i))with
    |true=>simp;exact fin _
    |false=>
     simp only[Bool.false_eq_true,if_false];cases ij (ix w j) (ix r i)with
     |true=>simp;exact fin _
     |false=>simp;exact fin _
theorem bw5(l:List ay)(w r:List (List Int))(i:Int)(hi:0<=i):∀(m:Nat)(j:Int)(d:List (List Int)),0<=j->i < d.length->(ah1 l w r i m j d).length=d.length/\(∀k:Int,0<=k->k < d.length->k≠i->ix (ah1 l w r i m j d) k=ix d k)/\(ix (ah1 l w r i m j d) i).length=(ix d i).length/\
 (∀c:Int,0<=c->c < (ix d i).length->ix (ix (ah1 l w r i m j d) i) c=if j<=c/\c < j+m/\i < c/\dep l w r i c≠0 then dep l w r i c else ix (ix d i) c)
 |0,j,d,hj,hd=>by
  rw[ah1];exact⟨O,λ_ _ _ _=>O,O,λc _ _=>by rw[if_neg V]⟩
 |m+1,j,d,hj,hd=>by
  rw[ah1];have hs:(stepd l w r i d j).length=d.length/\(∀k:Int,0<=k->k < d.length->k≠i->ix (stepd l w r i d j) k=ix d k)/\(ix (stepd l w r i d j) i).length=(ix d i).length/\(∀c:Int,0<=c->c < (ix d i).length->ix (ix (stepd l w r i d j) i) c=if c=j/\i < c/\dep l w r i c≠0 then dep l w r i c else ix (ix d i) c):=by
   unfold stepd;split
   ·exact⟨O,λ_ _ _ _=>O,O,λc _ _=>by rw[if_neg V]⟩
   split
   ·rename_i h1 h2;refine⟨O,λ_ _ _ _=>O,O,λc _ _=>?_⟩;rw[if_neg];rintro⟨rfl,_,h3⟩;exact h3 h2
   ·rename_i h1 h2;unfold upd;refine⟨List.length_set,λk k0 k1 k2=>by rw[xj k0 k1 hi,if_neg k2],?_,λc c0 c1=>?_⟩
    ·rw[xj hi hd hi,if_pos rfl,List.length_set]
    ·rw[xj hi hd hi,if_pos rfl,xj c0 c1 hj];by_cases e:c=j
     ·subst e;rw[if_pos rfl,if_pos ⟨rfl,by omega,h2⟩]
     ·rw[if_neg e,if_neg V]
  obtain⟨s1,s2,s3,s4⟩:=hs;obtain⟨t1,t2,t3,t4⟩:=bw5 l w r i hi m (j+1) (stepd l w r i d j) V V;refine⟨t1.trans s1,λk k0 k1 k2=>(t2 k k0 V k2).trans (s2 k k0 k1 k2),t3.trans s3,λc c0 c1=>?_⟩;rw[t4 c c0 V,s4 c c0 c1];by_cases e:c=j
  ·subst e;rw[if_neg V];by_cases h:i < c/\dep l w r i c≠0
   ·rw[if_pos ⟨rfl,h⟩,if_pos ⟨by omega,by omega,h⟩]
   ·rw[if_neg (λq=>h q.2),if_neg (λq=>h q.2.2)]
  ·rw[if_neg (c:=c=j/\_) (λq=>e q.1)];by_cases h:j+1<=c/\c < j+1+(m:Int)/\i < c/\dep l w r i c≠0
   ·rw[if_pos h,if_pos ⟨by omega,by omega,h.2.2⟩]
   ·rw[if_neg h,if_neg (λq=>h ⟨by omega,by omega,q.2.2⟩)]
def ar5(l:List ay)(w r:List (List Int)):Nat->Int->List (List Int)->List (List Int)
 |0,i,d=>d
 |m+1,i,d=>ar5 l w r m (i+1) (ah1 l w r i (Int.toNat ((l.length:Int)-0)) 0 d)
theorem L2_run(l:List ay)(w r:List (List Int))(hl:l.length<=40):∀(m:Nat)(i:Int)(d:List (List Int)),ko l w r (λz=>z) m i d=ar5 l w r m i d
 |0,i,d=>by rw[ko,ar5]
 |m+1,i,d=>by
  rw[ko,ar5,<-L2_run l w r hl m (i+1)];exact L3_run l w r i (λz=>ko l w r (λz=>z) m (i+1) z) hl _ 0 d O V
theorem bx1(l:List ay)(w r:List (List Int)):∀(m:Nat)(i:Int)(d:List (List Int)),m=Int.toNat ((l.length:Int)-i)->0<=i->d.length=l.length->(∀k:Int,0<=k->k < d.length->(ix d k).length=l.length)->(ar5 l w r m i d).length=d.length/\∀k:Int,0<=k->k < d.length->(ix (ar5 l w r m i d) k).length=l.length/\
 (∀c:Int,0<=c->c < l.length->ix (ix (ar5 l w r m i d) k) c=if i<=k/\k < c/\dep l w r k c≠0 then dep l w r k c else ix (ix d k) c)
 |0,i,d,hm,h0,hd,hr=>by
  rw[ar5];exact⟨O,λk k0 k1=>⟨hr k k0 k1,λc _ _=>by rw[if_neg V]⟩⟩
 |m+1,i,d,hm,h0,hd,hr=>by
  rw[ar5];obtain⟨s1,s2,s3,s4⟩:=bw5 l w r i h0 (Int.toNat ((l.length:Int)-0)) 0 d V V;have hri:=hr i h0 V;obtain⟨t1,t2⟩:=bx1 l w r m (i+1) (ah1 l w r i (Int.toNat ((l.length:Int)-0)) 0 d) V V V (λk k0 k1=>by
   by_cases e:k=i
   ·subst e;omega
   ·rw[s2 k k0 V e];exact hr k k0 V)
  refine⟨t1.trans s1,λk k0 k1=>?_⟩;obtain⟨t3,t4⟩:=t2 k k0 V;refine⟨t3,λc c0 c1=>?_⟩;rw[t4 c c0 c1];by_cases e:k=i
  ·subst e;rw[if_neg V,s4 c c0 V];by_cases h:k < c/\dep l w r k c≠0
   ·rw[if_pos ⟨by omega,by omega,h⟩,if_pos ⟨by omega,h⟩]
   ·rw[if_neg (λq=>h q.2.2),if_neg (λq=>h q.2)]
  ·rw[s2 k k0 V e];by_cases h:i+1<=k/\k < c/\dep l w r k c≠0
   ·rw[if_pos h,if_pos ⟨by omega,h.2⟩]
   ·rw[if_neg h,if_neg (λq=>h ⟨by omega,q.2⟩)]
theorem L1_at(p:af)(l:List ay)(K:List (List Int)->List (List Int)->List (List Int)->List (List Int))(hl:l.length<=40):∀(m:Nat)(i:Int)(d w r:List (List Int)),m=Int.toNat ((l.length:Int)-i)->0<=i->d.length=l.length->w.length=l.length->r.length=l.length->
 (∀k:Int,0<=k->k < i->ix d k=List.replicate l.length 0/\ix w k=km p (ix l k)/\ix r k=nh p (ix l k))->
 ∃d' w' r',nl p l K m i d w r=K d' w' r'/\d'.length=l.length/\(∀k:Int,0<=k->k < l.length->ix d' k=List.replicate l.length 0/\ix w' k=km p (ix l k)/\ix r' k=nh p (ix l k))
 |0,i,d,w,r,hm,h0,h1,h2,h3,H=>⟨d,w,r,by rw[nl],h1,λk k0 k1=>H k k0 V⟩
 |m+1,i,d,w,r,hm,h0,h1,h2,h3,H=>by
  rw[nl];simp only[LET];refine L1_at p l K hl m (i+1) _ _ _ V V (by rw[List.length_set];exact h1) (by rw[List.length_set];exact h2) (by rw[List.length_set];exact h3) λk k0 k1=>?_;rw[xj k0 V h0,xj k0 V h0,xj k0 V h0];by_cases e:k=i
  ·subst e;simp
  ·rw[if_neg e,if_neg e,if_neg e];exact H k k0 V
def depP(p:af)(l:List ay)(i c:Int):Int:=
 if ji l i c=true then 0 else if((qx (ix l c) i||ij (nh p (ix l c)) (km p (ix l i)))||ij (km p (ix l c)) (km p (ix l i)))=true then 2 else if ij (km p (ix l c)) (nh p (ix l i))=true then 1 else 0
theorem dv8{n:Nat}{c:Int}(h0:0<=c)(h1:c < n):ix (List.replicate n (0:Int)) c=0:=by
 rw[ul h0 (by simpa using h1)];simp
structure MX(p:af)(l:List ay)(d:List (List Int)):Prop where
 n:d.length=l.length
 r:∀k:Int,0<=k->k < l.length->(ix d k).length=l.length/\∀c:Int,0<=c->c < l.length->ix (ix d k) c=if k < c then depP p l k c else 0
theorem bm9(p:af)(l:List ay)(hl:l.length<=40):MX p l (pm p l):=by
 unfold pm;obtain⟨d,w,r,e,h1,h2⟩:=L1_at p l (λd w r=>ko l w r (λz=>z) (Int.toNat ((l.length:Int)-0)) 0 d) hl (Int.toNat ((l.length:Int)-0)) 0 (List.replicate l.length []) (List.replicate l.length []) (List.replicate l.length []) O V OZ OZ OZ (λk h0 h1=>by omega);have e':nl p l (λd w r=>ko l w r (λz=>z) (Int.toNat ((l.length:Int)-0)) 0 d) (Int.toNat ((l.length:Int)-0)) 0 (List.replicate l.length []) (List.replicate l.length []) (List.replicate l.length [])=ar5 l w r (Int.toNat ((l.length:Int)-0)) 0 d:=by rw[e,L2_run l w r hl]
 have key:=bx1 l w r (Int.toNat ((l.length:Int)-0)) 0 d O V h1 (λk k0 k1=>by rw[(h2 k k0 V).1];simp);have M:MX p l (ar5 l w r (Int.toNat ((l.length:Int)-0)) 0 d):=by
  refine⟨key.1.trans h1,λk k0 k1=>?_⟩;obtain⟨t1,t2⟩:=key.2 k k0 V;refine⟨t1,λc c0 c1=>?_⟩;have ed:dep l w r k c=depP p l k c:=by
   unfold dep depP;rw[(h2 k k0 k1).2.1,(h2 k k0 k1).2.2,(h2 c c0 c1).2.1,(h2 c c0 c1).2.2]
  rw[t2 c c0 c1,ed,(h2 k k0 k1).1,dv8 c0 c1];by_cases h:k < c
  ·rw[if_pos h];by_cases hz:depP p l k c=0
   ·rw[if_neg (λq=>q.2.2 hz),hz]
   ·rw[if_pos ⟨k0,h,hz⟩]
  ·rw[if_neg (λq=>h q.2.1),if_neg h]
 rw[<-e']at M;exact M
section
variable{p:af}{l:List ay}(S:S17 p)(U:SU l)
include S
theorem dm2:Fit p:=⟨by have:=S.hh;omega,by have:=S.hm;omega,S.hr,λj h0 h1=>by have:=S.hf j h0 h1;unfold hf;omega⟩
include U
end
end Go.Proofs.YtmonnlkagniolaaGreat
