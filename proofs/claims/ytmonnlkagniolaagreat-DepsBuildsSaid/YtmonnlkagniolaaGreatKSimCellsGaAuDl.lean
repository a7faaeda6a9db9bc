import Derived.Test.YtmonnlkagniolaaGreatKCkFe
import Derived.Test.YtmonnlkagniolaaGreatKFcFrBdDb
import Derived.Test.YtmonnlkagniolaaGreatKFcFrBdDb
set_option linter.all false
set_option maxRecDepth 100000
namespace Go.Proofs.YtmonnlkagniolaaGreat
open Go Go.Pb Go.RowKit
def st(z:cb):aq:={Fields:=insF z.fields [],Headers:=insI z.headers [],Registers:=insI z.registers []}
theorem aj4(a b l:List aa):insF (a++b) l=insF b (insF a l):=by unfold insF;rw[List.foldl_append]
theorem oz(a b l:List Int):insI (a++b) l=insI b (insI a l):=by unfold insI;rw[List.foldl_append]
theorem cb5(l:List aa):fg l=l.mergeSort λx y=>!jg y x:=by
 unfold fg
 congr 1
 funext x y
 rw[ac2];have:=bc1 y x;unfold Go.Proofs.ltOf at this;rw[this]
theorem ur(z:cb):cz z=((st z).Fields,(st z).Headers,(st z).Registers):=by
 unfold cz;simp only[LET];show(cpt (fg z.fields),cpt (dx z.headers),cpt (dx z.registers))=_
 rw[cb5,aa3,aa3,ud ay8,ud ah7,ud ah7];rfl
theorem bh5(z:cb)(n:List ah):nw (st z) n=st (dn z n):=by
 rw[am2];unfold dn st;simp only[LET,aj4,oz]
theorem ce2(f:List aa)(h r:List Int)(x:Int):({Fields:=(st ⟨f,h,r⟩).Fields,Headers:=gz (st ⟨f,h,r⟩).Headers x,Registers:=(st ⟨f,h,r⟩).Registers}:aq)=st ⟨f,h++[x],r⟩:=by
 simp only[st,oz,AddInt_ins];rfl
theorem da9{c:di}{s:au}(h:ep c s=0):1<=s.Kind/\s.Kind<=5:=by
 by_cases k1:s.Kind=1
 ·omega
 by_cases k2:s.Kind=2
 ·omega
 by_cases k3:s.Kind=3
 ·omega
 by_cases k4:s.Kind=4
 ·omega
 by_cases k5:s.Kind=5
 ·omega
 unfold ep at h;simp[LET,k1,k2,k3,k4,k5]at h
theorem bt6(p:ae)(i:Int):∀(m:Nat)(j:Int)(z:cb),ky p i (λa=>(a.Fields,a.Headers,a.Registers)) m j (st z)=gk (ix p.Actions i).Body (λz=>((cz z).1,(cz z).2.1,(cz z).2.2)) m j z
 |0,j,z=>by
  rw[ky,gk,ur]
 |m+1,j,⟨zf,zh,zr⟩=>by
  have ih:=λz=>bt6 p i m (j+1) z;rw[ky,gk];simp only[LET];generalize ix (ix p.Actions i).Body j=s;by_cases k1:s.Kind=1
  ·simp only[k1,Int.reduceEq,decide_true,decide_false,Bool.or_false,Bool.false_or,Bool.true_or,Bool.or_true,Bool.true_and,if_true,if_false,Bool.false_eq_true,Bool.or_self,bh5];generalize dn ⟨zf,zh,zr⟩ s.Value=w;obtain⟨wf,wh,wr⟩:=w;split
   ·rw[<-ih];congr 1;exact ce2 _ _ _ _
   ·exact ih _
  by_cases k2:s.Kind=2
  ·simp only[k2,Int.reduceEq,decide_true,decide_false,Bool.or_false,Bool.false_or,Bool.true_or,Bool.or_true,Bool.true_and,Bool.false_and,if_true,if_false,Bool.false_eq_true,Bool.or_self];rw[<-ih];congr 1;exact ce2 _ _ _ _
  by_cases k4:s.Kind=4
  ·simp only[k4,Int.reduceEq,decide_true,decide_false,Bool.or_false,Bool.false_or,Bool.true_or,Bool.or_true,Bool.true_and,Bool.false_and,if_true,if_false,Bool.false_eq_true,Bool.or_self,bh5];generalize dn ⟨zf,zh,zr⟩ s.Index=w;obtain⟨wf,wh,wr⟩:=w;split
   ·rw[<-ih];congr 1;simp only[st,oz,AddInt_ins];rfl
   ·rw[<-ih];congr 1;simp only[st,oz,AddInt_ins];rfl
  by_cases k5:s.Kind=5
  ·simp only[k5,Int.reduceEq,decide_true,decide_false,Bool.or_false,Bool.false_or,Bool.true_or,Bool.or_true,Bool.true_and,Bool.false_and,if_true,if_false,Bool.false_eq_true,Bool.or_self,bh5];exact ih _
  simp only[k1,k2,k4,k5,decide_false,Bool.or_false,Bool.false_and,if_false,Bool.false_eq_true,Bool.or_self];exact ih _
theorem ap9(p:ae)(i:Int):ov p i=ij p i:=by
 unfold ov ij jx;simp only[LET,af0];split
 ·simp only[List.length_nil];show _=gk [] _ 0 0 _
  rw[gk,ur];rfl
 ·exact bt6 p i _ _ ⟨[],[],[]⟩
theorem be3{p:ae}{i:Int}{y:List aa×List Int×List Int}(h:ov p i=y):QL y:=yg (by rw[<-ap9];exact h)
theorem cf3(p:ae)(i j:Int)(f:List aa)(h r:List Int)(K1:aq->List aa×List Int×List Int)(K2:List Int->List Int->List aa->List aa×List Int×List Int)(hK:∀f,K1 ⟨insF f [],insI h [],insI r []⟩=K2 r (h++[(ix (ix p.Actions i).Body j).Header]) f):∀(m:Nat)(x:Int)(f:List aa),lw p i j K1 m x ⟨insF f [],insI h [],insI r []⟩=ip (ix p.Actions i).Body j K2 m x r (h++[(ix (ix p.Actions i).Body j).Header]) f
 |0,x,f=>by rw[lw,ip];exact hK f
 |m+1,x,f'=>by
  rw[lw,ip];simp only[LET];rw[<-cf3 p i j f h r K1 K2 hK m (x+1) _]
  congr 1
  simp only[aj4,AddField_ins];rfl
theorem bz2(p:ae)(i:Int)(hk:∀k:Int,0<=k->k < (ix p.Actions i).Body.length->1<=(ix (ix p.Actions i).Body k).Kind/\(ix (ix p.Actions i).Body k).Kind<=5):∀(m:Nat)(j:Int)(f:List aa)(h r:List Int),m=Int.toNat (((ix p.Actions i).Body.length:Int)-j)->0<=j->ik p i (λa=>(a.Fields,a.Headers,a.Registers)) m j ⟨insF f [],insI h [],insI r []⟩=ej p (ix p.Actions i).Body (λr h f=>((cz ⟨f,h,r⟩).1,(cz ⟨f,h,r⟩).2.1,(cz ⟨f,h,r⟩).2.2)) m j r h f
 |0,j,f,h,r,hm,h0=>by
  rw[ik,ej,ur];rfl
 |m+1,j,f,h,r,hm,h0=>by
  have ih:=λf h r=>bz2 p i hk m (j+1) f h r V V;have kk:=hk j h0 V;rw[ik,ej];simp only[LET];have eF:∀x,kb (insF f []) x=insF (f++[x]) []:=λx=>by rw[aj4,AddField_ins];rfl
  have eR:∀x,gz (insI r []) x=insI (r++[x]) []:=λx=>by rw[oz,AddInt_ins];rfl
  have eH:∀x,gz (insI h []) x=insI (h++[x]) []:=λx=>by rw[oz,AddInt_ins];rfl
  by_cases k1:(ix (ix p.Actions i).Body j).Kind=1
  ·simp only[k1,decide_true,if_true,eF];exact ih _ _ _
  by_cases k4:(ix (ix p.Actions i).Body j).Kind=4
  ·simp only[k4,Int.reduceEq,decide_true,decide_false,if_true,if_false,Bool.false_eq_true,eF];exact ih _ _ _
  by_cases k2:(ix (ix p.Actions i).Body j).Kind=2\/(ix (ix p.Actions i).Body j).Kind=3
  ·have e:=cf3 p i j f h r (λa=>ik p i (λa=>(a.Fields,a.Headers,a.Registers)) m (j+1) ⟨a.Fields,gz a.Headers (ix (ix p.Actions i).Body j).Header,a.Registers⟩) (λa b c=>ej p (ix p.Actions i).Body (λr h f=>((cz ⟨f,h,r⟩).1,(cz ⟨f,h,r⟩).2.1,(cz ⟨f,h,r⟩).2.2)) m (j+1) a b c) (λf'=>by
    show ik p i _ m (j+1) ⟨insF f' [],gz (insI h []) _,insI r []⟩=_
    rw[eH];exact ih _ _ _) (Int.toNat ((((ix p.Headers (ix (ix p.Actions i).Body j).Header).Fields).length:Int)-0)) 0 f
   rcases k2 with k|k
   ·simp only[k,Int.reduceEq,decide_true,decide_false,if_true,if_false,Bool.false_eq_true];exact e
   ·simp only[k,Int.reduceEq,decide_true,decide_false,if_true,if_false,Bool.false_eq_true];exact e
  have k5:(ix (ix p.Actions i).Body j).Kind=5:=by omega
  simp only[k5,Int.reduceEq,decide_true,decide_false,if_true,if_false,Bool.false_eq_true,eR];exact ih _ _ _
theorem al6(p:ae)(i:Int):ns p i=gm p i:=by
 unfold ns gm jx;simp only[LET,af0];split
 ·simp only[List.length_nil];show _=ej p [] _ 0 0 _ _ _
  rw[ej,ur];rfl
 ·rename_i hc;simp at hc;refine bz2 p i ?_ _ 0 [] [] [] O (Int.le_refl _);intro k k0 k1;unfold mm at hc;split at hc
  ·simp at hc
  simp only[LET]at hc;split at hc
  ·rename_i h3;simp at h3;exact absurd hc h3
  ·exact da9 (bz8 p i _ 0 O hc k k0 k1)
theorem bb0{p:ae}(hs:SmH p){i:Int}{y:List aa×List Int×List Int}(h:ns p i=y):QL y:=vk hs (by rw[<-al6];exact h)
def hf(p:ae)(j:Int):Int:=((ix p.Headers j).Fields.length:Int)
def nfs(p:ae):Nat->Int
 |0=>0
 |n+1=>nfs p n+hf p n
structure Fit(p:ae):Prop where
 hh:p.Headers.length<=16
 hm:p.Metadata.length<=20
 hr:p.Registers.length<=8
 hf:∀j:Int,0<=j->j < p.Headers.length->hf p j<=20
theorem cx3(p:ae)(j:Int):0<=hf p j:=Int.natCast_nonneg _
section
variable{p:ae}(T:Fit p)
include T
theorem ar4:∀n:Nat,n<=p.Headers.length->0<=nfs p n/\nfs p n<=20*n
 |0,_=>by simp[nfs]
 |n+1,h=>by
  have ih:=ar4 n V;have h1:=T.hf n V V;have h2:=cx3 p n;simp only[nfs];omega
omit T in
omit T in
def nf(p:ae):Int:=nfs p p.Headers.length
theorem nf_b:0<=nf p/\nf p<=320:=by
 have:=ar4 T p.Headers.length (Nat.le_refl _);have h:=T.hh;simp only[nf];omega
theorem ap5(K:List Int->List Int)(a b c:Int):∀(m:Nat)(i:Int),m=Int.toNat ((p.Headers.length:Int)-i)->0<=i->i<=p.Headers.length->kr p K m i [nfs p i.toNat,a,b,c]=K [nf p,a,b,c]
 |0,i,hm,h0,h1=>by
  have:i.toNat=p.Headers.length:=by omega
  rw[kr,this];rfl
 |m+1,i,hm,h0,h1=>by
  rw[kr];have h2:=ar4 T i.toNat V;have h3:=T.hf i h0 V;have h4:=cx3 p i;have hh:=T.hh;have e:([nfs p i.toNat,a,b,c]:List Int).set (0:Int).toNat (wr (ix ([nfs p i.toNat,a,b,c]:List Int) 0+((ix p.Headers i).Fields.length:Int)))=[nfs p (i+1).toNat,a,b,c]:=by
   have e1:(i+1).toNat=i.toNat+1:=by omega
   have e2:ix ([nfs p i.toNat,a,b,c]:List Int) 0=nfs p i.toNat:=O;rw[e1,e2];show wr (nfs p i.toNat+hf p i)::_=_
   rw[dj V V];simp only[nfs];rw[show((i.toNat:Nat):Int)=i by omega]
  rw[e];exact ap5 K a b c m (i+1) V V V
theorem aq1:mi p=[nf p,(p.Headers.length:Int),(p.Metadata.length:Int),(p.Registers.length:Int)]:=by
 unfold mi;exact ap5 T _ _ _ _ _ 0 O V V
theorem ab3(k:Int)(hk:0<=k/\k<=4):oo p k=if k=0 then 0 else if k=1 then nf p else if k=2 then nf p+p.Headers.length else if k=3 then nf p+p.Headers.length+p.Metadata.length else nf p+p.Headers.length+p.Metadata.length+p.Registers.length:=by
 have hb:=nf_b T;have h1:=T.hh;have h2:=T.hm;have h3:=T.hr;have key:∀a b c d:Int,(0<=a/\a<=320)->(0<=b/\b<=16)->(0<=c/\c<=20)->(0<=d/\d<=8)->lk k [a,b,c,d] (λx=>x) 4 0 0=if k=0 then 0 else if k=1 then a else if k=2 then a+b else if k=3 then a+b+c else a+b+c+d:=by
  intro a b c d ha hb hc hd;have hx:ix ([a,b,c,d]:List Int) 0=a/\ix ([a,b,c,d]:List Int) 1=b/\ix ([a,b,c,d]:List Int) 2=c/\ix ([a,b,c,d]:List Int) 3=d:=⟨O,O,O,O⟩;have w1:wr (0+a)=a:=by rw[dj V V];omega
  have w2:wr (a+b)=a+b:=dj V V;have w3:wr (a+b+c)=a+b+c:=dj V V;have w4:wr (a+b+c+d)=a+b+c+d:=dj V V;have:k=0\/k=1\/k=2\/k=3\/k=4:=by omega
  rcases this with rfl|rfl|rfl|rfl|rfl<;>simp[lk,hx.1,hx.2.1,hx.2.2.1,hx.2.2.2,w1,w2,w3,w4,dj (n:=a) V V]
 unfold oo;simp only[LET,aq1 T];exact key _ _ _ _ hb V V V
theorem at9(k i:Int)(hk:0<=k/\k<=3):qe p k i=if i < 0\/ix [nf p,(p.Headers.length:Int),(p.Metadata.length:Int),(p.Registers.length:Int)] k<=i then -1 else oo p k+i:=by
 unfold qe;simp only[LET,aq1 T,Bool.or_eq_true,decide_eq_true_eq];split
 ·rfl
 ·rename_i hc;simp only[not_or]at hc;have hb:=nf_b T;have h1:=T.hh;have h2:=T.hm;have h3:=T.hr;have hx:ix [nf p,(p.Headers.length:Int),(p.Metadata.length:Int),(p.Registers.length:Int)] k<=320:=by
   have:k=0\/k=1\/k=2\/k=3:=by omega
   rcases this with rfl|rfl|rfl|rfl
   ·show nf p<=320;omega
   ·show(p.Headers.length:Int)<=320;omega
   ·show(p.Metadata.length:Int)<=320;omega
   ·show(p.Registers.length:Int)<=320;omega
  have hf:0<=oo p k/\oo p k<=400:=by
   rw[ab3 T k V];split
   ·omega
   ·split
    ·omega
    ·split
     ·omega
     ·split<;>omega
  exact dj V V
theorem bw6(h:Int):js p h=if h < 0\/(p.Headers.length:Int)<=h then -1 else nf p+h:=by
 unfold js;simp only[LET,at9 T 1 h V,ab3 T 1 V];rfl
theorem dm2(r:Int):ii p r=if r < 0\/(p.Registers.length:Int)<=r then -1 else nf p+p.Headers.length+p.Metadata.length+r:=by
 unfold ii;simp only[LET,at9 T 3 r V,ab3 T 3 V];rfl
omit T in
theorem dn2{α:Type}[Inhabited α](l:List α)(b i:Int)(h0:0<=i)(h1:i < b):ix (sub l 0 b) i=ix l i:=by
 simp only[ix,sub,Int.toNat_zero,List.drop_zero,Nat.sub_zero,List.getD_eq_getElem?_getD];rw[List.getElem?_take_of_lt V]
theorem ay9(r:aa)(K:Int->Int)(h0:0<=r.Header)(h1:r.Header < p.Headers.length)(f0:0<=r.Field)(f1:r.Field < hf p r.Header):∀(m:Nat)(i:Int),m=Int.toNat (r.Header-i)->0<=i->i<=r.Header->je p r K m (r.Field+nfs p i.toNat) i=K (r.Field+nfs p r.Header.toNat)
 |0,i,hm,h2,h3=>by
  have:i=r.Header:=by omega
  subst this;rw[je]
 |m+1,i,hm,h2,h3=>by
  rw[je,dn2 p.Headers r.Header i h2 V];have b:=ar4 T i.toNat V;have h4:=T.hf i h2 V;have h5:=cx3 p i;have h6:=T.hf r.Header h0 h1;have hh:=T.hh;have e:wr (r.Field+nfs p i.toNat+((ix p.Headers i).Fields.length:Int))=r.Field+nfs p (i+1).toNat:=by
   have e1:(i+1).toNat=i.toNat+1:=by omega
   show wr (r.Field+nfs p i.toNat+hf p i)=_
   rw[dj V V,e1];simp only[nfs];rw[show((i.toNat:Nat):Int)=i by omega];omega
  rw[e];exact ay9 r K h0 h1 f0 f1 m (i+1) V V V
theorem bw8(r:aa):jc p r=if r.Header= -1 then(if r.Field < 0\/(p.Metadata.length:Int)<=r.Field then -1 else nf p+p.Headers.length+r.Field)else if r.Header < 0\/(p.Headers.length:Int)<=r.Header\/r.Field < 0\/hf p r.Header<=r.Field then -1 else r.Field+nfs p r.Header.toNat:=by
 unfold jc;simp only[LET,decide_eq_true_eq,Bool.or_eq_true,at9 T 2 r.Field V,ab3 T 2 V];split
 ·rfl
 ·split
  ·rename_i h;rw[if_pos];simp only[hf];rcases h with((h|h)|h)|h<;>omega
  ·rename_i h;have h':¬(r.Header < 0\/(p.Headers.length:Int)<=r.Header\/r.Field < 0\/hf p r.Header<=r.Field):=by
    simp only[hf];omega
   rw[if_neg h'];simp only[not_or,Int.not_lt,Int.not_le]at h';have hl:=wo (l:=p.Headers) (a:=0) (b:=r.Header) V V V;have:=ay9 T r (λx=>x) V V V V (Int.toNat (((sub p.Headers 0 r.Header).length:Int)-0)) 0 V V V;simpa[nfs]using this
end
section
variable{p:ae}(T:Fit p)
include T
theorem bc2(K:Int->Int)(h:Int)(h1:h<=p.Headers.length):∀(m:Nat)(i:Int),m=Int.toNat (h-i)->0<=i->i<=h->lq p K m (nfs p i.toNat) i=K (nfs p h.toNat)
 |0,i,hm,h2,h3=>by
  have:i=h:=by omega
  subst this;rw[lq]
 |m+1,i,hm,h2,h3=>by
  rw[lq];have b:=ar4 T i.toNat V;have h4:=T.hf i h2 V;have h5:=cx3 p i;have hh:=T.hh;have e:wr (nfs p i.toNat+((ix p.Headers i).Fields.length:Int))=nfs p (i+1).toNat:=by
   have e1:(i+1).toNat=i.toNat+1:=by omega
   show wr (nfs p i.toNat+hf p i)=_
   rw[dj V V,e1];simp only[nfs];rw[show((i.toNat:Nat):Int)=i by omega]
  rw[e];exact bc2 K h h1 m (i+1) V V V
theorem az5(h:Int)(h0:0<=h)(h1:h<=p.Headers.length):nm p h=nfs p h.toNat:=by
 unfold nm;have:=bc2 T (λx=>x) h h1 (Int.toNat (h-0)) 0 O V h0;simpa[nfs]using this
theorem xw:nm p (p.Headers.length:Int)=nf p:=by
 rw[az5 T _ V V];rfl
theorem bq6(h:Int):il p h=if h < 0\/(p.Headers.length:Int)<=h then -1 else nf p+h:=by
 unfold il;simp only[LET,xw T,Bool.or_eq_true,decide_eq_true_eq];have:=nf_b T;have:=T.hh;split
 ·rfl
 ·exact dj V V
theorem cz1(r:Int):ib p r=if r < 0\/(p.Registers.length:Int)<=r then -1 else nf p+p.Headers.length+p.Metadata.length+r:=by
 unfold ib;simp only[LET,xw T,Bool.or_eq_true,decide_eq_true_eq];have:=nf_b T;have:=T.hh;have:=T.hm;have:=T.hr;split
 ·rfl
 ·rw[dj (n:=nf p+p.Headers.length) V V,dj (n:=nf p+p.Headers.length+p.Metadata.length) V V];exact dj V V
theorem bo9(r:aa):fh p r=jc p r:=by
 rw[bw8 T];unfold fh;simp only[LET,xw T,Bool.or_eq_true,Bool.and_eq_true,decide_eq_true_eq];have b:=nf_b T;have:=T.hh;have:=T.hm;by_cases hm:r.Header= -1
 ·rw[if_pos hm];by_cases hf:0<=r.Field/\r.Field < (p.Metadata.length:Int)
  ·rw[if_pos ⟨⟨hm,hf.1⟩,hf.2⟩,if_neg V,dj (n:=nf p+p.Headers.length) V V];exact dj V V
  ·rw[if_neg (λh=>hf ⟨h.1.2,h.2⟩),if_pos (.inl (.inl (.inl V))),if_pos V]
 ·rw[if_neg (λh=>hm h.1.1),if_neg hm];by_cases hc:r.Header < 0\/(p.Headers.length:Int)<=r.Header\/r.Field < 0\/hf p r.Header<=r.Field
  ·rw[if_pos hc,if_pos (by simp only[hf]at hc;omega)]
  ·rw[if_neg hc,if_neg (by simp only[hf]at hc;omega)];simp only[not_or,Int.not_lt,Int.not_le]at hc;rw[az5 T _ V V];have b2:=ar4 T r.Header.toNat V;have b3:=T.hf r.Header V V;rw[dj V V];omega
-- the width of a cell
omit T in
end
theorem au0(x:Int)(t a:List Int):insI (nn (x::t)) a=insI (nn t) (if x < 0 then a else insS (λa b=>decide (a < b)) x a):=by
 unfold nn;by_cases h:x < 0
 ·rw[List.filter_cons_of_neg (by simp;omega),if_pos h]
 ·rw[List.filter_cons_of_pos (by simp;omega),if_neg h];rfl
theorem ce6(x:Int)(a:List Int):(if x < 0 then a else insS (λa b=>decide (a < b)) x a).length<=a.length+1:=by
 split
 ·omega
 ·exact te _ _ _
theorem dd9(p:ae)(l:List aa)(K:List Int->List Int):∀(m:Nat)(i:Int)(a:List Int),m=Int.toNat ((l.length:Int)-i)->0<=i->a.length+m<=4611686018427387904->lm p l K m a i=K (insI (nn ((l.drop i.toNat).map (fh p))) a)
 |0,i,a,hm,h0,hb=>by
  rw[lm,List.drop_eq_nil_of_le V];rfl
 |m+1,i,a,hm,h0,hb=>by
  have hl:=ce6 (fh p (ix l i)) a;rw[lm];simp only[LET];rw[uf _ _ V,dd9 p l K m (i+1) _ V V V,dropix (c:=l) (i:=i) h0 V,List.map_cons,au0]
theorem dc8(p:ae)(l:List Int)(K:List Int->List Int):∀(m:Nat)(i:Int)(a:List Int),m=Int.toNat ((l.length:Int)-i)->0<=i->a.length+m<=4611686018427387904->ln p l K m a i=K (insI (nn ((l.drop i.toNat).map (il p))) a)
 |0,i,a,hm,h0,hb=>by
  rw[ln,List.drop_eq_nil_of_le V];rfl
 |m+1,i,a,hm,h0,hb=>by
  have hl:=ce6 (il p (ix l i)) a;rw[ln];simp only[LET];rw[uf _ _ V,dc8 p l K m (i+1) _ V V V,dropix (c:=l) (i:=i) h0 V,List.map_cons,au0]
theorem dd6(p:ae)(l:List Int)(K:List Int->List Int):∀(m:Nat)(i:Int)(a:List Int),m=Int.toNat ((l.length:Int)-i)->0<=i->a.length+m<=4611686018427387904->lh p l K m a i=K (insI (nn ((l.drop i.toNat).map (ib p))) a)
 |0,i,a,hm,h0,hb=>by
  rw[lh,List.drop_eq_nil_of_le V];rfl
 |m+1,i,a,hm,h0,hb=>by
  have hl:=ce6 (ib p (ix l i)) a;rw[lh];simp only[LET];rw[uf _ _ V,dd6 p l K m (i+1) _ V V V,dropix (c:=l) (i:=i) h0 V,List.map_cons,au0]
def gl(p:ae)(f:List aa)(h r:List Int):List Int:=nn (f.map (fh p))++(nn (h.map (il p))++nn (r.map (ib p)))
theorem dl5(p:ae)(f:List aa)(h r:List Int):(gl p f h r).length<=f.length+h.length+r.length:=by
 unfold gl;have h1:=uo (f.map (fh p));have h2:=uo (h.map (il p));have h3:=uo (r.map (ib p));simp only[List.length_append,List.length_map]at*;omega
theorem an8(p:ae)(l:List Int)(f:List aa)(h r:List Int)(hb:l.length+(f.length+h.length+r.length)<=4000000):nr p l f h r=insI (gl p f h r) l:=by
 unfold nr;have h1:=uo (f.map (fh p));have h2:=uo (h.map (il p));rw[List.length_map]at h1 h2;have b1:=sf (nn (f.map (fh p))) l;have b2:=sf (nn (h.map (il p))) (insI (nn (f.map (fh p))) l);rw[dd9 _ _ _ _ _ _ rfl (Int.le_refl _) V];simp only[Int.toNat_zero,List.drop_zero];rw[dc8 _ _ _ _ _ _ rfl (Int.le_refl _) V];simp only[Int.toNat_zero,List.drop_zero];rw[dd6 _ _ _ _ _ _ rfl (Int.le_refl _) V];simp only[Int.toNat_zero,List.drop_zero];unfold gl;rw[oz,oz]
theorem ym{p:ae}{l y:List Int}{f:List aa}{h r:List Int}(e:nr p l f h r=y)(hb:l.length+(f.length+h.length+r.length)<=4000000):y.length<=l.length+(f.length+h.length+r.length):=by
 rw[an8 p l f h r hb]at e;subst e;have h1:=sf (gl p f h r) l;have h2:=dl5 p f h r;omega
theorem yk(c:ak):em c=insI c.cells []:=by
 unfold em;simp only[LET];show cpt (dx c.cells)=_
 rw[aa3,ud ah7];rfl
section
variable{p:ae}(T:Fit p)
include T
theorem bv5(f:List aa)(h r:List Int):gl p f h r=cls p f h r:=by
 have e1:fh p=jc p:=by funext x;exact bo9 T x
 have e2:il p=js p:=by funext x;rw[bq6 T,bw6 T]
 have e3:ib p=ii p:=by funext x;rw[cz1 T,dm2 T]
 unfold gl cls;rw[e1,e2,e3]
theorem yj(l:List Int)(f:List aa)(h r:List Int)(hb:l.length+(f.length+h.length+r.length)<=4000000):nr p l f h r=insI (cls p f h r) l:=by
 rw[an8 p l f h r hb,bv5 T]
theorem bg4(l:List Int)(x:aa)(hb:l.length<=4000000):mj l (fh p x)=insI (cls p [x] [] []) l:=by
 rw[uf _ _ V,<-bv5 T];show _=insI (nn [fh p x]++(nn []++nn [])) l
 rw[show nn []++nn []=([]:List Int) from rfl,List.append_nil,au0];rfl
omit T in
theorem bk6(cs:List Int)(f:List aa)(h r:List Int):fe ⟨p,cs⟩ f h r=⟨p,cs++cls p f h r⟩:=bu0 _ _ _ _
theorem by6(u:ba)(t:bw)(ht:ix p.Tables u.Table=t)(K:List Int->List Int)(K':ak->List Int)(B:Nat)(hB:B<=4000000)(hK:∀cs,(insI cs []).length<=B->K (insI cs [])=K' ⟨p,cs⟩):∀(m:Nat)(i:Int)(cs:List Int),(insI cs []).length+m<=B->na p u K m (insI cs []) i=lu (t,true) K' m i ⟨p,cs⟩
 |0,i,cs,hb=>by rw[na,lu];exact hK cs V
 |m+1,i,cs,hb=>by
  rw[na,lu];simp only[LET];rw[bk6,ht,bg4 T _ _ V,<-oz];refine by6 u t ht K K' B hB hK m (i+1) _ ?_;have h1:=sf (cls p [(ix t.Keys i).Field] [] []) (insI cs []);have h2:=ai4 p [(ix t.Keys i).Field] [] [];rw[oz];simp only[List.length_cons,List.length_nil]at h2;omega
theorem cb0(u:ba)(t:bw)(ht:ix p.Tables u.Table=t)(K:List Int->List Int)(K':ak->List Int)(B:Nat)(hB:B<=4000000)(hK:∀cs,(insI cs []).length<=B->K (insI cs [])=K' ⟨p,cs⟩):∀(m:Nat)(i:Int)(cs:List Int),(insI cs []).length+39000*m<=B->ld p u K m (insI cs []) i=kg p (t,true) K' m i ⟨p,cs⟩
 |0,i,cs,hb=>by rw[ld,kg];exact hK cs V
 |m+1,i,cs,hb=>by
  have q:=yg (p:=p) (i:=ix t.Actions i) O;unfold QL at q;rw[ld,kg];simp only[LET];rw[bk6,ht,ap9,yj T _ _ _ _ V,<-oz];refine cb0 u t ht K K' B hB hK m (i+1) _ ?_;have h1:=sf (cls p (ij p (ix t.Actions i)).1 (ij p (ix t.Actions i)).2.1 (ij p (ix t.Actions i)).2.2) (insI cs []);have h2:=ai4 p (ij p (ix t.Actions i)).1 (ij p (ix t.Actions i)).2.1 (ij p (ix t.Actions i)).2.2;rw[oz];omega
theorem br4(hs:SmH p)(u:ba)(t:bw)(ht:ix p.Tables u.Table=t)(K:List Int->List Int)(K':ak->List Int)(B:Nat)(hB:B<=4000000)(hK:∀cs,(insI cs []).length<=B->K (insI cs [])=K' ⟨p,cs⟩):∀(m:Nat)(i:Int)(cs:List Int),(insI cs []).length+39000*m<=B->li p u K m (insI cs []) i=ks p (t,true) K' m i ⟨p,cs⟩
 |0,i,cs,hb=>by rw[li,ks];exact hK cs V
 |m+1,i,cs,hb=>by
  have q:=vk hs (i:=ix t.Actions i) O;unfold QL at q;rw[li,ks];simp only[LET];rw[bk6,ht,al6,yj T _ _ _ _ V,<-oz];refine br4 hs u t ht K K' B hB hK m (i+1) _ ?_;have h1:=sf (cls p (gm p (ix t.Actions i)).1 (gm p (ix t.Actions i)).2.1 (gm p (ix t.Actions i)).2.2) (insI cs []);have h2:=ai4 p (gm p (ix t.Actions i)).1 (gm p (ix t.Actions i)).2.1 (gm p (ix t.Actions i)).2.2;rw[oz];omega
theorem ax7(hA:AB p)(u:ba)(hc:u.Cond.length<=60):ow p u=md p u:=by
 unfold ow md;simp only[LET];split
 ·rw[bk6,yk,<-ad3,<-yh];have h1:=ry u.Cond;have h2:=rd u.Cond;rw[yj T _ _ _ _ (by simp only[List.length_nil];omega)];rfl
 ·rename_i hn;unfold gq;split
  ·rfl
  ·rename_i hd;simp at hd;have b:=hA.2 u.Table V V;rw[if_neg OZ];have e:=by6 T u (ix p.Tables u.Table) O (λa=>ld p u (λa=>a) (Int.toNat ((((ix p.Tables u.Table).Actions).length:Int)-0)) a 0) (λc=>kg p (ix p.Tables u.Table,true) (λc=>em ⟨c.p,c.cells⟩) (Int.toNat ((((ix p.Tables u.Table).Actions).length:Int)-0)) 0 ⟨c.p,c.cells⟩) 24 V (λcs hcs=>cb0 T u (ix p.Tables u.Table) O (λa=>a) (λc=>em ⟨c.p,c.cells⟩) 4000000 V (λcs' _=>(yk ⟨p,cs'⟩).symm) _ 0 cs V) (Int.toNat ((((ix p.Tables u.Table).Keys).length:Int)-0)) 0 [] (by show 0+_<=24;omega);exact e
theorem ao9(hA:AB p)(u:ba):ot p u=kd p u:=by
 unfold ot kd;simp only[LET];unfold gq;split
 ·rfl
 ·rename_i hd;simp at hd;have b:=hA.2 u.Table V V;rw[if_neg OZ];exact br4 T hA.1 u (ix p.Tables u.Table) O (λa=>a) (λc=>em ⟨c.p,c.cells⟩) 4000000 V (λcs' _=>(yk ⟨p,cs'⟩).symm) _ 0 [] (by show 0+_<=4000000;omega)
end
theorem Index_L1(l:List bq)(g:bq):∀(m:Nat)(j:Int),m=Int.toNat ((l.length:Int)-j)->0<=j->(0<=dv l g (λ_=> -1) m j↔∃k:Int,j<=k/\k < l.length/\g=ix l k)
 |0,j,hm,h0=>by
  rw[dv];constructor
  ·intro h;omega
  ·rintro⟨k,h1,h2,_⟩;omega
 |m+1,j,hm,h0=>by
  rw[dv];split
  ·rename_i e;simp only[decide_eq_true_eq]at e;exact⟨λ_=>⟨j,by omega,by omega,e⟩,λ_=>h0⟩
  ·rename_i e;simp only[decide_eq_true_eq]at e;rw[Index_L1 l g m (j+1) V V];constructor
   ·rintro⟨k,h1,h2,h3⟩;exact⟨k,by omega,h2,h3⟩
   ·rintro⟨k,h1,h2,h3⟩;have:k≠j:=λe2=>by subst e2;exact e h3
    exact⟨k,by omega,h2,h3⟩
theorem Contains_iff(l:List bq)(g:bq):fm l g=true↔∃k:Int,0<=k/\k < l.length/\g=ix l k:=by
 unfold fm iv;simp only[LET,decide_eq_true_eq];exact Index_L1 l g _ 0 V V
theorem IndexF_L1(l:List bq)(f:bq->Bool):∀(m:Nat)(j:Int),m=Int.toNat ((l.length:Int)-j)->0<=j->(0<=dl l f (λ_=> -1) m j↔∃k:Int,j<=k/\k < l.length/\f (ix l k)=true)
 |0,j,hm,h0=>by
  rw[dl];constructor
  ·intro h;omega
  ·rintro⟨k,h1,h2,_⟩;omega
 |m+1,j,hm,h0=>by
  rw[dl];split
  ·rename_i e;exact⟨λ_=>⟨j,by omega,by omega,e⟩,λ_=>h0⟩
  ·rename_i e;rw[IndexF_L1 l f m (j+1) V V];constructor
   ·rintro⟨k,h1,h2,h3⟩;exact⟨k,by omega,h2,h3⟩
   ·rintro⟨k,h1,h2,h3⟩;have:k≠j:=λe2=>by subst e2;exact e h3
    exact⟨k,by omega,h2,h3⟩
def Clash(l:List ba)(i j:Int):Prop:=(0<=i/\i < l.length/\0<=j/\j < l.length)/\∃a b:Int,(0<=a/\a < (ix l i).Guards.length)/\(0<=b/\b < (ix l j).Guards.length)/\(ix (ix l i).Guards a).Unit=(ix (ix l j).Guards b).Unit/\(ix (ix l i).Guards a).Want≠(ix (ix l j).Guards b).Want
theorem Clash.symm{l:List ba}{i j:Int}(h:Clash l i j):Clash l j i:=by
 obtain⟨h1,a,b,h2,h3,h4,h5⟩:=h;exact⟨by omega,b,a,h3,h2,h4.symm,λe=>h5 e.symm⟩
theorem Exclusive_iff(l:List ba)(i j:Int):kf l i j=true↔Clash l i j:=by
 unfold kf gj gx Clash;simp only[LET,Bool.or_eq_true,decide_eq_true_eq];split
 ·rename_i h;constructor
  ·intro h;cases h
  ·rintro⟨h1,_⟩;omega
 ·rename_i h;rw[decide_eq_true_eq,IndexF_L1 _ _ _ 0 V V];constructor
  ·rintro⟨a,a0,a1,ha⟩;simp only[ng,LET,Contains_iff]at ha;obtain⟨b,b0,b1,hb⟩:=ha;refine⟨by omega,a,b,⟨a0,a1⟩,⟨b0,b1⟩,?_,?_⟩
   ·rw[<-hb]
   ·rw[<-hb];simp
  ·rintro⟨_,a,b,⟨a0,a1⟩,⟨b0,b1⟩,h1,h2⟩;refine⟨a,a0,a1,?_⟩;simp only[ng,LET,Contains_iff];refine⟨b,b0,b1,?_⟩;have e:(!(ix (ix l i).Guards a).Want)=(ix (ix l j).Guards b).Want:=by
    cases h3:(ix (ix l i).Guards a).Want<;>cases h4:(ix (ix l j).Guards b).Want<;>simp_all
   rw[e,h1]
theorem bd0(l:List ba)(i j a:Int)(K:Unit->Bool):∀(m:Nat)(b:Int),m=Int.toNat (((ix l j).Guards.length:Int)-b)->0<=b->(jn l i j a K m b=true↔(∃k:Int,b<=k/\k < (ix l j).Guards.length/\(ix (ix l i).Guards a).Unit=(ix (ix l j).Guards k).Unit/\(ix (ix l i).Guards a).Want≠(ix (ix l j).Guards k).Want)\/K ()=true)
 |0,b,hm,h0=>by
  rw[jn];constructor
  ·intro h;exact .inr h
  ·rintro(⟨k,h1,h2,_⟩|h)
   ·omega
   ·exact h
 |m+1,b,hm,h0=>by
  rw[jn];split
  ·rename_i e;simp only[Bool.and_eq_true,decide_eq_true_eq,Bool.not_eq_true',decide_eq_false_iff_not]at e;exact⟨λ_=> .inl ⟨b,by omega,by omega,e.1,e.2⟩,λ_=>O⟩
  ·rename_i e;simp only[Bool.and_eq_true,decide_eq_true_eq,Bool.not_eq_true',decide_eq_false_iff_not]at e;rw[bd0 l i j a K m (b+1) V V];constructor
   ·rintro(⟨k,h1,h2,h3⟩|h)
    ·exact .inl ⟨k,by omega,h2,h3⟩
    ·exact .inr h
   ·rintro(⟨k,h1,h2,h3⟩|h)
    ·have:k≠b:=λe2=>by subst e2;exact e h3
     exact .inl ⟨k,by omega,h2,h3⟩
    ·exact .inr h
theorem ba0(l:List ba)(i j:Int):∀(m:Nat)(a:Int),m=Int.toNat (((ix l i).Guards.length:Int)-a)->0<=a->(jm l i j (λ_=>false) m a=true↔∃a' b:Int,(a<=a'/\a' < (ix l i).Guards.length)/\(0<=b/\b < (ix l j).Guards.length)/\(ix (ix l i).Guards a').Unit=(ix (ix l j).Guards b).Unit/\(ix (ix l i).Guards a').Want≠(ix (ix l j).Guards b).Want)
 |0,a,hm,h0=>by
  rw[jm];constructor
  ·intro h;cases h
  ·rintro⟨a',b,h1,_⟩;omega
 |m+1,a,hm,h0=>by
  rw[jm,bd0 l i j a _ _ 0 V V,ba0 l i j m (a+1) V V];constructor
  ·rintro(⟨k,h1,h2,h3⟩|⟨a',b,h1,h2,h3⟩)
   ·exact⟨a,k,by omega,⟨h1,h2⟩,h3⟩
   ·exact⟨a',b,by omega,h2,h3⟩
  ·rintro⟨a',b,h1,h2,h3⟩;by_cases e:a'=a
   ·subst e;exact .inl ⟨b,h2.1,h2.2,h3⟩
   ·exact .inr ⟨a',b,by omega,h2,h3⟩
theorem am7(l:List ba)(i j:Int):oh l i j=true↔Clash l i j:=by
 unfold oh Clash;simp only[Bool.or_eq_true,decide_eq_true_eq];split
 ·rename_i h;constructor
  ·intro h;cases h
  ·rintro⟨h1,_⟩;omega
 ·rename_i h;rw[ba0 l i j _ 0 V V];exact⟨λ⟨a,b,h1,h2,h3⟩=>⟨by omega,a,b,h1,h2,h3⟩,λ⟨_,a,b,h1,h2,h3⟩=>⟨a,b,h1,h2,h3⟩⟩
theorem cr6(l:List ba)(i j:Int):kf l i j=oh l i j:=by
 rw[Bool.eq_iff_iff,Exclusive_iff,am7]
theorem am1(u:ba)(i:Int)(K:Unit->Bool):∀(m:Nat)(j:Int),ni u i K m j=mb u i K m j
 |0,j=>rfl
 |m+1,j=>by rw[ni,mb,am1 u i K m (j+1)]
theorem bh6(u:ba)(i:Int):pu u i=rz u i:=am1 _ _ _ _ _
theorem ap4(a b:List Int)(x:Int)(K:Unit->Bool):∀(m:Nat)(j:Int),m=Int.toNat ((b.length:Int)-j)->0<=j->(ka a b x K m j=true↔(∃k:Int,j<=k/\k < b.length/\ix a x=ix b k)\/K ()=true)
 |0,j,hm,h0=>by
  rw[ka];exact⟨.inr,λh=>by rcases h with⟨k,h1,h2,_⟩|h;omega;exact h⟩
 |m+1,j,hm,h0=>by
  rw[ka];split
  ·rename_i hc;simp only[decide_eq_true_eq]at hc;exact⟨λ_=> .inl ⟨j,Int.le_refl _,by omega,hc⟩,λ_=>O⟩
  ·rename_i hc;simp only[decide_eq_true_eq]at hc;rw[ap4 a b x K m (j+1) V V];refine or_congr ⟨λ⟨k,h1,h2,h3⟩=>⟨k,by omega,h2,h3⟩,λ⟨k,h1,h2,h3⟩=>⟨k,?_,h2,h3⟩⟩ Iff.rfl;by_cases e:k=j
   ·subst e;exact absurd h3 hc
   ·omega
theorem aq4(a b:List Int):∀(m:Nat)(j:Int),m=Int.toNat ((a.length:Int)-j)->0<=j->(jz a b (λ_=>false) m j=true↔∃x k:Int,j<=x/\x < a.length/\0<=k/\k < b.length/\ix a x=ix b k)
 |0,j,hm,h0=>by
  rw[jz];exact⟨λh=>(by cases h),λ⟨x,k,h1,h2,_⟩=>by omega⟩
 |m+1,j,hm,h0=>by
  rw[jz,ap4 a b j _ _ 0 rfl V,aq4 a b m (j+1) V V];constructor
  ·rintro(⟨k,h1,h2,h3⟩|⟨x,k,h1,h2,h3⟩)
   ·exact⟨j,k,Int.le_refl _,by omega,h1,h2,h3⟩
   ·exact⟨x,k,by omega,h2,h3⟩
  ·rintro⟨x,k,h1,h2,h3,h4,h5⟩;by_cases e:x=j
   ·subst e;exact .inl ⟨k,h3,h4,h5⟩
   ·exact .inr ⟨x,k,by omega,h2,h3,h4,h5⟩
theorem aj7(a b:List Int):fw a b=true↔∃x k:Int,0<=x/\x < a.length/\0<=k/\k < b.length/\ix a x=ix b k:=aq4 a b _ 0 O V
theorem bc9(a b:List Int):fw a b=fw b a:=by
 rw[Bool.eq_iff_iff,aj7,aj7];exact⟨λ⟨x,k,h1,h2,h3,h4,h5⟩=>⟨k,x,h3,h4,h1,h2,h5.symm⟩,λ⟨x,k,h1,h2,h3,h4,h5⟩=>⟨k,x,h3,h4,h1,h2,h5.symm⟩⟩
theorem aj5(a b:List Int)(x:Int)(K K':Unit->Bool)(hK:K ()=K' ()):∀(m:Nat)(j:Int),ka a b x K m j=nj a b x K' m j
 |0,j=>hK
 |m+1,j=>by rw[ka,nj,aj5 a b x K K' hK m (j+1)]
theorem aj8(a b:List Int):∀(m:Nat)(j:Int),jz a b (λ_=>false) m j=nl a b (λ_=>false) m j
 |0,j=>rfl
 |m+1,j=>by rw[jz,nl];exact aj5 a b j _ _ (aj8 a b m (j+1)) _ _
theorem xp(a b:List Int):fw a b=me a b:=aj8 a b _ _
def dep(l:List ba)(w r:List (List Int))(i c:Int):Int:=
 if kf l i c=true then 0 else if((pu (ix l c) i||fw (ix r c) (ix w i))||fw (ix w c) (ix w i))=true then 2 else if fw (ix w c) (ix r i)=true then 1 else 0
def upd(d:List (List Int))(i c v:Int):List (List Int):=d.set i.toNat ((ix d i).set c.toNat v)
def stepd(l:List ba)(w r:List (List Int))(i:Int)(d:List (List Int))(c:Int):List (List Int):=if c<=i then d else if dep l w r i c=0 then d else upd d i c (dep l w r i c)
def ac6(l:List ba)(w r:List (List Int))(i:Int):Nat->Int->List (List Int)->List (List Int)
 |0,j,d=>d
 |m+1,j,d=>ac6 l w r i m (j+1) (stepd l w r i d j)
theorem L3_run(l:List ba)(w r:List (List Int))(i:Int)(K:List (List Int)->List (List Int))(hl:l.length<=24):∀(m:Nat)(j:Int)(d:List (List Int)),m=Int.toNat ((l.length:Int)-j)->0<=j->jq l w r i K K m j d=K (ac6 l w r i m j d)
 |0,j,d,hm,h0=>by rw[jq,ac6]
 |m+1,j,d,hm,h0=>by
  have hw:wr ((l.length:Int)-1)=(l.length:Int)-1:=dj V V;have ih:=λd=>L3_run l w r i K hl m (j+1) d V V;have fin:∀d,j=(l.length:Int)-1->K d=K (ac6 l w r i m (j+1) d):=λd hc=>by
   have:m=0:=by omega
   subst this;rw[ac6]
  rw[jq,ac6];simp only[LET,hw,ih];unfold stepd dep upd;by_cases h1:j<=i
  ·rw[if_pos (by simpa using h1),if_pos h1]
  ·rw[if_neg (by simpa using h1),if_neg h1];cases kf l i j with
   |true=>simp;exact fin _
   |false=>
    simp only[Bool.false_eq_true,if_false];cases((pu (ix l j) i||fw (ix r j) (ix w i))||fw (ix w j) (ix w i))with
    |true=>simp;exact fin _
    |false=>
     simp only[Bool.false_eq_true,if_false];cases fw (ix w j) (ix r i)with
     |true=>simp;exact fin _
     |false=>simp;exact fin _
theorem bl8(l:List ba)(w r:List (List Int))(i:Int)(hi:0<=i):∀(m:Nat)(j:Int)(d:List (List Int)),0<=j->i < d.length->(ac6 l w r i m j d).length=d.length/\(∀k:Int,0<=k->k < d.length->k≠i->ix (ac6 l w r i m j d) k=ix d k)/\(ix (ac6 l w r i m j d) i).length=(ix d i).length/\
 (∀c:Int,0<=c->c < (ix d i).length->ix (ix (ac6 l w r i m j d) i) c=if j<=c/\c < j+m/\i < c/\dep l w r i c≠0 then dep l w r i c else ix (ix d i) c)
 |0,j,d,hj,hd=>by
  rw[ac6];exact⟨O,λ_ _ _ _=>O,O,λc _ _=>by rw[if_neg V]⟩
 |m+1,j,d,hj,hd=>by
  rw[ac6];have hs:(stepd l w r i d j).length=d.length/\(∀k:Int,0<=k->k < d.length->k≠i->ix (stepd l w r i d j) k=ix d k)/\(ix (stepd l w r i d j) i).length=(ix d i).length/\(∀c:Int,0<=c->c < (ix d i).length->ix (ix (stepd l w r i d j) i) c=if c=j/\i < c/\dep l w r i c≠0 then dep l w r i c else ix (ix d i) c):=by
   unfold stepd;split
   ·exact⟨O,λ_ _ _ _=>O,O,λc _ _=>by rw[if_neg V]⟩
   split
   ·rename_i h1 h2;refine⟨O,λ_ _ _ _=>O,O,λc _ _=>?_⟩;rw[if_neg];rintro⟨rfl,_,h3⟩;exact h3 h2
   ·rename_i h1 h2;unfold upd;refine⟨List.length_set,λk k0 k1 k2=>by rw[tw k0 k1 hi,if_neg k2],?_,λc c0 c1=>?_⟩
    ·rw[tw hi hd hi,if_pos rfl,List.length_set]
    ·rw[tw hi hd hi,if_pos rfl,tw c0 c1 hj];by_cases e:c=j
     ·subst e;rw[if_pos rfl,if_pos ⟨rfl,by omega,h2⟩]
     ·rw[if_neg e,if_neg V]
  obtain⟨s1,s2,s3,s4⟩:=hs;obtain⟨t1,t2,t3,t4⟩:=bl8 l w r i hi m (j+1) (stepd l w r i d j) V V;refine⟨t1.trans s1,λk k0 k1 k2=>(t2 k k0 V k2).trans (s2 k k0 k1 k2),t3.trans s3,λc c0 c1=>?_⟩;rw[t4 c c0 V,s4 c c0 c1];by_cases e:c=j
  ·subst e;rw[if_neg V];by_cases h:i < c/\dep l w r i c≠0
   ·rw[if_pos ⟨rfl,h⟩,if_pos ⟨by omega,by omega,h⟩]
   ·rw[if_neg (λq=>h q.2),if_neg (λq=>h q.2.2)]
  ·rw[if_neg (c:=c=j/\_) (λq=>e q.1)];by_cases h:j+1<=c/\c < j+1+(m:Int)/\i < c/\dep l w r i c≠0
   ·rw[if_pos h,if_pos ⟨by omega,by omega,h.2.2⟩]
   ·rw[if_neg h,if_neg (λq=>h ⟨by omega,by omega,q.2.2⟩)]
def al7(l:List ba)(w r:List (List Int)):Nat->Int->List (List Int)->List (List Int)
 |0,i,d=>d
 |m+1,i,d=>al7 l w r m (i+1) (ac6 l w r i (Int.toNat ((l.length:Int)-0)) 0 d)
theorem L2_run(l:List ba)(w r:List (List Int))(hl:l.length<=24):∀(m:Nat)(i:Int)(d:List (List Int)),jp l w r (λz=>z) m i d=al7 l w r m i d
 |0,i,d=>by rw[jp,al7]
 |m+1,i,d=>by
  rw[jp,al7,<-L2_run l w r hl m (i+1)];exact L3_run l w r i (λz=>jp l w r (λz=>z) m (i+1) z) hl _ 0 d O V
theorem bi0(l:List ba)(w r:List (List Int)):∀(m:Nat)(i:Int)(d:List (List Int)),m=Int.toNat ((l.length:Int)-i)->0<=i->d.length=l.length->(∀k:Int,0<=k->k < d.length->(ix d k).length=l.length)->(al7 l w r m i d).length=d.length/\∀k:Int,0<=k->k < d.length->(ix (al7 l w r m i d) k).length=l.length/\
 (∀c:Int,0<=c->c < l.length->ix (ix (al7 l w r m i d) k) c=if i<=k/\k < c/\dep l w r k c≠0 then dep l w r k c else ix (ix d k) c)
 |0,i,d,hm,h0,hd,hr=>by
  rw[al7];exact⟨O,λk k0 k1=>⟨hr k k0 k1,λc _ _=>by rw[if_neg V]⟩⟩
 |m+1,i,d,hm,h0,hd,hr=>by
  rw[al7];obtain⟨s1,s2,s3,s4⟩:=bl8 l w r i h0 (Int.toNat ((l.length:Int)-0)) 0 d V V;have hri:=hr i h0 V;obtain⟨t1,t2⟩:=bi0 l w r m (i+1) (ac6 l w r i (Int.toNat ((l.length:Int)-0)) 0 d) V V V (λk k0 k1=>by
   by_cases e:k=i
   ·subst e;omega
   ·rw[s2 k k0 V e];exact hr k k0 V)
  refine⟨t1.trans s1,λk k0 k1=>?_⟩;obtain⟨t3,t4⟩:=t2 k k0 V;refine⟨t3,λc c0 c1=>?_⟩;rw[t4 c c0 c1];by_cases e:k=i
  ·subst e;rw[if_neg V,s4 c c0 V];by_cases h:k < c/\dep l w r k c≠0
   ·rw[if_pos ⟨by omega,by omega,h⟩,if_pos ⟨by omega,h⟩]
   ·rw[if_neg (λq=>h q.2.2),if_neg (λq=>h q.2)]
  ·rw[s2 k k0 V e];by_cases h:i+1<=k/\k < c/\dep l w r k c≠0
   ·rw[if_pos h,if_pos ⟨by omega,h.2⟩]
   ·rw[if_neg h,if_neg (λq=>h ⟨by omega,q.2⟩)]
theorem L1_at(p:ae)(l:List ba)(K:List (List Int)->List (List Int)->List (List Int)->List (List Int))(hl:l.length<=24):∀(m:Nat)(i:Int)(d w r:List (List Int)),m=Int.toNat ((l.length:Int)-i)->0<=i->d.length=l.length->w.length=l.length->r.length=l.length->
 (∀k:Int,0<=k->k < i->ix d k=List.replicate l.length 0/\ix w k=kd p (ix l k)/\ix r k=md p (ix l k))->
 ∃d' w' r',mf p l K m i d w r=K d' w' r'/\d'.length=l.length/\(∀k:Int,0<=k->k < l.length->ix d' k=List.replicate l.length 0/\ix w' k=kd p (ix l k)/\ix r' k=md p (ix l k))
 |0,i,d,w,r,hm,h0,h1,h2,h3,H=>⟨d,w,r,by rw[mf],h1,λk k0 k1=>H k k0 V⟩
 |m+1,i,d,w,r,hm,h0,h1,h2,h3,H=>by
  rw[mf];simp only[LET];refine L1_at p l K hl m (i+1) _ _ _ V V (by rw[List.length_set];exact h1) (by rw[List.length_set];exact h2) (by rw[List.length_set];exact h3) λk k0 k1=>?_;rw[tw k0 V h0,tw k0 V h0,tw k0 V h0];by_cases e:k=i
  ·subst e;simp
  ·rw[if_neg e,if_neg e,if_neg e];exact H k k0 V
def depP(p:ae)(l:List ba)(i c:Int):Int:=
 if kf l i c=true then 0 else if((pu (ix l c) i||fw (md p (ix l c)) (kd p (ix l i)))||fw (kd p (ix l c)) (kd p (ix l i)))=true then 2 else if fw (kd p (ix l c)) (md p (ix l i))=true then 1 else 0
theorem cb8{n:Nat}{c:Int}(h0:0<=c)(h1:c < n):ix (List.replicate n (0:Int)) c=0:=by
 rw[sy h0 (by simpa using h1)];simp
theorem dl2{α:Type}[Inhabited α]{z:List α}{a:α}{k:Int}(k0:0<=k)(k1:k < z.length+1):ix (z++[a]) k=if k < z.length then ix z k else a:=by
 rw[sy k0 (by simpa using k1)];split
 ·rename_i h;rw[List.getElem_append_left V,sy k0 h]
 ·rw[List.getElem_append_right V];simp
structure MX(p:ae)(l:List ba)(d:List (List Int)):Prop where
 n:d.length=l.length
 r:∀k:Int,0<=k->k < l.length->(ix d k).length=l.length/\∀c:Int,0<=c->c < l.length->ix (ix d k) c=if k < c then depP p l k c else 0
theorem bs4(p:ae)(l:List ba)(hl:l.length<=24):MX p l (rr p l):=by
 unfold rr;obtain⟨d,w,r,e,h1,h2⟩:=L1_at p l (λd w r=>jp l w r (λz=>z) (Int.toNat ((l.length:Int)-0)) 0 d) hl (Int.toNat ((l.length:Int)-0)) 0 (List.replicate l.length []) (List.replicate l.length []) (List.replicate l.length []) O V OZ OZ OZ (λk h0 h1=>by omega);have e':mf p l (λd w r=>jp l w r (λz=>z) (Int.toNat ((l.length:Int)-0)) 0 d) (Int.toNat ((l.length:Int)-0)) 0 (List.replicate l.length []) (List.replicate l.length []) (List.replicate l.length [])=al7 l w r (Int.toNat ((l.length:Int)-0)) 0 d:=by rw[e,L2_run l w r hl]
 have key:=bi0 l w r (Int.toNat ((l.length:Int)-0)) 0 d O V h1 (λk k0 k1=>by rw[(h2 k k0 V).1];simp);have M:MX p l (al7 l w r (Int.toNat ((l.length:Int)-0)) 0 d):=by
  refine⟨key.1.trans h1,λk k0 k1=>?_⟩;obtain⟨t1,t2⟩:=key.2 k k0 V;refine⟨t1,λc c0 c1=>?_⟩;have ed:dep l w r k c=depP p l k c:=by
   unfold dep depP;rw[(h2 k k0 k1).2.1,(h2 k k0 k1).2.2,(h2 c c0 c1).2.1,(h2 c c0 c1).2.2]
  rw[t2 c c0 c1,ed,(h2 k k0 k1).1,cb8 c0 c1];by_cases h:k < c
  ·rw[if_pos h];by_cases hz:depP p l k c=0
   ·rw[if_neg (λq=>q.2.2 hz),hz]
   ·rw[if_pos ⟨k0,h,hz⟩]
  ·rw[if_neg (λq=>h q.2.1),if_neg h]
 rw[<-e']at M;exact M
section
variable{p:ae}{l:List ba}(S:S17 p)(U:SU l)
include S
theorem cv2:Fit p:=⟨by have:=S.hh;omega,by have:=S.hm;omega,S.hr,λj h0 h1=>by have:=S.hf j h0 h1;unfold hf;omega⟩
include U
theorem cq6{i j:Int}(i0:0<=i)(i1:i < l.length)(j0:0<=j)(j1:j < l.length):oa p l i j=depP p l i j:=by
 have T:=cv2 S;have ci:=U.c i i0 i1;have cj:=U.c j j0 j1;unfold oa depP;simp only[LET];rw[ao9 T S.ab,ao9 T S.ab,ax7 T S.ab _ V,ax7 T S.ab _ V,<-cr6,<-bh6,<-xp,<-xp,<-xp,bc9 (md p (ix l i))]
theorem ca2{i:Int}(i0:0<=i)(i1:i < l.length)(K:List Int->List (List Int)):∀(m:Nat)(j:Int)(z:List Int),m=Int.toNat ((l.length:Int)-j)->0<=j->z.length=l.length->∃z',lc p l i K m j z=K z'/\z'.length=l.length/\∀c:Int,0<=c->c < l.length->ix z' c=if j<=c then depP p l i c else ix z c
 |0,j,z,hm,h0,hz=>⟨z,by rw[lc],hz,λc c0 c1=>by rw[if_neg V]⟩
 |m+1,j,z,hm,h0,hz=>by
  rw[lc];simp only[LET];obtain⟨z',e,h1,h2⟩:=ca2 i0 i1 K m (j+1) (z.set j.toNat (oa p l i j)) V V (by rw[List.length_set];exact hz);refine⟨z',e,h1,λc c0 c1=>?_⟩;rw[h2 c c0 c1,tw c0 V h0];by_cases e:c=j
  ·subst e;rw[if_neg V,if_pos rfl,if_pos (Int.le_refl _),cq6 S U i0 i1 c0 c1]
  ·rw[if_neg e];by_cases h:j+1<=c
   ·rw[if_pos h,if_pos V]
   ·rw[if_neg h,if_neg V]
theorem cf5:∀(m:Nat)(i:Int)(z:List (List Int)),m=Int.toNat ((l.length:Int)-i)->0<=i->i<=l.length->(z.length:Int)=i->(∀k:Int,0<=k->k < i->(ix z k).length=l.length/\∀c:Int,0<=c->c < l.length->ix (ix z k) c=if k < c then depP p l k c else 0)->MX p l (jo p l (λz=>z) m i z)
 |0,i,z,hm,h0,hi,hz,H=>by
  rw[jo];exact⟨by omega,λk k0 k1=>H k k0 V⟩
 |m+1,i,z,hm,h0,hi,hz,H=>by
  have hn:=U.n;have hw:wr (i+1)=i+1:=dj V V;rw[jo,hw];obtain⟨z',e,h1,h2⟩:=ca2 S U h0 V (λr=>jo p l (λz=>z) m (i+1) (z++[r])) (Int.toNat ((l.length:Int)-(i+1))) (i+1) (List.replicate l.length 0) O V OZ;have e2:lc p l i (λzE106_112=>jo p l (λz=>z) m (i+1) (z++[zE106_112])) (Int.toNat ((l.length:Int)-(i+1))) (i+1) (List.replicate l.length 0)=jo p l (λz=>z) m (i+1) (z++[z']):=e;rw[e2];refine cf5 m (i+1) (z++[z']) V V V (by simp;omega) λk k0 k1=>?_;rw[dl2 k0 V];by_cases hk:k < z.length
  ·rw[if_pos hk];exact H k k0 V
  ·rw[if_neg hk];have:k=i:=by omega
   subst this;refine⟨h1,λc c0 c1=>?_⟩;rw[h2 c c0 c1,cb8 c0 c1];by_cases h:k < c
   ·rw[if_pos V,if_pos h]
   ·rw[if_neg V,if_neg h]
theorem bq2:MX p l (sh p l):=cf5 S U _ 0 [] O V V O (λk h0 h1=>by omega)
end
theorem du9{p:ae}{l:List ba}{a b:List (List Int)}(A:MX p l a)(B:MX p l b):a=b:=by
 refine List.ext_getElem (by rw[A.n,B.n]) λk k1 k2=>?_;have hk:(k:Int) < l.length:=by have:=A.n;omega
 obtain⟨a1,a2⟩:=A.r k V hk;obtain⟨b1,b2⟩:=B.r k V hk;rw[sy V V]at a1 b1;simp only[Int.toNat_natCast]at a1 b1;refine List.ext_getElem (by rw[a1,b1]) λc c1 c2=>?_;have q1:=a2 c V V;have q2:=b2 c V V;rw[sy (l:=a) V V]at q1;rw[sy (l:=b) V V]at q2;simp only[Int.toNat_natCast]at q1 q2;rw[sy V V]at q1 q2;simp only[Int.toNat_natCast]at q1 q2;rw[q1,q2]
theorem aq5(l:List Int):∀(m:Nat)(i:Int),jk l l (λ_=>true) m i=true
 |0,i=>by rw[jk]
 |m+1,i=>by
  rw[jk,if_neg OZ];exact aq5 l m _
theorem az4(l:List Int):pz l l=true:=by
 unfold pz;rw[if_neg OZ];exact aq5 l _ _
theorem dd5(a:List (List Int)):∀(m:Nat)(i:Int),jd a a (λ_=>true) m i=true
 |0,i=>by rw[jd]
 |m+1,i=>by
  rw[jd];simp only[LET,az4,Bool.not_true,Bool.false_eq_true,if_false];exact dd5 a m _
theorem DepsBuilds_law(x0:ae)(x1:List ba):pj x0 x1=true:=by
 unfold pj;simp only[LET];split
 ·rfl
 ·rename_i h;simp only[Bool.or_eq_true,not_or,Bool.not_eq_true',Bool.not_eq_false]at h;have S:=s17 O h.1;have U:=do2 O h.2;rw[du9 (bs4 x0 x1 U.n) (bq2 S U),if_neg OZ];exact dd5 _ _ _
end Go.Proofs.YtmonnlkagniolaaGreat
