import Derived.Test.YtmonnlkagniolaaKExABd
import Derived.Test.YtmonnlkagniolaaPbV
set_option linter.all false
set_option maxRecDepth 100000
namespace Go.Proofs.Ytmonnlkagniolaa
open Go Go.Pb Go.RowKit
def hf(p:y5q)(j:Int):Int:=((ix p.Headers j).Fields.length:Int)
def nfs(p:y5q):Nat->Int
 |0=>0
 |n+1=>nfs p n+hf p n
structure Fit(p:y5q):Prop where
 hh:p.Headers.length<=16
 hm:p.Metadata.length<=20
 hr:p.Registers.length<=8
 hf:∀j:Int,0<=j->j < p.Headers.length->hf p j<=20
theorem hf_0(p:y5q)(j:Int):0<=hf p j:=Int.natCast_nonneg _
theorem fit_of{p:y5q}(h:law21_TooLarge p=false):Fit p:=by
 have k:=tl h O;exact⟨k.1.1,k.1.2.1,k.1.2.2,λj h0 h1=>by have:=k.2.1 j h0 h1;simp only[hf];omega⟩
section
variable{p:y5q}(T:Fit p)
include T
theorem nfs_b:∀n:Nat,n<=p.Headers.length->0<=nfs p n/\nfs p n<=20*n
 |0,_=>by simp[nfs]
 |n+1,h=>by
  have ih:=nfs_b n V;have h1:=T.hf n V V;have h2:=hf_0 p n;simp only[nfs];omega
omit T in
theorem nfs_le{m:Nat}:∀n:Nat,m<=n->nfs p m<=nfs p n
 |0,h=>by have:m=0:=by omega
          subst this;exact Int.le_refl _
 |n+1,h=>by
  by_cases e:m=n+1
  ·subst e;exact Int.le_refl _
  ·have ih:=nfs_le n (show m<=n by omega);have h2:=hf_0 p n;simp only[nfs];omega
omit T in
def nf(p:y5q):Int:=nfs p p.Headers.length
theorem nf_b:0<=nf p/\nf p<=320:=by
 have:=nfs_b T p.Headers.length (Nat.le_refl _);have h:=T.hh;simp only[nf];omega
theorem counts_L1(K:List Int->List Int)(a b c:Int):∀(m:Nat)(i:Int),m=Int.toNat ((p.Headers.length:Int)-i)->0<=i->i<=p.Headers.length->access_counts_L1 p K m i [nfs p i.toNat,a,b,c]=K [nf p,a,b,c]
 |0,i,hm,h0,h1=>by
  have:i.toNat=p.Headers.length:=by omega
  rw[access_counts_L1,this];rfl
 |m+1,i,hm,h0,h1=>by
  rw[access_counts_L1];have h2:=nfs_b T i.toNat V;have h3:=T.hf i h0 V;have h4:=hf_0 p i;have hh:=T.hh;have e:([nfs p i.toNat,a,b,c]:List Int).set (0:Int).toNat (wr (ix ([nfs p i.toNat,a,b,c]:List Int) 0+((ix p.Headers i).Fields.length:Int)))=[nfs p (i+1).toNat,a,b,c]:=by
   have e1:(i+1).toNat=i.toNat+1:=by omega
   have e2:ix ([nfs p i.toNat,a,b,c]:List Int) 0=nfs p i.toNat:=O;rw[e1,e2];show wr (nfs p i.toNat+hf p i)::_=_
   rw[wr_of V V];simp only[nfs];rw[show((i.toNat:Nat):Int)=i by omega]
  rw[e];exact counts_L1 K a b c m (i+1) V V V
theorem counts_eq:y108q p=[nf p,(p.Headers.length:Int),(p.Metadata.length:Int),(p.Registers.length:Int)]:=by
 unfold y108q;exact counts_L1 T _ _ _ _ _ 0 O V V
theorem first_eq(k:Int)(hk:0<=k/\k<=4):access_first p k=if k=0 then 0 else if k=1 then nf p else if k=2 then nf p+p.Headers.length else if k=3 then nf p+p.Headers.length+p.Metadata.length else nf p+p.Headers.length+p.Metadata.length+p.Registers.length:=by
 have hb:=nf_b T;have h1:=T.hh;have h2:=T.hm;have h3:=T.hr;have key:∀a b c d:Int,(0<=a/\a<=320)->(0<=b/\b<=16)->(0<=c/\c<=20)->(0<=d/\d<=8)->access_first_L1 k [a,b,c,d] (λx=>x) 4 0 0=if k=0 then 0 else if k=1 then a else if k=2 then a+b else if k=3 then a+b+c else a+b+c+d:=by
  intro a b c d ha hb hc hd;have hx:ix ([a,b,c,d]:List Int) 0=a/\ix ([a,b,c,d]:List Int) 1=b/\ix ([a,b,c,d]:List Int) 2=c/\ix ([a,b,c,d]:List Int) 3=d:=⟨O,O,O,O⟩;have w1:wr (0+a)=a:=by rw[wr_of V V];omega
  have w2:wr (a+b)=a+b:=wr_of V V;have w3:wr (a+b+c)=a+b+c:=wr_of V V;have w4:wr (a+b+c+d)=a+b+c+d:=wr_of V V;have:k=0\/k=1\/k=2\/k=3\/k=4:=by omega
  rcases this with rfl|rfl|rfl|rfl|rfl<;>simp[access_first_L1,hx.1,hx.2.1,hx.2.2.1,hx.2.2.2,w1,w2,w3,w4,wr_of (n:=a) V V]
 unfold access_first;simp only[LET,counts_eq T];exact key _ _ _ _ hb V V V
theorem cell_eq(k i:Int)(hk:0<=k/\k<=3):access_cell p k i=if i < 0\/ix [nf p,(p.Headers.length:Int),(p.Metadata.length:Int),(p.Registers.length:Int)] k<=i then -1 else access_first p k+i:=by
 unfold access_cell;simp only[LET,counts_eq T,Bool.or_eq_true,decide_eq_true_eq];split
 ·rfl
 ·rename_i hc;simp only[not_or]at hc;have hb:=nf_b T;have h1:=T.hh;have h2:=T.hm;have h3:=T.hr;have hx:ix [nf p,(p.Headers.length:Int),(p.Metadata.length:Int),(p.Registers.length:Int)] k<=320:=by
   have:k=0\/k=1\/k=2\/k=3:=by omega
   rcases this with rfl|rfl|rfl|rfl
   ·show nf p<=320;omega
   ·show(p.Headers.length:Int)<=320;omega
   ·show(p.Metadata.length:Int)<=320;omega
   ·show(p.Registers.length:Int)<=320;omega
  have hf:0<=access_first p k/\access_first p k<=400:=by
   rw[first_eq T k V];split
   ·omega
   ·split
    ·omega
    ·split
     ·omega
     ·split<;>omega
  exact wr_of V V
theorem valid_eq(h:Int):y98q p h=if h < 0\/(p.Headers.length:Int)<=h then -1 else nf p+h:=by
 unfold y98q;simp only[LET,cell_eq T 1 h V,first_eq T 1 V];rfl
theorem reg_eq(r:Int):y80q p r=if r < 0\/(p.Registers.length:Int)<=r then -1 else nf p+p.Headers.length+p.Metadata.length+r:=by
 unfold y80q;simp only[LET,cell_eq T 3 r V,first_eq T 3 V];rfl
theorem cells_eq:y79q p=nf p+p.Headers.length+p.Metadata.length+p.Registers.length:=by
 unfold y79q;simp only[LET,first_eq T 4 V];simp
omit T in
theorem ix_sub{α:Type}[Inhabited α](l:List α)(b i:Int)(h0:0<=i)(h1:i < b):ix (sub l 0 b) i=ix l i:=by
 simp only[ix,sub,Int.toNat_zero,List.drop_zero,Nat.sub_zero,List.getD_eq_getElem?_getD];rw[List.getElem?_take_of_lt V]
theorem field_L1(r:y4q)(K:Int->Int)(h0:0<=r.Header)(h1:r.Header < p.Headers.length)(f0:0<=r.Field)(f1:r.Field < hf p r.Header):∀(m:Nat)(i:Int),m=Int.toNat (r.Header-i)->0<=i->i<=r.Header->y90q p r K m (r.Field+nfs p i.toNat) i=K (r.Field+nfs p r.Header.toNat)
 |0,i,hm,h2,h3=>by
  have:i=r.Header:=by omega
  subst this;rw[y90q]
 |m+1,i,hm,h2,h3=>by
  rw[y90q,ix_sub p.Headers r.Header i h2 V];have b:=nfs_b T i.toNat V;have h4:=T.hf i h2 V;have h5:=hf_0 p i;have h6:=T.hf r.Header h0 h1;have hh:=T.hh;have e:wr (r.Field+nfs p i.toNat+((ix p.Headers i).Fields.length:Int))=r.Field+nfs p (i+1).toNat:=by
   have e1:(i+1).toNat=i.toNat+1:=by omega
   show wr (r.Field+nfs p i.toNat+hf p i)=_
   rw[wr_of V V,e1];simp only[nfs];rw[show((i.toNat:Nat):Int)=i by omega];omega
  rw[e];exact field_L1 r K h0 h1 f0 f1 m (i+1) V V V
theorem field_eq(r:y4q):y99q p r=if r.Header= -1 then(if r.Field < 0\/(p.Metadata.length:Int)<=r.Field then -1 else nf p+p.Headers.length+r.Field)else if r.Header < 0\/(p.Headers.length:Int)<=r.Header\/r.Field < 0\/hf p r.Header<=r.Field then -1 else r.Field+nfs p r.Header.toNat:=by
 unfold y99q;simp only[LET,decide_eq_true_eq,Bool.or_eq_true,cell_eq T 2 r.Field V,first_eq T 2 V];split
 ·rfl
 ·split
  ·rename_i h;rw[if_pos];simp only[hf];rcases h with((h|h)|h)|h<;>omega
  ·rename_i h;have h':¬(r.Header < 0\/(p.Headers.length:Int)<=r.Header\/r.Field < 0\/hf p r.Header<=r.Field):=by
    simp only[hf];omega
   rw[if_neg h'];simp only[not_or,Int.not_lt,Int.not_le]at h';have hl:=sub_len (l:=p.Headers) (a:=0) (b:=r.Header) V V V;have:=field_L1 T r (λx=>x) V V V V (Int.toNat (((sub p.Headers 0 r.Header).length:Int)-0)) 0 V V V;simpa[nfs]using this
end
theorem int_sto:STO (λa b:Int=>decide (a < b)) where
 irr x:=by simp
 trans x y z h1 h2:=by simp at*;omega
 total x y h1 h2:=by simp at*;omega
theorem sortI_eq(l:List Int):y61q l=l.mergeSort λx y=>!(λa b:Int=>decide (a < b)) y x:=by
 unfold y61q
 congr 1
 funext x y
 rw[Bool.eq_iff_iff];simp
def CI(p:y5q)(l:List Int):Prop:=∀n∈l,0<=n/\n < y79q p
def SR(p:y5q)(l:List Int):Prop:=l.Pairwise (· < ·)/\CI p l
def CC(p:y5q)(c:y9q):Prop:=c.p=p/\CI p c.cells
theorem ci_nil(p:y5q):CI p []:=λn h=>by cases h
theorem ci_app{p:y5q}{l k:List Int}(a:CI p l)(b:CI p k):CI p (l++k):=λn h=>by
 rcases List.mem_append.1 h with h|h
 ·exact a n h
 ·exact b n h
theorem ci_nn{p:y5q}{l:List Int}(h:∀n∈l,n < y79q p):CI p (nn l):=λn hn=>by
 have:=List.mem_filter.1 hn;exact⟨by simpa using this.2,h n this.1⟩
theorem sorted_sr{p:y5q}{c:y9q}(h:CC p c):SR p (y68q c):=by
 unfold y68q;simp only[LET];show SR p (cpt (y61q c.cells))
 rw[sortI_eq];refine⟨?_,λn hn=>?_⟩
 ·have:=cpt_pw int_sto (sort_pw int_sto c.cells);refine this.imp λ{a b} hab=>by simpa using hab
 ·rw[cpt_mem,List.mem_mergeSort]at hn;exact h.2 n hn
theorem sr_nil(p:y5q):SR p []:=⟨List.Pairwise.nil,ci_nil p⟩
section
variable{p:y5q}(T:Fit p)
include T
theorem field_lt(r:y4q):y99q p r < y79q p:=by
 have hn:=nf_b T;rw[field_eq T,cells_eq T];split
 ·split<;>omega
 ·split
  ·omega
  ·rename_i h1 h2;have h3:r.Header.toNat+1<=p.Headers.length:=by omega
   have:=nfs_le (p:=p) p.Headers.length h3;have e:nfs p (r.Header.toNat+1)=nfs p r.Header.toNat+hf p (r.Header.toNat:Int):=O;have e2:((r.Header.toNat:Nat):Int)=r.Header:=by omega
   rw[e2]at e;simp only[nf];omega
theorem valid_lt(h:Int):y98q p h < y79q p:=by
 have hn:=nf_b T;rw[valid_eq T,cells_eq T];split<;>omega
theorem reg_lt(h:Int):y80q p h < y79q p:=by
 have hn:=nf_b T;rw[reg_eq T,cells_eq T];split<;>omega
theorem cls_ci(f:List y4q)(h r:List Int):CI p (cls p f h r):=by
 unfold cls;refine ci_app (ci_nn λn hn=>?_) (ci_app (ci_nn λn hn=>?_) (ci_nn λn hn=>?_))
 ·obtain⟨x,_,rfl⟩:=List.mem_map.1 hn;exact field_lt T x
 ·obtain⟨x,_,rfl⟩:=List.mem_map.1 hn;exact valid_lt T x
 ·obtain⟨x,_,rfl⟩:=List.mem_map.1 hn;exact reg_lt T x
theorem add_cc{c:y9q}(hc:CC p c)(f:List y4q)(h r:List Int):CC p (y60q c f h r):=by
 rw[add_eq];refine⟨hc.1,ci_app hc.2 ?_⟩;rw[hc.1];exact cls_ci T f h r
theorem rd1(y:y26q×Bool)(K:y9q->List Int)(hK:∀c,CC p c->SR p (K c)):∀(m:Nat)(i:Int)(c:y9q),CC p c->SR p (access_Reads_L1 y K m i c)
 |0,i,c,hc=>by rw[access_Reads_L1];exact hK c hc
 |m+1,i,c,hc=>by
  rw[access_Reads_L1];simp only[LET];exact rd1 y K hK m (i+1) _ (add_cc T hc _ _ _)
theorem rd2(y:y26q×Bool)(K:y9q->List Int)(hK:∀c,CC p c->SR p (K c)):∀(m:Nat)(i:Int)(c:y9q),CC p c->SR p (access_Reads_L2 p y K m i c)
 |0,i,c,hc=>by rw[access_Reads_L2];exact hK c hc
 |m+1,i,c,hc=>by
  rw[access_Reads_L2];simp only[LET];exact rd2 y K hK m (i+1) _ (add_cc T hc _ _ _)
theorem wr1(y:y26q×Bool)(K:y9q->List Int)(hK:∀c,CC p c->SR p (K c)):∀(m:Nat)(i:Int)(c:y9q),CC p c->SR p (access_Writes_L1 p y K m i c)
 |0,i,c,hc=>by rw[access_Writes_L1];exact hK c hc
 |m+1,i,c,hc=>by
  rw[access_Writes_L1];simp only[LET];exact wr1 y K hK m (i+1) _ (add_cc T hc _ _ _)
theorem reads_sr(u:y49q):SR p (access_Reads p u):=by
 have c0:CC p {p:=p,cells:=[]}:=⟨O,ci_nil p⟩;unfold access_Reads;simp only[LET];split
 ·exact sorted_sr (add_cc T c0 _ _ _)
 split
 ·exact sr_nil p
 ·exact rd1 T _ _ (λc hc=>rd2 T _ _ (λc hc=>sorted_sr hc) _ _ _ hc) _ _ _ c0
theorem writes_sr(u:y49q):SR p (access_Writes p u):=by
 have c0:CC p {p:=p,cells:=[]}:=⟨O,ci_nil p⟩;unfold access_Writes;simp only[LET];split
 ·exact sr_nil p
 ·exact wr1 T _ _ (λc hc=>sorted_sr hc) _ _ _ c0
end
theorem srt_L1(l:List Int)(n:Int)(hp:l.Pairwise (· < ·))(hr:∀x∈l,0<=x/\x < n)(hl:l.length<=1000000):∀(m:Nat)(i:Int),m=Int.toNat ((l.length:Int)-i)->0<=i->law31_sorted_L1 l n (λ_=>true) m i=true
 |0,i,hm,h0=>by rw[law31_sorted_L1]
 |m+1,i,hm,h0=>by
  rw[law31_sorted_L1];have e:=ix_lt (l:=l) h0 V;have h1:=hr (ix l i) (by rw[e];exact List.getElem_mem _);rw[if_neg]
  ·exact srt_L1 l n hp hr hl m (i+1) V V
  ·intro hh;simp only[Bool.or_eq_true,Bool.and_eq_true,decide_eq_true_eq]at hh;rcases hh with(hh|hh)|⟨hh,h2⟩
   ·omega
   ·omega
   ·rw[wr_of V V,e,ix_lt (l:=l) (i:=i-1) V V]at h2;have:=List.pairwise_iff_getElem.1 hp (i-1).toNat i.toNat V V V;omega
theorem sorted_true{p:y5q}{l:List Int}(h:SR p l)(hl:l.length<=1000000):law31_sorted l (y79q p)=true:=by
 unfold law31_sorted;exact srt_L1 l _ h.1 h.2 hl _ 0 O (Int.le_refl _)
theorem sr_len{p:y5q}(T:Fit p){l:List Int}(h:SR p l):l.length<=1000000:=by
 have hc:y79q p<=1000:=by
  have:=nf_b T;have h1:=T.hh;have h2:=T.hm;have h3:=T.hr;rw[cells_eq T];omega
 have key:∀(k:List Int)(a:Int),k.Pairwise (· < ·)->(∀x∈k,a<=x/\x < 1000)->a<=1000->(k.length:Int)<=1000-a:=by
  intro k;induction k with
  |nil=>intro a _ _ ha;simp;omega
  |cons x t ih=>
   intro a hp hx ha;have h1:=hx x List.mem_cons_self;rw[List.pairwise_cons]at hp;have:=ih (x+1) hp.2 (λy hy=>⟨by have:=hp.1 y hy;omega,(hx y (List.mem_cons_of_mem _ hy)).2⟩) V;simp only[List.length_cons];omega
 have:=key l 0 h.1 (λx hx=>⟨(h.2 x hx).1,by have:=(h.2 x hx).2;omega⟩) V;omega
theorem AccessSorted_law(p:y5q)(u:y49q):law31_AccessSorted p u=true:=by
 unfold law31_AccessSorted;simp only[LET];split
 ·rfl
 ·rename_i h;simp only[Bool.or_eq_true,decide_eq_true_eq,not_or,Bool.not_eq_true]at h;have T:=fit_of h.1;have r:=reads_sr T u;have w:=writes_sr T u;rw[sorted_true r (sr_len T r),sorted_true w (sr_len T w)];rfl
end Go.Proofs.Ytmonnlkagniolaa
