import Derived.Test.YtmonnlkagniolaaKDef
import Derived.Test.YtmonnlkagniolaaPbP
import Derived.Test.YtmonnlkagniolaaPbV
set_option linter.all false
set_option maxRecDepth 100000
namespace Go.Proofs.Ytmonnlkagniolaa
open Go Go.Pb Go.RowKit
theorem bitvec_valid_one(w:Int):bitvec_valid [w]=decide (1<=w/\w<=32):=by
 unfold bitvec_valid;have e:(Int.toNat (((([w]:List Int)).length:Int)-0))=1:=by simp
 rw[e,bitvec_valid_L1,bitvec_valid_L1];have hx:ix ([w]:List Int) 0=w:=O;rw[hx];by_cases h:1<=w/\w<=32
 ·rw[if_neg (by simp;omega)];simp[h]
 ·rw[if_pos (by simp;omega)];simp[h]
theorem mask_sh{w:Int}{b:Bool}(h:bitvec_valid [w]=b)(h2:b=true):0<=wr (32-w):=by
 rw[bitvec_valid_one]at h;subst h2;simp only[decide_eq_true_eq]at h;rw[wr_of V V];omega
theorem arity_le(op:Int):y84q op<=3/\ -1<=y84q op:=by
 unfold y84q;simp only[LET]
 repeat' split
 all_goals omega
theorem ar{op y:Int}(h:y84q op=y):y<=3/\ -1<=y:=by rw[<-h];exact arity_le op
theorem check_next_L1(s:y28q)(n:List y11q)(rec_:y28q->List y11q->Int->Int×Int×Int)(a:Int)(ha:0<=a)(K:Int->List Int->Int×Int×Int)(hr:∀z:Int,0<=z->(rec_ s n z).2.2=0->z < (rec_ s n z).2.1)(hK:∀x z,a < x->(K x z).2.2=0->a < (K x z).2.1):
 ∀(m:Nat)(x i:Int)(z:List Int),a < x->(y44q s n rec_ K m x i z).2.2=0->a < (y44q s n rec_ K m x i z).2.1
 |0,x,i,z,hx,h=>by rw[y44q]at h⊢;exact hK x z hx h
 |m+1,x,i,z,hx,h=>by
  rw[y44q]at h⊢;simp only[LET]at h⊢;split at h
  ·rename_i hc;simp only[Bool.not_eq_true',decide_eq_false_iff_not]at hc;exact absurd h hc
  ·rename_i hc;rw[if_neg hc];simp only[Bool.not_eq_true',decide_eq_false_iff_not,Decidable.not_not]at hc;have:=hr x V hc;exact check_next_L1 s n rec_ a ha K hr hK m _ _ _ V h
theorem check_next:∀(k:Nat)(s:y28q)(n:List y11q)(a:Int),0<=a->n.length<=1000000->(y46q k s n a).2.2=0->a < (y46q k s n a).2.1
 |0,s,n,a,ha,hn,h=>by rw[y46q]at h;cases h
 |k+1,s,n,a,ha,hn,h=>by
  rw[y46q]at h⊢;unfold y51q at h⊢;simp only[LET]at h⊢;split at h
  ·cases h
  ·rename_i h1;rw[if_neg h1];simp only[decide_eq_true_eq,Int.not_le]at h1;have ew:wr (a+1)=a+1:=wr_of V V;split at h
   ·cases h
   ·rename_i h2;rw[if_neg h2];split at h
    ·rename_i h3;rw[if_pos h3];show a < wr (a+1)
     omega
    ·rename_i h3;rw[if_neg h3];exact check_next_L1 s n _ a ha _ (λz hz hz2=>check_next k s n z hz hn hz2) (λx z hx _=>hx) _ _ _ _ V h
theorem check_fuel_L1(s:y28q)(n:List y11q)(r1 r2:y28q->List y11q->Int->Int×Int×Int)(a:Int)(ha:0<=a)(K:Int->List Int->Int×Int×Int)(hr:∀z:Int,a < z->r1 s n z=r2 s n z)(hn:∀z:Int,0<=z->(r1 s n z).2.2=0->z < (r1 s n z).2.1):
 ∀(m:Nat)(x i:Int)(z:List Int),a < x->y44q s n r1 K m x i z=y44q s n r2 K m x i z
 |0,x,i,z,hx=>by rw[y44q,y44q]
 |m+1,x,i,z,hx=>by
  rw[y44q,y44q];simp only[LET,<-hr x hx];split
  ·rfl
  ·rename_i hc;simp only[Bool.not_eq_true',decide_eq_false_iff_not,Decidable.not_not]at hc;have:=hn x V hc;exact check_fuel_L1 s n r1 r2 a ha K hr hn m _ _ _ V
theorem check_fuel:∀(k k':Nat)(s:y28q)(n:List y11q)(a:Int),0<=a->n.length<=1000000->n.length-a.toNat < k->n.length-a.toNat < k'->y46q k s n a=y46q k' s n a
 |0,k',s,n,a,ha,hn,h1,h2=>by omega
 |k+1,0,s,n,a,ha,hn,h1,h2=>by omega
 |k+1,k'+1,s,n,a,ha,hn,h1,h2=>by
  rw[y46q,y46q];unfold y51q;simp only[LET];split
  ·rfl
  ·rename_i h3;simp only[decide_eq_true_eq,Int.not_le]at h3;have ew:wr (a+1)=a+1:=wr_of V V;split
   ·rfl
   ·split
    ·rfl
    ·exact check_fuel_L1 s n _ _ a ha _ (λz hz=>check_fuel k k' s n z V hn V V) (λz hz h=>check_next k s n z hz hn h) _ _ _ _ V
theorem check_eq(s:y28q)(n:List y11q)(a:Int)(ha:0<=a)(hn:n.length<=1000000):y38q s n a=y51q y38q s n a:=by
 have e:y38q s n a=y51q (y46q (n.length-a.toNat)) s n a:=by
  unfold y38q;rw[y46q]
 rw[e];unfold y51q;simp only[LET];split
 ·rfl
 ·rename_i h3;simp only[decide_eq_true_eq,Int.not_le]at h3;have ew:wr (a+1)=a+1:=wr_of V V;split
  ·rfl
  ·split
   ·rfl
   ·exact check_fuel_L1 s n _ _ a ha _ (λz hz=>check_fuel (n.length-a.toNat) (n.length-z.toNat+1) s n z V hn V V) (λz hz h=>check_next _ s n z hz hn h) _ _ _ _ V
theorem cnext{s:y28q}{n:List y11q}{a:Int}(ha:0<=a)(hn:n.length<=1000000)(h:(y38q s n a).2.2=0):a < (y38q s n a).2.1:=check_next _ s n a ha hn h
structure Ok(s:y28q)(n:List y11q)(a:Int):Prop where
 lo:0<=a
 len:n.length<=1000000
 ok:(y38q s n a).2.2=0
def nx(s:y28q)(n:List y11q)(a:Int):Int:=(y38q s n a).2.1
def wd(s:y28q)(n:List y11q)(a:Int):Int:=(y38q s n a).1
theorem Ok.lt{s:y28q}{n:List y11q}{a:Int}(h:Ok s n a):a < n.length:=by
 have:=h.ok;rw[check_eq s n a h.lo h.len]at this;unfold y51q at this;by_cases hc:(n.length:Int)<=a
 ·rw[if_pos (by simpa using hc)]at this;cases this
 ·omega
theorem Ok.wr1{s:y28q}{n:List y11q}{a:Int}(h:Ok s n a):wr (a+1)=a+1:=by
 have:=h.lt;have:=h.len;have:=h.lo;exact wr_of V V
theorem Ok.step{s:y28q}{n:List y11q}{a:Int}(h:Ok s n a):
 (y84q (ix n a).Op=0/\(y100q s (ix n a)).2=0/\wd s n a=(y100q s (ix n a)).1/\nx s n a=a+1)\/
 (y84q (ix n a).Op=1/\Ok s n (a+1)/\(expr_combine (ix n a) [wd s n (a+1),0,0]).2=0/\wd s n a=(expr_combine (ix n a) [wd s n (a+1),0,0]).1/\nx s n a=nx s n (a+1))\/
 (y84q (ix n a).Op=2/\Ok s n (a+1)/\Ok s n (nx s n (a+1))/\(expr_combine (ix n a) [wd s n (a+1),wd s n (nx s n (a+1)),0]).2=0/\wd s n a=(expr_combine (ix n a) [wd s n (a+1),wd s n (nx s n (a+1)),0]).1/\nx s n a=nx s n (nx s n (a+1)))\/
 (y84q (ix n a).Op=3/\Ok s n (a+1)/\Ok s n (nx s n (a+1))/\Ok s n (nx s n (nx s n (a+1)))/\(expr_combine (ix n a) [wd s n (a+1),wd s n (nx s n (a+1)),wd s n (nx s n (nx s n (a+1)))]).2=0/\wd s n a=(expr_combine (ix n a) [wd s n (a+1),wd s n (nx s n (a+1)),wd s n (nx s n (nx s n (a+1)))]).1/\nx s n a=nx s n (nx s n (nx s n (a+1)))):=by
 have hlt:=h.lt;have hw:=h.wr1;have hok:=h.ok;have hlo:=h.lo;have har:=arity_le (ix n a).Op;have e:y38q s n a=y51q y38q s n a:=check_eq s n a h.lo h.len;have mk:∀z:Int,0<=z->(y38q s n z).2.2=0->Ok s n z:=λz h0 h1=>⟨h0,h.len,h1⟩;simp only[wd,nx];rw[e]at hok⊢;unfold y51q at hok⊢;simp only[LET,hw]at hok⊢;rw[if_neg (show¬(decide ((n.length:Int)<=a)=true) by simpa using hlt)]at hok⊢;by_cases hn:y84q (ix n a).Op < 0
 ·rw[if_pos (by simpa using hn)]at hok;cases hok
 rw[if_neg (show¬(decide (y84q (ix n a).Op < 0)=true) by simpa using hn)]at hok⊢;by_cases h0:y84q (ix n a).Op=0
 ·rw[if_pos (by simpa using h0)]at hok⊢;exact .inl ⟨h0,hok,O,O⟩
 rw[if_neg (show¬(decide (y84q (ix n a).Op=0)=true) by simpa using h0)]at hok⊢;right;have hcase:y84q (ix n a).Op=1\/y84q (ix n a).Op=2\/y84q (ix n a).Op=3:=by omega
 rcases hcase with ha|ha|ha
 ·left;rw[ha]at hok⊢;rw[show Int.toNat (1-0)=1 from rfl]at hok⊢;simp only[y44q,LET]at hok⊢;by_cases c1:(y38q s n (a+1)).2.2=0
  ·rw[if_neg (by simp[c1])]at hok⊢;exact⟨trivial,mk _ V c1,hok,O,O⟩
  ·rw[if_pos (by simp[c1])]at hok;exact absurd hok c1
 ·right;left;rw[ha]at hok⊢;rw[show Int.toNat (2-0)=2 from rfl]at hok⊢;simp only[y44q,LET]at hok⊢;by_cases c1:(y38q s n (a+1)).2.2=0
  ·rw[if_neg (by simp[c1])]at hok⊢;have n1:=cnext (s:=s) (n:=n) (a:=a+1) V h.len c1;by_cases c2:(y38q s n (y38q s n (a+1)).2.1).2.2=0
   ·rw[if_neg (by simp[c2])]at hok⊢;exact⟨trivial,mk _ V c1,mk _ V c2,hok,O,O⟩
   ·rw[if_pos (by simp[c2])]at hok;exact absurd hok c2
  ·rw[if_pos (by simp[c1])]at hok;exact absurd hok c1
 ·right;right;rw[ha]at hok⊢;rw[show Int.toNat (3-0)=3 from rfl]at hok⊢;simp only[y44q,LET]at hok⊢;by_cases c1:(y38q s n (a+1)).2.2=0
  ·rw[if_neg (by simp[c1])]at hok⊢;have n1:=cnext (s:=s) (n:=n) (a:=a+1) V h.len c1;by_cases c2:(y38q s n (y38q s n (a+1)).2.1).2.2=0
   ·rw[if_neg (by simp[c2])]at hok⊢;have n2:=cnext (s:=s) (n:=n) V h.len c2;by_cases c3:(y38q s n (y38q s n (y38q s n (a+1)).2.1).2.1).2.2=0
    ·rw[if_neg (by simp[c3])]at hok⊢;exact⟨trivial,mk _ V c1,mk _ V c2,mk _ V c3,hok,O,O⟩
    ·rw[if_pos (by simp[c3])]at hok;exact absurd hok c3
   ·rw[if_pos (by simp[c2])]at hok;exact absurd hok c2
  ·rw[if_pos (by simp[c1])]at hok;exact absurd hok c1
theorem cpt_len{α:Type}[Inhabited α][DecidableEq α](l:List α):(cpt l).length<=l.length:=cpF_len l _
theorem chk24{n:List y11q}{s:y28q}(h:(expr_Check n s).2=0):n.length<=24:=by
 unfold expr_Check at h;split at h
 ·simp at h
 ·rename_i h1;simp at h1;omega
theorem value24{c:y41q}{n:List y11q}{w:Int}(h:y88q c n w=0):n.length<=24:=by
 unfold y88q at h;simp only[LET]at h;split at h
 ·simp at h
 ·exact chk24 h
theorem stmt_ok{c:y41q}{s:y13q}(h:y77q c s=0):(s.Kind=1\/s.Kind=5->s.Value.length<=24)/\(s.Kind=4\/s.Kind=5->s.Index.length<=24)/\(s.Kind=2\/s.Kind=3->0<=s.Header/\s.Header < c.scope.Program.Headers.length):=by
 unfold y77q at h;simp only[LET]at h;by_cases k1:s.Kind=1
 ·rw[if_pos (by simp[k1])]at h;split at h
  ·simp at h
  ·exact⟨λ_=>value24 h,λq=>by omega,λq=>by omega⟩
 rw[if_neg (by simp[k1])]at h;by_cases k2:s.Kind=2\/s.Kind=3
 ·have e:(if decide (s.Kind=2)=true then(if(decide (s.Header < 0)||decide ((c.scope.Program.Headers.length:Int)<=s.Header))=true then(8:Int)else 0)else(if(decide (s.Header < 0)||decide ((c.scope.Program.Headers.length:Int)<=s.Header))=true then 8 else 0))=0:=by
   rcases k2 with k2|k2
   ·simpa[k2]using h
   ·simpa[k2]using h
  rw[ite_self]at e;split at e
  ·simp at e
  ·rename_i h1;simp at h1;exact⟨λq=>by omega,λq=>by omega,λ_=>by omega⟩
 by_cases k4:s.Kind=4
 ·rw[if_neg (by simp;omega),if_neg (by simp;omega),if_pos (by simp[k4]),if_pos (by simp[k4])]at h;split at h
  ·simp at h
  split at h
  ·rename_i h1;rw[h]at h1;simp at h1
  ·rename_i h1;simp at h1;exact⟨λq=>by omega,λ_=>chk24 h1,λq=>by omega⟩
 by_cases k5:s.Kind=5
 ·rw[if_neg (by simp;omega),if_neg (by simp;omega),if_neg (by simp;omega),if_pos (by simp[k5])]at h;split at h
  ·simp at h
  split at h
  ·rename_i h1;rw[h]at h1;simp at h1
  ·rename_i h1;simp at h1;rw[if_pos (by simp[k5])]at h;exact⟨λ_=>value24 h,λ_=>chk24 h1,λq=>by omega⟩
 exact⟨λq=>by omega,λq=>by omega,λq=>by omega⟩
theorem ck_L1(p:y5q)(i:Int):∀(m:Nat)(j:Int),m=Int.toNat (((ix p.Actions i).Body.length:Int)-j)->(action_Check_L1 p i (λ_=>(0,0)) m j).2=0->∀k,j<=k->k < ((ix p.Actions i).Body.length:Int)->y77q {scope:={Program:=p,Params:=(ix p.Actions i).Params}} (ix (ix p.Actions i).Body k)=0
 |0,j,hm,h,k,h1,h2=>by omega
 |m+1,j,hm,h,k,h1,h2=>by
  rw[action_Check_L1]at h;simp only[LET]at h;split at h
  ·rename_i h3;simp at h3;exact absurd h h3
  ·rename_i h3;simp at h3;by_cases e:k=j
   ·subst e;exact h3
   ·exact ck_L1 p i m (j+1) V h k V h2
theorem ck_ix{p:y5q}{i:Int}{y:Int×Int}(h:action_Check p i=y)(h2:y.2=0):0<=i/\i < p.Actions.length:=by
 subst h;unfold action_Check at h2;split at h2
 ·simp at h2
 ·rename_i h1;simp at h1;omega
theorem decl_ok{a:y23q}(h:action_declaration a=0):a.Body.length<=12:=by
 unfold action_declaration at h;simp only[LET]at h;split at h
 ·simp at h
 split at h
 ·simp at h
 ·rename_i h1;simp at h1;omega
def BO(p:y5q)(l:List y13q):Prop:=l.length<=12/\∀k:Int,0<=k->k < l.length->((ix l k).Kind=1\/(ix l k).Kind=5->(ix l k).Value.length<=24)/\((ix l k).Kind=4\/(ix l k).Kind=5->(ix l k).Index.length<=24)/\((ix l k).Kind=2\/(ix l k).Kind=3->0<=(ix l k).Header/\(ix l k).Header < p.Headers.length)
theorem body_ok{p:y5q}{i:Int}{y:List y13q}(h:action_body p i=y):BO p y:=by
 unfold action_body at h;simp only[LET]at h;subst h;split
 ·exact⟨by simp,λk h1 h2=>absurd h2 (by simp;omega)⟩
 ·rename_i h1;simp at h1;unfold action_Check at h1;split at h1
  ·simp at h1
  simp only[LET]at h1;split at h1
  ·rename_i h3;simp at h3;exact absurd h1 h3
  ·rename_i h3;simp at h3;exact⟨decl_ok h3,λk k1 k2=>stmt_ok (ck_L1 p i _ 0 O h1 k k1 k2)⟩
theorem bo_v{p:y5q}{l:List y13q}{k:Int}(h:BO p l)(h0:0<=k)(h1:k < l.length)(hk:(ix l k).Kind=1\/(ix l k).Kind=5):(ix l k).Value.length<=24:=(h.2 k h0 h1).1 hk
theorem bo_i{p:y5q}{l:List y13q}{k:Int}(h:BO p l)(h0:0<=k)(h1:k < l.length)(hk:(ix l k).Kind=4\/(ix l k).Kind=5):(ix l k).Index.length<=24:=(h.2 k h0 h1).2.1 hk
theorem bo_h{p:y5q}{l:List y13q}{k:Int}(h:BO p l)(h0:0<=k)(h1:k < l.length)(hk:(ix l k).Kind=2\/(ix l k).Kind=3):0<=(ix l k).Header/\(ix l k).Header < p.Headers.length:=(h.2 k h0 h1).2.2 hk
theorem jot{p q:Prop}[Decidable p][Decidable q]{x:Bool}(h:x=(if decide p=true then decide p else decide q))(hx:x=true):p\/q:=by
 subst h;by_cases hp:p
 ·exact .inl hp
 ·simp[hp]at hx;exact .inr hx
theorem ff_L1(n:List y11q)(K:List y4q->List y4q)(b:Nat)(hK:∀l:List y4q,l.length<=b->(K l).length<=b):∀(m:Nat)(j:Int)(z:List y4q),z.length+m<=b->(expr_Fields_L1 n K m j z).length<=b
 |0,j,z,h=>by rw[expr_Fields_L1];exact hK z V
 |m+1,j,z,h=>by
  rw[expr_Fields_L1];split
  ·exact ff_L1 n K b hK m (j+1) _ (by simp;omega)
  ·exact ff_L1 n K b hK m (j+1) z V
theorem fh_L1(n:List y11q)(K:List Int->List Int)(b:Nat)(hK:∀l:List Int,l.length<=b->(K l).length<=b):∀(m:Nat)(j:Int)(z:List Int),z.length+m<=b->(expr_Headers_L1 n K m j z).length<=b
 |0,j,z,h=>by rw[expr_Headers_L1];exact hK z V
 |m+1,j,z,h=>by
  rw[expr_Headers_L1];split
  ·exact fh_L1 n K b hK m (j+1) _ (by simp;omega)
  ·exact fh_L1 n K b hK m (j+1) z V
theorem fields_len(n:List y11q):(expr_Fields n).length<=n.length:=by
 unfold expr_Fields;refine ff_L1 n _ n.length (λl hl=>?_) _ _ _ U;simp only[LET];refine Nat.le_trans (cpt_len _) ?_;rw[sort_expr_Fields_1,List.length_mergeSort];exact hl
theorem headers_len(n:List y11q):(expr_Headers n).length<=n.length:=by
 unfold expr_Headers;refine fh_L1 n _ n.length (λl hl=>?_) _ _ _ U;simp only[LET];refine Nat.le_trans (cpt_len _) ?_;rw[y61q,List.length_mergeSort];exact hl
theorem expression_len{a y:y32q}{n:List y11q}(h:y54q a n=y):y.fields.length<=a.fields.length+n.length/\y.headers.length<=a.headers.length+n.length/\y.registers.length=a.registers.length:=by
 subst h;unfold y54q;have h1:=fields_len n;have h2:=headers_len n;refine⟨?_,?_,O⟩
 ·show(a.fields++expr_Fields n).length<=_
  rw[List.length_append];omega
 ·show(a.headers++expr_Headers n).length<=_
  rw[List.length_append];omega
theorem asorted_len{a:y32q}{y:List y4q×List Int×List Int}(h:y50q a=y):y.1.length<=a.fields.length/\y.2.1.length<=a.headers.length/\y.2.2.length<=a.registers.length:=by
 subst h;unfold y50q;simp only[LET];refine⟨Nat.le_trans (cpt_len _) ?_,Nat.le_trans (cpt_len _) ?_,Nat.le_trans (cpt_len _) ?_⟩
 ·rw[y101q,List.length_mergeSort];exact Nat.le_refl _
 ·rw[y61q,List.length_mergeSort];exact Nat.le_refl _
 ·rw[y61q,List.length_mergeSort];exact Nat.le_refl _
def SmH(p:y5q):Prop:=∀k:Int,0<=k->k < p.Headers.length->(ix p.Headers k).Fields.length<=1000
def AB(p:y5q):Prop:=SmH p/\∀k:Int,0<=k->k < p.Tables.length->(ix p.Tables k).Keys.length<=24/\(ix p.Tables k).Actions.length<=24
def nn(l:List Int):List Int:=l.filter λx=>decide (0<=x)
theorem nn_len(l:List Int):(nn l).length<=l.length:=List.length_filter_le _ _
theorem add1_eq(n:Int)(c:y9q):y65q n c={p:=c.p,cells:=c.cells++nn [n]}:=by
 unfold y65q nn;by_cases h:0<=n<;>simp[h]
theorem add1_len{n:Int}{c y:y9q}(h:y65q n c=y):y.cells.length<=c.cells.length+1:=by
 subst h;rw[add1_eq];show(c.cells++nn [n]).length<=_
 have:=nn_len [n];rw[List.length_append];simpa using this
theorem dropix{α:Type}[Inhabited α]{c:List α}{i:Int}(h0:0<=i)(h1:i < c.length):c.drop i.toNat=ix c i::c.drop (i+1).toNat:=by
 rw[ix_lt h0 h1,show(i+1).toNat=i.toNat+1 by omega];exact List.drop_eq_getElem_cons V
theorem add_L1(l:List y4q)(K:y9q->y9q):∀(m:Nat)(i:Int)(c:y9q),m=Int.toNat ((l.length:Int)-i)->0<=i->y69q l K m i c=K {p:=c.p,cells:=c.cells++nn ((l.drop i.toNat).map (y99q c.p))}
 |0,i,c,hm,h0=>by
  rw[y69q,List.drop_eq_nil_of_le V];simp[nn]
 |m+1,i,c,hm,h0=>by
  rw[y69q];simp only[LET];rw[add_L1 l K m (i+1) _ V V,add1_eq,dropix (c:=l) (i:=i) h0 V];simp only[nn,List.map_cons,List.append_assoc];rw[<-List.filter_append];rfl
theorem add_L2(l:List Int)(K:y9q->y9q):∀(m:Nat)(i:Int)(c:y9q),m=Int.toNat ((l.length:Int)-i)->0<=i->y71q l K m i c=K {p:=c.p,cells:=c.cells++nn ((l.drop i.toNat).map (y98q c.p))}
 |0,i,c,hm,h0=>by
  rw[y71q,List.drop_eq_nil_of_le V];simp[nn]
 |m+1,i,c,hm,h0=>by
  rw[y71q];simp only[LET];rw[add_L2 l K m (i+1) _ V V,add1_eq,dropix (c:=l) (i:=i) h0 V];simp only[nn,List.map_cons,List.append_assoc];rw[<-List.filter_append];rfl
theorem add_L3(l:List Int)(K:y9q->y9q):∀(m:Nat)(i:Int)(c:y9q),m=Int.toNat ((l.length:Int)-i)->0<=i->y70q l K m i c=K {p:=c.p,cells:=c.cells++nn ((l.drop i.toNat).map (y80q c.p))}
 |0,i,c,hm,h0=>by
  rw[y70q,List.drop_eq_nil_of_le V];simp[nn]
 |m+1,i,c,hm,h0=>by
  rw[y70q];simp only[LET];rw[add_L3 l K m (i+1) _ V V,add1_eq,dropix (c:=l) (i:=i) h0 V];simp only[nn,List.map_cons,List.append_assoc];rw[<-List.filter_append];rfl
def cls(p:y5q)(f:List y4q)(h r:List Int):List Int:=nn (f.map (y99q p))++(nn (h.map (y98q p))++nn (r.map (y80q p)))
theorem add_eq(c:y9q)(f:List y4q)(h r:List Int):y60q c f h r={p:=c.p,cells:=c.cells++cls c.p f h r}:=by
 unfold y60q;rw[add_L1 _ _ _ _ _ rfl (Int.le_refl _),add_L2 _ _ _ _ _ rfl (Int.le_refl _),add_L3 _ _ _ _ _ rfl (Int.le_refl _)];simp[cls]
theorem cls_len(p:y5q)(f:List y4q)(h r:List Int):(cls p f h r).length<=f.length+h.length+r.length:=by
 unfold cls;have h1:=nn_len (f.map (y99q p));have h2:=nn_len (h.map (y98q p));have h3:=nn_len (r.map (y80q p));simp only[List.length_append,List.length_map]at*;omega
theorem add_len{c y:y9q}{f:List y4q}{h r:List Int}(e:y60q c f h r=y):y.cells.length<=c.cells.length+(f.length+h.length+r.length):=by
 subst e;rw[add_eq];show(c.cells++cls c.p f h r).length<=_
 have:=cls_len c.p f h r;rw[List.length_append];omega
def QL(r:List y4q×List Int×List Int):Prop:=r.1.length<=13000/\r.2.1.length<=13000/\r.2.2.length<=13000
theorem rd_L1(p:y5q)(y:List y13q)(hb:BO p y)(K:y32q->List y4q×List Int×List Int)(Q:List y4q×List Int×List Int->Prop)(B:Nat)(hK:∀z:y32q,z.fields.length<=B->z.headers.length<=B->z.registers.length<=B->Q (K z)):∀(m:Nat)(j:Int)(z:y32q),m=Int.toNat ((y.length:Int)-j)->0<=j->z.fields.length+50*m<=B->z.headers.length+50*m<=B->z.registers.length+50*m<=B->Q (y66q y K m j z)
 |0,j,z,hm,h0,h1,h2,h3=>by rw[y66q];exact hK z V V V
 |m+1,j,⟨zf,zh,zr⟩,hm,h0,h1,h2,h3=>by
  have b:=hb.2 j h0 V;have rec_:=λz'=>rd_L1 p y hb K Q B hK m (j+1) z' V V;rw[y66q];simp only[LET];dsimp only at h1 h2 h3;have t1:(ix y j).Kind=1->(ix y j).Value.length<=24:=λk=>b.1 (.inl k);have t2:(ix y j).Kind=5->(ix y j).Value.length<=24:=λk=>b.1 (.inr k);have t3:(ix y j).Kind=4->(ix y j).Index.length<=24:=λk=>b.2.1 (.inl k);have t4:(ix y j).Kind=5->(ix y j).Index.length<=24:=λk=>b.2.1 (.inr k);split
  ·rename_i k;have ev:=expression_len (a:=⟨zf,zh,zr⟩) (n:=(ix y j).Value) O;have t:=t1 (by simpa using k);dsimp only at ev;split<;>(refine rec_ _ ?_ ?_ ?_<;>(try simp only[List.length_append,List.length_cons,List.length_nil])<;>(try dsimp only)<;>omega)
  split
  ·split<;>(refine rec_ _ ?_ ?_ ?_<;>(try simp only[List.length_append,List.length_cons,List.length_nil])<;>(try dsimp only)<;>omega)
  split
  ·rename_i k;have ev:=expression_len (a:=⟨zf,zh,zr⟩) (n:=(ix y j).Index) O;have t:=t3 (by simpa using k);dsimp only at ev;split<;>(refine rec_ _ ?_ ?_ ?_<;>(try simp only[List.length_append,List.length_cons,List.length_nil])<;>(try dsimp only)<;>omega)
  split
  ·rename_i k;have ev:=expression_len (a:=⟨zf,zh,zr⟩) (n:=(ix y j).Index) O;have ev2:=expression_len (a:=y54q ⟨zf,zh,zr⟩ (ix y j).Index) (n:=(ix y j).Value) O;have t:=t4 (by simpa using k);have t':=t2 (by simpa using k);dsimp only at ev;split<;>(refine rec_ _ ?_ ?_ ?_<;>(try simp only[List.length_append,List.length_cons,List.length_nil])<;>(try dsimp only)<;>omega)
  split<;>(refine rec_ _ ?_ ?_ ?_<;>(try simp only[List.length_append,List.length_cons,List.length_nil])<;>(try dsimp only)<;>omega)
theorem areads_len{p:y5q}{i:Int}{y:List y4q×List Int×List Int}(h:action_Reads p i=y):QL y:=by
 subst h;unfold action_Reads;simp only[LET];have hb:BO p (action_body p i):=body_ok O;refine rd_L1 p _ hb _ QL 600 (λz h1 h2 h3=>?_) _ 0 _ O (Int.le_refl _) ?_ ?_ ?_
 ·have:=asorted_len (a:=z) O;exact⟨by show(y50q _).1.length<=_;omega,by show(y50q _).2.1.length<=_;omega,by show(y50q _).2.2.length<=_;omega⟩
 all_goals(have:=hb.1;simp only[List.length_nil];omega)
theorem wr_L2(y:List y13q)(j:Int)(K:List Int->List Int->List y4q->List y4q×List Int×List Int)(Q:List y4q×List Int×List Int->Prop)(a b:List Int):∀(m:Nat)(i:Int)(c:List y4q),(∀c':List y4q,c'.length=c.length+m->Q (K a b c'))->Q (action_Writes_L2 y j K m i a b c)
 |0,i,c,h=>by rw[action_Writes_L2];exact h c O
 |m+1,i,c,h=>by
  rw[action_Writes_L2];exact wr_L2 y j K Q a b m (i+1) _ λc' hc=>h c' (by rw[hc];simp;omega)
theorem wr_L1(p:y5q)(hs:SmH p)(y:List y13q)(hb:BO p y)(K:List Int->List Int->List y4q->List y4q×List Int×List Int)(Q:List y4q×List Int×List Int->Prop)(B:Nat)(hK:∀(a b:List Int)(c:List y4q),a.length<=B->b.length<=B->c.length<=B->Q (K a b c)):∀(m:Nat)(j:Int)(a b:List Int)(c:List y4q),m=Int.toNat ((y.length:Int)-j)->0<=j->a.length+1001*m<=B->b.length+1001*m<=B->c.length+1001*m<=B->Q (y83q p y K m j a b c)
 |0,j,a,b,c,hm,h0,h1,h2,h3=>by rw[y83q];exact hK a b c V V V
 |m+1,j,a,b,c,hm,h0,h1,h2,h3=>by
  have bb:=hb.2 j h0 V;have rec_:=λa' b' c'=>wr_L1 p hs y hb K Q B hK m (j+1) a' b' c' V V;rw[y83q];simp only[LET];by_cases k1:(ix y j).Kind=1\/(ix y j).Kind=4
  ·have e:(if decide ((ix y j).Kind=1)=true then decide ((ix y j).Kind=1)else decide ((ix y j).Kind=4))=true:=by rcases k1 with k|k<;>simp[k]
   have:=rec_ a b (c++[(ix y j).Dst]) V V (by simp;omega);rcases k1 with k|k
   ·rw[if_pos (by simp[k]),if_pos (by simp[k])];exact this
   ·rw[if_neg (by simp[k]),if_pos (by simp[k])];exact this
  have n1:¬((ix y j).Kind=1):=λe=>k1 (.inl e);have n4:¬((ix y j).Kind=4):=λe=>k1 (.inr e);rw[if_neg (by simp[n1]),if_neg (by simp[n4])];by_cases k2:(ix y j).Kind=2\/(ix y j).Kind=3
  ·have hh:=bb.2.2 k2;have sm:=hs _ hh.1 hh.2;have:=wr_L2 y j (λa b c=>y83q p y K m (j+1) a b c) Q a (b++[(ix y j).Header]) (Int.toNat ((((ix p.Headers (ix y j).Header).Fields).length:Int)-0)) 0 c λc' hc=>rec_ a (b++[(ix y j).Header]) c' V (by simp;omega) V;rcases k2 with k|k
   ·rw[if_pos (by simp[k]),if_pos (by simp[k])];exact this
   ·rw[if_neg (by simp[k]),if_pos (by simp[k])];exact this
  have n2:¬((ix y j).Kind=2):=λe=>k2 (.inl e);have n3:¬((ix y j).Kind=3):=λe=>k2 (.inr e);rw[if_neg (by simp[n2]),if_neg (by simp[n3])];split
  ·exact rec_ _ _ _ (by simp;omega) V V
  ·exact rec_ _ _ _ V V V
theorem awrites_len{p:y5q}(hs:SmH p){i:Int}{y:List y4q×List Int×List Int}(h:action_Writes p i=y):QL y:=by
 subst h;unfold action_Writes;simp only[LET];have hb:BO p (action_body p i):=body_ok O;refine wr_L1 p hs _ hb _ QL 12500 (λa b c h1 h2 h3=>?_) _ 0 _ _ _ O (Int.le_refl _) ?_ ?_ ?_
 ·have:=asorted_len (a:=⟨c,b,a⟩) O;dsimp only at this;exact⟨by show(y50q _).1.length<=_;omega,by show(y50q _).2.1.length<=_;omega,by show(y50q _).2.2.length<=_;omega⟩
 all_goals(have:=hb.1;simp only[List.length_nil];omega)
theorem declared_ok{p:y5q}{u:y49q}{y:y26q×Bool}(h:y92q p u=y)(hp:AB p):y.1.Keys.length<=24/\y.1.Actions.length<=24:=by
 subst h;unfold y92q;split
 ·exact⟨by simp,by simp⟩
 ·rename_i h1;simp at h1;exact hp.2 _ V V
theorem small_hdr{h:y21q}(e:ref11_Small h=true):h.Fields.length<=20:=by
 unfold ref11_Small at e;split at e
 ·cases e
 ·rename_i hc;simp only[Bool.or_eq_true,decide_eq_true_eq,not_or]at hc;omega
theorem tl_L1{p:y5q}{K:Unit->Bool}:∀(m:Nat)(i:Int),m=Int.toNat ((p.Headers.length:Int)-i)->y104q p K m i=false->(∀j,i<=j->j < p.Headers.length->(ix p.Headers j).Fields.length<=20)/\K ()=false
 |0,i,hm,h=>⟨λj h1 h2=>by omega,by rw[y104q]at h;exact h⟩
 |m+1,i,hm,h=>by
  rw[y104q]at h;simp only[LET]at h;split at h
  ·cases h
  ·rename_i hc;have r:=tl_L1 m (i+1) V h;refine⟨λj h1 h2=>?_,r.2⟩;by_cases e:j=i
   ·subst e;exact small_hdr (by simpa using hc)
   ·exact r.1 j V h2
theorem tl_L2{p:y5q}{K:Unit->Bool}:∀(m:Nat)(i:Int),y105q p K m i=false->K ()=false
 |0,i,h=>by rw[y105q]at h;exact h
 |m+1,i,h=>by
  rw[y105q]at h;simp only[LET]at h;split at h
  ·cases h
  ·exact tl_L2 m (i+1) h
theorem tl_L3{p:y5q}{K:Unit->Bool}:∀(m:Nat)(i:Int),m=Int.toNat ((p.Tables.length:Int)-i)->law21_TooLarge_L3 p K m i=false->∀j,i<=j->j < p.Tables.length->(ix p.Tables j).Keys.length<=24/\(ix p.Tables j).Actions.length<=24
 |0,i,hm,h,j,h1,h2=>by omega
 |m+1,i,hm,h,j,h1,h2=>by
  rw[law21_TooLarge_L3]at h;split at h
  ·cases h
  ·rename_i hc;simp only[Bool.or_eq_true,decide_eq_true_eq,not_or]at hc;by_cases e:j=i
   ·subst e;exact⟨by omega,by omega⟩
   ·exact tl_L3 m (i+1) V h j V h2
theorem tl{p:y5q}{b:Bool}(h:law21_TooLarge p=b)(hb:b=false):(p.Headers.length<=16/\p.Metadata.length<=20/\p.Registers.length<=8)/\(∀j:Int,0<=j->j < p.Headers.length->(ix p.Headers j).Fields.length<=20)/\AB p:=by
 subst hb;unfold law21_TooLarge at h;split at h
 ·cases h
 ·rename_i hc;simp only[Bool.or_eq_true,decide_eq_true_eq,not_or]at hc;have a:=tl_L1 _ 0 O h;have b:=tl_L2 _ 0 a.2;have c:=tl_L3 _ 0 O b;exact⟨by omega,a.1,λk k1 k2=>Nat.le_trans (a.1 k k1 k2) (by decide),c⟩
theorem tlAB{p:y5q}{b:Bool}(h:law21_TooLarge p=b)(hb:b=false):AB p:=(tl h hb).2.2
end Go.Proofs.Ytmonnlkagniolaa
