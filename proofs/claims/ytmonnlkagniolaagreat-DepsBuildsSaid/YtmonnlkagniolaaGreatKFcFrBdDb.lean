import Derived.Test.YtmonnlkagniolaaGreatKCoFo
import Derived.Test.YtmonnlkagniolaaGreatPbV
import Derived.Test.YtmonnlkagniolaaGreatKDef
import Derived.Test.YtmonnlkagniolaaGreatPbV
import Derived.Test.YtmonnlkagniolaaGreatPbP
import Derived.Test.YtmonnlkagniolaaGreatPbV
set_option linter.all false
set_option maxRecDepth 100000
namespace Go.Proofs.YtmonnlkagniolaaGreat
open Go Go.Pb Go.RowKit
theorem dropix{α:Type}[Inhabited α]{c:List α}{i:Int}(h0:0<=i)(h1:i < c.length):c.drop i.toNat=ix c i::c.drop (i+1).toNat:=by
 rw[sy h0 h1,show(i+1).toNat=i.toNat+1 by omega];exact List.drop_eq_getElem_cons V
def frs(x0:List ah):List aa:=(x0.filter λx=>decide (x.Op=2)).map λx=>({Header:=x.N,Field:=x.W}:aa)
def hds(x0:List ah):List Int:=(x0.filter λx=>decide (x.Op=4)).map (·.N)
theorem ae3(x0:List ah)(K:List aa->List aa):∀(m:Nat)(i:Int)(z:List aa),m=Int.toNat ((x0.length:Int)-i)->0<=i->iy x0 K m i z=K (z++frs (x0.drop i.toNat))
 |0,i,z,hm,h0=>by
  rw[iy,List.drop_eq_nil_of_le V];simp[frs]
 |m+1,i,z,hm,h0=>by
  rw[iy,dropix (c:=x0) (i:=i) h0 V];unfold frs;rw[List.filter_cons];split
  ·rw[ae3 x0 K m (i+1) _ V V];simp[frs]
  ·rw[ae3 x0 K m (i+1) _ V V];simp[frs]
theorem ya(x0:List ah)(K:List Int->List Int):∀(m:Nat)(i:Int)(z:List Int),m=Int.toNat ((x0.length:Int)-i)->0<=i->im x0 K m i z=K (z++hds (x0.drop i.toNat))
 |0,i,z,hm,h0=>by
  rw[im,List.drop_eq_nil_of_le V];simp[hds]
 |m+1,i,z,hm,h0=>by
  rw[im,dropix (c:=x0) (i:=i) h0 V];unfold hds;rw[List.filter_cons];split
  ·rw[ya x0 K m (i+1) _ V V];simp[hds]
  ·rw[ya x0 K m (i+1) _ V V];simp[hds]
theorem bh3(x0:List ah):ll x0=cpt (ko (frs x0)):=by
 unfold ll;rw[ae3 x0 _ _ 0 [] rfl V];rfl
theorem bb5(x0:List ah):ki x0=cpt (dx (hds x0)):=by
 unfold ki;rw[ya x0 _ _ 0 [] rfl V];rfl
theorem AddField_true(x0:List aa)(x1:aa)(K:Bool->List aa->List aa):∀(m:Nat)(i:Int)(z:List aa),m=Int.toNat ((x0.length:Int)-i)->0<=i->fq x0 x1 K m true i z=K true (z++x0.drop i.toNat)
 |0,i,z,hm,h0=>by
  rw[fq,List.drop_eq_nil_of_le V,List.append_nil]
 |m+1,i,z,hm,h0=>by
  rw[fq,if_neg OZ,AddField_true x0 x1 K m (i+1) _ V V,dropix (c:=x0) (i:=i) h0 V,List.append_assoc];rfl
theorem AddField_false(x0:List aa)(x1:aa):∀(m:Nat)(i:Int)(z:List aa),m=Int.toNat ((x0.length:Int)-i)->0<=i->fq x0 x1 (λp l=>if(!p)=true then l++[x1]else l) m false i z=z++insS jg x1 (x0.drop i.toNat)
 |0,i,z,hm,h0=>by
  rw[fq,List.drop_eq_nil_of_le V,insS];rfl
 |m+1,i,z,hm,h0=>by
  have e1:(i+1).toNat=i.toNat+1:=by omega
  rw[fq,dropix (c:=x0) (i:=i) h0 V,insS];by_cases hl:jg (ix x0 i) x1=true
  ·rw[if_neg (by simp[hl]),if_pos hl,AddField_false x0 x1 m (i+1) _ V V,List.append_assoc];rfl
  ·have hl2:jg (ix x0 i) x1=false:=by simpa using hl
   rw[if_pos (by simp[hl2]),if_neg hl];by_cases he:ix x0 i=x1
   ·rw[if_neg (by simp[he]),if_pos he,AddField_true x0 x1 _ m (i+1) _ V V,if_neg OZ,List.append_assoc];rfl
   ·rw[if_pos (by simp[he]),if_neg he,AddField_true x0 x1 _ m (i+1) _ V V,if_neg OZ,List.append_assoc,List.append_assoc];rfl
theorem AddField_ins(l:List aa)(x:aa):kb l x=insS jg x l:=by
 unfold kb;rw[AddField_false l x _ 0 [] rfl V];simp
theorem AddField_len{l y:List aa}{x:aa}(h:kb l x=y):y.length<=l.length+1:=by
 rw[<-h,AddField_ins];exact te _ _ _
theorem AddInt_true(x0:List Int)(x1:Int)(K:Bool->List Int->List Int):∀(m:Nat)(i:Int)(z:List Int),m=Int.toNat ((x0.length:Int)-i)->0<=i->gv x0 x1 K m true i z=K true (z++x0.drop i.toNat)
 |0,i,z,hm,h0=>by
  rw[gv,List.drop_eq_nil_of_le V,List.append_nil]
 |m+1,i,z,hm,h0=>by
  rw[gv,if_neg OZ,AddInt_true x0 x1 K m (i+1) _ V V,dropix (c:=x0) (i:=i) h0 V,List.append_assoc];rfl
theorem AddInt_false(x0:List Int)(x1:Int):∀(m:Nat)(i:Int)(z:List Int),m=Int.toNat ((x0.length:Int)-i)->0<=i->gv x0 x1 (λp l=>if(!p)=true then l++[x1]else l) m false i z=z++insS (λa b=>decide (a < b)) x1 (x0.drop i.toNat)
 |0,i,z,hm,h0=>by
  rw[gv,List.drop_eq_nil_of_le V,insS];rfl
 |m+1,i,z,hm,h0=>by
  have e1:(i+1).toNat=i.toNat+1:=by omega
  rw[gv,dropix (c:=x0) (i:=i) h0 V,insS];by_cases hl:ix x0 i < x1
  ·have hl1:(λa b:Int=>decide (a < b)) (ix x0 i) x1=true:=by simpa using hl
   rw[if_neg (by simp;omega),if_pos hl1,AddInt_false x0 x1 m (i+1) _ V V,List.append_assoc];rfl
  ·have hl2:¬(λa b:Int=>decide (a < b)) (ix x0 i) x1=true:=by simpa using hl
   rw[if_pos (by simp;omega),if_neg hl2];by_cases he:ix x0 i=x1
   ·rw[if_neg (by simp[he]),if_pos he,AddInt_true x0 x1 _ m (i+1) _ V V,if_neg OZ,List.append_assoc];rfl
   ·rw[if_pos (by simp[he]),if_neg he,AddInt_true x0 x1 _ m (i+1) _ V V,if_neg OZ,List.append_assoc,List.append_assoc];rfl
theorem AddInt_ins(l:List Int)(x:Int):gz l x=insS (λa b=>decide (a < b)) x l:=by
 unfold gz;rw[AddInt_false l x _ 0 [] rfl V];simp
theorem AddInt_len{l y:List Int}{x:Int}(h:gz l x=y):y.length<=l.length+1:=by
 rw[<-h,AddInt_ins];exact te _ _ _
theorem aa7{α:Type}[Inhabited α][DecidableEq α](l:List α):(cpt l).length<=l.length:=ai2 l _
theorem cd1{n:List ah}{s:bc}(h:(pc n s).2=0):n.length<=24:=by
 unfold pc at h;split at h
 ·simp at h
 ·rename_i h1;simp at h1;omega
theorem bm9{c:di}{n:List ah}{w:Int}(h:gy c n w=0):n.length<=24:=by
 unfold gy at h;simp only[LET]at h;split at h
 ·simp at h
 ·exact cd1 h
theorem da7{c:di}{s:au}(h:ep c s=0):(s.Kind=1\/s.Kind=5->s.Value.length<=24)/\(s.Kind=4\/s.Kind=5->s.Index.length<=24)/\(s.Kind=2\/s.Kind=3->0<=s.Header/\s.Header < c.scope.Program.Headers.length):=by
 unfold ep at h;simp only[LET]at h;by_cases k1:s.Kind=1
 ·rw[if_pos (by simp[k1])]at h;split at h
  ·simp at h
  ·exact⟨λ_=>bm9 h,λq=>by omega,λq=>by omega⟩
 rw[if_neg (by simp[k1])]at h;by_cases k2:s.Kind=2\/s.Kind=3
 ·have e:(if decide (s.Kind=2)=true then(if(decide (s.Header < 0)||decide ((c.scope.Program.Headers.length:Int)<=s.Header))=true then(8:Int)else 0)else(if(decide (s.Header < 0)||decide ((c.scope.Program.Headers.length:Int)<=s.Header))=true then 8 else 0))=0:=by
   rcases k2 with k2|k2
   ·simpa[k2]using h
   ·simpa[k2]using h
  rw[ite_self]at e;split at e
  ·simp at e
  ·rename_i h1;simp at h1;exact⟨λq=>by omega,λq=>by omega,λ_=>by omega⟩
 by_cases k4:s.Kind=4
 ·rw[if_neg (by simp;omega),if_neg (by simp;omega),if_pos (by simp[k4]),if_pos (by simp[k4])]at h;split at h
  ·simp at h
  split at h
  ·rename_i h1;rw[h]at h1;simp at h1
  ·rename_i h1;simp at h1;exact⟨λq=>by omega,λ_=>cd1 h1,λq=>by omega⟩
 by_cases k5:s.Kind=5
 ·rw[if_neg (by simp;omega),if_neg (by simp;omega),if_neg (by simp;omega),if_pos (by simp[k5])]at h;split at h
  ·simp at h
  split at h
  ·rename_i h1;rw[h]at h1;simp at h1
  ·rename_i h1;simp at h1;rw[if_pos (by simp[k5])]at h;exact⟨λ_=>bm9 h,λ_=>cd1 h1,λq=>by omega⟩
 exact⟨λq=>by omega,λq=>by omega,λq=>by omega⟩
theorem bz8(p:ae)(i:Int):∀(m:Nat)(j:Int),m=Int.toNat (((ix p.Actions i).Body.length:Int)-j)->(kh p i (λ_=>(0,0)) m j).2=0->∀k,j<=k->k < ((ix p.Actions i).Body.length:Int)->ep {scope:={Program:=p,Params:=(ix p.Actions i).Params}} (ix (ix p.Actions i).Body k)=0
 |0,j,hm,h,k,h1,h2=>by omega
 |m+1,j,hm,h,k,h1,h2=>by
  rw[kh]at h;simp only[LET]at h;split at h
  ·rename_i h3;simp at h3;exact absurd h h3
  ·rename_i h3;simp at h3;by_cases e:k=j
   ·subst e;exact h3
   ·exact bz8 p i m (j+1) V h k V h2
theorem ce0{p:ae}{i:Int}{y:Int×Int}(h:mm p i=y)(h2:y.2=0):0<=i/\i < p.Actions.length:=by
 subst h;unfold mm at h2;split at h2
 ·simp at h2
 ·rename_i h1;simp at h1;omega
theorem cl4{a:bm}(h:kp a=0):a.Body.length<=12:=by
 unfold kp at h;simp only[LET]at h;split at h
 ·simp at h
 split at h
 ·simp at h
 ·rename_i h1;simp at h1;omega
def BO(p:ae)(l:List au):Prop:=l.length<=12/\∀k:Int,0<=k->k < l.length->((ix l k).Kind=1\/(ix l k).Kind=5->(ix l k).Value.length<=24)/\((ix l k).Kind=4\/(ix l k).Kind=5->(ix l k).Index.length<=24)/\((ix l k).Kind=2\/(ix l k).Kind=3->0<=(ix l k).Header/\(ix l k).Header < p.Headers.length)
theorem ui{p:ae}{i:Int}{y:List au}(h:jx p i=y):BO p y:=by
 unfold jx at h;simp only[LET]at h;subst h;split
 ·exact⟨by simp,λk h1 h2=>absurd h2 (by simp;omega)⟩
 ·rename_i h1;simp at h1;unfold mm at h1;split at h1
  ·simp at h1
  simp only[LET]at h1;split at h1
  ·rename_i h3;simp at h3;exact absurd h1 h3
  ·rename_i h3;simp at h3;exact⟨cl4 h3,λk k1 k2=>da7 (bz8 p i _ 0 O h1 k k1 k2)⟩
theorem bo_v{p:ae}{l:List au}{k:Int}(h:BO p l)(h0:0<=k)(h1:k < l.length)(hk:(ix l k).Kind=1\/(ix l k).Kind=5):(ix l k).Value.length<=24:=(h.2 k h0 h1).1 hk
theorem bo_i{p:ae}{l:List au}{k:Int}(h:BO p l)(h0:0<=k)(h1:k < l.length)(hk:(ix l k).Kind=4\/(ix l k).Kind=5):(ix l k).Index.length<=24:=(h.2 k h0 h1).2.1 hk
theorem bo_h{p:ae}{l:List au}{k:Int}(h:BO p l)(h0:0<=k)(h1:k < l.length)(hk:(ix l k).Kind=2\/(ix l k).Kind=3):0<=(ix l k).Header/\(ix l k).Header < p.Headers.length:=(h.2 k h0 h1).2.2 hk
theorem jot{p q:Prop}[Decidable p][Decidable q]{x:Bool}(h:x=(if decide p=true then decide p else decide q))(hx:x=true):p\/q:=by
 subst h;by_cases hp:p
 ·exact .inl hp
 ·simp[hp]at hx;exact .inr hx
theorem cc6(n:List ah)(K:List aa->List aa)(b:Nat)(hK:∀l:List aa,l.length<=b->(K l).length<=b):∀(m:Nat)(j:Int)(z:List aa),z.length+m<=b->(iy n K m j z).length<=b
 |0,j,z,h=>by rw[iy];exact hK z V
 |m+1,j,z,h=>by
  rw[iy];split
  ·exact cc6 n K b hK m (j+1) _ (by simp;omega)
  ·exact cc6 n K b hK m (j+1) z V
theorem bx3(n:List ah)(K:List Int->List Int)(b:Nat)(hK:∀l:List Int,l.length<=b->(K l).length<=b):∀(m:Nat)(j:Int)(z:List Int),z.length+m<=b->(im n K m j z).length<=b
 |0,j,z,h=>by rw[im];exact hK z V
 |m+1,j,z,h=>by
  rw[im];split
  ·exact bx3 n K b hK m (j+1) _ (by simp;omega)
  ·exact bx3 n K b hK m (j+1) z V
theorem ry(n:List ah):(ll n).length<=n.length:=by
 unfold ll;refine cc6 n _ n.length (λl hl=>?_) _ _ _ OZ;simp only[LET];refine Nat.le_trans (aa7 _) ?_;rw[ko,List.length_mergeSort];exact hl
theorem rd(n:List ah):(ki n).length<=n.length:=by
 unfold ki;refine bx3 n _ n.length (λl hl=>?_) _ _ _ OZ;simp only[LET];refine Nat.le_trans (aa7 _) ?_;rw[dx,List.length_mergeSort];exact hl
theorem mz{a y:cb}{n:List ah}(h:dn a n=y):y.fields.length<=a.fields.length+n.length/\y.headers.length<=a.headers.length+n.length/\y.registers.length=a.registers.length:=by
 subst h;unfold dn;have h1:=ry n;have h2:=rd n;refine⟨?_,?_,O⟩
 ·show(a.fields++ll n).length<=_
  rw[List.length_append];omega
 ·show(a.headers++ki n).length<=_
  rw[List.length_append];omega
theorem ag3{a:cb}{y:List aa×List Int×List Int}(h:cz a=y):y.1.length<=a.fields.length/\y.2.1.length<=a.headers.length/\y.2.2.length<=a.registers.length:=by
 subst h;unfold cz;simp only[LET];refine⟨Nat.le_trans (aa7 _) ?_,Nat.le_trans (aa7 _) ?_,Nat.le_trans (aa7 _) ?_⟩
 ·rw[fg,List.length_mergeSort];exact Nat.le_refl _
 ·rw[dx,List.length_mergeSort];exact Nat.le_refl _
 ·rw[dx,List.length_mergeSort];exact Nat.le_refl _
def SmH(p:ae):Prop:=∀k:Int,0<=k->k < p.Headers.length->(ix p.Headers k).Fields.length<=1000
def AB(p:ae):Prop:=SmH p/\∀k:Int,0<=k->k < p.Tables.length->(ix p.Tables k).Keys.length<=24/\(ix p.Tables k).Actions.length<=24
def nn(l:List Int):List Int:=l.filter λx=>decide (0<=x)
theorem uo(l:List Int):(nn l).length<=l.length:=List.length_filter_le _ _
theorem ah6(n:Int)(c:ak):fu n c={p:=c.p,cells:=c.cells++nn [n]}:=by
 unfold fu nn;by_cases h:0<=n<;>simp[h]
theorem al3{n:Int}{c y:ak}(h:fu n c=y):y.cells.length<=c.cells.length+1:=by
 subst h;rw[ah6];show(c.cells++nn [n]).length<=_
 have:=uo [n];rw[List.length_append];simpa using this
theorem cd8(l:List aa)(K:ak->ak):∀(m:Nat)(i:Int)(c:ak),m=Int.toNat ((l.length:Int)-i)->0<=i->fj l K m i c=K {p:=c.p,cells:=c.cells++nn ((l.drop i.toNat).map (jc c.p))}
 |0,i,c,hm,h0=>by
  rw[fj,List.drop_eq_nil_of_le V];simp[nn]
 |m+1,i,c,hm,h0=>by
  rw[fj];simp only[LET];rw[cd8 l K m (i+1) _ V V,ah6,dropix (c:=l) (i:=i) h0 V];simp only[nn,List.map_cons,List.append_assoc];rw[<-List.filter_append];rfl
theorem br9(l:List Int)(K:ak->ak):∀(m:Nat)(i:Int)(c:ak),m=Int.toNat ((l.length:Int)-i)->0<=i->fk l K m i c=K {p:=c.p,cells:=c.cells++nn ((l.drop i.toNat).map (js c.p))}
 |0,i,c,hm,h0=>by
  rw[fk,List.drop_eq_nil_of_le V];simp[nn]
 |m+1,i,c,hm,h0=>by
  rw[fk];simp only[LET];rw[br9 l K m (i+1) _ V V,ah6,dropix (c:=l) (i:=i) h0 V];simp only[nn,List.map_cons,List.append_assoc];rw[<-List.filter_append];rfl
theorem br3(l:List Int)(K:ak->ak):∀(m:Nat)(i:Int)(c:ak),m=Int.toNat ((l.length:Int)-i)->0<=i->fi l K m i c=K {p:=c.p,cells:=c.cells++nn ((l.drop i.toNat).map (ii c.p))}
 |0,i,c,hm,h0=>by
  rw[fi,List.drop_eq_nil_of_le V];simp[nn]
 |m+1,i,c,hm,h0=>by
  rw[fi];simp only[LET];rw[br3 l K m (i+1) _ V V,ah6,dropix (c:=l) (i:=i) h0 V];simp only[nn,List.map_cons,List.append_assoc];rw[<-List.filter_append];rfl
def cls(p:ae)(f:List aa)(h r:List Int):List Int:=nn (f.map (jc p))++(nn (h.map (js p))++nn (r.map (ii p)))
theorem bu0(c:ak)(f:List aa)(h r:List Int):fe c f h r={p:=c.p,cells:=c.cells++cls c.p f h r}:=by
 unfold fe;rw[cd8 _ _ _ _ _ rfl (Int.le_refl _),br9 _ _ _ _ _ rfl (Int.le_refl _),br3 _ _ _ _ _ rfl (Int.le_refl _)];simp[cls]
theorem ai4(p:ae)(f:List aa)(h r:List Int):(cls p f h r).length<=f.length+h.length+r.length:=by
 unfold cls;have h1:=uo (f.map (jc p));have h2:=uo (h.map (js p));have h3:=uo (r.map (ii p));simp only[List.length_append,List.length_map]at*;omega
theorem ah4{c y:ak}{f:List aa}{h r:List Int}(e:fe c f h r=y):y.cells.length<=c.cells.length+(f.length+h.length+r.length):=by
 subst e;rw[bu0];show(c.cells++cls c.p f h r).length<=_
 have:=ai4 c.p f h r;rw[List.length_append];omega
def QL(r:List aa×List Int×List Int):Prop:=r.1.length<=13000/\r.2.1.length<=13000/\r.2.2.length<=13000
theorem de3(p:ae)(y:List au)(hb:BO p y)(K:cb->List aa×List Int×List Int)(Q:List aa×List Int×List Int->Prop)(B:Nat)(hK:∀z:cb,z.fields.length<=B->z.headers.length<=B->z.registers.length<=B->Q (K z)):∀(m:Nat)(j:Int)(z:cb),m=Int.toNat ((y.length:Int)-j)->0<=j->z.fields.length+50*m<=B->z.headers.length+50*m<=B->z.registers.length+50*m<=B->Q (gk y K m j z)
 |0,j,z,hm,h0,h1,h2,h3=>by rw[gk];exact hK z V V V
 |m+1,j,⟨zf,zh,zr⟩,hm,h0,h1,h2,h3=>by
  have b:=hb.2 j h0 V;have rec_:=λz'=>de3 p y hb K Q B hK m (j+1) z' V V;rw[gk];simp only[LET];dsimp only at h1 h2 h3;have t1:(ix y j).Kind=1->(ix y j).Value.length<=24:=λk=>b.1 (.inl k);have t2:(ix y j).Kind=5->(ix y j).Value.length<=24:=λk=>b.1 (.inr k);have t3:(ix y j).Kind=4->(ix y j).Index.length<=24:=λk=>b.2.1 (.inl k);have t4:(ix y j).Kind=5->(ix y j).Index.length<=24:=λk=>b.2.1 (.inr k);split
  ·rename_i k;have ev:=mz (a:=⟨zf,zh,zr⟩) (n:=(ix y j).Value) O;have t:=t1 (by simpa using k);dsimp only at ev;split<;>(refine rec_ _ ?_ ?_ ?_<;>(try simp only[List.length_append,List.length_cons,List.length_nil])<;>(try dsimp only)<;>omega)
  split
  ·split<;>(refine rec_ _ ?_ ?_ ?_<;>(try simp only[List.length_append,List.length_cons,List.length_nil])<;>(try dsimp only)<;>omega)
  split
  ·rename_i k;have ev:=mz (a:=⟨zf,zh,zr⟩) (n:=(ix y j).Index) O;have t:=t3 (by simpa using k);dsimp only at ev;split<;>(refine rec_ _ ?_ ?_ ?_<;>(try simp only[List.length_append,List.length_cons,List.length_nil])<;>(try dsimp only)<;>omega)
  split
  ·rename_i k;have ev:=mz (a:=⟨zf,zh,zr⟩) (n:=(ix y j).Index) O;have ev2:=mz (a:=dn ⟨zf,zh,zr⟩ (ix y j).Index) (n:=(ix y j).Value) O;have t:=t4 (by simpa using k);have t':=t2 (by simpa using k);dsimp only at ev;split<;>(refine rec_ _ ?_ ?_ ?_<;>(try simp only[List.length_append,List.length_cons,List.length_nil])<;>(try dsimp only)<;>omega)
  split<;>(refine rec_ _ ?_ ?_ ?_<;>(try simp only[List.length_append,List.length_cons,List.length_nil])<;>(try dsimp only)<;>omega)
theorem yg{p:ae}{i:Int}{y:List aa×List Int×List Int}(h:ij p i=y):QL y:=by
 subst h;unfold ij;simp only[LET];have hb:BO p (jx p i):=ui O;refine de3 p _ hb _ QL 600 (λz h1 h2 h3=>?_) _ 0 _ O (Int.le_refl _) ?_ ?_ ?_
 ·have:=ag3 (a:=z) O;exact⟨by show(cz _).1.length<=_;omega,by show(cz _).2.1.length<=_;omega,by show(cz _).2.2.length<=_;omega⟩
 all_goals(have:=hb.1;simp only[List.length_nil];omega)
theorem de6(y:List au)(j:Int)(K:List Int->List Int->List aa->List aa×List Int×List Int)(Q:List aa×List Int×List Int->Prop)(a b:List Int):∀(m:Nat)(i:Int)(c:List aa),(∀c':List aa,c'.length=c.length+m->Q (K a b c'))->Q (ip y j K m i a b c)
 |0,i,c,h=>by rw[ip];exact h c O
 |m+1,i,c,h=>by
  rw[ip];exact de6 y j K Q a b m (i+1) _ λc' hc=>h c' (by rw[hc];simp;omega)
theorem de2(p:ae)(hs:SmH p)(y:List au)(hb:BO p y)(K:List Int->List Int->List aa->List aa×List Int×List Int)(Q:List aa×List Int×List Int->Prop)(B:Nat)(hK:∀(a b:List Int)(c:List aa),a.length<=B->b.length<=B->c.length<=B->Q (K a b c)):∀(m:Nat)(j:Int)(a b:List Int)(c:List aa),m=Int.toNat ((y.length:Int)-j)->0<=j->a.length+1001*m<=B->b.length+1001*m<=B->c.length+1001*m<=B->Q (ej p y K m j a b c)
 |0,j,a,b,c,hm,h0,h1,h2,h3=>by rw[ej];exact hK a b c V V V
 |m+1,j,a,b,c,hm,h0,h1,h2,h3=>by
  have bb:=hb.2 j h0 V;have rec_:=λa' b' c'=>de2 p hs y hb K Q B hK m (j+1) a' b' c' V V;rw[ej];simp only[LET];by_cases k1:(ix y j).Kind=1\/(ix y j).Kind=4
  ·have e:(if decide ((ix y j).Kind=1)=true then decide ((ix y j).Kind=1)else decide ((ix y j).Kind=4))=true:=by rcases k1 with k|k<;>simp[k]
   have:=rec_ a b (c++[(ix y j).Dst]) V V (by simp;omega);rcases k1 with k|k
   ·rw[if_pos (by simp[k]),if_pos (by simp[k])];exact this
   ·rw[if_neg (by simp[k]),if_pos (by simp[k])];exact this
  have n1:¬((ix y j).Kind=1):=λe=>k1 (.inl e);have n4:¬((ix y j).Kind=4):=λe=>k1 (.inr e);rw[if_neg (by simp[n1]),if_neg (by simp[n4])];by_cases k2:(ix y j).Kind=2\/(ix y j).Kind=3
  ·have hh:=bb.2.2 k2;have sm:=hs _ hh.1 hh.2;have:=de6 y j (λa b c=>ej p y K m (j+1) a b c) Q a (b++[(ix y j).Header]) (Int.toNat ((((ix p.Headers (ix y j).Header).Fields).length:Int)-0)) 0 c λc' hc=>rec_ a (b++[(ix y j).Header]) c' V (by simp;omega) V;rcases k2 with k|k
   ·rw[if_pos (by simp[k]),if_pos (by simp[k])];exact this
   ·rw[if_neg (by simp[k]),if_pos (by simp[k])];exact this
  have n2:¬((ix y j).Kind=2):=λe=>k2 (.inl e);have n3:¬((ix y j).Kind=3):=λe=>k2 (.inr e);rw[if_neg (by simp[n2]),if_neg (by simp[n3])];split
  ·exact rec_ _ _ _ (by simp;omega) V V
  ·exact rec_ _ _ _ V V V
theorem vk{p:ae}(hs:SmH p){i:Int}{y:List aa×List Int×List Int}(h:gm p i=y):QL y:=by
 subst h;unfold gm;simp only[LET];have hb:BO p (jx p i):=ui O;refine de2 p hs _ hb _ QL 12500 (λa b c h1 h2 h3=>?_) _ 0 _ _ _ O (Int.le_refl _) ?_ ?_ ?_
 ·have:=ag3 (a:=⟨c,b,a⟩) O;dsimp only at this;exact⟨by show(cz _).1.length<=_;omega,by show(cz _).2.1.length<=_;omega,by show(cz _).2.2.length<=_;omega⟩
 all_goals(have:=hb.1;simp only[List.length_nil];omega)
theorem af3{p:ae}{u:ba}{y:bw×Bool}(h:gq p u=y)(hp:AB p):y.1.Keys.length<=24/\y.1.Actions.length<=24:=by
 subst h;unfold gq;split
 ·exact⟨by simp,by simp⟩
 ·rename_i h1;simp at h1;exact hp.2 _ V V
structure SU(l:List ba):Prop where
 n:l.length<=24
 c:∀k:Int,0<=k->k < l.length->(ix l k).Cond.length<=40
theorem de0{l:List ba}:∀(m:Nat)(i:Int),m=Int.toNat ((l.length:Int)-i)->jw l (λ_=>true) m i=true->∀k:Int,i<=k->k < l.length->(ix l k).Cond.length<=40
 |0,i,hm,h,k,h1,h2=>by omega
 |m+1,i,hm,h,k,h1,h2=>by
  rw[jw]at h;split at h
  ·cases h
  ·rename_i hc;simp only[Bool.or_eq_true,decide_eq_true_eq,not_or]at hc;by_cases e:k=i
   ·subst e;omega
   ·exact de0 m (i+1) V h k V h2
theorem do2{l:List ba}{b:Bool}(h:ma l=b)(hb:b=true):SU l:=by
 subst hb;unfold ma at h;split at h
 ·cases h
 ·rename_i hc;simp only[decide_eq_true_eq]at hc;exact⟨by omega,λk h0 h1=>de0 _ 0 rfl h k h0 h1⟩
theorem f17{l:List az}(h:dz l=true):l.length<=16:=by
 unfold dz at h;split at h
 ·cases h
 ·rename_i hc;simp only[decide_eq_true_eq]at hc;omega
theorem bz6{p:ae}{K:Unit->Bool}:∀(m:Nat)(i:Int),m=Int.toNat ((p.Headers.length:Int)-i)->mw p K m i=true->(∀k:Int,i<=k->k < p.Headers.length->(ix p.Headers k).Fields.length<=16)/\K ()=true
 |0,i,hm,h=>⟨λk h1 h2=>by omega,by rw[mw]at h;exact h⟩
 |m+1,i,hm,h=>by
  rw[mw]at h;split at h
  ·cases h
  ·rename_i hc;simp only[Bool.or_eq_true,decide_eq_true_eq,not_or,Bool.not_eq_true',Bool.not_eq_false]at hc;have r:=bz6 m (i+1) V h;refine⟨λk h1 h2=>?_,r.2⟩;by_cases e:k=i
   ·subst e;exact f17 hc.2
   ·exact r.1 k V h2
theorem cc9{p:ae}{K:Unit->Bool}:∀(m:Nat)(i:Int),my p K m i=true->K ()=true
 |0,i,h=>by rw[my]at h;exact h
 |m+1,i,h=>by
  rw[my]at h;split at h
  ·cases h
  ·exact cc9 m _ h
theorem bx6{p:ae}{K:Unit->Bool}:∀(m:Nat)(i:Int),mu p K m i=true->K ()=true
 |0,i,h=>by rw[mu]at h;exact h
 |m+1,i,h=>by
  rw[mu]at h;simp only[LET]at h;split at h
  ·cases h
  ·exact bx6 m _ h
theorem bu1{p:ae}{K:Unit->Bool}:∀(m:Nat)(i:Int),m=Int.toNat ((p.Tables.length:Int)-i)->od p K m i=true->∀k:Int,i<=k->k < p.Tables.length->(ix p.Tables k).Keys.length<=24/\(ix p.Tables k).Actions.length<=24
 |0,i,hm,h,k,h1,h2=>by omega
 |m+1,i,hm,h,k,h1,h2=>by
  rw[od]at h;split at h
  ·cases h
  ·rename_i hc;simp only[Bool.or_eq_true,decide_eq_true_eq,not_or]at hc;by_cases e:k=i
   ·subst e;exact⟨by omega,by omega⟩
   ·exact bu1 m (i+1) V h k V h2
structure S17(p:ae):Prop where
 hh:p.Headers.length<=12
 hm:p.Metadata.length<=16
 hr:p.Registers.length<=8
 hf:∀k:Int,0<=k->k < p.Headers.length->(ix p.Headers k).Fields.length<=16
 ab:AB p
theorem s17{p:ae}{b:Bool}(h:rg p=b)(hb:b=true):S17 p:=by
 subst hb;unfold rg at h;split at h
 ·cases h
 ·rename_i hc;simp only[Bool.or_eq_true,decide_eq_true_eq,not_or,Bool.not_eq_true',Bool.not_eq_false]at hc;have a:=bz6 _ 0 O h;have c:=bu1 _ 0 O (bx6 _ _ (cc9 _ _ a.2));exact⟨by omega,f17 hc.1.1.1.1.1.2,by omega,a.1,λk h0 h1=>Nat.le_trans (a.1 k h0 h1) OO,c⟩
def RL(z:List (List Int))(n:Int)(m:Int):Prop:=∀k:Int,0<=k->k < m->k < z.length->((ix z k).length:Int)=n
theorem ee4{z:List (List Int)}{n:Int}:RL z n 0:=λk h0 h1 _=>by omega
theorem tw{α:Type}[Inhabited α]{l:List α}{i k:Int}{a:α}(h0:0<=k)(h1:k < l.length)(hi:0<=i):ix (l.set i.toNat a) k=if k=i then a else ix l k:=by
 rw[sy h0 (by rw[List.length_set];exact h1),sy h0 h1,List.getElem_set];by_cases e:k=i
 ·subst e;simp
 ·rw[if_neg V,if_neg e]
theorem dk9{z:List (List Int)}{n m:Int}{r:List Int}(h:RL z n m)(h0:0<=m)(hr:(r.length:Int)=n):RL (z.set m.toNat r) n (m+1):=λk k0 k1 k2=>by
 rw[List.length_set]at k2;rw[tw k0 k2 h0];split
 ·exact hr
 ·exact h k k0 V k2
theorem as7{z:List (List Int)}{n m i:Int}{j:Nat}{v:Int}(h:RL z n m)(h0:0<=i)(h1:i < m)(h2:i < z.length):RL (z.set i.toNat ((ix z i).set j v)) n m:=λk k0 k1 k2=>by
 rw[List.length_set]at k2;rw[tw k0 k2 h0];split
 ·rw[List.length_set];exact h i h0 h1 h2
 ·exact h k k0 k1 k2
theorem cm6{z:List (List Int)}{n m m':Int}(h:RL z n m)(hm:m'<=m):RL z n m':=λk k0 k1 k2=>h k k0 V k2
end Go.Proofs.YtmonnlkagniolaaGreat
