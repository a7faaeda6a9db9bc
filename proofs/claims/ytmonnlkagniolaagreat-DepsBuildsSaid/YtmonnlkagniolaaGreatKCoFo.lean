import Derived.Test.YtmonnlkagniolaaGreatL5Text
import Derived.Test.YtmonnlkagniolaaGreatKTy
import Derived.Test.YtmonnlkagniolaaGreatPbV
import Derived.Test.YtmonnlkagniolaaGreatKDef
import Derived.Test.YtmonnlkagniolaaGreatPbV
import Derived.Test.YtmonnlkagniolaaGreatPbV
set_option linter.all false
set_option maxRecDepth 100000
namespace Go.Proofs.YtmonnlkagniolaaGreat
open Go Go.Pb Go.RowKit
theorem do0{ox oy:Operand}{a b:aa}{va vb':PV}(ra:aa.t.R a va)(rb:aa.t.R b vb'):binF Tryz.prog .eql 87 ox oy va vb'=some (vb (decide (a=b))):=aa.eql_87 ra rb
theorem dr3{ox oy:Operand}{a b:aa}{va vb':PV}(ra:aa.t.R a va)(rb:aa.t.R b vb'):binF Tryz.prog .neq 87 ox oy va vb'=some (vb (!decide (a=b))):=aa.neq_87 ra rb
def RF142(R_:List Ent)(res:List aa)(r:PV)(h:Heap):Prop:=∃a:PV,∃es:List PV,Mem h (⟨a,87,2,es⟩::R_)/\All2 aa.t.R res es/\isL a=true/\res.length<=4611686018427387904/\Wri a es/\r=a
theorem cu5{S:List Fr}{R_:List Ent}{l:List aa}{id ver n k0:Nat}(hn:l.length=n)(hbig:n<=4611686018427387904)(h0:1<=k0)
 (hK:∀(h:Heap)(dk:List aa)(es:List PV)(kk:Nat),Mem h (⟨.os id ver 0 n,87,2,es⟩::R_)->All2 aa.t.R dk es->dk.length=n->1<=kk->kk < n->dk.take kk=cpF l n->PX Tryz.prog 2 S (retPost Tryz.prog [(2,none)] (RF142 R_ (cpt l))) [(3,vi (kk:Int)),(0,.os id ver 0 n)] h):
 ∀(f:Nat)(k2 kk:Nat)(dk:List aa)(es:List PV)(h:Heap),f=n-(k0+k2)->1<=k2->k0+k2<=n->1<=kk->kk < k0+k2->Mem h (⟨.os id ver 0 n,87,2,es⟩::R_)->All2 aa.t.R dk es->dk.length=n->dk.take kk=cpF l (k0+k2)->(∀j:Nat,kk<=j->j < n->ix dk (j:Int)=ix l (j:Int))->
  RC Tryz.prog (.loop aa8) S (retPost Tryz.prog [(2,none)] (RF142 R_ (cpt l))) [(5,vi (k2:Int)),(4,.os id ver (0+k0*2) (n-k0)),(3,vi (kk:Int)),(0,.os id ver 0 n)] h:=by
 intro f;induction f with
 |zero=>
  intro k2 kk dk es h hf h1 hle hk1 hkm M q hlen hcp hix;refine bv ?_;unfold aa8;refine am ?_;refine am ?_;refine av ?_;refine af (ay O) ?_;refine af (ay O) ?_;refine af (v:=vi ((n-k0:Nat):Int)) (cp O (tn Tryz.underlying75 _)) ?_;refine af (ct O O cn) ?_;refine bn ?_;refine ap ?_;refine bp O (λhc=>?_) (λhc=>?_)
  ·exfalso;simp only[decide_eq_true_eq]at hc;omega
  ·refine dg ?_;refine dq ?_;refine dc ?_;refine ab1 (fd O (fd O (pr _))) (hK h dk es kk M q hlen hk1 V (by rw[hcp];congr 1;omega))
 |succ f ih=>
  intro k2 kk dk es h hf h1 hle hk1 hkm M q hlen hcp hix;have hlt:k0+k2 < n:=by omega
  have bsub:∀ox oy,binF Tryz.prog .sub 3 ox oy (vi (k2:Int)) (vi 1)=some (vi ((k2-1:Nat):Int)):=λox oy=>by
   have hw:wr ((k2:Int)-1)=((k2-1:Nat):Int):=by rw[dj V V];omega
   rw[<-hw];exact vt
  have badd:∀(z:Nat),z<=n->∀ox oy,binF Tryz.prog .add 3 ox oy (vi (z:Int)) (vi 1)=some (vi ((z+1:Nat):Int)):=λz hz ox oy=>by
   have hw:wr ((z:Int)+1)=((z+1:Nat):Int):=by rw[dj V V];omega
   rw[<-hw];exact dp
  have ad:∀z:Nat,z < n-k0->idxR 2 (.os id ver (0+k0*2) (n-k0)) (vi (z:Int))=some (.op id ver (0+(k0+z)*2)):=λz hz=>by
   have he:0+k0*2+(z:Int).toNat*2=0+(k0+z)*2:=by rw[Int.toNat_natCast];omega
   rw[<-he];exact qg 2 V V
  obtain⟨v1,e1,r1⟩:=pm (i:=((k0+k2:Nat):Int)) q V V;obtain⟨v2,e2,r2⟩:=pm (i:=((k0+(k2-1):Nat):Int)) q V V;rw[Int.toNat_natCast]at e1 e2;rw[hix _ V hlt]at r1;rw[hix _ V V]at r2;have hm1:((k0+(k2-1):Nat):Int)=((k0+k2:Nat):Int)-1:=by omega
  rw[hm1]at r2;refine bv ?_;unfold aa8;refine am ?_;refine am ?_;refine av ?_;refine af (ay O) ?_;refine af (ay O) ?_;refine af (v:=vi ((n-k0:Nat):Int)) (cp O (tn Tryz.underlying75 _)) ?_;refine af (ct O O cn) ?_;refine bn ?_;refine ap ?_;refine bp O (λhc=>?_) (λhc=>?_)
  ·refine ax ?_;refine ap ?_;refine am ?_;refine bf ?_;refine am ?_;refine av ?_;refine af (ay O) ?_;refine af (ay O) ?_;refine af (bd O O (ad k2 V)) ?_;refine af (og (k:=0) M O O e1 (TR.agg aa.t r1)) ?_;refine af (ay O) ?_;refine af (ay O) ?_;refine af (ct O O (bsub _ _)) ?_;refine af (bd O O (ad (k2-1) V)) ?_;refine af (og (k:=0) M O O e2 (TR.agg aa.t r2)) ?_;refine af (ct O O (dr3 r1 r2)) ?_;refine bn ?_;refine ap ?_;refine bp O (λhd=>?_) (λhd=>?_)
   ·simp only[Bool.not_eq_true',decide_eq_false_iff_not]at hd;refine am ?_;refine av ?_;refine af (ay O) ?_;refine af (ay O) ?_;refine af (ay O) ?_;refine af (ay O) ?_;refine af (bd O O (ad k2 V)) ?_;refine af (og (k:=0) M O O e1 (TR.agg aa.t r1)) ?_;refine af (v:= .op id ver (0+kk*2)) (bd O O (qg 2 V V)) ?_;refine tq (k:=0) (i:=kk) (v:=v1) M O O O (by rw[All2.length_eq q];omega) (TR.cnt aa.t r1) (λh2 M2=>?_);replace M2:Mem h2 (⟨.os id ver 0 n,87,2,es.set kk v1⟩::R_):=M2;refine bn ?_;refine ap ?_;refine av ?_;refine af (ay O) ?_;refine af (ct O O (badd kk V _ _)) ?_;refine af (ay O) ?_;refine bn ?_;refine cy ?_;refine ap ?_;refine av ?_;refine af (ay O) ?_;refine af (ct O O (badd k2 V _ _)) ?_;refine af (ay O) ?_;refine bn ?_;refine cv ?_;have q2:All2 aa.t.R (dk.set kk (ix l ((k0+k2:Nat):Int))) (es.set kk v1):=q.set r1;refine rm ?_ (ih (k2+1) (kk+1) (dk.set kk (ix l ((k0+k2:Nat):Int))) (es.set kk v1) h2 V V V V V M2 q2 (by simp[hlen]) ?_ ?_)
    ·exact(fd O (fd O (fd O (fd O (pr _)))))
    ·rw[show k0+(k2+1)=(k0+k2)+1 by omega,tp (.inr hd),<-hcp,List.take_add_one,List.getElem?_set_self V,List.take_set_of_le (Nat.le_refl _)];rfl
    ·intro j hj hjn;have hs:∀x:aa,ix (dk.set kk x) (j:Int)=ix dk (j:Int):=λx=>by
      simp only[ix,Int.toNat_natCast,List.getD_eq_getElem?_getD];rw[List.getElem?_set_ne V]
     rw[hs];exact hix j V hjn
   ·simp only[Bool.not_eq_false',decide_eq_true_eq]at hd;refine ax ?_;refine cy ?_;refine ap ?_;refine av ?_;refine af (ay O) ?_;refine af (ct O O (badd k2 V _ _)) ?_;refine af (ay O) ?_;refine bn ?_;refine cv ?_;refine rm ?_ (ih (k2+1) kk dk es h V V V hk1 V M q hlen ?_ hix)
    ·exact(fd O (fd O (fd O (fd O (pr _)))))
    ·rw[show k0+(k2+1)=(k0+k2)+1 by omega,wm V hd];exact hcp
  ·exfalso;simp only[decide_eq_false_iff_not]at hc;omega
theorem ci3{R_:List Ent}{l:List aa}{es:List PV}{id ver n:Nat}{h:Heap}{S:List Fr}(hn:l.length=n)(hbig:n<=4611686018427387904)(q:All2 aa.t.R l es)(M:Mem h (⟨.os id ver 0 n,87,2,es⟩::R_))
 (hK0:PX Tryz.prog 0 S (retPost Tryz.prog [(2,none)] (RF142 R_ l)) [(0,.os id ver 0 n)] h):
 ∀(f k:Nat),f=n-k->1<=k->k<=n->cpF l k=l.take k->RC Tryz.prog (.loop ac7) S (retPost Tryz.prog [(2,none)] (RF142 R_ (cpt l))) [(3,vi (k:Int)),(0,.os id ver 0 n)] h:=by
 intro f;induction f with
 |zero=>
  intro k hf h1 hle hcp;have hkn:k=n:=by omega
  subst hkn;have hc:cpt l=l:=by unfold cpt;rw[hn,hcp];exact List.take_of_length_le V
  refine bv ?_;unfold ac7;refine am ?_;refine am ?_;refine av ?_;refine af (ay O) ?_;refine af (ay O) ?_;refine af (v:=vi ((k:Nat):Int)) (cp O (tn Tryz.underlying75 _)) ?_;refine af (ct O O cn) ?_;refine bn ?_;refine ap ?_;refine bp O (λhc=>?_) (λhc=>?_)
  ·exfalso;simp only[decide_eq_true_eq]at hc;omega
  ·refine dg ?_;refine dq ?_;refine dc ?_;rw[‹cpt l=l›];exact ab1 (fd O (pr _)) hK0
 |succ f ih=>
  intro k hf h1 hle hcp;have hlt:k < n:=by omega
  have bsub:∀ox oy,binF Tryz.prog .sub 3 ox oy (vi (k:Int)) (vi 1)=some (vi ((k-1:Nat):Int)):=λox oy=>by
   have hw:wr ((k:Int)-1)=((k-1:Nat):Int):=by rw[dj V V];omega
   rw[<-hw];exact vt
  have badd:∀ox oy,binF Tryz.prog .add 3 ox oy (vi (k:Int)) (vi 1)=some (vi ((k+1:Nat):Int)):=λox oy=>by
   have hw:wr ((k:Int)+1)=((k+1:Nat):Int):=by rw[dj V V];omega
   rw[<-hw];exact dp
  obtain⟨v1,e1,r1⟩:=pm (i:=(k:Int)) q V V;obtain⟨v2,e2,r2⟩:=pm (i:=((k-1:Nat):Int)) q V V;rw[Int.toNat_natCast]at e1 e2;have hm1:((k-1:Nat):Int)=(k:Int)-1:=by omega
  rw[hm1]at r2;refine bv ?_;unfold ac7;refine am ?_;refine am ?_;refine av ?_;refine af (ay O) ?_;refine af (ay O) ?_;refine af (v:=vi ((n:Nat):Int)) (cp O (tn Tryz.underlying75 _)) ?_;refine af (ct O O cn) ?_;refine bn ?_;refine ap ?_;refine bp O (λhc=>?_) (λhc=>?_)
  ·refine ax ?_;refine ap ?_;refine am ?_;refine bf ?_;refine am ?_;refine av ?_;refine af (ay O) ?_;refine af (ay O) ?_;refine af (v:= .op id ver (0+k*2)) (bd O O (qg 2 V V)) ?_;refine af (og (k:=0) M O O e1 (TR.agg aa.t r1)) ?_;refine af (ay O) ?_;refine af (ay O) ?_;refine af (ct O O (bsub _ _)) ?_;refine af (v:= .op id ver (0+(k-1)*2)) (bd O O (qg 2 V V)) ?_;refine af (og (k:=0) M O O e2 (TR.agg aa.t r2)) ?_;refine af (ct O O (do0 r1 r2)) ?_;refine bn ?_;refine ap ?_;refine bp O (λhd=>?_) (λhd=>?_)
   ·simp only[decide_eq_true_eq]at hd;refine am ?_;refine av ?_;refine af (ay O) ?_;refine af (ay O) ?_;refine af (v:= .os id ver (0+k*2) (n-k)) (sx (a:=(k:Int)) (b:=(n:Int)) O O O V V V OO) ?_;refine af (ay O) ?_;refine bn ?_;refine ap ?_;refine am ?_;refine am ?_;refine av ?_;refine af (v:=vi ((1:Nat):Int)) (ay O) ?_;refine bn ?_;refine ap ?_;refine bf ?_;have hcp1:cpF l (k+1)=l.take k:=by rw[wm V hd,hcp]
    refine rm ?_ (cu5 hn hbig h1 ?_ (n-(k+1)) 1 k l es h O V V h1 V M q hn hcp1.symm (λj _ _=>O))
    ·exact(fd O (fd O (fd O (fd O (pr _)))))
    ·intro h2 dk es2 kk M2 q2 hlen hk1 hkn hfin;refine dy ?_;refine ap ?_;refine am ?_;refine fc ?_;refine cw (af (ay O) (cx ?_));refine cw (af (ay O) (cx ?_));refine cw (af (v:= .os id ver (0+kk*2) (n-kk)) (sx (a:=(kk:Int)) (b:=(n:Int)) O O O V V V OO) (cx ?_));refine bl6 (k:=0) M2 O O hkn O (λh3 M3=>?_);replace M3:Mem h3 (⟨.os id ver 0 kk,87,2,es2.take kk⟩::R_):=M3;refine kn ?_;refine ap ?_;refine am ?_;refine av ?_;refine af (ay O) ?_;refine af (ay O) ?_;refine af (v:= .os id ver 0 kk) (sx (a:=0) (b:=(kk:Int)) O O O V V V OO) ?_;refine af (ay O) ?_;refine bn ?_;refine ap ?_;have hq3:All2 aa.t.R (cpt l) (es2.take kk):=by
      have:cpt l=dk.take kk:=by unfold cpt;rw[hn,hfin]
      rw[this];exact q2.take kk
     have hl3:=ai2 l n;exact tr (.tmp O .nil) ⟨_,_,M3,hq3,O,by unfold cpt;rw[hn];omega,.inr ⟨_,_,_,rfl⟩,rfl⟩
   ·simp only[decide_eq_false_iff_not]at hd;refine ax ?_;refine cy ?_;refine ap ?_;refine av ?_;refine af (ay O) ?_;refine af (ct O O (badd _ _)) ?_;refine af (ay O) ?_;refine bn ?_;refine cv ?_;refine rm ?_ (ih (k+1) V V V ?_)
    ·exact(fd O (fd O (pr _)))
    ·rw[tp (.inr hd),hcp,zl V]
  ·exfalso;simp only[decide_eq_false_iff_not]at hc;omega
theorem br8{x0:List aa}{a0:PV}{es0:List PV}{R_:List Ent}{h_:Heap}(q:All2 aa.t.R x0 es0)(ne:isL a0=true)(hl:x0.length<=4611686018427387904)(wi:Wri a0 es0)(M:Mem h_ (⟨a0,87,2,es0⟩::R_)):∃r h2_,FnX Tryz.prog 142 [a0] h_ r h2_/\RF142 R_ (cpt x0) r h2_:=by
 suffices H:RC Tryz.prog bs5 [] (retPost Tryz.prog [(2,none)] (RF142 R_ (cpt x0))) (argE 0 [a0]) h_ by
  exact fnX da8 OZ H
 unfold bs5;refine am ?_;refine av ?_;refine af (ay O) ?_;refine bn ?_;refine ap ?_;refine am ?_;refine am ?_;refine av ?_;refine af (ay O) ?_;refine af (cp O (bj6 (k:=0) M O Tryz.underlying75 ne q _)) ?_;refine af (ct O O cn) ?_;refine bn ?_;refine ap ?_;refine bp O (λhc=>?_) (λhc=>?_)
 ·simp only[decide_eq_true_eq]at hc;refine am ?_;refine av ?_;refine af (ay O) ?_;refine af (ay O) ?_;refine bn ?_;refine ap ?_;rw[ao4 V];exact tr (.tmp O .nil) ⟨a0,es0,M,q,ne,hl,wi,O⟩
 ·simp only[decide_eq_false_iff_not]at hc;obtain⟨id,ver,n,rfl⟩:=as1 (i:=0) wi q V V;have hn:x0.length=n:=by rw[zv M (k:=0) rfl,All2.length_eq q]
  refine ax ?_;refine ap ?_;refine am ?_;refine am ?_;refine av ?_;refine af (v:=vi ((1:Nat):Int)) (ay O) ?_;refine bn ?_;refine ap ?_;refine bf ?_;refine rm ?_ (ci3 hn V q M ?_ (n-1) 1 O V V ?_)
  ·exact(fd O (fd O (pr _)))
  ·refine dy ?_;refine ap ?_;refine am ?_;refine av ?_;refine af (ay O) ?_;refine af (ay O) ?_;refine bn ?_;refine ap ?_;exact tr (.tmp O .nil) ⟨_,es0,M,q,ne,hl,wi,O⟩
  ·rw[tp (.inl rfl),zl V];rfl
theorem dk7{ox oy:Operand}{a b:Int}{va vb':PV}(ra:tI.R a va)(rb:tI.R b vb'):binF Tryz.prog .eql 3 ox oy va vb'=some (vb (decide (a=b))):=by
 have ra:va=vi a:=ra;have rb:vb'=vi b:=rb;subst ra;subst rb;exact dt
theorem dh7{ox oy:Operand}{a b:Int}{va vb':PV}(ra:tI.R a va)(rb:tI.R b vb'):binF Tryz.prog .neq 3 ox oy va vb'=some (vb (!decide (a=b))):=by
 have ra:va=vi a:=ra;have rb:vb'=vi b:=rb;subst ra;subst rb;exact lx
def RF144(R_:List Ent)(res:List Int)(r:PV)(h:Heap):Prop:=∃a:PV,∃es:List PV,Mem h (⟨a,3,1,es⟩::R_)/\All2 tI.R res es/\isL a=true/\res.length<=4611686018427387904/\Wri a es/\r=a
theorem cp9{S:List Fr}{R_:List Ent}{l:List Int}{id ver n k0:Nat}(hn:l.length=n)(hbig:n<=4611686018427387904)(h0:1<=k0)
 (hK:∀(h:Heap)(dk:List Int)(es:List PV)(kk:Nat),Mem h (⟨.os id ver 0 n,3,1,es⟩::R_)->All2 tI.R dk es->dk.length=n->1<=kk->kk < n->dk.take kk=cpF l n->PX Tryz.prog 2 S (retPost Tryz.prog [(2,none)] (RF144 R_ (cpt l))) [(3,vi (kk:Int)),(0,.os id ver 0 n)] h):
 ∀(f:Nat)(k2 kk:Nat)(dk:List Int)(es:List PV)(h:Heap),f=n-(k0+k2)->1<=k2->k0+k2<=n->1<=kk->kk < k0+k2->Mem h (⟨.os id ver 0 n,3,1,es⟩::R_)->All2 tI.R dk es->dk.length=n->dk.take kk=cpF l (k0+k2)->(∀j:Nat,kk<=j->j < n->ix dk (j:Int)=ix l (j:Int))->
  RC Tryz.prog (.loop aa5) S (retPost Tryz.prog [(2,none)] (RF144 R_ (cpt l))) [(5,vi (k2:Int)),(4,.os id ver (0+k0*1) (n-k0)),(3,vi (kk:Int)),(0,.os id ver 0 n)] h:=by
 intro f;induction f with
 |zero=>
  intro k2 kk dk es h hf h1 hle hk1 hkm M q hlen hcp hix;refine bv ?_;unfold aa5;refine am ?_;refine am ?_;refine av ?_;refine af (ay O) ?_;refine af (ay O) ?_;refine af (v:=vi ((n-k0:Nat):Int)) (cp O (tn Tryz.underlying29 _)) ?_;refine af (ct O O cn) ?_;refine bn ?_;refine ap ?_;refine bp O (λhc=>?_) (λhc=>?_)
  ·exfalso;simp only[decide_eq_true_eq]at hc;omega
  ·refine dg ?_;refine dq ?_;refine dc ?_;refine ab1 (fd O (fd O (pr _))) (hK h dk es kk M q hlen hk1 V (by rw[hcp];congr 1;omega))
 |succ f ih=>
  intro k2 kk dk es h hf h1 hle hk1 hkm M q hlen hcp hix;have hlt:k0+k2 < n:=by omega
  have bsub:∀ox oy,binF Tryz.prog .sub 3 ox oy (vi (k2:Int)) (vi 1)=some (vi ((k2-1:Nat):Int)):=λox oy=>by
   have hw:wr ((k2:Int)-1)=((k2-1:Nat):Int):=by rw[dj V V];omega
   rw[<-hw];exact vt
  have badd:∀(z:Nat),z<=n->∀ox oy,binF Tryz.prog .add 3 ox oy (vi (z:Int)) (vi 1)=some (vi ((z+1:Nat):Int)):=λz hz ox oy=>by
   have hw:wr ((z:Int)+1)=((z+1:Nat):Int):=by rw[dj V V];omega
   rw[<-hw];exact dp
  have ad:∀z:Nat,z < n-k0->idxR 1 (.os id ver (0+k0*1) (n-k0)) (vi (z:Int))=some (.op id ver (0+(k0+z)*1)):=λz hz=>by
   have he:0+k0*1+(z:Int).toNat*1=0+(k0+z)*1:=by rw[Int.toNat_natCast];omega
   rw[<-he];exact qg 1 V V
  obtain⟨v1,e1,r1⟩:=pm (i:=((k0+k2:Nat):Int)) q V V;obtain⟨v2,e2,r2⟩:=pm (i:=((k0+(k2-1):Nat):Int)) q V V;rw[Int.toNat_natCast]at e1 e2;rw[hix _ V hlt]at r1;rw[hix _ V V]at r2;have hm1:((k0+(k2-1):Nat):Int)=((k0+k2:Nat):Int)-1:=by omega
  rw[hm1]at r2;refine bv ?_;unfold aa5;refine am ?_;refine am ?_;refine av ?_;refine af (ay O) ?_;refine af (ay O) ?_;refine af (v:=vi ((n-k0:Nat):Int)) (cp O (tn Tryz.underlying29 _)) ?_;refine af (ct O O cn) ?_;refine bn ?_;refine ap ?_;refine bp O (λhc=>?_) (λhc=>?_)
  ·refine ax ?_;refine ap ?_;refine am ?_;refine bf ?_;refine am ?_;refine av ?_;refine af (ay O) ?_;refine af (ay O) ?_;refine af (bd O O (ad k2 V)) ?_;refine af (og (k:=0) M O O e1 (TR.agg tI r1)) ?_;refine af (ay O) ?_;refine af (ay O) ?_;refine af (ct O O (bsub _ _)) ?_;refine af (bd O O (ad (k2-1) V)) ?_;refine af (og (k:=0) M O O e2 (TR.agg tI r2)) ?_;refine af (ct O O (dh7 r1 r2)) ?_;refine bn ?_;refine ap ?_;refine bp O (λhd=>?_) (λhd=>?_)
   ·simp only[Bool.not_eq_true',decide_eq_false_iff_not]at hd;refine am ?_;refine av ?_;refine af (ay O) ?_;refine af (ay O) ?_;refine af (ay O) ?_;refine af (ay O) ?_;refine af (bd O O (ad k2 V)) ?_;refine af (og (k:=0) M O O e1 (TR.agg tI r1)) ?_;refine af (v:= .op id ver (0+kk*1)) (bd O O (qg 1 V V)) ?_;refine tq (k:=0) (i:=kk) (v:=v1) M O O O (by rw[All2.length_eq q];omega) (TR.cnt tI r1) (λh2 M2=>?_);replace M2:Mem h2 (⟨.os id ver 0 n,3,1,es.set kk v1⟩::R_):=M2;refine bn ?_;refine ap ?_;refine av ?_;refine af (ay O) ?_;refine af (ct O O (badd kk V _ _)) ?_;refine af (ay O) ?_;refine bn ?_;refine cy ?_;refine ap ?_;refine av ?_;refine af (ay O) ?_;refine af (ct O O (badd k2 V _ _)) ?_;refine af (ay O) ?_;refine bn ?_;refine cv ?_;have q2:All2 tI.R (dk.set kk (ix l ((k0+k2:Nat):Int))) (es.set kk v1):=q.set r1;refine rm ?_ (ih (k2+1) (kk+1) (dk.set kk (ix l ((k0+k2:Nat):Int))) (es.set kk v1) h2 V V V V V M2 q2 (by simp[hlen]) ?_ ?_)
    ·exact(fd O (fd O (fd O (fd O (pr _)))))
    ·rw[show k0+(k2+1)=(k0+k2)+1 by omega,tp (.inr hd),<-hcp,List.take_add_one,List.getElem?_set_self V,List.take_set_of_le (Nat.le_refl _)];rfl
    ·intro j hj hjn;have hs:∀x:Int,ix (dk.set kk x) (j:Int)=ix dk (j:Int):=λx=>by
      simp only[ix,Int.toNat_natCast,List.getD_eq_getElem?_getD];rw[List.getElem?_set_ne V]
     rw[hs];exact hix j V hjn
   ·simp only[Bool.not_eq_false',decide_eq_true_eq]at hd;refine ax ?_;refine cy ?_;refine ap ?_;refine av ?_;refine af (ay O) ?_;refine af (ct O O (badd k2 V _ _)) ?_;refine af (ay O) ?_;refine bn ?_;refine cv ?_;refine rm ?_ (ih (k2+1) kk dk es h V V V hk1 V M q hlen ?_ hix)
    ·exact(fd O (fd O (fd O (fd O (pr _)))))
    ·rw[show k0+(k2+1)=(k0+k2)+1 by omega,wm V hd];exact hcp
  ·exfalso;simp only[decide_eq_false_iff_not]at hc;omega
theorem cs6{R_:List Ent}{l:List Int}{es:List PV}{id ver n:Nat}{h:Heap}{S:List Fr}(hn:l.length=n)(hbig:n<=4611686018427387904)(q:All2 tI.R l es)(M:Mem h (⟨.os id ver 0 n,3,1,es⟩::R_))
 (hK0:PX Tryz.prog 0 S (retPost Tryz.prog [(2,none)] (RF144 R_ l)) [(0,.os id ver 0 n)] h):
 ∀(f k:Nat),f=n-k->1<=k->k<=n->cpF l k=l.take k->RC Tryz.prog (.loop ad1) S (retPost Tryz.prog [(2,none)] (RF144 R_ (cpt l))) [(3,vi (k:Int)),(0,.os id ver 0 n)] h:=by
 intro f;induction f with
 |zero=>
  intro k hf h1 hle hcp;have hkn:k=n:=by omega
  subst hkn;have hc:cpt l=l:=by unfold cpt;rw[hn,hcp];exact List.take_of_length_le V
  refine bv ?_;unfold ad1;refine am ?_;refine am ?_;refine av ?_;refine af (ay O) ?_;refine af (ay O) ?_;refine af (v:=vi ((k:Nat):Int)) (cp O (tn Tryz.underlying29 _)) ?_;refine af (ct O O cn) ?_;refine bn ?_;refine ap ?_;refine bp O (λhc=>?_) (λhc=>?_)
  ·exfalso;simp only[decide_eq_true_eq]at hc;omega
  ·refine dg ?_;refine dq ?_;refine dc ?_;rw[‹cpt l=l›];exact ab1 (fd O (pr _)) hK0
 |succ f ih=>
  intro k hf h1 hle hcp;have hlt:k < n:=by omega
  have bsub:∀ox oy,binF Tryz.prog .sub 3 ox oy (vi (k:Int)) (vi 1)=some (vi ((k-1:Nat):Int)):=λox oy=>by
   have hw:wr ((k:Int)-1)=((k-1:Nat):Int):=by rw[dj V V];omega
   rw[<-hw];exact vt
  have badd:∀ox oy,binF Tryz.prog .add 3 ox oy (vi (k:Int)) (vi 1)=some (vi ((k+1:Nat):Int)):=λox oy=>by
   have hw:wr ((k:Int)+1)=((k+1:Nat):Int):=by rw[dj V V];omega
   rw[<-hw];exact dp
  obtain⟨v1,e1,r1⟩:=pm (i:=(k:Int)) q V V;obtain⟨v2,e2,r2⟩:=pm (i:=((k-1:Nat):Int)) q V V;rw[Int.toNat_natCast]at e1 e2;have hm1:((k-1:Nat):Int)=(k:Int)-1:=by omega
  rw[hm1]at r2;refine bv ?_;unfold ad1;refine am ?_;refine am ?_;refine av ?_;refine af (ay O) ?_;refine af (ay O) ?_;refine af (v:=vi ((n:Nat):Int)) (cp O (tn Tryz.underlying29 _)) ?_;refine af (ct O O cn) ?_;refine bn ?_;refine ap ?_;refine bp O (λhc=>?_) (λhc=>?_)
  ·refine ax ?_;refine ap ?_;refine am ?_;refine bf ?_;refine am ?_;refine av ?_;refine af (ay O) ?_;refine af (ay O) ?_;refine af (v:= .op id ver (0+k*1)) (bd O O (qg 1 V V)) ?_;refine af (og (k:=0) M O O e1 (TR.agg tI r1)) ?_;refine af (ay O) ?_;refine af (ay O) ?_;refine af (ct O O (bsub _ _)) ?_;refine af (v:= .op id ver (0+(k-1)*1)) (bd O O (qg 1 V V)) ?_;refine af (og (k:=0) M O O e2 (TR.agg tI r2)) ?_;refine af (ct O O (dk7 r1 r2)) ?_;refine bn ?_;refine ap ?_;refine bp O (λhd=>?_) (λhd=>?_)
   ·simp only[decide_eq_true_eq]at hd;refine am ?_;refine av ?_;refine af (ay O) ?_;refine af (ay O) ?_;refine af (v:= .os id ver (0+k*1) (n-k)) (sx (a:=(k:Int)) (b:=(n:Int)) O O O V V V OO) ?_;refine af (ay O) ?_;refine bn ?_;refine ap ?_;refine am ?_;refine am ?_;refine av ?_;refine af (v:=vi ((1:Nat):Int)) (ay O) ?_;refine bn ?_;refine ap ?_;refine bf ?_;have hcp1:cpF l (k+1)=l.take k:=by rw[wm V hd,hcp]
    refine rm ?_ (cp9 hn hbig h1 ?_ (n-(k+1)) 1 k l es h O V V h1 V M q hn hcp1.symm (λj _ _=>O))
    ·exact(fd O (fd O (fd O (fd O (pr _)))))
    ·intro h2 dk es2 kk M2 q2 hlen hk1 hkn hfin;refine dy ?_;refine ap ?_;refine am ?_;refine fc ?_;refine cw (af (ay O) (cx ?_));refine cw (af (ay O) (cx ?_));refine cw (af (v:= .os id ver (0+kk*1) (n-kk)) (sx (a:=(kk:Int)) (b:=(n:Int)) O O O V V V OO) (cx ?_));refine bl6 (k:=0) M2 O O hkn O (λh3 M3=>?_);replace M3:Mem h3 (⟨.os id ver 0 kk,3,1,es2.take kk⟩::R_):=M3;refine kn ?_;refine ap ?_;refine am ?_;refine av ?_;refine af (ay O) ?_;refine af (ay O) ?_;refine af (v:= .os id ver 0 kk) (sx (a:=0) (b:=(kk:Int)) O O O V V V OO) ?_;refine af (ay O) ?_;refine bn ?_;refine ap ?_;have hq3:All2 tI.R (cpt l) (es2.take kk):=by
      have:cpt l=dk.take kk:=by unfold cpt;rw[hn,hfin]
      rw[this];exact q2.take kk
     have hl3:=ai2 l n;exact tr (.tmp O .nil) ⟨_,_,M3,hq3,O,by unfold cpt;rw[hn];omega,.inr ⟨_,_,_,rfl⟩,rfl⟩
   ·simp only[decide_eq_false_iff_not]at hd;refine ax ?_;refine cy ?_;refine ap ?_;refine av ?_;refine af (ay O) ?_;refine af (ct O O (badd _ _)) ?_;refine af (ay O) ?_;refine bn ?_;refine cv ?_;refine rm ?_ (ih (k+1) V V V ?_)
    ·exact(fd O (fd O (pr _)))
    ·rw[tp (.inr hd),hcp,zl V]
  ·exfalso;simp only[decide_eq_false_iff_not]at hc;omega
theorem cc8{x0:List Int}{a0:PV}{es0:List PV}{R_:List Ent}{h_:Heap}(q:All2 tI.R x0 es0)(ne:isL a0=true)(hl:x0.length<=4611686018427387904)(wi:Wri a0 es0)(M:Mem h_ (⟨a0,3,1,es0⟩::R_)):∃r h2_,FnX Tryz.prog 144 [a0] h_ r h2_/\RF144 R_ (cpt x0) r h2_:=by
 suffices H:RC Tryz.prog br6 [] (retPost Tryz.prog [(2,none)] (RF144 R_ (cpt x0))) (argE 0 [a0]) h_ by
  exact fnX ci7 OZ H
 unfold br6;refine am ?_;refine av ?_;refine af (ay O) ?_;refine bn ?_;refine ap ?_;refine am ?_;refine am ?_;refine av ?_;refine af (ay O) ?_;refine af (cp O (bj6 (k:=0) M O Tryz.underlying29 ne q _)) ?_;refine af (ct O O cn) ?_;refine bn ?_;refine ap ?_;refine bp O (λhc=>?_) (λhc=>?_)
 ·simp only[decide_eq_true_eq]at hc;refine am ?_;refine av ?_;refine af (ay O) ?_;refine af (ay O) ?_;refine bn ?_;refine ap ?_;rw[ao4 V];exact tr (.tmp O .nil) ⟨a0,es0,M,q,ne,hl,wi,O⟩
 ·simp only[decide_eq_false_iff_not]at hc;obtain⟨id,ver,n,rfl⟩:=as1 (i:=0) wi q V V;have hn:x0.length=n:=by rw[zv M (k:=0) rfl,All2.length_eq q]
  refine ax ?_;refine ap ?_;refine am ?_;refine am ?_;refine av ?_;refine af (v:=vi ((1:Nat):Int)) (ay O) ?_;refine bn ?_;refine ap ?_;refine bf ?_;refine rm ?_ (cs6 hn V q M ?_ (n-1) 1 O V V ?_)
  ·exact(fd O (fd O (pr _)))
  ·refine dy ?_;refine ap ?_;refine am ?_;refine av ?_;refine af (ay O) ?_;refine af (ay O) ?_;refine bn ?_;refine ap ?_;exact tr (.tmp O .nil) ⟨_,es0,M,q,ne,hl,wi,O⟩
  ·rw[tp (.inl rfl),zl V];rfl
theorem dw9(a b:Int):lg a b=if a < b then -1 else if b < a then 1 else 0:=by
 unfold lg qv;simp[LET]
theorem or2(a b:Int):rt [a,b]=if a≠0 then a else b:=by
 unfold rt;by_cases h:a=0
 ·by_cases h2:b=0
  ·simp[nu,ix,h,h2]
  ·simp[nu,ix,h,h2]
 ·simp[nu,ix,h]
theorem az0(x y:aa):Go.Proofs.ltOf kx x y=decide (x.Header < y.Header\/(x.Header=y.Header/\x.Field < y.Field)):=by
 unfold Go.Proofs.ltOf kx;simp only[LET,or2,dw9]
 congr 1
 rw[eq_iff_iff]
 repeat' split
 all_goals omega
theorem dg2:Go.Sort.SWO (Go.Proofs.ltOf kx) where
 irrefl x:=by rw[az0];simp
 trans x y z h1 h2:=by rw[az0]at*;simp at*;omega
 ntrans x y z h1 h2:=by rw[az0]at*;simp at*;omega
theorem cc0(x y:aa)(h1:Go.Proofs.ltOf kx x y=false)(h2:Go.Proofs.ltOf kx y x=false):x=y:=by
 rw[az0]at h1 h2;obtain⟨a,b⟩:=x;obtain⟨c,d⟩:=y;simp at h1 h2;have e1:a=c:=by omega
 subst e1;have e2:b=d:=by omega
 subst e2;rfl
def frmk(x:aa):PV:= .agg [vi x.Header,vi x.Field]
def frenc(x:aa):List Value:=[.int .i64 x.Header,.int .i64 x.Field]
theorem bc1(x y:aa):Go.Proofs.ltOf er x y=decide (x.Header < y.Header\/(x.Header=y.Header/\x.Field < y.Field)):=by
 unfold Go.Proofs.ltOf er;simp only[LET,or2,dw9]
 congr 1
 rw[eq_iff_iff]
 repeat' split
 all_goals omega
theorem do7:Go.Sort.SWO (Go.Proofs.ltOf er) where
 irrefl x:=by rw[bc1];simp
 trans x y z h1 h2:=by rw[bc1]at*;simp at*;omega
 ntrans x y z h1 h2:=by rw[bc1]at*;simp at*;omega
theorem cc7(x y:aa)(h1:Go.Proofs.ltOf er x y=false)(h2:Go.Proofs.ltOf er y x=false):x=y:=by
 rw[bc1]at h1 h2;obtain⟨a,b⟩:=x;obtain⟨c,d⟩:=y;simp at h1 h2;have e1:a=c:=by omega
 subst e1;have e2:b=d:=by omega
 subst e2;rfl
end Go.Proofs.YtmonnlkagniolaaGreat
