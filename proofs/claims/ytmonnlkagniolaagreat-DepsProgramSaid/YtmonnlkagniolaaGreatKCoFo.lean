import Derived.Test.YtmonnlkagniolaaGreatL12Text
import Derived.Test.YtmonnlkagniolaaGreatKTy
import Derived.Test.YtmonnlkagniolaaGreatPbV
import Derived.Test.YtmonnlkagniolaaGreatKDef
import Derived.Test.YtmonnlkagniolaaGreatPbV
import Derived.Test.YtmonnlkagniolaaGreatPbV
set_option linter.unusedVariables false
set_option linter.unusedSimpArgs false
set_option maxRecDepth 100000
namespace Go.Proofs.YtmonnlkagniolaaGreat
open Go Go.Pb Go.RowKit
theorem ec0{ox oy:Operand}{a b:aa}{va vb':PV}(ra:aa.t.R a va)(rb:aa.t.R b vb'):binF Tryz.prog .eql 87 ox oy va vb'=some (vb (decide (a=b))):=aa.eql_87 ra rb
theorem dy2{ox oy:Operand}{a b:aa}{va vb':PV}(ra:aa.t.R a va)(rb:aa.t.R b vb'):binF Tryz.prog .neq 87 ox oy va vb'=some (vb (!decide (a=b))):=aa.neq_87 ra rb
def RF142(R_:List Ent)(res:List aa)(r:PV)(h:Heap):Prop:=∃a:PV,∃es:List PV,Mem h (⟨a,87,2,es⟩::R_)/\All2 aa.t.R res es/\isL a=true/\res.length<=4611686018427387904/\Wri a es/\r=a
theorem cv0{S:List Fr}{R_:List Ent}{l:List aa}{id ver n k0:Nat}(hn:l.length=n)(hbig:n<=4611686018427387904)(h0:1<=k0)
 (hK:∀(h:Heap)(dk:List aa)(es:List PV)(kk:Nat),Mem h (⟨.os id ver 0 n,87,2,es⟩::R_)->All2 aa.t.R dk es->dk.length=n->1<=kk->kk < n->dk.take kk=cpF l n->PX Tryz.prog 2 S (retPost Tryz.prog [(2,none)] (RF142 R_ (cpt l))) [(3,vi (kk:Int)),(0,.os id ver 0 n)] h):
 ∀(f:Nat)(k2 kk:Nat)(dk:List aa)(es:List PV)(h:Heap),f=n-(k0+k2)->1<=k2->k0+k2<=n->1<=kk->kk < k0+k2->Mem h (⟨.os id ver 0 n,87,2,es⟩::R_)->All2 aa.t.R dk es->dk.length=n->dk.take kk=cpF l (k0+k2)->(∀j:Nat,kk<=j->j < n->ix dk (j:Int)=ix l (j:Int))->
  RC Tryz.prog (.loop ah9) S (retPost Tryz.prog [(2,none)] (RF142 R_ (cpt l))) [(5,vi (k2:Int)),(4,.os id ver (0+k0*2) (n-k0)),(3,vi (kk:Int)),(0,.os id ver 0 n)] h:=by
 intro f;induction f with
 |zero=>
  intro k2 kk dk es h hf h1 hle hk1 hkm M q hlen hcp hix;refine cg ?_;unfold ah9;refine am ?_;refine am ?_;refine ax ?_;refine ah (ba O) ?_;refine ah (ba O) ?_;refine ah (v:=vi ((n-k0:Nat):Int)) (da O (vp Tryz.underlying75 _)) ?_;refine ah (ct O O cx) ?_;refine bq ?_;refine aq ?_;refine bv O (λhc=>?_) (λhc=>?_)
  ·exfalso;simp only[decide_eq_true_eq]at hc;omega
  ·refine dl ?_;refine ee ?_;refine dh ?_;refine zn (fb O (fb O (pu _))) (hK h dk es kk M q hlen hk1 V (by rw[hcp];congr 1;omega))
 |succ f ih=>
  intro k2 kk dk es h hf h1 hle hk1 hkm M q hlen hcp hix;have hlt:k0+k2 < n:=by omega
  have bsub:∀ox oy,binF Tryz.prog .sub 3 ox oy (vi (k2:Int)) (vi 1)=some (vi ((k2-1:Nat):Int)):=λox oy=>by
   have hw:wr ((k2:Int)-1)=((k2-1:Nat):Int):=by rw[db V V];omega
   rw[<-hw];exact vm
  have badd:∀(z:Nat),z<=n->∀ox oy,binF Tryz.prog .add 3 ox oy (vi (z:Int)) (vi 1)=some (vi ((z+1:Nat):Int)):=λz hz ox oy=>by
   have hw:wr ((z:Int)+1)=((z+1:Nat):Int):=by rw[db V V];omega
   rw[<-hw];exact dt
  have ad:∀z:Nat,z < n-k0->idxR 2 (.os id ver (0+k0*2) (n-k0)) (vi (z:Int))=some (.op id ver (0+(k0+z)*2)):=λz hz=>by
   have he:0+k0*2+(z:Int).toNat*2=0+(k0+z)*2:=by rw[Int.toNat_natCast];omega
   rw[<-he];exact sa 2 V V
  obtain⟨v1,e1,r1⟩:=qv (i:=((k0+k2:Nat):Int)) q V V;obtain⟨v2,e2,r2⟩:=qv (i:=((k0+(k2-1):Nat):Int)) q V V;rw[Int.toNat_natCast]at e1 e2;rw[hix _ V hlt]at r1;rw[hix _ V V]at r2;have hm1:((k0+(k2-1):Nat):Int)=((k0+k2:Nat):Int)-1:=by omega
  rw[hm1]at r2;refine cg ?_;unfold ah9;refine am ?_;refine am ?_;refine ax ?_;refine ah (ba O) ?_;refine ah (ba O) ?_;refine ah (v:=vi ((n-k0:Nat):Int)) (da O (vp Tryz.underlying75 _)) ?_;refine ah (ct O O cx) ?_;refine bq ?_;refine aq ?_;refine bv O (λhc=>?_) (λhc=>?_)
  ·refine bc ?_;refine aq ?_;refine am ?_;refine bm ?_;refine am ?_;refine ax ?_;refine ah (ba O) ?_;refine ah (ba O) ?_;refine ah (bn O O (ad k2 V)) ?_;refine ah (px (k:=0) M O O e1 (TR.agg aa.t r1)) ?_;refine ah (ba O) ?_;refine ah (ba O) ?_;refine ah (ct O O (bsub _ _)) ?_;refine ah (bn O O (ad (k2-1) V)) ?_;refine ah (px (k:=0) M O O e2 (TR.agg aa.t r2)) ?_;refine ah (ct O O (dy2 r1 r2)) ?_;refine bq ?_;refine aq ?_;refine bv O (λhd=>?_) (λhd=>?_)
   ·simp only[Bool.not_eq_true',decide_eq_false_iff_not]at hd;refine am ?_;refine ax ?_;refine ah (ba O) ?_;refine ah (ba O) ?_;refine ah (ba O) ?_;refine ah (ba O) ?_;refine ah (bn O O (ad k2 V)) ?_;refine ah (px (k:=0) M O O e1 (TR.agg aa.t r1)) ?_;refine ah (v:= .op id ver (0+kk*2)) (bn O O (sa 2 V V)) ?_;refine xm (k:=0) (i:=kk) (v:=v1) M O O O (by rw[All2.length_eq q];omega) (TR.cnt aa.t r1) (λh2 M2=>?_);replace M2:Mem h2 (⟨.os id ver 0 n,87,2,es.set kk v1⟩::R_):=M2;refine bq ?_;refine aq ?_;refine ax ?_;refine ah (ba O) ?_;refine ah (ct O O (badd kk V _ _)) ?_;refine ah (ba O) ?_;refine bq ?_;refine de ?_;refine aq ?_;refine ax ?_;refine ah (ba O) ?_;refine ah (ct O O (badd k2 V _ _)) ?_;refine ah (ba O) ?_;refine bq ?_;refine cy ?_;have q2:All2 aa.t.R (dk.set kk (ix l ((k0+k2:Nat):Int))) (es.set kk v1):=q.set r1;refine rv ?_ (ih (k2+1) (kk+1) (dk.set kk (ix l ((k0+k2:Nat):Int))) (es.set kk v1) h2 V V V V V M2 q2 (by simp[hlen]) ?_ ?_)
    ·exact(fb O (fb O (fb O (fb O (pu _)))))
    ·rw[show k0+(k2+1)=(k0+k2)+1 by omega,vx (.inr hd),<-hcp,List.take_add_one,List.getElem?_set_self V,List.take_set_of_le (Nat.le_refl _)];rfl
    ·intro j hj hjn;have hs:∀x:aa,ix (dk.set kk x) (j:Int)=ix dk (j:Int):=λx=>by
      simp only[ix,Int.toNat_natCast,List.getD_eq_getElem?_getD];rw[List.getElem?_set_ne V]
     rw[hs];exact hix j V hjn
   ·simp only[Bool.not_eq_false',decide_eq_true_eq]at hd;refine bc ?_;refine de ?_;refine aq ?_;refine ax ?_;refine ah (ba O) ?_;refine ah (ct O O (badd k2 V _ _)) ?_;refine ah (ba O) ?_;refine bq ?_;refine cy ?_;refine rv ?_ (ih (k2+1) kk dk es h V V V hk1 V M q hlen ?_ hix)
    ·exact(fb O (fb O (fb O (fb O (pu _)))))
    ·rw[show k0+(k2+1)=(k0+k2)+1 by omega,yy V hd];exact hcp
  ·exfalso;simp only[decide_eq_false_iff_not]at hc;omega
theorem dk0{R_:List Ent}{l:List aa}{es:List PV}{id ver n:Nat}{h:Heap}{S:List Fr}(hn:l.length=n)(hbig:n<=4611686018427387904)(q:All2 aa.t.R l es)(M:Mem h (⟨.os id ver 0 n,87,2,es⟩::R_))
 (hK0:PX Tryz.prog 0 S (retPost Tryz.prog [(2,none)] (RF142 R_ l)) [(0,.os id ver 0 n)] h):
 ∀(f k:Nat),f=n-k->1<=k->k<=n->cpF l k=l.take k->RC Tryz.prog (.loop aj8) S (retPost Tryz.prog [(2,none)] (RF142 R_ (cpt l))) [(3,vi (k:Int)),(0,.os id ver 0 n)] h:=by
 intro f;induction f with
 |zero=>
  intro k hf h1 hle hcp;have hkn:k=n:=by omega
  subst hkn;have hc:cpt l=l:=by unfold cpt;rw[hn,hcp];exact List.take_of_length_le V
  refine cg ?_;unfold aj8;refine am ?_;refine am ?_;refine ax ?_;refine ah (ba O) ?_;refine ah (ba O) ?_;refine ah (v:=vi ((k:Nat):Int)) (da O (vp Tryz.underlying75 _)) ?_;refine ah (ct O O cx) ?_;refine bq ?_;refine aq ?_;refine bv O (λhc=>?_) (λhc=>?_)
  ·exfalso;simp only[decide_eq_true_eq]at hc;omega
  ·refine dl ?_;refine ee ?_;refine dh ?_;rw[‹cpt l=l›];exact zn (fb O (pu _)) hK0
 |succ f ih=>
  intro k hf h1 hle hcp;have hlt:k < n:=by omega
  have bsub:∀ox oy,binF Tryz.prog .sub 3 ox oy (vi (k:Int)) (vi 1)=some (vi ((k-1:Nat):Int)):=λox oy=>by
   have hw:wr ((k:Int)-1)=((k-1:Nat):Int):=by rw[db V V];omega
   rw[<-hw];exact vm
  have badd:∀ox oy,binF Tryz.prog .add 3 ox oy (vi (k:Int)) (vi 1)=some (vi ((k+1:Nat):Int)):=λox oy=>by
   have hw:wr ((k:Int)+1)=((k+1:Nat):Int):=by rw[db V V];omega
   rw[<-hw];exact dt
  obtain⟨v1,e1,r1⟩:=qv (i:=(k:Int)) q V V;obtain⟨v2,e2,r2⟩:=qv (i:=((k-1:Nat):Int)) q V V;rw[Int.toNat_natCast]at e1 e2;have hm1:((k-1:Nat):Int)=(k:Int)-1:=by omega
  rw[hm1]at r2;refine cg ?_;unfold aj8;refine am ?_;refine am ?_;refine ax ?_;refine ah (ba O) ?_;refine ah (ba O) ?_;refine ah (v:=vi ((n:Nat):Int)) (da O (vp Tryz.underlying75 _)) ?_;refine ah (ct O O cx) ?_;refine bq ?_;refine aq ?_;refine bv O (λhc=>?_) (λhc=>?_)
  ·refine bc ?_;refine aq ?_;refine am ?_;refine bm ?_;refine am ?_;refine ax ?_;refine ah (ba O) ?_;refine ah (ba O) ?_;refine ah (v:= .op id ver (0+k*2)) (bn O O (sa 2 V V)) ?_;refine ah (px (k:=0) M O O e1 (TR.agg aa.t r1)) ?_;refine ah (ba O) ?_;refine ah (ba O) ?_;refine ah (ct O O (bsub _ _)) ?_;refine ah (v:= .op id ver (0+(k-1)*2)) (bn O O (sa 2 V V)) ?_;refine ah (px (k:=0) M O O e2 (TR.agg aa.t r2)) ?_;refine ah (ct O O (ec0 r1 r2)) ?_;refine bq ?_;refine aq ?_;refine bv O (λhd=>?_) (λhd=>?_)
   ·simp only[decide_eq_true_eq]at hd;refine am ?_;refine ax ?_;refine ah (ba O) ?_;refine ah (ba O) ?_;refine ah (v:= .os id ver (0+k*2) (n-k)) (ve (a:=(k:Int)) (b:=(n:Int)) O O O V V V OO) ?_;refine ah (ba O) ?_;refine bq ?_;refine aq ?_;refine am ?_;refine am ?_;refine ax ?_;refine ah (v:=vi ((1:Nat):Int)) (ba O) ?_;refine bq ?_;refine aq ?_;refine bm ?_;have hcp1:cpF l (k+1)=l.take k:=by rw[yy V hd,hcp]
    refine rv ?_ (cv0 hn hbig h1 ?_ (n-(k+1)) 1 k l es h O V V h1 V M q hn hcp1.symm (λj _ _=>O))
    ·exact(fb O (fb O (fb O (fb O (pu _)))))
    ·intro h2 dk es2 kk M2 q2 hlen hk1 hkn hfin;refine em ?_;refine aq ?_;refine am ?_;refine fc ?_;refine bw (ah (ba O) (bz ?_));refine bw (ah (ba O) (bz ?_));refine bw (ah (v:= .os id ver (0+kk*2) (n-kk)) (ve (a:=(kk:Int)) (b:=(n:Int)) O O O V V V OO) (bz ?_));refine br9 (k:=0) M2 O O hkn O (λh3 M3=>?_);replace M3:Mem h3 (⟨.os id ver 0 kk,87,2,es2.take kk⟩::R_):=M3;refine ja ?_;refine aq ?_;refine am ?_;refine ax ?_;refine ah (ba O) ?_;refine ah (ba O) ?_;refine ah (v:= .os id ver 0 kk) (ve (a:=0) (b:=(kk:Int)) O O O V V V OO) ?_;refine ah (ba O) ?_;refine bq ?_;refine aq ?_;have hq3:All2 aa.t.R (cpt l) (es2.take kk):=by
      have:cpt l=dk.take kk:=by unfold cpt;rw[hn,hfin]
      rw[this];exact q2.take kk
     have hl3:=ao7 l n;exact pw (.tmp O .nil) ⟨_,_,M3,hq3,O,by unfold cpt;rw[hn];omega,.inr ⟨_,_,_,rfl⟩,rfl⟩
   ·simp only[decide_eq_false_iff_not]at hd;refine bc ?_;refine de ?_;refine aq ?_;refine ax ?_;refine ah (ba O) ?_;refine ah (ct O O (badd _ _)) ?_;refine ah (ba O) ?_;refine bq ?_;refine cy ?_;refine rv ?_ (ih (k+1) V V V ?_)
    ·exact(fb O (fb O (pu _)))
    ·rw[vx (.inr hd),hcp,af8 V]
  ·exfalso;simp only[decide_eq_false_iff_not]at hc;omega
theorem ch6{x0:List aa}{a0:PV}{es0:List PV}{R_:List Ent}{h_:Heap}(q:All2 aa.t.R x0 es0)(ne:isL a0=true)(hl:x0.length<=4611686018427387904)(wi:Wri a0 es0)(M:Mem h_ (⟨a0,87,2,es0⟩::R_)):∃r h2_,FnX Tryz.prog 142 [a0] h_ r h2_/\RF142 R_ (cpt x0) r h2_:=by
 suffices H:RC Tryz.prog cq5 [] (retPost Tryz.prog [(2,none)] (RF142 R_ (cpt x0))) (argE 0 [a0]) h_ by
  exact fnX di2 OZ H
 unfold cq5;refine am ?_;refine ax ?_;refine ah (ba O) ?_;refine bq ?_;refine aq ?_;refine am ?_;refine am ?_;refine ax ?_;refine ah (ba O) ?_;refine ah (da O (ap7 (k:=0) M O Tryz.underlying75 ne q _)) ?_;refine ah (ct O O cx) ?_;refine bq ?_;refine aq ?_;refine bv O (λhc=>?_) (λhc=>?_)
 ·simp only[decide_eq_true_eq]at hc;refine am ?_;refine ax ?_;refine ah (ba O) ?_;refine ah (ba O) ?_;refine bq ?_;refine aq ?_;rw[ay3 V];exact pw (.tmp O .nil) ⟨a0,es0,M,q,ne,hl,wi,O⟩
 ·simp only[decide_eq_false_iff_not]at hc;obtain⟨id,ver,n,rfl⟩:=bg0 (i:=0) wi q V V;have hn:x0.length=n:=by rw[af3 M (k:=0) rfl,All2.length_eq q]
  refine bc ?_;refine aq ?_;refine am ?_;refine am ?_;refine ax ?_;refine ah (v:=vi ((1:Nat):Int)) (ba O) ?_;refine bq ?_;refine aq ?_;refine bm ?_;refine rv ?_ (dk0 hn V q M ?_ (n-1) 1 O V V ?_)
  ·exact(fb O (fb O (pu _)))
  ·refine em ?_;refine aq ?_;refine am ?_;refine ax ?_;refine ah (ba O) ?_;refine ah (ba O) ?_;refine bq ?_;refine aq ?_;exact pw (.tmp O .nil) ⟨_,es0,M,q,ne,hl,wi,O⟩
  ·rw[vx (.inl rfl),af8 V];rfl
theorem eh2{ox oy:Operand}{a b:Int}{va vb':PV}(ra:tI.R a va)(rb:tI.R b vb'):binF Tryz.prog .eql 3 ox oy va vb'=some (vb (decide (a=b))):=by
 have ra:va=vi a:=ra;have rb:vb'=vi b:=rb;subst ra;subst rb;exact dy
theorem dx0{ox oy:Operand}{a b:Int}{va vb':PV}(ra:tI.R a va)(rb:tI.R b vb'):binF Tryz.prog .neq 3 ox oy va vb'=some (vb (!decide (a=b))):=by
 have ra:va=vi a:=ra;have rb:vb'=vi b:=rb;subst ra;subst rb;exact kx
def RF144(R_:List Ent)(res:List Int)(r:PV)(h:Heap):Prop:=∃a:PV,∃es:List PV,Mem h (⟨a,3,1,es⟩::R_)/\All2 tI.R res es/\isL a=true/\res.length<=4611686018427387904/\Wri a es/\r=a
theorem cx9{S:List Fr}{R_:List Ent}{l:List Int}{id ver n k0:Nat}(hn:l.length=n)(hbig:n<=4611686018427387904)(h0:1<=k0)
 (hK:∀(h:Heap)(dk:List Int)(es:List PV)(kk:Nat),Mem h (⟨.os id ver 0 n,3,1,es⟩::R_)->All2 tI.R dk es->dk.length=n->1<=kk->kk < n->dk.take kk=cpF l n->PX Tryz.prog 2 S (retPost Tryz.prog [(2,none)] (RF144 R_ (cpt l))) [(3,vi (kk:Int)),(0,.os id ver 0 n)] h):
 ∀(f:Nat)(k2 kk:Nat)(dk:List Int)(es:List PV)(h:Heap),f=n-(k0+k2)->1<=k2->k0+k2<=n->1<=kk->kk < k0+k2->Mem h (⟨.os id ver 0 n,3,1,es⟩::R_)->All2 tI.R dk es->dk.length=n->dk.take kk=cpF l (k0+k2)->(∀j:Nat,kk<=j->j < n->ix dk (j:Int)=ix l (j:Int))->
  RC Tryz.prog (.loop ai4) S (retPost Tryz.prog [(2,none)] (RF144 R_ (cpt l))) [(5,vi (k2:Int)),(4,.os id ver (0+k0*1) (n-k0)),(3,vi (kk:Int)),(0,.os id ver 0 n)] h:=by
 intro f;induction f with
 |zero=>
  intro k2 kk dk es h hf h1 hle hk1 hkm M q hlen hcp hix;refine cg ?_;unfold ai4;refine am ?_;refine am ?_;refine ax ?_;refine ah (ba O) ?_;refine ah (ba O) ?_;refine ah (v:=vi ((n-k0:Nat):Int)) (da O (vp Tryz.underlying29 _)) ?_;refine ah (ct O O cx) ?_;refine bq ?_;refine aq ?_;refine bv O (λhc=>?_) (λhc=>?_)
  ·exfalso;simp only[decide_eq_true_eq]at hc;omega
  ·refine dl ?_;refine ee ?_;refine dh ?_;refine zn (fb O (fb O (pu _))) (hK h dk es kk M q hlen hk1 V (by rw[hcp];congr 1;omega))
 |succ f ih=>
  intro k2 kk dk es h hf h1 hle hk1 hkm M q hlen hcp hix;have hlt:k0+k2 < n:=by omega
  have bsub:∀ox oy,binF Tryz.prog .sub 3 ox oy (vi (k2:Int)) (vi 1)=some (vi ((k2-1:Nat):Int)):=λox oy=>by
   have hw:wr ((k2:Int)-1)=((k2-1:Nat):Int):=by rw[db V V];omega
   rw[<-hw];exact vm
  have badd:∀(z:Nat),z<=n->∀ox oy,binF Tryz.prog .add 3 ox oy (vi (z:Int)) (vi 1)=some (vi ((z+1:Nat):Int)):=λz hz ox oy=>by
   have hw:wr ((z:Int)+1)=((z+1:Nat):Int):=by rw[db V V];omega
   rw[<-hw];exact dt
  have ad:∀z:Nat,z < n-k0->idxR 1 (.os id ver (0+k0*1) (n-k0)) (vi (z:Int))=some (.op id ver (0+(k0+z)*1)):=λz hz=>by
   have he:0+k0*1+(z:Int).toNat*1=0+(k0+z)*1:=by rw[Int.toNat_natCast];omega
   rw[<-he];exact sa 1 V V
  obtain⟨v1,e1,r1⟩:=qv (i:=((k0+k2:Nat):Int)) q V V;obtain⟨v2,e2,r2⟩:=qv (i:=((k0+(k2-1):Nat):Int)) q V V;rw[Int.toNat_natCast]at e1 e2;rw[hix _ V hlt]at r1;rw[hix _ V V]at r2;have hm1:((k0+(k2-1):Nat):Int)=((k0+k2:Nat):Int)-1:=by omega
  rw[hm1]at r2;refine cg ?_;unfold ai4;refine am ?_;refine am ?_;refine ax ?_;refine ah (ba O) ?_;refine ah (ba O) ?_;refine ah (v:=vi ((n-k0:Nat):Int)) (da O (vp Tryz.underlying29 _)) ?_;refine ah (ct O O cx) ?_;refine bq ?_;refine aq ?_;refine bv O (λhc=>?_) (λhc=>?_)
  ·refine bc ?_;refine aq ?_;refine am ?_;refine bm ?_;refine am ?_;refine ax ?_;refine ah (ba O) ?_;refine ah (ba O) ?_;refine ah (bn O O (ad k2 V)) ?_;refine ah (px (k:=0) M O O e1 (TR.agg tI r1)) ?_;refine ah (ba O) ?_;refine ah (ba O) ?_;refine ah (ct O O (bsub _ _)) ?_;refine ah (bn O O (ad (k2-1) V)) ?_;refine ah (px (k:=0) M O O e2 (TR.agg tI r2)) ?_;refine ah (ct O O (dx0 r1 r2)) ?_;refine bq ?_;refine aq ?_;refine bv O (λhd=>?_) (λhd=>?_)
   ·simp only[Bool.not_eq_true',decide_eq_false_iff_not]at hd;refine am ?_;refine ax ?_;refine ah (ba O) ?_;refine ah (ba O) ?_;refine ah (ba O) ?_;refine ah (ba O) ?_;refine ah (bn O O (ad k2 V)) ?_;refine ah (px (k:=0) M O O e1 (TR.agg tI r1)) ?_;refine ah (v:= .op id ver (0+kk*1)) (bn O O (sa 1 V V)) ?_;refine xm (k:=0) (i:=kk) (v:=v1) M O O O (by rw[All2.length_eq q];omega) (TR.cnt tI r1) (λh2 M2=>?_);replace M2:Mem h2 (⟨.os id ver 0 n,3,1,es.set kk v1⟩::R_):=M2;refine bq ?_;refine aq ?_;refine ax ?_;refine ah (ba O) ?_;refine ah (ct O O (badd kk V _ _)) ?_;refine ah (ba O) ?_;refine bq ?_;refine de ?_;refine aq ?_;refine ax ?_;refine ah (ba O) ?_;refine ah (ct O O (badd k2 V _ _)) ?_;refine ah (ba O) ?_;refine bq ?_;refine cy ?_;have q2:All2 tI.R (dk.set kk (ix l ((k0+k2:Nat):Int))) (es.set kk v1):=q.set r1;refine rv ?_ (ih (k2+1) (kk+1) (dk.set kk (ix l ((k0+k2:Nat):Int))) (es.set kk v1) h2 V V V V V M2 q2 (by simp[hlen]) ?_ ?_)
    ·exact(fb O (fb O (fb O (fb O (pu _)))))
    ·rw[show k0+(k2+1)=(k0+k2)+1 by omega,vx (.inr hd),<-hcp,List.take_add_one,List.getElem?_set_self V,List.take_set_of_le (Nat.le_refl _)];rfl
    ·intro j hj hjn;have hs:∀x:Int,ix (dk.set kk x) (j:Int)=ix dk (j:Int):=λx=>by
      simp only[ix,Int.toNat_natCast,List.getD_eq_getElem?_getD];rw[List.getElem?_set_ne V]
     rw[hs];exact hix j V hjn
   ·simp only[Bool.not_eq_false',decide_eq_true_eq]at hd;refine bc ?_;refine de ?_;refine aq ?_;refine ax ?_;refine ah (ba O) ?_;refine ah (ct O O (badd k2 V _ _)) ?_;refine ah (ba O) ?_;refine bq ?_;refine cy ?_;refine rv ?_ (ih (k2+1) kk dk es h V V V hk1 V M q hlen ?_ hix)
    ·exact(fb O (fb O (fb O (fb O (pu _)))))
    ·rw[show k0+(k2+1)=(k0+k2)+1 by omega,yy V hd];exact hcp
  ·exfalso;simp only[decide_eq_false_iff_not]at hc;omega
theorem ct2{R_:List Ent}{l:List Int}{es:List PV}{id ver n:Nat}{h:Heap}{S:List Fr}(hn:l.length=n)(hbig:n<=4611686018427387904)(q:All2 tI.R l es)(M:Mem h (⟨.os id ver 0 n,3,1,es⟩::R_))
 (hK0:PX Tryz.prog 0 S (retPost Tryz.prog [(2,none)] (RF144 R_ l)) [(0,.os id ver 0 n)] h):
 ∀(f k:Nat),f=n-k->1<=k->k<=n->cpF l k=l.take k->RC Tryz.prog (.loop ag8) S (retPost Tryz.prog [(2,none)] (RF144 R_ (cpt l))) [(3,vi (k:Int)),(0,.os id ver 0 n)] h:=by
 intro f;induction f with
 |zero=>
  intro k hf h1 hle hcp;have hkn:k=n:=by omega
  subst hkn;have hc:cpt l=l:=by unfold cpt;rw[hn,hcp];exact List.take_of_length_le V
  refine cg ?_;unfold ag8;refine am ?_;refine am ?_;refine ax ?_;refine ah (ba O) ?_;refine ah (ba O) ?_;refine ah (v:=vi ((k:Nat):Int)) (da O (vp Tryz.underlying29 _)) ?_;refine ah (ct O O cx) ?_;refine bq ?_;refine aq ?_;refine bv O (λhc=>?_) (λhc=>?_)
  ·exfalso;simp only[decide_eq_true_eq]at hc;omega
  ·refine dl ?_;refine ee ?_;refine dh ?_;rw[‹cpt l=l›];exact zn (fb O (pu _)) hK0
 |succ f ih=>
  intro k hf h1 hle hcp;have hlt:k < n:=by omega
  have bsub:∀ox oy,binF Tryz.prog .sub 3 ox oy (vi (k:Int)) (vi 1)=some (vi ((k-1:Nat):Int)):=λox oy=>by
   have hw:wr ((k:Int)-1)=((k-1:Nat):Int):=by rw[db V V];omega
   rw[<-hw];exact vm
  have badd:∀ox oy,binF Tryz.prog .add 3 ox oy (vi (k:Int)) (vi 1)=some (vi ((k+1:Nat):Int)):=λox oy=>by
   have hw:wr ((k:Int)+1)=((k+1:Nat):Int):=by rw[db V V];omega
   rw[<-hw];exact dt
  obtain⟨v1,e1,r1⟩:=qv (i:=(k:Int)) q V V;obtain⟨v2,e2,r2⟩:=qv (i:=((k-1:Nat):Int)) q V V;rw[Int.toNat_natCast]at e1 e2;have hm1:((k-1:Nat):Int)=(k:Int)-1:=by omega
  rw[hm1]at r2;refine cg ?_;unfold ag8;refine am ?_;refine am ?_;refine ax ?_;refine ah (ba O) ?_;refine ah (ba O) ?_;refine ah (v:=vi ((n:Nat):Int)) (da O (vp Tryz.underlying29 _)) ?_;refine ah (ct O O cx) ?_;refine bq ?_;refine aq ?_;refine bv O (λhc=>?_) (λhc=>?_)
  ·refine bc ?_;refine aq ?_;refine am ?_;refine bm ?_;refine am ?_;refine ax ?_;refine ah (ba O) ?_;refine ah (ba O) ?_;refine ah (v:= .op id ver (0+k*1)) (bn O O (sa 1 V V)) ?_;refine ah (px (k:=0) M O O e1 (TR.agg tI r1)) ?_;refine ah (ba O) ?_;refine ah (ba O) ?_;refine ah (ct O O (bsub _ _)) ?_;refine ah (v:= .op id ver (0+(k-1)*1)) (bn O O (sa 1 V V)) ?_;refine ah (px (k:=0) M O O e2 (TR.agg tI r2)) ?_;refine ah (ct O O (eh2 r1 r2)) ?_;refine bq ?_;refine aq ?_;refine bv O (λhd=>?_) (λhd=>?_)
   ·simp only[decide_eq_true_eq]at hd;refine am ?_;refine ax ?_;refine ah (ba O) ?_;refine ah (ba O) ?_;refine ah (v:= .os id ver (0+k*1) (n-k)) (ve (a:=(k:Int)) (b:=(n:Int)) O O O V V V OO) ?_;refine ah (ba O) ?_;refine bq ?_;refine aq ?_;refine am ?_;refine am ?_;refine ax ?_;refine ah (v:=vi ((1:Nat):Int)) (ba O) ?_;refine bq ?_;refine aq ?_;refine bm ?_;have hcp1:cpF l (k+1)=l.take k:=by rw[yy V hd,hcp]
    refine rv ?_ (cx9 hn hbig h1 ?_ (n-(k+1)) 1 k l es h O V V h1 V M q hn hcp1.symm (λj _ _=>O))
    ·exact(fb O (fb O (fb O (fb O (pu _)))))
    ·intro h2 dk es2 kk M2 q2 hlen hk1 hkn hfin;refine em ?_;refine aq ?_;refine am ?_;refine fc ?_;refine bw (ah (ba O) (bz ?_));refine bw (ah (ba O) (bz ?_));refine bw (ah (v:= .os id ver (0+kk*1) (n-kk)) (ve (a:=(kk:Int)) (b:=(n:Int)) O O O V V V OO) (bz ?_));refine br9 (k:=0) M2 O O hkn O (λh3 M3=>?_);replace M3:Mem h3 (⟨.os id ver 0 kk,3,1,es2.take kk⟩::R_):=M3;refine ja ?_;refine aq ?_;refine am ?_;refine ax ?_;refine ah (ba O) ?_;refine ah (ba O) ?_;refine ah (v:= .os id ver 0 kk) (ve (a:=0) (b:=(kk:Int)) O O O V V V OO) ?_;refine ah (ba O) ?_;refine bq ?_;refine aq ?_;have hq3:All2 tI.R (cpt l) (es2.take kk):=by
      have:cpt l=dk.take kk:=by unfold cpt;rw[hn,hfin]
      rw[this];exact q2.take kk
     have hl3:=ao7 l n;exact pw (.tmp O .nil) ⟨_,_,M3,hq3,O,by unfold cpt;rw[hn];omega,.inr ⟨_,_,_,rfl⟩,rfl⟩
   ·simp only[decide_eq_false_iff_not]at hd;refine bc ?_;refine de ?_;refine aq ?_;refine ax ?_;refine ah (ba O) ?_;refine ah (ct O O (badd _ _)) ?_;refine ah (ba O) ?_;refine bq ?_;refine cy ?_;refine rv ?_ (ih (k+1) V V V ?_)
    ·exact(fb O (fb O (pu _)))
    ·rw[vx (.inr hd),hcp,af8 V]
  ·exfalso;simp only[decide_eq_false_iff_not]at hc;omega
theorem cl9{x0:List Int}{a0:PV}{es0:List PV}{R_:List Ent}{h_:Heap}(q:All2 tI.R x0 es0)(ne:isL a0=true)(hl:x0.length<=4611686018427387904)(wi:Wri a0 es0)(M:Mem h_ (⟨a0,3,1,es0⟩::R_)):∃r h2_,FnX Tryz.prog 144 [a0] h_ r h2_/\RF144 R_ (cpt x0) r h2_:=by
 suffices H:RC Tryz.prog cm1 [] (retPost Tryz.prog [(2,none)] (RF144 R_ (cpt x0))) (argE 0 [a0]) h_ by
  exact fnX cu2 OZ H
 unfold cm1;refine am ?_;refine ax ?_;refine ah (ba O) ?_;refine bq ?_;refine aq ?_;refine am ?_;refine am ?_;refine ax ?_;refine ah (ba O) ?_;refine ah (da O (ap7 (k:=0) M O Tryz.underlying29 ne q _)) ?_;refine ah (ct O O cx) ?_;refine bq ?_;refine aq ?_;refine bv O (λhc=>?_) (λhc=>?_)
 ·simp only[decide_eq_true_eq]at hc;refine am ?_;refine ax ?_;refine ah (ba O) ?_;refine ah (ba O) ?_;refine bq ?_;refine aq ?_;rw[ay3 V];exact pw (.tmp O .nil) ⟨a0,es0,M,q,ne,hl,wi,O⟩
 ·simp only[decide_eq_false_iff_not]at hc;obtain⟨id,ver,n,rfl⟩:=bg0 (i:=0) wi q V V;have hn:x0.length=n:=by rw[af3 M (k:=0) rfl,All2.length_eq q]
  refine bc ?_;refine aq ?_;refine am ?_;refine am ?_;refine ax ?_;refine ah (v:=vi ((1:Nat):Int)) (ba O) ?_;refine bq ?_;refine aq ?_;refine bm ?_;refine rv ?_ (ct2 hn V q M ?_ (n-1) 1 O V V ?_)
  ·exact(fb O (fb O (pu _)))
  ·refine em ?_;refine aq ?_;refine am ?_;refine ax ?_;refine ah (ba O) ?_;refine ah (ba O) ?_;refine bq ?_;refine aq ?_;exact pw (.tmp O .nil) ⟨_,es0,M,q,ne,hl,wi,O⟩
  ·rw[vx (.inl rfl),af8 V];rfl
theorem ek6(a b:Int):mo a b=if a < b then -1 else if b < a then 1 else 0:=by
 unfold mo se;simp[LET]
theorem or2(a b:Int):ub [a,b]=if a≠0 then a else b:=by
 unfold ub;by_cases h:a=0
 ·by_cases h2:b=0
  ·simp[pe,ix,h,h2]
  ·simp[pe,ix,h,h2]
 ·simp[pe,ix,h]
theorem bm4(x y:aa):Go.Proofs.ltOf lw x y=decide (x.Header < y.Header\/(x.Header=y.Header/\x.Field < y.Field)):=by
 unfold Go.Proofs.ltOf lw;simp only[LET,or2,ek6]
 congr 1
 rw[eq_iff_iff]
 repeat' split
 all_goals omega
theorem du3:Go.Sort.SWO (Go.Proofs.ltOf lw) where
 irrefl x:=by rw[bm4];simp
 trans x y z h1 h2:=by rw[bm4]at*;simp at*;omega
 ntrans x y z h1 h2:=by rw[bm4]at*;simp at*;omega
theorem cg5(x y:aa)(h1:Go.Proofs.ltOf lw x y=false)(h2:Go.Proofs.ltOf lw y x=false):x=y:=by
 rw[bm4]at h1 h2;obtain⟨a,b⟩:=x;obtain⟨c,d⟩:=y;simp at h1 h2;have e1:a=c:=by omega
 subst e1;have e2:b=d:=by omega
 subst e2;rfl
def frmk(x:aa):PV:= .agg [vi x.Header,vi x.Field]
def frenc(x:aa):List Value:=[.int .i64 x.Header,.int .i64 x.Field]
theorem bk3(x y:aa):Go.Proofs.ltOf fj x y=decide (x.Header < y.Header\/(x.Header=y.Header/\x.Field < y.Field)):=by
 unfold Go.Proofs.ltOf fj;simp only[LET,or2,ek6]
 congr 1
 rw[eq_iff_iff]
 repeat' split
 all_goals omega
theorem ec7:Go.Sort.SWO (Go.Proofs.ltOf fj) where
 irrefl x:=by rw[bk3];simp
 trans x y z h1 h2:=by rw[bk3]at*;simp at*;omega
 ntrans x y z h1 h2:=by rw[bk3]at*;simp at*;omega
theorem cq9(x y:aa)(h1:Go.Proofs.ltOf fj x y=false)(h2:Go.Proofs.ltOf fj y x=false):x=y:=by
 rw[bk3]at h1 h2;obtain⟨a,b⟩:=x;obtain⟨c,d⟩:=y;simp at h1 h2;have e1:a=c:=by omega
 subst e1;have e2:b=d:=by omega
 subst e2;rfl
end Go.Proofs.YtmonnlkagniolaaGreat
