import Derived.Test.YtmonnlkagniolaaGreatL4Text
import Derived.Test.YtmonnlkagniolaaGreatKTy
import Derived.Test.YtmonnlkagniolaaGreatPbV
import Derived.Test.YtmonnlkagniolaaGreatKDef
import Derived.Test.YtmonnlkagniolaaGreatPbV
import Derived.Test.YtmonnlkagniolaaGreatPbV
set_option linter.all false
set_option maxRecDepth 100000
namespace Go.Proofs.YtmonnlkagniolaaGreat
open Go Go.Pb Go.RowKit
theorem el3{ox oy:Operand}{a b:ae}{va vb':PV}(ra:ae.t.R a va)(rb:ae.t.R b vb'):binF Tryz.prog .eql 87 ox oy va vb'=some (vb (decide (a=b))):=ae.eql_87 ra rb
theorem ei9{ox oy:Operand}{a b:ae}{va vb':PV}(ra:ae.t.R a va)(rb:ae.t.R b vb'):binF Tryz.prog .neq 87 ox oy va vb'=some (vb (!decide (a=b))):=ae.neq_87 ra rb
def RF142(R_:List Ent)(res:List ae)(r:PV)(h:Heap):Prop:=∃a:PV,∃es:List PV,Mem h (⟨a,87,2,es⟩::R_)/\All2 ae.t.R res es/\isL a=true/\res.length<=4611686018427387904/\Wri a es/\r=a
theorem dh9{S:List Fr}{R_:List Ent}{l:List ae}{id ver n k0:Nat}(hn:l.length=n)(hbig:n<=4611686018427387904)(h0:1<=k0)
 (hK:∀(h:Heap)(dk:List ae)(es:List PV)(kk:Nat),Mem h (⟨.os id ver 0 n,87,2,es⟩::R_)->All2 ae.t.R dk es->dk.length=n->1<=kk->kk < n->dk.take kk=cpF l n->PX Tryz.prog 2 S (retPost Tryz.prog [(2,none)] (RF142 R_ (cpt l))) [(3,vi (kk:Int)),(0,.os id ver 0 n)] h):
 ∀(f:Nat)(k2 kk:Nat)(dk:List ae)(es:List PV)(h:Heap),f=n-(k0+k2)->1<=k2->k0+k2<=n->1<=kk->kk < k0+k2->Mem h (⟨.os id ver 0 n,87,2,es⟩::R_)->All2 ae.t.R dk es->dk.length=n->dk.take kk=cpF l (k0+k2)->(∀j:Nat,kk<=j->j < n->ix dk (j:Int)=ix l (j:Int))->
  RC Tryz.prog (.loop an4) S (retPost Tryz.prog [(2,none)] (RF142 R_ (cpt l))) [(5,vi (k2:Int)),(4,.os id ver (0+k0*2) (n-k0)),(3,vi (kk:Int)),(0,.os id ver 0 n)] h:=by
 intro f;induction f with
 |zero=>
  intro k2 kk dk es h hf h1 hle hk1 hkm M q hlen hcp hix;refine ck ?_;unfold an4;refine am ?_;refine am ?_;refine az ?_;refine ah (ba O) ?_;refine ah (ba O) ?_;refine ah (v:=vi ((n-k0:Nat):Int)) (co O (xf Tryz.underlying75 _)) ?_;refine ah (br O O cn) ?_;refine cd ?_;refine aq ?_;refine ci O (λhc=>?_) (λhc=>?_)
  ·exfalso;simp only[decide_eq_true_eq]at hc;omega
  ·refine dg ?_;refine dx ?_;refine da ?_;refine aj2 (fj O (fj O (pk _))) (hK h dk es kk M q hlen hk1 Y (by rw[hcp];congr 1;omega))
 |succ f ih=>
  intro k2 kk dk es h hf h1 hle hk1 hkm M q hlen hcp hix;have hlt:k0+k2 < n:=by omega
  have bsub:∀ox oy,binF Tryz.prog .sub 3 ox oy (vi (k2:Int)) (vi 1)=some (vi ((k2-1:Nat):Int)):=λox oy=>by
   have hw:wr ((k2:Int)-1)=((k2-1:Nat):Int):=by rw[cz Y Y];omega
   rw[<-hw];exact af8
  have badd:∀(z:Nat),z<=n->∀ox oy,binF Tryz.prog .add 3 ox oy (vi (z:Int)) (vi 1)=some (vi ((z+1:Nat):Int)):=λz hz ox oy=>by
   have hw:wr ((z:Int)+1)=((z+1:Nat):Int):=by rw[cz Y Y];omega
   rw[<-hw];exact dw
  have ad:∀z:Nat,z < n-k0->idxR 2 (.os id ver (0+k0*2) (n-k0)) (vi (z:Int))=some (.op id ver (0+(k0+z)*2)):=λz hz=>by
   have he:0+k0*2+(z:Int).toNat*2=0+(k0+z)*2:=by rw[Int.toNat_natCast];omega
   rw[<-he];exact uk 2 Y Y
  obtain⟨v1,e1,r1⟩:=vd (i:=((k0+k2:Nat):Int)) q Y Y;obtain⟨v2,e2,r2⟩:=vd (i:=((k0+(k2-1):Nat):Int)) q Y Y;rw[Int.toNat_natCast]at e1 e2;rw[hix _ Y hlt]at r1;rw[hix _ Y Y]at r2;have hm1:((k0+(k2-1):Nat):Int)=((k0+k2:Nat):Int)-1:=by omega
  rw[hm1]at r2;refine ck ?_;unfold an4;refine am ?_;refine am ?_;refine az ?_;refine ah (ba O) ?_;refine ah (ba O) ?_;refine ah (v:=vi ((n-k0:Nat):Int)) (co O (xf Tryz.underlying75 _)) ?_;refine ah (br O O cn) ?_;refine cd ?_;refine aq ?_;refine ci O (λhc=>?_) (λhc=>?_)
  ·refine aw ?_;refine aq ?_;refine am ?_;refine bg ?_;refine am ?_;refine az ?_;refine ah (ba O) ?_;refine ah (ba O) ?_;refine ah (bd O O (ad k2 Y)) ?_;refine ah (rz (k:=0) M O O e1 (TR.agg ae.t r1)) ?_;refine ah (ba O) ?_;refine ah (ba O) ?_;refine ah (br O O (bsub _ _)) ?_;refine ah (bd O O (ad (k2-1) Y)) ?_;refine ah (rz (k:=0) M O O e2 (TR.agg ae.t r2)) ?_;refine ah (br O O (ei9 r1 r2)) ?_;refine cd ?_;refine aq ?_;refine ci O (λhd=>?_) (λhd=>?_)
   ·simp only[Bool.not_eq_true',decide_eq_false_iff_not]at hd;refine am ?_;refine az ?_;refine ah (ba O) ?_;refine ah (ba O) ?_;refine ah (ba O) ?_;refine ah (ba O) ?_;refine ah (bd O O (ad k2 Y)) ?_;refine ah (rz (k:=0) M O O e1 (TR.agg ae.t r1)) ?_;refine ah (v:= .op id ver (0+kk*2)) (bd O O (uk 2 Y Y)) ?_;refine yw (k:=0) (i:=kk) (v:=v1) M O O O (by rw[All2.length_eq q];omega) (TR.cnt ae.t r1) (λh2 M2=>?_);replace M2:Mem h2 (⟨.os id ver 0 n,87,2,es.set kk v1⟩::R_):=M2;refine cd ?_;refine aq ?_;refine az ?_;refine ah (ba O) ?_;refine ah (br O O (badd kk Y _ _)) ?_;refine ah (ba O) ?_;refine cd ?_;refine db ?_;refine aq ?_;refine az ?_;refine ah (ba O) ?_;refine ah (br O O (badd k2 Y _ _)) ?_;refine ah (ba O) ?_;refine cd ?_;refine cy ?_;have q2:All2 ae.t.R (dk.set kk (ix l ((k0+k2:Nat):Int))) (es.set kk v1):=q.set r1;refine qd ?_ (ih (k2+1) (kk+1) (dk.set kk (ix l ((k0+k2:Nat):Int))) (es.set kk v1) h2 Y Y Y Y Y M2 q2 (by simp[hlen]) ?_ ?_)
    ·exact(fj O (fj O (fj O (fj O (pk _)))))
    ·rw[show k0+(k2+1)=(k0+k2)+1 by omega,yl (.inr hd),<-hcp,List.take_add_one,List.getElem?_set_self Y,List.take_set_of_le (Nat.le_refl _)];rfl
    ·intro j hj hjn;have hs:∀x:ae,ix (dk.set kk x) (j:Int)=ix dk (j:Int):=λx=>by
      simp only[ix,Int.toNat_natCast,List.getD_eq_getElem?_getD];rw[List.getElem?_set_ne Y]
     rw[hs];exact hix j Y hjn
   ·simp only[Bool.not_eq_false',decide_eq_true_eq]at hd;refine aw ?_;refine db ?_;refine aq ?_;refine az ?_;refine ah (ba O) ?_;refine ah (br O O (badd k2 Y _ _)) ?_;refine ah (ba O) ?_;refine cd ?_;refine cy ?_;refine qd ?_ (ih (k2+1) kk dk es h Y Y Y hk1 Y M q hlen ?_ hix)
    ·exact(fj O (fj O (fj O (fj O (pk _)))))
    ·rw[show k0+(k2+1)=(k0+k2)+1 by omega,am4 Y hd];exact hcp
  ·exfalso;simp only[decide_eq_false_iff_not]at hc;omega
theorem dq3{R_:List Ent}{l:List ae}{es:List PV}{id ver n:Nat}{h:Heap}{S:List Fr}(hn:l.length=n)(hbig:n<=4611686018427387904)(q:All2 ae.t.R l es)(M:Mem h (⟨.os id ver 0 n,87,2,es⟩::R_))
 (hK0:PX Tryz.prog 0 S (retPost Tryz.prog [(2,none)] (RF142 R_ l)) [(0,.os id ver 0 n)] h):
 ∀(f k:Nat),f=n-k->1<=k->k<=n->cpF l k=l.take k->RC Tryz.prog (.loop al9) S (retPost Tryz.prog [(2,none)] (RF142 R_ (cpt l))) [(3,vi (k:Int)),(0,.os id ver 0 n)] h:=by
 intro f;induction f with
 |zero=>
  intro k hf h1 hle hcp;have hkn:k=n:=by omega
  subst hkn;have hc:cpt l=l:=by unfold cpt;rw[hn,hcp];exact List.take_of_length_le Y
  refine ck ?_;unfold al9;refine am ?_;refine am ?_;refine az ?_;refine ah (ba O) ?_;refine ah (ba O) ?_;refine ah (v:=vi ((k:Nat):Int)) (co O (xf Tryz.underlying75 _)) ?_;refine ah (br O O cn) ?_;refine cd ?_;refine aq ?_;refine ci O (λhc=>?_) (λhc=>?_)
  ·exfalso;simp only[decide_eq_true_eq]at hc;omega
  ·refine dg ?_;refine dx ?_;refine da ?_;rw[‹cpt l=l›];exact aj2 (fj O (pk _)) hK0
 |succ f ih=>
  intro k hf h1 hle hcp;have hlt:k < n:=by omega
  have bsub:∀ox oy,binF Tryz.prog .sub 3 ox oy (vi (k:Int)) (vi 1)=some (vi ((k-1:Nat):Int)):=λox oy=>by
   have hw:wr ((k:Int)-1)=((k-1:Nat):Int):=by rw[cz Y Y];omega
   rw[<-hw];exact af8
  have badd:∀ox oy,binF Tryz.prog .add 3 ox oy (vi (k:Int)) (vi 1)=some (vi ((k+1:Nat):Int)):=λox oy=>by
   have hw:wr ((k:Int)+1)=((k+1:Nat):Int):=by rw[cz Y Y];omega
   rw[<-hw];exact dw
  obtain⟨v1,e1,r1⟩:=vd (i:=(k:Int)) q Y Y;obtain⟨v2,e2,r2⟩:=vd (i:=((k-1:Nat):Int)) q Y Y;rw[Int.toNat_natCast]at e1 e2;have hm1:((k-1:Nat):Int)=(k:Int)-1:=by omega
  rw[hm1]at r2;refine ck ?_;unfold al9;refine am ?_;refine am ?_;refine az ?_;refine ah (ba O) ?_;refine ah (ba O) ?_;refine ah (v:=vi ((n:Nat):Int)) (co O (xf Tryz.underlying75 _)) ?_;refine ah (br O O cn) ?_;refine cd ?_;refine aq ?_;refine ci O (λhc=>?_) (λhc=>?_)
  ·refine aw ?_;refine aq ?_;refine am ?_;refine bg ?_;refine am ?_;refine az ?_;refine ah (ba O) ?_;refine ah (ba O) ?_;refine ah (v:= .op id ver (0+k*2)) (bd O O (uk 2 Y Y)) ?_;refine ah (rz (k:=0) M O O e1 (TR.agg ae.t r1)) ?_;refine ah (ba O) ?_;refine ah (ba O) ?_;refine ah (br O O (bsub _ _)) ?_;refine ah (v:= .op id ver (0+(k-1)*2)) (bd O O (uk 2 Y Y)) ?_;refine ah (rz (k:=0) M O O e2 (TR.agg ae.t r2)) ?_;refine ah (br O O (el3 r1 r2)) ?_;refine cd ?_;refine aq ?_;refine ci O (λhd=>?_) (λhd=>?_)
   ·simp only[decide_eq_true_eq]at hd;refine am ?_;refine az ?_;refine ah (ba O) ?_;refine ah (ba O) ?_;refine ah (v:= .os id ver (0+k*2) (n-k)) (vp (a:=(k:Int)) (b:=(n:Int)) O O O Y Y Y OO) ?_;refine ah (ba O) ?_;refine cd ?_;refine aq ?_;refine am ?_;refine am ?_;refine az ?_;refine ah (v:=vi ((1:Nat):Int)) (ba O) ?_;refine cd ?_;refine aq ?_;refine bg ?_;have hcp1:cpF l (k+1)=l.take k:=by rw[am4 Y hd,hcp]
    refine qd ?_ (dh9 hn hbig h1 ?_ (n-(k+1)) 1 k l es h O Y Y h1 Y M q hn hcp1.symm (λj _ _=>O))
    ·exact(fj O (fj O (fj O (fj O (pk _)))))
    ·intro h2 dk es2 kk M2 q2 hlen hk1 hkn hfin;refine ek ?_;refine aq ?_;refine am ?_;refine jq ?_;refine dy (ah (ba O) (dz ?_));refine dy (ah (ba O) (dz ?_));refine dy (ah (v:= .os id ver (0+kk*2) (n-kk)) (vp (a:=(kk:Int)) (b:=(n:Int)) O O O Y Y Y OO) (dz ?_));refine bu5 (k:=0) M2 O O hkn O (λh3 M3=>?_);replace M3:Mem h3 (⟨.os id ver 0 kk,87,2,es2.take kk⟩::R_):=M3;refine qo ?_;refine aq ?_;refine am ?_;refine az ?_;refine ah (ba O) ?_;refine ah (ba O) ?_;refine ah (v:= .os id ver 0 kk) (vp (a:=0) (b:=(kk:Int)) O O O Y Y Y OO) ?_;refine ah (ba O) ?_;refine cd ?_;refine aq ?_;have hq3:All2 ae.t.R (cpt l) (es2.take kk):=by
      have:cpt l=dk.take kk:=by unfold cpt;rw[hn,hfin]
      rw[this];exact q2.take kk
     have hl3:=at9 l n;exact ve (.tmp O .nil) ⟨_,_,M3,hq3,O,by unfold cpt;rw[hn];omega,.inr ⟨_,_,_,rfl⟩,rfl⟩
   ·simp only[decide_eq_false_iff_not]at hd;refine aw ?_;refine db ?_;refine aq ?_;refine az ?_;refine ah (ba O) ?_;refine ah (br O O (badd _ _)) ?_;refine ah (ba O) ?_;refine cd ?_;refine cy ?_;refine qd ?_ (ih (k+1) Y Y Y ?_)
    ·exact(fj O (fj O (pk _)))
    ·rw[yl (.inr hd),hcp,aj7 Y]
  ·exfalso;simp only[decide_eq_false_iff_not]at hc;omega
theorem cq4{x0:List ae}{a0:PV}{es0:List PV}{R_:List Ent}{h_:Heap}(q:All2 ae.t.R x0 es0)(ne:isL a0=true)(hl:x0.length<=4611686018427387904)(wi:Wri a0 es0)(M:Mem h_ (⟨a0,87,2,es0⟩::R_)):∃r h2_,FnX Tryz.prog 142 [a0] h_ r h2_/\RF142 R_ (cpt x0) r h2_:=by
 suffices H:RC Tryz.prog ci6 [] (retPost Tryz.prog [(2,none)] (RF142 R_ (cpt x0))) (argE 0 [a0]) h_ by
  exact fnX bx8 OZ H
 unfold ci6;refine am ?_;refine az ?_;refine ah (ba O) ?_;refine cd ?_;refine aq ?_;refine am ?_;refine am ?_;refine az ?_;refine ah (ba O) ?_;refine ah (co O (cb0 (k:=0) M O Tryz.underlying75 ne q _)) ?_;refine ah (br O O cn) ?_;refine cd ?_;refine aq ?_;refine ci O (λhc=>?_) (λhc=>?_)
 ·simp only[decide_eq_true_eq]at hc;refine am ?_;refine az ?_;refine ah (ba O) ?_;refine ah (ba O) ?_;refine cd ?_;refine aq ?_;rw[ba5 Y];exact ve (.tmp O .nil) ⟨a0,es0,M,q,ne,hl,wi,O⟩
 ·simp only[decide_eq_false_iff_not]at hc;obtain⟨id,ver,n,rfl⟩:=ao2 (i:=0) wi q Y Y;have hn:x0.length=n:=by rw[ug M (k:=0) rfl,All2.length_eq q]
  refine aw ?_;refine aq ?_;refine am ?_;refine am ?_;refine az ?_;refine ah (v:=vi ((1:Nat):Int)) (ba O) ?_;refine cd ?_;refine aq ?_;refine bg ?_;refine qd ?_ (dq3 hn Y q M ?_ (n-1) 1 O Y Y ?_)
  ·exact(fj O (fj O (pk _)))
  ·refine ek ?_;refine aq ?_;refine am ?_;refine az ?_;refine ah (ba O) ?_;refine ah (ba O) ?_;refine cd ?_;refine aq ?_;exact ve (.tmp O .nil) ⟨_,es0,M,q,ne,hl,wi,O⟩
  ·rw[yl (.inl rfl),aj7 Y];rfl
theorem eg8{ox oy:Operand}{a b:Int}{va vb':PV}(ra:tI.R a va)(rb:tI.R b vb'):binF Tryz.prog .eql 3 ox oy va vb'=some (vb (decide (a=b))):=by
 have ra:va=vi a:=ra;have rb:vb'=vi b:=rb;subst ra;subst rb;exact du
theorem ed7{ox oy:Operand}{a b:Int}{va vb':PV}(ra:tI.R a va)(rb:tI.R b vb'):binF Tryz.prog .neq 3 ox oy va vb'=some (vb (!decide (a=b))):=by
 have ra:va=vi a:=ra;have rb:vb'=vi b:=rb;subst ra;subst rb;exact ie
def RF144(R_:List Ent)(res:List Int)(r:PV)(h:Heap):Prop:=∃a:PV,∃es:List PV,Mem h (⟨a,3,1,es⟩::R_)/\All2 tI.R res es/\isL a=true/\res.length<=4611686018427387904/\Wri a es/\r=a
theorem dl8{S:List Fr}{R_:List Ent}{l:List Int}{id ver n k0:Nat}(hn:l.length=n)(hbig:n<=4611686018427387904)(h0:1<=k0)
 (hK:∀(h:Heap)(dk:List Int)(es:List PV)(kk:Nat),Mem h (⟨.os id ver 0 n,3,1,es⟩::R_)->All2 tI.R dk es->dk.length=n->1<=kk->kk < n->dk.take kk=cpF l n->PX Tryz.prog 2 S (retPost Tryz.prog [(2,none)] (RF144 R_ (cpt l))) [(3,vi (kk:Int)),(0,.os id ver 0 n)] h):
 ∀(f:Nat)(k2 kk:Nat)(dk:List Int)(es:List PV)(h:Heap),f=n-(k0+k2)->1<=k2->k0+k2<=n->1<=kk->kk < k0+k2->Mem h (⟨.os id ver 0 n,3,1,es⟩::R_)->All2 tI.R dk es->dk.length=n->dk.take kk=cpF l (k0+k2)->(∀j:Nat,kk<=j->j < n->ix dk (j:Int)=ix l (j:Int))->
  RC Tryz.prog (.loop al5) S (retPost Tryz.prog [(2,none)] (RF144 R_ (cpt l))) [(5,vi (k2:Int)),(4,.os id ver (0+k0*1) (n-k0)),(3,vi (kk:Int)),(0,.os id ver 0 n)] h:=by
 intro f;induction f with
 |zero=>
  intro k2 kk dk es h hf h1 hle hk1 hkm M q hlen hcp hix;refine ck ?_;unfold al5;refine am ?_;refine am ?_;refine az ?_;refine ah (ba O) ?_;refine ah (ba O) ?_;refine ah (v:=vi ((n-k0:Nat):Int)) (co O (xf Tryz.underlying29 _)) ?_;refine ah (br O O cn) ?_;refine cd ?_;refine aq ?_;refine ci O (λhc=>?_) (λhc=>?_)
  ·exfalso;simp only[decide_eq_true_eq]at hc;omega
  ·refine dg ?_;refine dx ?_;refine da ?_;refine aj2 (fj O (fj O (pk _))) (hK h dk es kk M q hlen hk1 Y (by rw[hcp];congr 1;omega))
 |succ f ih=>
  intro k2 kk dk es h hf h1 hle hk1 hkm M q hlen hcp hix;have hlt:k0+k2 < n:=by omega
  have bsub:∀ox oy,binF Tryz.prog .sub 3 ox oy (vi (k2:Int)) (vi 1)=some (vi ((k2-1:Nat):Int)):=λox oy=>by
   have hw:wr ((k2:Int)-1)=((k2-1:Nat):Int):=by rw[cz Y Y];omega
   rw[<-hw];exact af8
  have badd:∀(z:Nat),z<=n->∀ox oy,binF Tryz.prog .add 3 ox oy (vi (z:Int)) (vi 1)=some (vi ((z+1:Nat):Int)):=λz hz ox oy=>by
   have hw:wr ((z:Int)+1)=((z+1:Nat):Int):=by rw[cz Y Y];omega
   rw[<-hw];exact dw
  have ad:∀z:Nat,z < n-k0->idxR 1 (.os id ver (0+k0*1) (n-k0)) (vi (z:Int))=some (.op id ver (0+(k0+z)*1)):=λz hz=>by
   have he:0+k0*1+(z:Int).toNat*1=0+(k0+z)*1:=by rw[Int.toNat_natCast];omega
   rw[<-he];exact uk 1 Y Y
  obtain⟨v1,e1,r1⟩:=vd (i:=((k0+k2:Nat):Int)) q Y Y;obtain⟨v2,e2,r2⟩:=vd (i:=((k0+(k2-1):Nat):Int)) q Y Y;rw[Int.toNat_natCast]at e1 e2;rw[hix _ Y hlt]at r1;rw[hix _ Y Y]at r2;have hm1:((k0+(k2-1):Nat):Int)=((k0+k2:Nat):Int)-1:=by omega
  rw[hm1]at r2;refine ck ?_;unfold al5;refine am ?_;refine am ?_;refine az ?_;refine ah (ba O) ?_;refine ah (ba O) ?_;refine ah (v:=vi ((n-k0:Nat):Int)) (co O (xf Tryz.underlying29 _)) ?_;refine ah (br O O cn) ?_;refine cd ?_;refine aq ?_;refine ci O (λhc=>?_) (λhc=>?_)
  ·refine aw ?_;refine aq ?_;refine am ?_;refine bg ?_;refine am ?_;refine az ?_;refine ah (ba O) ?_;refine ah (ba O) ?_;refine ah (bd O O (ad k2 Y)) ?_;refine ah (rz (k:=0) M O O e1 (TR.agg tI r1)) ?_;refine ah (ba O) ?_;refine ah (ba O) ?_;refine ah (br O O (bsub _ _)) ?_;refine ah (bd O O (ad (k2-1) Y)) ?_;refine ah (rz (k:=0) M O O e2 (TR.agg tI r2)) ?_;refine ah (br O O (ed7 r1 r2)) ?_;refine cd ?_;refine aq ?_;refine ci O (λhd=>?_) (λhd=>?_)
   ·simp only[Bool.not_eq_true',decide_eq_false_iff_not]at hd;refine am ?_;refine az ?_;refine ah (ba O) ?_;refine ah (ba O) ?_;refine ah (ba O) ?_;refine ah (ba O) ?_;refine ah (bd O O (ad k2 Y)) ?_;refine ah (rz (k:=0) M O O e1 (TR.agg tI r1)) ?_;refine ah (v:= .op id ver (0+kk*1)) (bd O O (uk 1 Y Y)) ?_;refine yw (k:=0) (i:=kk) (v:=v1) M O O O (by rw[All2.length_eq q];omega) (TR.cnt tI r1) (λh2 M2=>?_);replace M2:Mem h2 (⟨.os id ver 0 n,3,1,es.set kk v1⟩::R_):=M2;refine cd ?_;refine aq ?_;refine az ?_;refine ah (ba O) ?_;refine ah (br O O (badd kk Y _ _)) ?_;refine ah (ba O) ?_;refine cd ?_;refine db ?_;refine aq ?_;refine az ?_;refine ah (ba O) ?_;refine ah (br O O (badd k2 Y _ _)) ?_;refine ah (ba O) ?_;refine cd ?_;refine cy ?_;have q2:All2 tI.R (dk.set kk (ix l ((k0+k2:Nat):Int))) (es.set kk v1):=q.set r1;refine qd ?_ (ih (k2+1) (kk+1) (dk.set kk (ix l ((k0+k2:Nat):Int))) (es.set kk v1) h2 Y Y Y Y Y M2 q2 (by simp[hlen]) ?_ ?_)
    ·exact(fj O (fj O (fj O (fj O (pk _)))))
    ·rw[show k0+(k2+1)=(k0+k2)+1 by omega,yl (.inr hd),<-hcp,List.take_add_one,List.getElem?_set_self Y,List.take_set_of_le (Nat.le_refl _)];rfl
    ·intro j hj hjn;have hs:∀x:Int,ix (dk.set kk x) (j:Int)=ix dk (j:Int):=λx=>by
      simp only[ix,Int.toNat_natCast,List.getD_eq_getElem?_getD];rw[List.getElem?_set_ne Y]
     rw[hs];exact hix j Y hjn
   ·simp only[Bool.not_eq_false',decide_eq_true_eq]at hd;refine aw ?_;refine db ?_;refine aq ?_;refine az ?_;refine ah (ba O) ?_;refine ah (br O O (badd k2 Y _ _)) ?_;refine ah (ba O) ?_;refine cd ?_;refine cy ?_;refine qd ?_ (ih (k2+1) kk dk es h Y Y Y hk1 Y M q hlen ?_ hix)
    ·exact(fj O (fj O (fj O (fj O (pk _)))))
    ·rw[show k0+(k2+1)=(k0+k2)+1 by omega,am4 Y hd];exact hcp
  ·exfalso;simp only[decide_eq_false_iff_not]at hc;omega
theorem dt6{R_:List Ent}{l:List Int}{es:List PV}{id ver n:Nat}{h:Heap}{S:List Fr}(hn:l.length=n)(hbig:n<=4611686018427387904)(q:All2 tI.R l es)(M:Mem h (⟨.os id ver 0 n,3,1,es⟩::R_))
 (hK0:PX Tryz.prog 0 S (retPost Tryz.prog [(2,none)] (RF144 R_ l)) [(0,.os id ver 0 n)] h):
 ∀(f k:Nat),f=n-k->1<=k->k<=n->cpF l k=l.take k->RC Tryz.prog (.loop aj4) S (retPost Tryz.prog [(2,none)] (RF144 R_ (cpt l))) [(3,vi (k:Int)),(0,.os id ver 0 n)] h:=by
 intro f;induction f with
 |zero=>
  intro k hf h1 hle hcp;have hkn:k=n:=by omega
  subst hkn;have hc:cpt l=l:=by unfold cpt;rw[hn,hcp];exact List.take_of_length_le Y
  refine ck ?_;unfold aj4;refine am ?_;refine am ?_;refine az ?_;refine ah (ba O) ?_;refine ah (ba O) ?_;refine ah (v:=vi ((k:Nat):Int)) (co O (xf Tryz.underlying29 _)) ?_;refine ah (br O O cn) ?_;refine cd ?_;refine aq ?_;refine ci O (λhc=>?_) (λhc=>?_)
  ·exfalso;simp only[decide_eq_true_eq]at hc;omega
  ·refine dg ?_;refine dx ?_;refine da ?_;rw[‹cpt l=l›];exact aj2 (fj O (pk _)) hK0
 |succ f ih=>
  intro k hf h1 hle hcp;have hlt:k < n:=by omega
  have bsub:∀ox oy,binF Tryz.prog .sub 3 ox oy (vi (k:Int)) (vi 1)=some (vi ((k-1:Nat):Int)):=λox oy=>by
   have hw:wr ((k:Int)-1)=((k-1:Nat):Int):=by rw[cz Y Y];omega
   rw[<-hw];exact af8
  have badd:∀ox oy,binF Tryz.prog .add 3 ox oy (vi (k:Int)) (vi 1)=some (vi ((k+1:Nat):Int)):=λox oy=>by
   have hw:wr ((k:Int)+1)=((k+1:Nat):Int):=by rw[cz Y Y];omega
   rw[<-hw];exact dw
  obtain⟨v1,e1,r1⟩:=vd (i:=(k:Int)) q Y Y;obtain⟨v2,e2,r2⟩:=vd (i:=((k-1:Nat):Int)) q Y Y;rw[Int.toNat_natCast]at e1 e2;have hm1:((k-1:Nat):Int)=(k:Int)-1:=by omega
  rw[hm1]at r2;refine ck ?_;unfold aj4;refine am ?_;refine am ?_;refine az ?_;refine ah (ba O) ?_;refine ah (ba O) ?_;refine ah (v:=vi ((n:Nat):Int)) (co O (xf Tryz.underlying29 _)) ?_;refine ah (br O O cn) ?_;refine cd ?_;refine aq ?_;refine ci O (λhc=>?_) (λhc=>?_)
  ·refine aw ?_;refine aq ?_;refine am ?_;refine bg ?_;refine am ?_;refine az ?_;refine ah (ba O) ?_;refine ah (ba O) ?_;refine ah (v:= .op id ver (0+k*1)) (bd O O (uk 1 Y Y)) ?_;refine ah (rz (k:=0) M O O e1 (TR.agg tI r1)) ?_;refine ah (ba O) ?_;refine ah (ba O) ?_;refine ah (br O O (bsub _ _)) ?_;refine ah (v:= .op id ver (0+(k-1)*1)) (bd O O (uk 1 Y Y)) ?_;refine ah (rz (k:=0) M O O e2 (TR.agg tI r2)) ?_;refine ah (br O O (eg8 r1 r2)) ?_;refine cd ?_;refine aq ?_;refine ci O (λhd=>?_) (λhd=>?_)
   ·simp only[decide_eq_true_eq]at hd;refine am ?_;refine az ?_;refine ah (ba O) ?_;refine ah (ba O) ?_;refine ah (v:= .os id ver (0+k*1) (n-k)) (vp (a:=(k:Int)) (b:=(n:Int)) O O O Y Y Y OO) ?_;refine ah (ba O) ?_;refine cd ?_;refine aq ?_;refine am ?_;refine am ?_;refine az ?_;refine ah (v:=vi ((1:Nat):Int)) (ba O) ?_;refine cd ?_;refine aq ?_;refine bg ?_;have hcp1:cpF l (k+1)=l.take k:=by rw[am4 Y hd,hcp]
    refine qd ?_ (dl8 hn hbig h1 ?_ (n-(k+1)) 1 k l es h O Y Y h1 Y M q hn hcp1.symm (λj _ _=>O))
    ·exact(fj O (fj O (fj O (fj O (pk _)))))
    ·intro h2 dk es2 kk M2 q2 hlen hk1 hkn hfin;refine ek ?_;refine aq ?_;refine am ?_;refine jq ?_;refine dy (ah (ba O) (dz ?_));refine dy (ah (ba O) (dz ?_));refine dy (ah (v:= .os id ver (0+kk*1) (n-kk)) (vp (a:=(kk:Int)) (b:=(n:Int)) O O O Y Y Y OO) (dz ?_));refine bu5 (k:=0) M2 O O hkn O (λh3 M3=>?_);replace M3:Mem h3 (⟨.os id ver 0 kk,3,1,es2.take kk⟩::R_):=M3;refine qo ?_;refine aq ?_;refine am ?_;refine az ?_;refine ah (ba O) ?_;refine ah (ba O) ?_;refine ah (v:= .os id ver 0 kk) (vp (a:=0) (b:=(kk:Int)) O O O Y Y Y OO) ?_;refine ah (ba O) ?_;refine cd ?_;refine aq ?_;have hq3:All2 tI.R (cpt l) (es2.take kk):=by
      have:cpt l=dk.take kk:=by unfold cpt;rw[hn,hfin]
      rw[this];exact q2.take kk
     have hl3:=at9 l n;exact ve (.tmp O .nil) ⟨_,_,M3,hq3,O,by unfold cpt;rw[hn];omega,.inr ⟨_,_,_,rfl⟩,rfl⟩
   ·simp only[decide_eq_false_iff_not]at hd;refine aw ?_;refine db ?_;refine aq ?_;refine az ?_;refine ah (ba O) ?_;refine ah (br O O (badd _ _)) ?_;refine ah (ba O) ?_;refine cd ?_;refine cy ?_;refine qd ?_ (ih (k+1) Y Y Y ?_)
    ·exact(fj O (fj O (pk _)))
    ·rw[yl (.inr hd),hcp,aj7 Y]
  ·exfalso;simp only[decide_eq_false_iff_not]at hc;omega
theorem ci9{x0:List Int}{a0:PV}{es0:List PV}{R_:List Ent}{h_:Heap}(q:All2 tI.R x0 es0)(ne:isL a0=true)(hl:x0.length<=4611686018427387904)(wi:Wri a0 es0)(M:Mem h_ (⟨a0,3,1,es0⟩::R_)):∃r h2_,FnX Tryz.prog 144 [a0] h_ r h2_/\RF144 R_ (cpt x0) r h2_:=by
 suffices H:RC Tryz.prog cm3 [] (retPost Tryz.prog [(2,none)] (RF144 R_ (cpt x0))) (argE 0 [a0]) h_ by
  exact fnX bt6 OZ H
 unfold cm3;refine am ?_;refine az ?_;refine ah (ba O) ?_;refine cd ?_;refine aq ?_;refine am ?_;refine am ?_;refine az ?_;refine ah (ba O) ?_;refine ah (co O (cb0 (k:=0) M O Tryz.underlying29 ne q _)) ?_;refine ah (br O O cn) ?_;refine cd ?_;refine aq ?_;refine ci O (λhc=>?_) (λhc=>?_)
 ·simp only[decide_eq_true_eq]at hc;refine am ?_;refine az ?_;refine ah (ba O) ?_;refine ah (ba O) ?_;refine cd ?_;refine aq ?_;rw[ba5 Y];exact ve (.tmp O .nil) ⟨a0,es0,M,q,ne,hl,wi,O⟩
 ·simp only[decide_eq_false_iff_not]at hc;obtain⟨id,ver,n,rfl⟩:=ao2 (i:=0) wi q Y Y;have hn:x0.length=n:=by rw[ug M (k:=0) rfl,All2.length_eq q]
  refine aw ?_;refine aq ?_;refine am ?_;refine am ?_;refine az ?_;refine ah (v:=vi ((1:Nat):Int)) (ba O) ?_;refine cd ?_;refine aq ?_;refine bg ?_;refine qd ?_ (dt6 hn Y q M ?_ (n-1) 1 O Y Y ?_)
  ·exact(fj O (fj O (pk _)))
  ·refine ek ?_;refine aq ?_;refine am ?_;refine az ?_;refine ah (ba O) ?_;refine ah (ba O) ?_;refine cd ?_;refine aq ?_;exact ve (.tmp O .nil) ⟨_,es0,M,q,ne,hl,wi,O⟩
  ·rw[yl (.inl rfl),aj7 Y];rfl
theorem fl5(a b:Int):li a b=if a < b then -1 else if b < a then 1 else 0:=by
 unfold li sj;simp[LET]
theorem or2(a b:Int):tw [a,b]=if a≠0 then a else b:=by
 unfold tw;by_cases h:a=0
 ·by_cases h2:b=0
  ·simp[mo,ix,h,h2]
  ·simp[mo,ix,h,h2]
 ·simp[mo,ix,h]
def frmk(x:ae):PV:= .agg [vi x.Header,vi x.Field]
def frenc(x:ae):List Value:=[.int .i64 x.Header,.int .i64 x.Field]
theorem bu2(x y:ae):Go.Proofs.ltOf fm x y=decide (x.Header < y.Header\/(x.Header=y.Header/\x.Field < y.Field)):=by
 unfold Go.Proofs.ltOf fm;simp only[LET,or2,fl5]
 congr 1
 rw[eq_iff_iff]
 repeat' split
 all_goals omega
theorem ej5:Go.Sort.SWO (Go.Proofs.ltOf fm) where
 irrefl x:=by rw[bu2];simp
 trans x y z h1 h2:=by rw[bu2]at*;simp at*;omega
 ntrans x y z h1 h2:=by rw[bu2]at*;simp at*;omega
theorem co8(x y:ae)(h1:Go.Proofs.ltOf fm x y=false)(h2:Go.Proofs.ltOf fm y x=false):x=y:=by
 rw[bu2]at h1 h2;obtain⟨a,b⟩:=x;obtain⟨c,d⟩:=y;simp at h1 h2;have e1:a=c:=by omega
 subst e1;have e2:b=d:=by omega
 subst e2;rfl
end Go.Proofs.YtmonnlkagniolaaGreat
