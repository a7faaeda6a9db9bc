import Derived.Test.YtmonnlkagniolaaL3Text
import Derived.Test.YtmonnlkagniolaaL3TextA
import Derived.Test.YtmonnlkagniolaaKTy
import Derived.Test.YtmonnlkagniolaaPbV
import Derived.Test.YtmonnlkagniolaaKDef
import Derived.Test.YtmonnlkagniolaaPbV
import Derived.Test.YtmonnlkagniolaaPbV
set_option linter.all false
set_option maxRecDepth 100000
namespace Go.Proofs.Ytmonnlkagniolaa
open Go Go.Pb Go.RowKit
theorem ceq36{ox oy:Operand}{a b:y4q}{va vb':PV}(ra:y4q.t.R a va)(rb:y4q.t.R b vb'):binF Try.prog .eql 58 ox oy va vb'=some (vb (decide (a=b))):=y4q.eql_58 ra rb
theorem cne36{ox oy:Operand}{a b:y4q}{va vb':PV}(ra:y4q.t.R a va)(rb:y4q.t.R b vb'):binF Try.prog .neq 58 ox oy va vb'=some (vb (!decide (a=b))):=y4q.neq_58 ra rb
def RF36(R_:List Ent)(res:List y4q)(r:PV)(h:Heap):Prop:=∃a:PV,∃es:List PV,Mem h (⟨a,58,2,es⟩::R_)/\All2 y4q.t.R res es/\isL a=true/\res.length<=4611686018427387904/\Wri a es/\r=a
theorem c36_L2{S:List Fr}{R_:List Ent}{l:List y4q}{id ver n k0:Nat}(hn:l.length=n)(hbig:n<=4611686018427387904)(h0:1<=k0)
 (hK:∀(h:Heap)(dk:List y4q)(es:List PV)(kk:Nat),Mem h (⟨.os id ver 0 n,58,2,es⟩::R_)->All2 y4q.t.R dk es->dk.length=n->1<=kk->kk < n->dk.take kk=cpF l n->PX Try.prog 2 S (retPost Try.prog [(2,none)] (RF36 R_ (cpt l))) [(3,vi (kk:Int)),(0,.os id ver 0 n)] h):
 ∀(f:Nat)(k2 kk:Nat)(dk:List y4q)(es:List PV)(h:Heap),f=n-(k0+k2)->1<=k2->k0+k2<=n->1<=kk->kk < k0+k2->Mem h (⟨.os id ver 0 n,58,2,es⟩::R_)->All2 y4q.t.R dk es->dk.length=n->dk.take kk=cpF l (k0+k2)->(∀j:Nat,kk<=j->j < n->ix dk (j:Int)=ix l (j:Int))->
  RC Try.prog (.loop ac36_L2) S (retPost Try.prog [(2,none)] (RF36 R_ (cpt l))) [(5,vi (k2:Int)),(4,.os id ver (0+k0*2) (n-k0)),(3,vi (kk:Int)),(0,.os id ver 0 n)] h:=by
 intro f;induction f with
 |zero=>
  intro k2 kk dk es h hf h1 hle hk1 hkm M q hlen hcp hix;refine y53q ?_;unfold ac36_L2;refine y7q ?_;refine y7q ?_;refine y2q ?_;refine rd_op (y1q O) ?_;refine rd_op (y1q O) ?_;refine rd_op (v:=vi ((n-k0:Nat):Int)) (ov_bi O (osl_len Try.underlying72 _)) ?_;refine rd_op (y20q O O i_lss) ?_;refine y10q ?_;refine y6q ?_;refine y24q O (λhc=>?_) (λhc=>?_)
  ·exfalso;simp only[decide_eq_true_eq]at hc;omega
  ·refine y93q ?_;refine px_seq ?_;refine y78q ?_;refine y96q (y3q O (y3q O (y31q _))) (hK h dk es kk M q hlen hk1 V (by rw[hcp];congr 1;omega))
 |succ f ih=>
  intro k2 kk dk es h hf h1 hle hk1 hkm M q hlen hcp hix;have hlt:k0+k2 < n:=by omega
  have bsub:∀ox oy,binF Try.prog .sub 3 ox oy (vi (k2:Int)) (vi 1)=some (vi ((k2-1:Nat):Int)):=λox oy=>by
   have hw:wr ((k2:Int)-1)=((k2-1:Nat):Int):=by rw[wr_of V V];omega
   rw[<-hw];exact i_sub
  have badd:∀(z:Nat),z<=n->∀ox oy,binF Try.prog .add 3 ox oy (vi (z:Int)) (vi 1)=some (vi ((z+1:Nat):Int)):=λz hz ox oy=>by
   have hw:wr ((z:Int)+1)=((z+1:Nat):Int):=by rw[wr_of V V];omega
   rw[<-hw];exact i_add
  have ad:∀z:Nat,z < n-k0->idxR 2 (.os id ver (0+k0*2) (n-k0)) (vi (z:Int))=some (.op id ver (0+(k0+z)*2)):=λz hz=>by
   have he:0+k0*2+(z:Int).toNat*2=0+(k0+z)*2:=by rw[Int.toNat_natCast];omega
   rw[<-he];exact n_idx 2 V V
  obtain⟨v1,e1,r1⟩:=elem_at (i:=((k0+k2:Nat):Int)) q V V;obtain⟨v2,e2,r2⟩:=elem_at (i:=((k0+(k2-1):Nat):Int)) q V V;rw[Int.toNat_natCast]at e1 e2;rw[hix _ V hlt]at r1;rw[hix _ V V]at r2;have hm1:((k0+(k2-1):Nat):Int)=((k0+k2:Nat):Int)-1:=by omega
  rw[hm1]at r2;refine y53q ?_;unfold ac36_L2;refine y7q ?_;refine y7q ?_;refine y2q ?_;refine rd_op (y1q O) ?_;refine rd_op (y1q O) ?_;refine rd_op (v:=vi ((n-k0:Nat):Int)) (ov_bi O (osl_len Try.underlying72 _)) ?_;refine rd_op (y20q O O i_lss) ?_;refine y10q ?_;refine y6q ?_;refine y24q O (λhc=>?_) (λhc=>?_)
  ·refine y34q ?_;refine y6q ?_;refine y7q ?_;refine y42q ?_;refine y7q ?_;refine y2q ?_;refine rd_op (y1q O) ?_;refine rd_op (y1q O) ?_;refine rd_op (y48q O O (ad k2 V)) ?_;refine rd_op (ov_elem (k:=0) M O O e1 (TR.agg y4q.t r1)) ?_;refine rd_op (y1q O) ?_;refine rd_op (y1q O) ?_;refine rd_op (y20q O O (bsub _ _)) ?_;refine rd_op (y48q O O (ad (k2-1) V)) ?_;refine rd_op (ov_elem (k:=0) M O O e2 (TR.agg y4q.t r2)) ?_;refine rd_op (y20q O O (cne36 r1 r2)) ?_;refine y10q ?_;refine y6q ?_;refine y24q O (λhd=>?_) (λhd=>?_)
   ·simp only[Bool.not_eq_true',decide_eq_false_iff_not]at hd;refine y7q ?_;refine y2q ?_;refine rd_op (y1q O) ?_;refine rd_op (y1q O) ?_;refine rd_op (y1q O) ?_;refine rd_op (y1q O) ?_;refine rd_op (y48q O O (ad k2 V)) ?_;refine rd_op (ov_elem (k:=0) M O O e1 (TR.agg y4q.t r1)) ?_;refine rd_op (v:= .op id ver (0+kk*2)) (y48q O O (n_idx 2 V V)) ?_;refine rd_setO (k:=0) (i:=kk) (v:=v1) M O O O (by rw[All2.length_eq q];omega) (TR.cnt y4q.t r1) (λh2 M2=>?_);replace M2:Mem h2 (⟨.os id ver 0 n,58,2,es.set kk v1⟩::R_):=M2;refine y10q ?_;refine y6q ?_;refine y2q ?_;refine rd_op (y1q O) ?_;refine rd_op (y20q O O (badd kk V _ _)) ?_;refine rd_op (y1q O) ?_;refine y10q ?_;refine y67q ?_;refine y6q ?_;refine y2q ?_;refine rd_op (y1q O) ?_;refine rd_op (y20q O O (badd k2 V _ _)) ?_;refine rd_op (y1q O) ?_;refine y10q ?_;refine y56q ?_;have q2:All2 y4q.t.R (dk.set kk (ix l ((k0+k2:Nat):Int))) (es.set kk v1):=q.set r1;refine y37q ?_ (ih (k2+1) (kk+1) (dk.set kk (ix l ((k0+k2:Nat):Int))) (es.set kk v1) h2 V V V V V M2 q2 (by simp[hlen]) ?_ ?_)
    ·exact(y3q O (y3q O (y3q O (y3q O (y31q _)))))
    ·rw[show k0+(k2+1)=(k0+k2)+1 by omega,cpF_new (.inr hd),<-hcp,List.take_add_one,List.getElem?_set_self V,List.take_set_of_le (Nat.le_refl _)];rfl
    ·intro j hj hjn;have hs:∀x:y4q,ix (dk.set kk x) (j:Int)=ix dk (j:Int):=λx=>by
      simp only[ix,Int.toNat_natCast,List.getD_eq_getElem?_getD];rw[List.getElem?_set_ne V]
     rw[hs];exact hix j V hjn
   ·simp only[Bool.not_eq_false',decide_eq_true_eq]at hd;refine y34q ?_;refine y67q ?_;refine y6q ?_;refine y2q ?_;refine rd_op (y1q O) ?_;refine rd_op (y20q O O (badd k2 V _ _)) ?_;refine rd_op (y1q O) ?_;refine y10q ?_;refine y56q ?_;refine y37q ?_ (ih (k2+1) kk dk es h V V V hk1 V M q hlen ?_ hix)
    ·exact(y3q O (y3q O (y3q O (y3q O (y31q _)))))
    ·rw[show k0+(k2+1)=(k0+k2)+1 by omega,cpF_old V hd];exact hcp
  ·exfalso;simp only[decide_eq_false_iff_not]at hc;omega
theorem c36_L1{R_:List Ent}{l:List y4q}{es:List PV}{id ver n:Nat}{h:Heap}{S:List Fr}(hn:l.length=n)(hbig:n<=4611686018427387904)(q:All2 y4q.t.R l es)(M:Mem h (⟨.os id ver 0 n,58,2,es⟩::R_))
 (hK0:PX Try.prog 0 S (retPost Try.prog [(2,none)] (RF36 R_ l)) [(0,.os id ver 0 n)] h):
 ∀(f k:Nat),f=n-k->1<=k->k<=n->cpF l k=l.take k->RC Try.prog (.loop ac36_L1) S (retPost Try.prog [(2,none)] (RF36 R_ (cpt l))) [(3,vi (k:Int)),(0,.os id ver 0 n)] h:=by
 intro f;induction f with
 |zero=>
  intro k hf h1 hle hcp;have hkn:k=n:=by omega
  subst hkn;have hc:cpt l=l:=by unfold cpt;rw[hn,hcp];exact List.take_of_length_le V
  refine y53q ?_;unfold ac36_L1;refine y7q ?_;refine y7q ?_;refine y2q ?_;refine rd_op (y1q O) ?_;refine rd_op (y1q O) ?_;refine rd_op (v:=vi ((k:Nat):Int)) (ov_bi O (osl_len Try.underlying72 _)) ?_;refine rd_op (y20q O O i_lss) ?_;refine y10q ?_;refine y6q ?_;refine y24q O (λhc=>?_) (λhc=>?_)
  ·exfalso;simp only[decide_eq_true_eq]at hc;omega
  ·refine y93q ?_;refine px_seq ?_;refine y78q ?_;rw[‹cpt l=l›];exact y96q (y3q O (y31q _)) hK0
 |succ f ih=>
  intro k hf h1 hle hcp;have hlt:k < n:=by omega
  have bsub:∀ox oy,binF Try.prog .sub 3 ox oy (vi (k:Int)) (vi 1)=some (vi ((k-1:Nat):Int)):=λox oy=>by
   have hw:wr ((k:Int)-1)=((k-1:Nat):Int):=by rw[wr_of V V];omega
   rw[<-hw];exact i_sub
  have badd:∀ox oy,binF Try.prog .add 3 ox oy (vi (k:Int)) (vi 1)=some (vi ((k+1:Nat):Int)):=λox oy=>by
   have hw:wr ((k:Int)+1)=((k+1:Nat):Int):=by rw[wr_of V V];omega
   rw[<-hw];exact i_add
  obtain⟨v1,e1,r1⟩:=elem_at (i:=(k:Int)) q V V;obtain⟨v2,e2,r2⟩:=elem_at (i:=((k-1:Nat):Int)) q V V;rw[Int.toNat_natCast]at e1 e2;have hm1:((k-1:Nat):Int)=(k:Int)-1:=by omega
  rw[hm1]at r2;refine y53q ?_;unfold ac36_L1;refine y7q ?_;refine y7q ?_;refine y2q ?_;refine rd_op (y1q O) ?_;refine rd_op (y1q O) ?_;refine rd_op (v:=vi ((n:Nat):Int)) (ov_bi O (osl_len Try.underlying72 _)) ?_;refine rd_op (y20q O O i_lss) ?_;refine y10q ?_;refine y6q ?_;refine y24q O (λhc=>?_) (λhc=>?_)
  ·refine y34q ?_;refine y6q ?_;refine y7q ?_;refine y42q ?_;refine y7q ?_;refine y2q ?_;refine rd_op (y1q O) ?_;refine rd_op (y1q O) ?_;refine rd_op (v:= .op id ver (0+k*2)) (y48q O O (n_idx 2 V V)) ?_;refine rd_op (ov_elem (k:=0) M O O e1 (TR.agg y4q.t r1)) ?_;refine rd_op (y1q O) ?_;refine rd_op (y1q O) ?_;refine rd_op (y20q O O (bsub _ _)) ?_;refine rd_op (v:= .op id ver (0+(k-1)*2)) (y48q O O (n_idx 2 V V)) ?_;refine rd_op (ov_elem (k:=0) M O O e2 (TR.agg y4q.t r2)) ?_;refine rd_op (y20q O O (ceq36 r1 r2)) ?_;refine y10q ?_;refine y6q ?_;refine y24q O (λhd=>?_) (λhd=>?_)
   ·simp only[decide_eq_true_eq]at hd;refine y7q ?_;refine y2q ?_;refine rd_op (y1q O) ?_;refine rd_op (y1q O) ?_;refine rd_op (v:= .os id ver (0+k*2) (n-k)) (ov_sliceO (a:=(k:Int)) (b:=(n:Int)) O O O V V V (by decide)) ?_;refine rd_op (y1q O) ?_;refine y10q ?_;refine y6q ?_;refine y7q ?_;refine y7q ?_;refine y2q ?_;refine rd_op (v:=vi ((1:Nat):Int)) (y1q O) ?_;refine y10q ?_;refine y6q ?_;refine y42q ?_;have hcp1:cpF l (k+1)=l.take k:=by rw[cpF_old V hd,hcp]
    refine y37q ?_ (c36_L2 hn hbig h1 ?_ (n-(k+1)) 1 k l es h O V V h1 V M q hn hcp1.symm (λj _ _=>O))
    ·exact(y3q O (y3q O (y3q O (y3q O (y31q _)))))
    ·intro h2 dk es2 kk M2 q2 hlen hk1 hkn hfin;refine px_blk ?_;refine y6q ?_;refine y7q ?_;refine y75q ?_;refine y39q (rd_op (y1q O) (y40q ?_));refine y39q (rd_op (y1q O) (y40q ?_));refine y39q (rd_op (v:= .os id ver (0+kk*2) (n-kk)) (ov_sliceO (a:=(kk:Int)) (b:=(n:Int)) O O O V V V (by decide)) (y40q ?_));refine rs_clrT (k:=0) M2 O O hkn O (λh3 M3=>?_);replace M3:Mem h3 (⟨.os id ver 0 kk,58,2,es2.take kk⟩::R_):=M3;refine rs_nil ?_;refine y6q ?_;refine y7q ?_;refine y2q ?_;refine rd_op (y1q O) ?_;refine rd_op (y1q O) ?_;refine rd_op (v:= .os id ver 0 kk) (ov_sliceO (a:=0) (b:=(kk:Int)) O O O V V V (by decide)) ?_;refine rd_op (y1q O) ?_;refine y10q ?_;refine y6q ?_;have hq3:All2 y4q.t.R (cpt l) (es2.take kk):=by
      have:cpt l=dk.take kk:=by unfold cpt;rw[hn,hfin]
      rw[this];exact q2.take kk
     have hl3:=cpF_len l n;exact rc_retX (.tmp O .nil) ⟨_,_,M3,hq3,O,by unfold cpt;rw[hn];omega,.inr ⟨_,_,_,rfl⟩,rfl⟩
   ·simp only[decide_eq_false_iff_not]at hd;refine y34q ?_;refine y67q ?_;refine y6q ?_;refine y2q ?_;refine rd_op (y1q O) ?_;refine rd_op (y20q O O (badd _ _)) ?_;refine rd_op (y1q O) ?_;refine y10q ?_;refine y56q ?_;refine y37q ?_ (ih (k+1) V V V ?_)
    ·exact(y3q O (y3q O (y31q _)))
    ·rw[cpF_new (.inr hd),hcp,take_ix V]
  ·exfalso;simp only[decide_eq_false_iff_not]at hc;omega
theorem f36_cpt{x0:List y4q}{a0:PV}{es0:List PV}{R_:List Ent}{h_:Heap}(q:All2 y4q.t.R x0 es0)(ne:isL a0=true)(hl:x0.length<=4611686018427387904)(wi:Wri a0 es0)(M:Mem h_ (⟨a0,58,2,es0⟩::R_)):∃r h2_,FnX Try.prog 36 [a0] h_ r h2_/\RF36 R_ (cpt x0) r h2_:=by
 suffices H:RC Try.prog ac36 [] (retPost Try.prog [(2,none)] (RF36 R_ (cpt x0))) (argE 0 [a0]) h_ by
  exact fnX text36 U H
 unfold ac36;refine y7q ?_;refine y2q ?_;refine rd_op (y1q O) ?_;refine y10q ?_;refine y6q ?_;refine y7q ?_;refine y7q ?_;refine y2q ?_;refine rd_op (y1q O) ?_;refine rd_op (ov_bi O (own_len (k:=0) M O Try.underlying72 ne q _)) ?_;refine rd_op (y20q O O i_lss) ?_;refine y10q ?_;refine y6q ?_;refine y24q O (λhc=>?_) (λhc=>?_)
 ·simp only[decide_eq_true_eq]at hc;refine y7q ?_;refine y2q ?_;refine rd_op (y1q O) ?_;refine rd_op (y1q O) ?_;refine y10q ?_;refine y6q ?_;rw[cpt_small V];exact rc_retX (.tmp O .nil) ⟨a0,es0,M,q,ne,hl,wi,O⟩
 ·simp only[decide_eq_false_iff_not]at hc;obtain⟨id,ver,n,rfl⟩:=wri_os (i:=0) wi q V V;have hn:x0.length=n:=by rw[mem_osn M (k:=0) rfl,All2.length_eq q]
  refine y34q ?_;refine y6q ?_;refine y7q ?_;refine y7q ?_;refine y2q ?_;refine rd_op (v:=vi ((1:Nat):Int)) (y1q O) ?_;refine y10q ?_;refine y6q ?_;refine y42q ?_;refine y37q ?_ (c36_L1 hn V q M ?_ (n-1) 1 O V V ?_)
  ·exact(y3q O (y3q O (y31q _)))
  ·refine px_blk ?_;refine y6q ?_;refine y7q ?_;refine y2q ?_;refine rd_op (y1q O) ?_;refine rd_op (y1q O) ?_;refine y10q ?_;refine y6q ?_;exact rc_retX (.tmp O .nil) ⟨_,es0,M,q,ne,hl,wi,O⟩
  ·rw[cpF_new (.inl rfl),take_ix V];rfl
theorem ceq38{ox oy:Operand}{a b:Int}{va vb':PV}(ra:tI.R a va)(rb:tI.R b vb'):binF Try.prog .eql 3 ox oy va vb'=some (vb (decide (a=b))):=by
 have ra:va=vi a:=ra;have rb:vb'=vi b:=rb;subst ra;subst rb;exact i_eql
theorem cne38{ox oy:Operand}{a b:Int}{va vb':PV}(ra:tI.R a va)(rb:tI.R b vb'):binF Try.prog .neq 3 ox oy va vb'=some (vb (!decide (a=b))):=by
 have ra:va=vi a:=ra;have rb:vb'=vi b:=rb;subst ra;subst rb;exact i_neq
def RF38(R_:List Ent)(res:List Int)(r:PV)(h:Heap):Prop:=∃a:PV,∃es:List PV,Mem h (⟨a,3,1,es⟩::R_)/\All2 tI.R res es/\isL a=true/\res.length<=4611686018427387904/\Wri a es/\r=a
theorem c38_L2{S:List Fr}{R_:List Ent}{l:List Int}{id ver n k0:Nat}(hn:l.length=n)(hbig:n<=4611686018427387904)(h0:1<=k0)
 (hK:∀(h:Heap)(dk:List Int)(es:List PV)(kk:Nat),Mem h (⟨.os id ver 0 n,3,1,es⟩::R_)->All2 tI.R dk es->dk.length=n->1<=kk->kk < n->dk.take kk=cpF l n->PX Try.prog 2 S (retPost Try.prog [(2,none)] (RF38 R_ (cpt l))) [(3,vi (kk:Int)),(0,.os id ver 0 n)] h):
 ∀(f:Nat)(k2 kk:Nat)(dk:List Int)(es:List PV)(h:Heap),f=n-(k0+k2)->1<=k2->k0+k2<=n->1<=kk->kk < k0+k2->Mem h (⟨.os id ver 0 n,3,1,es⟩::R_)->All2 tI.R dk es->dk.length=n->dk.take kk=cpF l (k0+k2)->(∀j:Nat,kk<=j->j < n->ix dk (j:Int)=ix l (j:Int))->
  RC Try.prog (.loop ac38_L2) S (retPost Try.prog [(2,none)] (RF38 R_ (cpt l))) [(5,vi (k2:Int)),(4,.os id ver (0+k0*1) (n-k0)),(3,vi (kk:Int)),(0,.os id ver 0 n)] h:=by
 intro f;induction f with
 |zero=>
  intro k2 kk dk es h hf h1 hle hk1 hkm M q hlen hcp hix;refine y53q ?_;unfold ac38_L2;refine y7q ?_;refine y7q ?_;refine y2q ?_;refine rd_op (y1q O) ?_;refine rd_op (y1q O) ?_;refine rd_op (v:=vi ((n-k0:Nat):Int)) (ov_bi O (osl_len Try.underlying29 _)) ?_;refine rd_op (y20q O O i_lss) ?_;refine y10q ?_;refine y6q ?_;refine y24q O (λhc=>?_) (λhc=>?_)
  ·exfalso;simp only[decide_eq_true_eq]at hc;omega
  ·refine y93q ?_;refine px_seq ?_;refine y78q ?_;refine y96q (y3q O (y3q O (y31q _))) (hK h dk es kk M q hlen hk1 V (by rw[hcp];congr 1;omega))
 |succ f ih=>
  intro k2 kk dk es h hf h1 hle hk1 hkm M q hlen hcp hix;have hlt:k0+k2 < n:=by omega
  have bsub:∀ox oy,binF Try.prog .sub 3 ox oy (vi (k2:Int)) (vi 1)=some (vi ((k2-1:Nat):Int)):=λox oy=>by
   have hw:wr ((k2:Int)-1)=((k2-1:Nat):Int):=by rw[wr_of V V];omega
   rw[<-hw];exact i_sub
  have badd:∀(z:Nat),z<=n->∀ox oy,binF Try.prog .add 3 ox oy (vi (z:Int)) (vi 1)=some (vi ((z+1:Nat):Int)):=λz hz ox oy=>by
   have hw:wr ((z:Int)+1)=((z+1:Nat):Int):=by rw[wr_of V V];omega
   rw[<-hw];exact i_add
  have ad:∀z:Nat,z < n-k0->idxR 1 (.os id ver (0+k0*1) (n-k0)) (vi (z:Int))=some (.op id ver (0+(k0+z)*1)):=λz hz=>by
   have he:0+k0*1+(z:Int).toNat*1=0+(k0+z)*1:=by rw[Int.toNat_natCast];omega
   rw[<-he];exact n_idx 1 V V
  obtain⟨v1,e1,r1⟩:=elem_at (i:=((k0+k2:Nat):Int)) q V V;obtain⟨v2,e2,r2⟩:=elem_at (i:=((k0+(k2-1):Nat):Int)) q V V;rw[Int.toNat_natCast]at e1 e2;rw[hix _ V hlt]at r1;rw[hix _ V V]at r2;have hm1:((k0+(k2-1):Nat):Int)=((k0+k2:Nat):Int)-1:=by omega
  rw[hm1]at r2;refine y53q ?_;unfold ac38_L2;refine y7q ?_;refine y7q ?_;refine y2q ?_;refine rd_op (y1q O) ?_;refine rd_op (y1q O) ?_;refine rd_op (v:=vi ((n-k0:Nat):Int)) (ov_bi O (osl_len Try.underlying29 _)) ?_;refine rd_op (y20q O O i_lss) ?_;refine y10q ?_;refine y6q ?_;refine y24q O (λhc=>?_) (λhc=>?_)
  ·refine y34q ?_;refine y6q ?_;refine y7q ?_;refine y42q ?_;refine y7q ?_;refine y2q ?_;refine rd_op (y1q O) ?_;refine rd_op (y1q O) ?_;refine rd_op (y48q O O (ad k2 V)) ?_;refine rd_op (ov_elem (k:=0) M O O e1 (TR.agg tI r1)) ?_;refine rd_op (y1q O) ?_;refine rd_op (y1q O) ?_;refine rd_op (y20q O O (bsub _ _)) ?_;refine rd_op (y48q O O (ad (k2-1) V)) ?_;refine rd_op (ov_elem (k:=0) M O O e2 (TR.agg tI r2)) ?_;refine rd_op (y20q O O (cne38 r1 r2)) ?_;refine y10q ?_;refine y6q ?_;refine y24q O (λhd=>?_) (λhd=>?_)
   ·simp only[Bool.not_eq_true',decide_eq_false_iff_not]at hd;refine y7q ?_;refine y2q ?_;refine rd_op (y1q O) ?_;refine rd_op (y1q O) ?_;refine rd_op (y1q O) ?_;refine rd_op (y1q O) ?_;refine rd_op (y48q O O (ad k2 V)) ?_;refine rd_op (ov_elem (k:=0) M O O e1 (TR.agg tI r1)) ?_;refine rd_op (v:= .op id ver (0+kk*1)) (y48q O O (n_idx 1 V V)) ?_;refine rd_setO (k:=0) (i:=kk) (v:=v1) M O O O (by rw[All2.length_eq q];omega) (TR.cnt tI r1) (λh2 M2=>?_);replace M2:Mem h2 (⟨.os id ver 0 n,3,1,es.set kk v1⟩::R_):=M2;refine y10q ?_;refine y6q ?_;refine y2q ?_;refine rd_op (y1q O) ?_;refine rd_op (y20q O O (badd kk V _ _)) ?_;refine rd_op (y1q O) ?_;refine y10q ?_;refine y67q ?_;refine y6q ?_;refine y2q ?_;refine rd_op (y1q O) ?_;refine rd_op (y20q O O (badd k2 V _ _)) ?_;refine rd_op (y1q O) ?_;refine y10q ?_;refine y56q ?_;have q2:All2 tI.R (dk.set kk (ix l ((k0+k2:Nat):Int))) (es.set kk v1):=q.set r1;refine y37q ?_ (ih (k2+1) (kk+1) (dk.set kk (ix l ((k0+k2:Nat):Int))) (es.set kk v1) h2 V V V V V M2 q2 (by simp[hlen]) ?_ ?_)
    ·exact(y3q O (y3q O (y3q O (y3q O (y31q _)))))
    ·rw[show k0+(k2+1)=(k0+k2)+1 by omega,cpF_new (.inr hd),<-hcp,List.take_add_one,List.getElem?_set_self V,List.take_set_of_le (Nat.le_refl _)];rfl
    ·intro j hj hjn;have hs:∀x:Int,ix (dk.set kk x) (j:Int)=ix dk (j:Int):=λx=>by
      simp only[ix,Int.toNat_natCast,List.getD_eq_getElem?_getD];rw[List.getElem?_set_ne V]
     rw[hs];exact hix j V hjn
   ·simp only[Bool.not_eq_false',decide_eq_true_eq]at hd;refine y34q ?_;refine y67q ?_;refine y6q ?_;refine y2q ?_;refine rd_op (y1q O) ?_;refine rd_op (y20q O O (badd k2 V _ _)) ?_;refine rd_op (y1q O) ?_;refine y10q ?_;refine y56q ?_;refine y37q ?_ (ih (k2+1) kk dk es h V V V hk1 V M q hlen ?_ hix)
    ·exact(y3q O (y3q O (y3q O (y3q O (y31q _)))))
    ·rw[show k0+(k2+1)=(k0+k2)+1 by omega,cpF_old V hd];exact hcp
  ·exfalso;simp only[decide_eq_false_iff_not]at hc;omega
theorem c38_L1{R_:List Ent}{l:List Int}{es:List PV}{id ver n:Nat}{h:Heap}{S:List Fr}(hn:l.length=n)(hbig:n<=4611686018427387904)(q:All2 tI.R l es)(M:Mem h (⟨.os id ver 0 n,3,1,es⟩::R_))
 (hK0:PX Try.prog 0 S (retPost Try.prog [(2,none)] (RF38 R_ l)) [(0,.os id ver 0 n)] h):
 ∀(f k:Nat),f=n-k->1<=k->k<=n->cpF l k=l.take k->RC Try.prog (.loop ac38_L1) S (retPost Try.prog [(2,none)] (RF38 R_ (cpt l))) [(3,vi (k:Int)),(0,.os id ver 0 n)] h:=by
 intro f;induction f with
 |zero=>
  intro k hf h1 hle hcp;have hkn:k=n:=by omega
  subst hkn;have hc:cpt l=l:=by unfold cpt;rw[hn,hcp];exact List.take_of_length_le V
  refine y53q ?_;unfold ac38_L1;refine y7q ?_;refine y7q ?_;refine y2q ?_;refine rd_op (y1q O) ?_;refine rd_op (y1q O) ?_;refine rd_op (v:=vi ((k:Nat):Int)) (ov_bi O (osl_len Try.underlying29 _)) ?_;refine rd_op (y20q O O i_lss) ?_;refine y10q ?_;refine y6q ?_;refine y24q O (λhc=>?_) (λhc=>?_)
  ·exfalso;simp only[decide_eq_true_eq]at hc;omega
  ·refine y93q ?_;refine px_seq ?_;refine y78q ?_;rw[‹cpt l=l›];exact y96q (y3q O (y31q _)) hK0
 |succ f ih=>
  intro k hf h1 hle hcp;have hlt:k < n:=by omega
  have bsub:∀ox oy,binF Try.prog .sub 3 ox oy (vi (k:Int)) (vi 1)=some (vi ((k-1:Nat):Int)):=λox oy=>by
   have hw:wr ((k:Int)-1)=((k-1:Nat):Int):=by rw[wr_of V V];omega
   rw[<-hw];exact i_sub
  have badd:∀ox oy,binF Try.prog .add 3 ox oy (vi (k:Int)) (vi 1)=some (vi ((k+1:Nat):Int)):=λox oy=>by
   have hw:wr ((k:Int)+1)=((k+1:Nat):Int):=by rw[wr_of V V];omega
   rw[<-hw];exact i_add
  obtain⟨v1,e1,r1⟩:=elem_at (i:=(k:Int)) q V V;obtain⟨v2,e2,r2⟩:=elem_at (i:=((k-1:Nat):Int)) q V V;rw[Int.toNat_natCast]at e1 e2;have hm1:((k-1:Nat):Int)=(k:Int)-1:=by omega
  rw[hm1]at r2;refine y53q ?_;unfold ac38_L1;refine y7q ?_;refine y7q ?_;refine y2q ?_;refine rd_op (y1q O) ?_;refine rd_op (y1q O) ?_;refine rd_op (v:=vi ((n:Nat):Int)) (ov_bi O (osl_len Try.underlying29 _)) ?_;refine rd_op (y20q O O i_lss) ?_;refine y10q ?_;refine y6q ?_;refine y24q O (λhc=>?_) (λhc=>?_)
  ·refine y34q ?_;refine y6q ?_;refine y7q ?_;refine y42q ?_;refine y7q ?_;refine y2q ?_;refine rd_op (y1q O) ?_;refine rd_op (y1q O) ?_;refine rd_op (v:= .op id ver (0+k*1)) (y48q O O (n_idx 1 V V)) ?_;refine rd_op (ov_elem (k:=0) M O O e1 (TR.agg tI r1)) ?_;refine rd_op (y1q O) ?_;refine rd_op (y1q O) ?_;refine rd_op (y20q O O (bsub _ _)) ?_;refine rd_op (v:= .op id ver (0+(k-1)*1)) (y48q O O (n_idx 1 V V)) ?_;refine rd_op (ov_elem (k:=0) M O O e2 (TR.agg tI r2)) ?_;refine rd_op (y20q O O (ceq38 r1 r2)) ?_;refine y10q ?_;refine y6q ?_;refine y24q O (λhd=>?_) (λhd=>?_)
   ·simp only[decide_eq_true_eq]at hd;refine y7q ?_;refine y2q ?_;refine rd_op (y1q O) ?_;refine rd_op (y1q O) ?_;refine rd_op (v:= .os id ver (0+k*1) (n-k)) (ov_sliceO (a:=(k:Int)) (b:=(n:Int)) O O O V V V (by decide)) ?_;refine rd_op (y1q O) ?_;refine y10q ?_;refine y6q ?_;refine y7q ?_;refine y7q ?_;refine y2q ?_;refine rd_op (v:=vi ((1:Nat):Int)) (y1q O) ?_;refine y10q ?_;refine y6q ?_;refine y42q ?_;have hcp1:cpF l (k+1)=l.take k:=by rw[cpF_old V hd,hcp]
    refine y37q ?_ (c38_L2 hn hbig h1 ?_ (n-(k+1)) 1 k l es h O V V h1 V M q hn hcp1.symm (λj _ _=>O))
    ·exact(y3q O (y3q O (y3q O (y3q O (y31q _)))))
    ·intro h2 dk es2 kk M2 q2 hlen hk1 hkn hfin;refine px_blk ?_;refine y6q ?_;refine y7q ?_;refine y75q ?_;refine y39q (rd_op (y1q O) (y40q ?_));refine y39q (rd_op (y1q O) (y40q ?_));refine y39q (rd_op (v:= .os id ver (0+kk*1) (n-kk)) (ov_sliceO (a:=(kk:Int)) (b:=(n:Int)) O O O V V V (by decide)) (y40q ?_));refine rs_clrT (k:=0) M2 O O hkn O (λh3 M3=>?_);replace M3:Mem h3 (⟨.os id ver 0 kk,3,1,es2.take kk⟩::R_):=M3;refine rs_nil ?_;refine y6q ?_;refine y7q ?_;refine y2q ?_;refine rd_op (y1q O) ?_;refine rd_op (y1q O) ?_;refine rd_op (v:= .os id ver 0 kk) (ov_sliceO (a:=0) (b:=(kk:Int)) O O O V V V (by decide)) ?_;refine rd_op (y1q O) ?_;refine y10q ?_;refine y6q ?_;have hq3:All2 tI.R (cpt l) (es2.take kk):=by
      have:cpt l=dk.take kk:=by unfold cpt;rw[hn,hfin]
      rw[this];exact q2.take kk
     have hl3:=cpF_len l n;exact rc_retX (.tmp O .nil) ⟨_,_,M3,hq3,O,by unfold cpt;rw[hn];omega,.inr ⟨_,_,_,rfl⟩,rfl⟩
   ·simp only[decide_eq_false_iff_not]at hd;refine y34q ?_;refine y67q ?_;refine y6q ?_;refine y2q ?_;refine rd_op (y1q O) ?_;refine rd_op (y20q O O (badd _ _)) ?_;refine rd_op (y1q O) ?_;refine y10q ?_;refine y56q ?_;refine y37q ?_ (ih (k+1) V V V ?_)
    ·exact(y3q O (y3q O (y31q _)))
    ·rw[cpF_new (.inr hd),hcp,take_ix V]
  ·exfalso;simp only[decide_eq_false_iff_not]at hc;omega
theorem f38_cpt{x0:List Int}{a0:PV}{es0:List PV}{R_:List Ent}{h_:Heap}(q:All2 tI.R x0 es0)(ne:isL a0=true)(hl:x0.length<=4611686018427387904)(wi:Wri a0 es0)(M:Mem h_ (⟨a0,3,1,es0⟩::R_)):∃r h2_,FnX Try.prog 38 [a0] h_ r h2_/\RF38 R_ (cpt x0) r h2_:=by
 suffices H:RC Try.prog ac38 [] (retPost Try.prog [(2,none)] (RF38 R_ (cpt x0))) (argE 0 [a0]) h_ by
  exact fnX text38 U H
 unfold ac38;refine y7q ?_;refine y2q ?_;refine rd_op (y1q O) ?_;refine y10q ?_;refine y6q ?_;refine y7q ?_;refine y7q ?_;refine y2q ?_;refine rd_op (y1q O) ?_;refine rd_op (ov_bi O (own_len (k:=0) M O Try.underlying29 ne q _)) ?_;refine rd_op (y20q O O i_lss) ?_;refine y10q ?_;refine y6q ?_;refine y24q O (λhc=>?_) (λhc=>?_)
 ·simp only[decide_eq_true_eq]at hc;refine y7q ?_;refine y2q ?_;refine rd_op (y1q O) ?_;refine rd_op (y1q O) ?_;refine y10q ?_;refine y6q ?_;rw[cpt_small V];exact rc_retX (.tmp O .nil) ⟨a0,es0,M,q,ne,hl,wi,O⟩
 ·simp only[decide_eq_false_iff_not]at hc;obtain⟨id,ver,n,rfl⟩:=wri_os (i:=0) wi q V V;have hn:x0.length=n:=by rw[mem_osn M (k:=0) rfl,All2.length_eq q]
  refine y34q ?_;refine y6q ?_;refine y7q ?_;refine y7q ?_;refine y2q ?_;refine rd_op (v:=vi ((1:Nat):Int)) (y1q O) ?_;refine y10q ?_;refine y6q ?_;refine y42q ?_;refine y37q ?_ (c38_L1 hn V q M ?_ (n-1) 1 O V V ?_)
  ·exact(y3q O (y3q O (y31q _)))
  ·refine px_blk ?_;refine y6q ?_;refine y7q ?_;refine y2q ?_;refine rd_op (y1q O) ?_;refine rd_op (y1q O) ?_;refine y10q ?_;refine y6q ?_;exact rc_retX (.tmp O .nil) ⟨_,es0,M,q,ne,hl,wi,O⟩
  ·rw[cpF_new (.inl rfl),take_ix V];rfl
theorem cmp3(a b:Int):y109q a b=if a < b then -1 else if b < a then 1 else 0:=by
 unfold y109q cmp_isNaN_int;simp[LET]
theorem or2(a b:Int):cmp_Or_int [a,b]=if a≠0 then a else b:=by
 unfold cmp_Or_int;by_cases h:a=0
 ·by_cases h2:b=0
  ·simp[cmp_Or_int_L1,ix,h,h2]
  ·simp[cmp_Or_int_L1,ix,h,h2]
 ·simp[cmp_Or_int_L1,ix,h]
theorem fr_lt(x y:y4q):Go.Proofs.ltOf y107q x y=decide (x.Header < y.Header\/(x.Header=y.Header/\x.Field < y.Field)):=by
 unfold Go.Proofs.ltOf y107q;simp only[LET,or2,cmp3]
 congr 1
 rw[eq_iff_iff]
 repeat' split
 all_goals omega
theorem fr_swo:Go.Sort.SWO (Go.Proofs.ltOf y107q) where
 irrefl x:=by rw[fr_lt];simp
 trans x y z h1 h2:=by rw[fr_lt]at*;simp at*;omega
 ntrans x y z h1 h2:=by rw[fr_lt]at*;simp at*;omega
theorem fr_total(x y:y4q)(h1:Go.Proofs.ltOf y107q x y=false)(h2:Go.Proofs.ltOf y107q y x=false):x=y:=by
 rw[fr_lt]at h1 h2;obtain⟨a,b⟩:=x;obtain⟨c,d⟩:=y;simp at h1 h2;have e1:a=c:=by omega
 subst e1;have e2:b=d:=by omega
 subst e2;rfl
def frmk(x:y4q):PV:= .agg [vi x.Header,vi x.Field]
def frenc(x:y4q):List Value:=[.int .i64 x.Header,.int .i64 x.Field]
theorem fs_lt(x y:y4q):Go.Proofs.ltOf y55q x y=decide (x.Header < y.Header\/(x.Header=y.Header/\x.Field < y.Field)):=by
 unfold Go.Proofs.ltOf y55q;simp only[LET,or2,cmp3]
 congr 1
 rw[eq_iff_iff]
 repeat' split
 all_goals omega
theorem fs_swo:Go.Sort.SWO (Go.Proofs.ltOf y55q) where
 irrefl x:=by rw[fs_lt];simp
 trans x y z h1 h2:=by rw[fs_lt]at*;simp at*;omega
 ntrans x y z h1 h2:=by rw[fs_lt]at*;simp at*;omega
theorem fs_total(x y:y4q)(h1:Go.Proofs.ltOf y55q x y=false)(h2:Go.Proofs.ltOf y55q y x=false):x=y:=by
 rw[fs_lt]at h1 h2;obtain⟨a,b⟩:=x;obtain⟨c,d⟩:=y;simp at h1 h2;have e1:a=c:=by omega
 subst e1;have e2:b=d:=by omega
 subst e2;rfl
end Go.Proofs.Ytmonnlkagniolaa
