/-
 The code of each function does what its plain program says.
-/
import Derived.Test.YtmonnlkagniolaaKDef
import Derived.Test.YtmonnlkagniolaaL3Text
import Derived.Test.YtmonnlkagniolaaPbV
import Derived.Test.YtmonnlkagniolaaKExABd
import Derived.Test.YtmonnlkagniolaaKExABd
import Derived.Test.YtmonnlkagniolaaKCoFo
import Derived.Test.YtmonnlkagniolaaKLy
import Derived.Test.YtmonnlkagniolaaKCoFo
import Derived.Test.YtmonnlkagniolaaL3Run
set_option linter.all false
set_option maxRecDepth 100000
namespace Go.Proofs.Ytmonnlkagniolaa
open Go Go.Pb Go.RowKit
theorem qa:(∀a b:Bool,((a||b)=true)=(a=true\/b=true))/\(∀a b:Bool,(a||b)=false↔a=false/\b=false)/\(∀a b:Bool,((a&&b)=true)=(a=true/\b=true))/\(∀a b:Bool,(a&&b)=false↔(a=true->b=false))/\(∀(p:Prop)[Decidable p],(decide p=true)=p)/\(∀(p:Prop)[Decidable p],decide p=false↔¬p)/\(∀a:Bool,((!a)=true)=(a=false))/\(∀a:Bool,((!a)=false)=(a=true))/\(∀a:Bool,(¬a=true)=(a=false))/\(∀a:Bool,(¬a=false)=(a=true))/\((!true)=false)/\((!false)=true):=
 ⟨Bool.or_eq_true,λ_ _=>Bool.or_eq_false_iff,Bool.and_eq_true,λ_ _=>Bool.and_eq_false_imp,λ_ _=>decide_eq_true_eq,λ_ _=>decide_eq_false_iff_not,Bool.not_eq_true',Bool.not_eq_false',Bool.not_eq_true,Bool.not_eq_false,rfl,rfl⟩
theorem qaD{α:Type}(a b:α):(a≠b)=¬a=b:=ne_eq a b
/-- patchbay/patchbaylaw21.nodes -/
def RF10(res:Int)(r:PV):Prop:=r=vi res
theorem law21_nodes_L1_ok{S:List Fr}{res:Int}{x0:List y8q}{x1:Int}{rec_:(List y8q)->Int->Int}{mu_:Nat}{v0:PV}(r0:(tSl y8q.t).R x0 v0)(hd:0<=x1)(hd2:x1<=100)(ihR:∀{z0:List y8q}{z1:Int}{zv0:PV}(zr0:(tSl y8q.t).R z0 zv0)(hd:0<=z1)(hd2:z1<=100),z1.toNat < mu_->FnR Try.prog 10 [zv0,vi z1] (vi (rec_ z0 z1)))(hmu:mu_=x1.toNat){K0:Int->Int}
 (hK0:∀(x5_:Int),K0 x5_=res->PX Try.prog 0 S (QR Try.prog [(4,none)] (RF10 res)) [(5,vi x5_)] ⟨0,[]⟩):
 ∀(m:Nat)(x5_:Int)(x6_:Int)(hm1:m=Int.toNat ((x0.length:Int)-x6_))(hlo1:0<=x6_),law21_nodes_L1 x0 x1 rec_ K0 m x5_ x6_=res->RC Try.prog (.loop ac10_L1) S (QR Try.prog [(4,none)] (RF10 res)) [(6,vi x6_),(5,vi x5_),(1,vi x1),(0,v0)] ⟨0,[]⟩:=by
 intro m;induction m with
 |zero=>
  intro x5_ x6_ hm1 hlo1 hres;rw[law21_nodes_L1]at hres;refine y53q ?_;unfold ac10_L1;refine y7q (y7q (y2q (rd_op (y1q O) (rd_op (y1q O) (rd_op (ov_bi O (y62q r0 Try.underlying28 _)) (rd_op (y20q O O i_lss) (rd_op (y1q O) ?_)))))));refine y63q (d:=16) (v:=vb ((decide (x6_ < (x0.length:Int)))&&(decide (x5_ < 100)))) ?_ ?_
  ·intro S Q r;simp only[ac10_G1,List.cons_append,List.nil_append,List.append_assoc];cases hb101:(decide (x6_ < (x0.length:Int)))
   ·intro k;refine y12q O O (y12q O O (rd_op (v:=vb false) (y30q O O O O) ?_));exact y29q (y3q O (y0q O (y0q O (y0q O (y25q _))))) k
   ·intro k;have hb101':=hb101;try simp only[qa,qaD]at hb101'
    refine y18q O O (y1q O) (y18q O O (y20q O O i_lss) (rd_op (v:=vb (decide (x5_ < 100))) (y30q O O O O) ?_));exact y29q (y3q O (y0q O (y0q O (y0q O (y25q _))))) k
  refine y10q (y6q ?_);refine y24q O (λhc102=>?_) (λhc102=>?_)
  ·exfalso;try simp only[qa,qaD]at hc102
   omega
  ·have hend:=hres;have hc102':=hc102;try simp only[qa,qaD]at hc102'
   refine y93q (px_seq (y78q ?_));exact y96q ((y3q O (y31q _))) (hK0 x5_ hres)
 |succ m ih=>
  intro x5_ x6_ hm1 hlo1 hres;rw[law21_nodes_L1]at hres;refine y53q ?_;unfold ac10_L1;refine y7q (y7q (y2q (rd_op (y1q O) (rd_op (y1q O) (rd_op (ov_bi O (y62q r0 Try.underlying28 _)) (rd_op (y20q O O i_lss) (rd_op (y1q O) ?_)))))));refine y63q (d:=16) (v:=vb ((decide (x6_ < (x0.length:Int)))&&(decide (x5_ < 100)))) ?_ ?_
  ·intro S Q r;simp only[ac10_G1,List.cons_append,List.nil_append,List.append_assoc];cases hb103:(decide (x6_ < (x0.length:Int)))
   ·intro k;refine y12q O O (y12q O O (rd_op (v:=vb false) (y30q O O O O) ?_));exact y29q (y3q O (y0q O (y0q O (y0q O (y25q _))))) k
   ·intro k;have hb103':=hb103;try simp only[qa,qaD]at hb103'
    refine y18q O O (y1q O) (y18q O O (y20q O O i_lss) (rd_op (v:=vb (decide (x5_ < 100))) (y30q O O O O) ?_));exact y29q (y3q O (y0q O (y0q O (y0q O (y25q _))))) k
  refine y10q (y6q ?_);refine y24q O (λhc104=>?_) (λhc104=>?_)
  ·replace hres:=(ite_t hc104).symm.trans hres;have hc104':=hc104;try simp only[qa,qaD]at hc104'
   refine y34q (y6q (y7q (y42q (y7q (y7q (y2q (rd_op (y1q O) (rd_op (y20q O O i_eql) ?_))))))));refine rd_op (y1q O) ?_;refine y63q (d:=29) (v:=vb ((decide (x1=0))||(decide (40 < (((ix x0 x6_).Cond).length:Int))))) ?_ ?_
   ·intro S Q r;simp only[ac10_G2,List.cons_append,List.nil_append,List.append_assoc];cases hb105:(decide (x1=0))
    ·intro k;have hb105':=hb105;try simp only[qa,qaD]at hb105'
     refine y18q O O (y1q O) (y18q O O (y1q O) ?_);obtain⟨v106,e106,r106⟩:=y106q (i:=x6_) r0 V V;refine y18q O O (y48q O O e106) ?_;obtain⟨v107,e107,r107⟩:=y8q.g_Cond r106;refine y18q O O (y22q O e107) (y18q O O (y19q O (TR.cnt (tSl y11q.t) r107) (TR.agg (tSl y11q.t) r107)) (y18q O O (ov_bi O (y62q r107 Try.underlying32 _)) (y18q O O (y20q O O i_gtr) (rd_op (v:=vb (decide (40 < (((ix x0 x6_).Cond).length:Int)))) (y30q O O O O) ?_))));exact y29q (y3q O (y0q O (y0q O (y0q O (y0q O (y0q O (y0q O (y0q O (y0q O (y25q _)))))))))) k
    ·intro k;refine y12q O O (y12q O O (y12q O O (y12q O O (y12q O O (y12q O O (y12q O O (rd_op (v:=vb true) (y30q O O O O) ?_)))))));exact y29q (y3q O (y0q O (y0q O (y0q O (y0q O (y0q O (y0q O (y0q O (y0q O (y25q _)))))))))) k
   refine y10q (y6q ?_);refine y24q O (λhc108=>?_) (λhc108=>?_)
   ·replace hres:=(ite_t hc108).symm.trans hres;have hc108':=hc108;try simp only[qa,qaD]at hc108'
    refine y7q (y2q (rd_op (v:=vi 100) (y1q O) (y10q (y6q ?_))));subst hres;exact y35q (.tmp O .nil) (y17q O) O
   ·replace hres:=(ite_f hc108).symm.trans hres;have hc108':=hc108;try simp only[qa,qaD]at hc108'
    refine y34q (y6q (y2q (rd_op (y1q O) (rd_op (y1q O) (rd_op (y1q O) ?_)))));obtain⟨v109,e109,r109⟩:=y106q (i:=x6_) r0 V V;refine rd_op (y48q O O e109) ?_;obtain⟨v110,e110,r110⟩:=y8q.g_Then r109;refine rd_op (y22q O e110) (rd_op (y19q O (TR.cnt (tSl y8q.t) r110) (TR.agg (tSl y8q.t) r110)) (rd_op (y1q O) (rd_op (y20q O O i_sub) ?_)));obtain⟨y111,hw111,hres⟩:=y47q hres;have f111:=ihR (z0:=(ix x0 x6_).Then) (z1:=(wr (x1-1))) r110 (by first|assumption|omega|(rw[wr_of V V];omega)) (by first|assumption|omega|(rw[wr_of V V];omega)) (by(rw[wr_of V V];omega));rw[hw111]at f111;refine y52q (cv_fn O O (y15q (TR.clo (tSl y8q.t) r110) (y15q O y36q)) f111) (rd_op (y20q O O i_add) (rd_op (y1q O) (rd_op (y1q O) ?_)));obtain⟨v112,e112,r112⟩:=y106q (i:=x6_) r0 V V;refine rd_op (y48q O O e112) ?_;obtain⟨v113,e113,r113⟩:=y8q.g_Else r112;refine rd_op (y22q O e113) (rd_op (y19q O (TR.cnt (tSl y8q.t) r113) (TR.agg (tSl y8q.t) r113)) (rd_op (y1q O) (rd_op (y20q O O i_sub) ?_)));obtain⟨y114,hw114,hres⟩:=y47q hres;have f114:=ihR (z0:=(ix x0 x6_).Else) (z1:=(wr (x1-1))) r113 (by first|assumption|omega|(rw[wr_of V V];omega)) (by first|assumption|omega|(rw[wr_of V V];omega)) (by(rw[wr_of V V];omega));rw[hw114]at f114;refine y52q (cv_fn O O (y15q (TR.clo (tSl y8q.t) r113) (y15q O y36q)) f114) (rd_op (y20q O O i_add) (rd_op (y1q O) (y10q (y67q (y6q (y2q (rd_op (y1q O) (rd_op (y20q O O i_add) ?_))))))));refine rd_op (y1q O) (y10q (y56q ?_));have hbd:=y58q r0;have hinc:wr (x6_+1)=x6_+1:=wr_of V V;rw[hinc];refine y37q ?_ (ih (wr ((wr (x5_+y111))+y114)) (x6_+1) V V hres);exact((y3q O (y3q O (y3q O (y3q O (y31q _))))))
  ·replace hres:=(ite_f hc104).symm.trans hres;have hc104':=hc104;try simp only[qa,qaD]at hc104'
   refine y93q (px_seq (y78q ?_));exact y96q ((y3q O (y31q _))) (hK0 x5_ hres)
theorem f10_okB{rec_:(List y8q)->Int->Int}{mu_:Nat}{x0:List y8q}{x1:Int}{v0:PV}(r0:(tSl y8q.t).R x0 v0)(hd:0<=x1)(hd2:x1<=100)(hmu:mu_=x1.toNat)(ihR:∀{z0:List y8q}{z1:Int}{zv0:PV}(zr0:(tSl y8q.t).R z0 zv0)(hd:0<=z1)(hd2:z1<=100),z1.toNat < mu_->FnR Try.prog 10 [zv0,vi z1] (vi (rec_ z0 z1))):FnR Try.prog 10 [v0,vi x1] (vi (law21_nodes_B rec_ x0 x1)):=by
 obtain⟨res,hres⟩:∃res,law21_nodes_B rec_ x0 x1=res:=⟨_,O⟩;suffices H:RC Try.prog ac10 [] (QR Try.prog [(4,none)] (RF10 res)) (argE 0 [v0,vi x1]) ⟨0,[]⟩ by
  obtain⟨r,h1,h2⟩:=fnE text10 U H;rw[hres];have h2:r=vi res:=h2;rw[<-h2];exact h1
 unfold law21_nodes_B at hres;unfold ac10;refine y7q (y2q (rd_op (v:=vi 0) (y1q O) (y10q (y6q (y7q (y2q (rd_op (y1q O) (rd_op (ov_bi O (y62q r0 Try.underlying28 _)) ?_))))))));refine rd_op (y1q O) (y10q (y6q (y7q (y7q (y2q (rd_op (v:=vi 0) (y1q O) (y10q (y6q ?_))))))));refine y42q ?_;refine y37q ?_ (law21_nodes_L1_ok (x0:=x0) (x1:=x1) (rec_:=rec_) (mu_:=mu_) (v0:=v0) (r0:=r0) (hd:=hd) (hd2:=hd2) (ihR:=ihR) (hmu:=hmu) ?_ (Int.toNat ((x0.length:Int)-0)) (x0.length:Int) 0 O V hres)
 ·exact((y3q O (y3q O (y3q O (y3q O (y31q _))))))
 ·intro x5_115 hres;refine px_blk (y6q (y7q (y2q (rd_op (y1q O) (rd_op (y1q O) (y10q (y6q ?_)))))));subst hres;exact y35q (.tmp O .nil) (y17q O) O
theorem f10_okR:∀(n_:Nat){x0:List y8q}{x1:Int}{v0:PV}(r0:(tSl y8q.t).R x0 v0)(hd:0<=x1)(hd2:x1<=100),x1.toNat < n_->FnR Try.prog 10 [v0,vi x1] (vi (law21_nodes_R n_ x0 x1)):=by
 intro n_;induction n_ with
 |zero=>intros;rename_i hlt;exact absurd hlt (Nat.not_lt_zero _)
 |succ n_ ihn=>
  intro x0 x1 v0 r0 hd hd2 hlt;have e_:law21_nodes_R (n_+1) x0 x1=law21_nodes_B (law21_nodes_R n_) x0 x1:=by rw[law21_nodes_R]
  rw[e_];exact f10_okB r0 hd hd2 O (λ{z0}{z1}{zv0} zr0 hd hd2 hz=>ihn zr0 hd hd2 V)
theorem f10_ok{x0:List y8q}{x1:Int}{v0:PV}(r0:(tSl y8q.t).R x0 v0)(hd:0<=x1)(hd2:x1<=100):FnR Try.prog 10 [v0,vi x1] (vi (law21_nodes x0 x1)):=f10_okR _ r0 hd hd2 (Nat.lt_succ_self _)
/-- patchbay/patchbayref11.Small -/
def RF11(res:Bool)(r:PV):Prop:=r=vb res
theorem ref11_Small_L1_ok{S:List Fr}{res:Bool}{x0:y21q}{v0:PV}(r0:y21q.t.R x0 v0)(hc103:((decide (30 < (x0.Name.length:Int)))||(decide (20 < (x0.Fields.length:Int))))=false){K0:Unit->Bool}
 (hK0:K0 ()=res->PX Try.prog 0 S (QR Try.prog [(2,none)] (RF11 res)) [] ⟨0,[]⟩):
 ∀(m:Nat)(x3_:Int)(hm1:m=Int.toNat ((x0.Fields.length:Int)-x3_))(hlo1:0<=x3_),ref11_Small_L1 x0 K0 m x3_=res->RC Try.prog (.loop ac11_L1) S (QR Try.prog [(2,none)] (RF11 res)) [(3,vi x3_),(1,.fp v0)] ⟨0,[]⟩:=by
 have hc103':=hc103;try simp only[qa,qaD]at hc103'
 intro m;induction m with
 |zero=>
  intro x3_ hm1 hlo1 hres;rw[ref11_Small_L1]at hres;refine y53q ?_;unfold ac11_L1;refine y7q (y7q (y2q (rd_op (y1q O) ?_)));obtain⟨v104,e104,r104⟩:=y21q.g_Fields r0;refine rd_op (y22q O e104) (rd_op (y19q O (TR.cnt (tSl y14q.t) r104) (TR.agg (tSl y14q.t) r104)) (rd_op (ov_bi O (y62q r104 Try.underlying23 _)) (rd_op (y20q O O i_lss) (y10q (y6q ?_)))));refine y24q O (λhc105=>?_) (λhc105=>?_)
  ·exfalso;try simp only[qa,qaD]at hc105
   omega
  ·have hend:=hres;have hc105':=hc105;try simp only[qa,qaD]at hc105'
   refine y93q (px_seq (y78q ?_));exact y96q ((y31q _)) (hK0 hres)
 |succ m ih=>
  intro x3_ hm1 hlo1 hres;rw[ref11_Small_L1]at hres;refine y53q ?_;unfold ac11_L1;refine y7q (y7q (y2q (rd_op (y1q O) ?_)));obtain⟨v106,e106,r106⟩:=y21q.g_Fields r0;refine rd_op (y22q O e106) (rd_op (y19q O (TR.cnt (tSl y14q.t) r106) (TR.agg (tSl y14q.t) r106)) (rd_op (ov_bi O (y62q r106 Try.underlying23 _)) (rd_op (y20q O O i_lss) (y10q (y6q ?_)))));refine y24q O (λhc107=>?_) (λhc107=>?_)
  ·have hgo:=hres;have hc107':=hc107;try simp only[qa,qaD]at hc107'
   refine y34q (y6q (y7q (y42q (y7q (y2q ?_)))));obtain⟨v108,e108,r108⟩:=y21q.g_Fields r0;refine rd_op (y22q O e108) (rd_op (y19q O (TR.cnt (tSl y14q.t) r108) (TR.agg (tSl y14q.t) r108)) (rd_op (y1q O) ?_));obtain⟨v109,e109,r109⟩:=y106q (i:=x3_) r108 V V;refine rd_op (y48q O O e109) (rd_op (y22q O (y14q.g_Name r109)) (rd_op (y19q O O O) (rd_op (ov_bi O (str_len Try.underlying9)) (rd_op (y20q O O i_gtr) (y10q (y6q ?_))))));refine y24q O (λhc110=>?_) (λhc110=>?_)
   ·replace hres:=(ite_t hc110).symm.trans hres;have hc110':=hc110;try simp only[qa,qaD]at hc110'
    refine y7q (y2q (rd_op (v:=vb false) (y1q O) (y10q (y6q ?_))));subst hres;exact y35q (.tmp O .nil) (y17q O) O
   ·replace hres:=(ite_f hc110).symm.trans hres;have hc110':=hc110;try simp only[qa,qaD]at hc110'
    refine y34q (y67q (y6q (y2q (rd_op (y1q O) (rd_op (y20q O O i_add) (rd_op (y1q O) (y10q (y56q ?_))))))));have hbd:=y58q r106;have hinc:wr (x3_+1)=x3_+1:=wr_of V V;rw[hinc];refine y37q ?_ (ih (x3_+1) V V hres);exact((y3q O (y3q O (y31q _))))
  ·exfalso;try simp only[qa,qaD]at hc107
   omega
theorem f11_ok{x0:y21q}{v0:PV}(r0:y21q.t.R x0 v0):FnR Try.prog 11 [v0] (vb (ref11_Small x0)):=by
 obtain⟨res,hres⟩:∃res,ref11_Small x0=res:=⟨_,O⟩;suffices H:RC Try.prog ac11 [] (QR Try.prog [(2,none)] (RF11 res)) (argE 0 [v0]) ⟨0,[]⟩ by
  obtain⟨r,h1,h2⟩:=fnE text11 U H;rw[hres];have h2:r=vb res:=h2;rw[<-h2];exact h1
 unfold ref11_Small at hres;unfold ac11;refine y7q (y2q (rd_op (y102q O (TR.cnt y21q.t r0)) (rd_op (v:=vb false) (y1q O) (y10q (y6q (y7q (y7q (y2q ?_))))))));refine rd_op (y22q O (y21q.g_Name r0)) (rd_op (y19q O O O) (rd_op (ov_bi O (str_len Try.underlying9)) (rd_op (y20q O O i_gtr) (rd_op (y1q O) ?_))));refine y63q (d:=13) (v:=vb ((decide (30 < (x0.Name.length:Int)))||(decide (20 < (x0.Fields.length:Int))))) ?_ ?_
 ·intro S Q r;simp only[ac11_G1,List.cons_append,List.nil_append,List.append_assoc];cases hb101:(decide (30 < (x0.Name.length:Int)))
  ·intro k;have hb101':=hb101;try simp only[qa,qaD]at hb101'
   obtain⟨v102,e102,r102⟩:=y21q.g_Fields r0;refine y18q O O (y22q O e102) (y18q O O (y19q O (TR.cnt (tSl y14q.t) r102) (TR.agg (tSl y14q.t) r102)) (y18q O O (ov_bi O (y62q r102 Try.underlying23 _)) (y18q O O (y20q O O i_gtr) (rd_op (v:=vb (decide (20 < (x0.Fields.length:Int)))) (y30q O O O O) ?_))));exact y29q (y3q O (y0q O (y0q O (y0q O (y0q O (y0q O (y25q _))))))) k
  ·intro k;refine y12q O O (y12q O O (y12q O O (y12q O O (rd_op (v:=vb true) (y30q O O O O) ?_))));exact y29q (y3q O (y0q O (y0q O (y0q O (y0q O (y0q O (y25q _))))))) k
 refine y10q (y6q ?_);refine y24q O (λhc103=>?_) (λhc103=>?_)
 ·replace hres:=(ite_t hc103).symm.trans hres;have hc103':=hc103;try simp only[qa,qaD]at hc103'
  refine y7q (y2q (rd_op (v:=vb false) (y1q O) (y10q (y6q ?_))));subst hres;exact y35q (.tmp O .nil) (y17q O) O
 ·replace hres:=(ite_f hc103).symm.trans hres;have hc103':=hc103;try simp only[qa,qaD]at hc103'
  refine y34q (y6q (y7q (y7q (y2q (rd_op (v:=vi 0) (y1q O) (y10q (y6q (y42q ?_))))))));refine y37q ?_ (ref11_Small_L1_ok (x0:=x0) (v0:=v0) (r0:=r0) (hc103:=hc103) ?_ (Int.toNat ((x0.Fields.length:Int)-0)) 0 O V hres)
  ·exact((y3q O (y3q O (y31q _))))
  ·intro hres;refine px_blk (y6q (y7q (y2q (rd_op (v:=vb true) (y1q O) (y10q (y6q ?_))))));subst hres;exact y35q (.tmp O .nil) (y17q O) O
/-- patchbay/patchbaylaw21.largeAction -/
def RF12(res:Bool)(r:PV):Prop:=r=vb res
theorem law21_largeAction_L1_ok{S:List Fr}{res:Bool}{x0:y23q}{v0:PV}(r0:y23q.t.R x0 v0)(hc105:(((decide (8 < (x0.Params.length:Int)))||(decide (16 < (x0.Body.length:Int))))||(decide (60 < (x0.Name.length:Int))))=false){K0:Unit->Bool}
 (hK0:K0 ()=res->PX Try.prog 0 S (QR Try.prog [(2,none)] (RF12 res)) [] ⟨0,[]⟩):
 ∀(m:Nat)(x3_:Int)(hm1:m=Int.toNat ((x0.Body.length:Int)-x3_))(hlo1:0<=x3_),law21_largeAction_L1 x0 K0 m x3_=res->RC Try.prog (.loop ac12_L1) S (QR Try.prog [(2,none)] (RF12 res)) [(3,vi x3_),(1,.fp v0)] ⟨0,[]⟩:=by
 have hc105':=hc105;try simp only[qa,qaD]at hc105'
 intro m;induction m with
 |zero=>
  intro x3_ hm1 hlo1 hres;rw[law21_largeAction_L1]at hres;refine y53q ?_;unfold ac12_L1;refine y7q (y7q (y2q (rd_op (y1q O) ?_)));obtain⟨v106,e106,r106⟩:=y23q.g_Body r0;refine rd_op (y22q O e106) (rd_op (y19q O (TR.cnt (tSl y13q.t) r106) (TR.agg (tSl y13q.t) r106)) (rd_op (ov_bi O (y62q r106 Try.underlying47 _)) (rd_op (y20q O O i_lss) (y10q (y6q ?_)))));refine y24q O (λhc107=>?_) (λhc107=>?_)
  ·exfalso;try simp only[qa,qaD]at hc107
   omega
  ·have hend:=hres;have hc107':=hc107;try simp only[qa,qaD]at hc107'
   refine y93q (px_seq (y78q ?_));exact y96q ((y31q _)) (hK0 hres)
 |succ m ih=>
  intro x3_ hm1 hlo1 hres;rw[law21_largeAction_L1]at hres;refine y53q ?_;unfold ac12_L1;refine y7q (y7q (y2q (rd_op (y1q O) ?_)));obtain⟨v108,e108,r108⟩:=y23q.g_Body r0;refine rd_op (y22q O e108) (rd_op (y19q O (TR.cnt (tSl y13q.t) r108) (TR.agg (tSl y13q.t) r108)) (rd_op (ov_bi O (y62q r108 Try.underlying47 _)) (rd_op (y20q O O i_lss) (y10q (y6q ?_)))));refine y24q O (λhc109=>?_) (λhc109=>?_)
  ·have hgo:=hres;have hc109':=hc109;try simp only[qa,qaD]at hc109'
   refine y34q (y6q (y7q (y42q (y7q (y2q ?_)))));obtain⟨v110,e110,r110⟩:=y23q.g_Body r0;refine rd_op (y22q O e110) (rd_op (y19q O (TR.cnt (tSl y13q.t) r110) (TR.agg (tSl y13q.t) r110)) (rd_op (y1q O) ?_));obtain⟨v111,e111,r111⟩:=y106q (i:=x3_) r110 V V;refine rd_op (y48q O O e111) ?_;obtain⟨v112,e112,r112⟩:=y13q.g_Index r111;refine rd_op (y22q O e112) (rd_op (y19q O (TR.cnt (tSl y11q.t) r112) (TR.agg (tSl y11q.t) r112)) (rd_op (ov_bi O (y62q r112 Try.underlying32 _)) (rd_op (y20q O O i_gtr) (rd_op (y1q O) ?_))));refine y63q (d:=44) (v:=vb ((decide (40 < (((ix x0.Body x3_).Index).length:Int)))||(decide (40 < (((ix x0.Body x3_).Value).length:Int))))) ?_ ?_
   ·intro S Q r;simp only[ac12_G3,List.cons_append,List.nil_append,List.append_assoc];cases hb113:(decide (40 < (((ix x0.Body x3_).Index).length:Int)))
    ·intro k;have hb113':=hb113;try simp only[qa,qaD]at hb113'
     obtain⟨v114,e114,r114⟩:=y23q.g_Body r0;refine y18q O O (y22q O e114) (y18q O O (y19q O (TR.cnt (tSl y13q.t) r114) (TR.agg (tSl y13q.t) r114)) (y18q O O (y1q O) ?_));obtain⟨v115,e115,r115⟩:=y106q (i:=x3_) r114 V V;refine y18q O O (y48q O O e115) ?_;obtain⟨v116,e116,r116⟩:=y13q.g_Value r115;refine y18q O O (y22q O e116) (y18q O O (y19q O (TR.cnt (tSl y11q.t) r116) (TR.agg (tSl y11q.t) r116)) (y18q O O (ov_bi O (y62q r116 Try.underlying32 _)) (y18q O O (y20q O O i_gtr) (rd_op (v:=vb (decide (40 < (((ix x0.Body x3_).Value).length:Int)))) (y30q O O O O) ?_))));exact y29q (y3q O (y0q O (y0q O (y0q O (y0q O (y0q O (y0q O (y0q O (y0q O (y0q O (y25q _))))))))))) k
    ·intro k;refine y12q O O (y12q O O (y12q O O (y12q O O (y12q O O (y12q O O (y12q O O (y12q O O (rd_op (v:=vb true) (y30q O O O O) ?_))))))));exact y29q (y3q O (y0q O (y0q O (y0q O (y0q O (y0q O (y0q O (y0q O (y0q O (y0q O (y25q _))))))))))) k
   refine y10q (y6q ?_);refine y24q O (λhc117=>?_) (λhc117=>?_)
   ·replace hres:=(ite_t hc117).symm.trans hres;have hc117':=hc117;try simp only[qa,qaD]at hc117'
    refine y7q (y2q (rd_op (v:=vb true) (y1q O) (y10q (y6q ?_))));subst hres;exact y35q (.tmp O .nil) (y17q O) O
   ·replace hres:=(ite_f hc117).symm.trans hres;have hc117':=hc117;try simp only[qa,qaD]at hc117'
    refine y34q (y67q (y6q (y2q (rd_op (y1q O) (rd_op (y20q O O i_add) (rd_op (y1q O) (y10q (y56q ?_))))))));have hbd:=y58q r108;have hinc:wr (x3_+1)=x3_+1:=wr_of V V;rw[hinc];refine y37q ?_ (ih (x3_+1) V V hres);exact((y3q O (y3q O (y31q _))))
  ·exfalso;try simp only[qa,qaD]at hc109
   omega
theorem f12_ok{x0:y23q}{v0:PV}(r0:y23q.t.R x0 v0):FnR Try.prog 12 [v0] (vb (law21_largeAction x0)):=by
 obtain⟨res,hres⟩:∃res,law21_largeAction x0=res:=⟨_,O⟩;suffices H:RC Try.prog ac12 [] (QR Try.prog [(2,none)] (RF12 res)) (argE 0 [v0]) ⟨0,[]⟩ by
  obtain⟨r,h1,h2⟩:=fnE text12 U H;rw[hres];have h2:r=vb res:=h2;rw[<-h2];exact h1
 unfold law21_largeAction at hres;unfold ac12;refine y7q (y2q (rd_op (y102q O (TR.cnt y23q.t r0)) (rd_op (v:=vb false) (y1q O) (y10q (y6q (y7q (y7q (y2q ?_))))))));obtain⟨v101,e101,r101⟩:=y23q.g_Params r0;refine rd_op (y22q O e101) (rd_op (y19q O (TR.cnt (tSl y14q.t) r101) (TR.agg (tSl y14q.t) r101)) (rd_op (ov_bi O (y62q r101 Try.underlying23 _)) (rd_op (y20q O O i_gtr) (rd_op (y1q O) ?_))));refine y63q (d:=13) (v:=vb ((decide (8 < (x0.Params.length:Int)))||(decide (16 < (x0.Body.length:Int))))) ?_ ?_
 ·intro S Q r;simp only[ac12_G1,List.cons_append,List.nil_append,List.append_assoc];cases hb102:(decide (8 < (x0.Params.length:Int)))
  ·intro k;have hb102':=hb102;try simp only[qa,qaD]at hb102'
   obtain⟨v103,e103,r103⟩:=y23q.g_Body r0;refine y18q O O (y22q O e103) (y18q O O (y19q O (TR.cnt (tSl y13q.t) r103) (TR.agg (tSl y13q.t) r103)) (y18q O O (ov_bi O (y62q r103 Try.underlying47 _)) (y18q O O (y20q O O i_gtr) (rd_op (v:=vb (decide (16 < (x0.Body.length:Int)))) (y30q O O O O) ?_))));exact y29q (y3q O (y0q O (y0q O (y0q O (y0q O (y0q O (y25q _))))))) k
  ·intro k;refine y12q O O (y12q O O (y12q O O (y12q O O (rd_op (v:=vb true) (y30q O O O O) ?_))));exact y29q (y3q O (y0q O (y0q O (y0q O (y0q O (y0q O (y25q _))))))) k
 refine rd_op (y1q O) ?_;refine y63q (d:=19) (v:=vb (((decide (8 < (x0.Params.length:Int)))||(decide (16 < (x0.Body.length:Int))))||(decide (60 < (x0.Name.length:Int))))) ?_ ?_
 ·intro S Q r;simp only[ac12_G2,List.cons_append,List.nil_append,List.append_assoc];cases hb104:((decide (8 < (x0.Params.length:Int)))||(decide (16 < (x0.Body.length:Int))))
  ·intro k;have hb104':=hb104;try simp only[qa,qaD]at hb104'
   refine y18q O O (y22q O (y23q.g_Name r0)) (y18q O O (y19q O O O) (y18q O O (ov_bi O (str_len Try.underlying9)) (y18q O O (y20q O O i_gtr) (rd_op (v:=vb (decide (60 < (x0.Name.length:Int)))) (y30q O O O O) ?_))));exact y29q (y3q O (y0q O (y0q O (y0q O (y0q O (y0q O (y25q _))))))) k
  ·intro k;refine y12q O O (y12q O O (y12q O O (y12q O O (rd_op (v:=vb true) (y30q O O O O) ?_))));exact y29q (y3q O (y0q O (y0q O (y0q O (y0q O (y0q O (y25q _))))))) k
 refine y10q (y6q ?_);refine y24q O (λhc105=>?_) (λhc105=>?_)
 ·replace hres:=(ite_t hc105).symm.trans hres;have hc105':=hc105;try simp only[qa,qaD]at hc105'
  refine y7q (y2q (rd_op (v:=vb true) (y1q O) (y10q (y6q ?_))));subst hres;exact y35q (.tmp O .nil) (y17q O) O
 ·replace hres:=(ite_f hc105).symm.trans hres;have hc105':=hc105;try simp only[qa,qaD]at hc105'
  refine y34q (y6q (y7q (y7q (y2q (rd_op (v:=vi 0) (y1q O) (y10q (y6q (y42q ?_))))))));refine y37q ?_ (law21_largeAction_L1_ok (x0:=x0) (v0:=v0) (r0:=r0) (hc105:=hc105) ?_ (Int.toNat ((x0.Body.length:Int)-0)) 0 O V hres)
  ·exact((y3q O (y3q O (y31q _))))
  ·intro hres;refine px_blk (y6q (y7q (y2q (rd_op (v:=vb false) (y1q O) (y10q (y6q ?_))))));subst hres;exact y35q (.tmp O .nil) (y17q O) O
/-- patchbay/patchbaylaw21.largeState -/
def RF13(res:Bool)(r:PV):Prop:=r=vb res
theorem f13_ok{x0:y16q}{v0:PV}(r0:y16q.t.R x0 v0):FnR Try.prog 13 [v0] (vb (law21_largeState x0)):=by
 obtain⟨res,hres⟩:∃res,law21_largeState x0=res:=⟨_,O⟩;suffices H:RC Try.prog ac13 [] (QR Try.prog [(2,none)] (RF13 res)) (argE 0 [v0]) ⟨0,[]⟩ by
  obtain⟨r,h1,h2⟩:=fnE text13 U H;rw[hres];have h2:r=vb res:=h2;rw[<-h2];exact h1
 unfold law21_largeState at hres;unfold ac13;refine y7q (y2q (rd_op (y102q O (TR.cnt y16q.t r0)) (rd_op (v:=vb false) (y1q O) (y10q (y6q (y7q (y2q ?_)))))));obtain⟨v101,e101,r101⟩:=y16q.g_Extract r0;refine rd_op (y22q O e101) (rd_op (y19q O (TR.cnt (tSl tI) r101) (TR.agg (tSl tI) r101)) (rd_op (ov_bi O (y62q r101 Try.underlying29 _)) (rd_op (y20q O O i_gtr) (rd_op (y1q O) ?_))));refine y63q (d:=12) (v:=vb ((decide (8 < (x0.Extract.length:Int)))||(decide (12 < (x0.Cases.length:Int))))) ?_ ?_
 ·intro S Q r;simp only[ac13_G1,List.cons_append,List.nil_append,List.append_assoc];cases hb102:(decide (8 < (x0.Extract.length:Int)))
  ·intro k;have hb102':=hb102;try simp only[qa,qaD]at hb102'
   obtain⟨v103,e103,r103⟩:=y16q.g_Cases r0;refine y18q O O (y22q O e103) (y18q O O (y19q O (TR.cnt (tSl y72q.t) r103) (TR.agg (tSl y72q.t) r103)) (y18q O O (ov_bi O (y62q r103 Try.underlying59 _)) (y18q O O (y20q O O i_gtr) (rd_op (v:=vb (decide (12 < (x0.Cases.length:Int)))) (y30q O O O O) ?_))));exact y29q (y3q O (y0q O (y0q O (y0q O (y0q O (y0q O (y25q _))))))) k
  ·intro k;refine y12q O O (y12q O O (y12q O O (y12q O O (rd_op (v:=vb true) (y30q O O O O) ?_))));exact y29q (y3q O (y0q O (y0q O (y0q O (y0q O (y0q O (y25q _))))))) k
 refine rd_op (y1q O) ?_;refine y63q (d:=18) (v:=vb (((decide (8 < (x0.Extract.length:Int)))||(decide (12 < (x0.Cases.length:Int))))||(decide (60 < (x0.Name.length:Int))))) ?_ ?_
 ·intro S Q r;simp only[ac13_G2,List.cons_append,List.nil_append,List.append_assoc];cases hb104:((decide (8 < (x0.Extract.length:Int)))||(decide (12 < (x0.Cases.length:Int))))
  ·intro k;have hb104':=hb104;try simp only[qa,qaD]at hb104'
   refine y18q O O (y22q O (y16q.g_Name r0)) (y18q O O (y19q O O O) (y18q O O (ov_bi O (str_len Try.underlying9)) (y18q O O (y20q O O i_gtr) (rd_op (v:=vb (decide (60 < (x0.Name.length:Int)))) (y30q O O O O) ?_))));exact y29q (y3q O (y0q O (y0q O (y0q O (y0q O (y0q O (y25q _))))))) k
  ·intro k;refine y12q O O (y12q O O (y12q O O (y12q O O (rd_op (v:=vb true) (y30q O O O O) ?_))));exact y29q (y3q O (y0q O (y0q O (y0q O (y0q O (y0q O (y25q _))))))) k
 refine rd_op (y1q O) (y10q (y6q ?_));subst hres;exact y35q (.tmp O .nil) (y17q O) O
/-- patchbay/patchbaylaw21.TooLarge -/
def RF4(res:Bool)(r:PV):Prop:=r=vb res
theorem law21_TooLarge_L1_ok{S:List Fr}{res:Bool}{x0:y5q}{v0:PV}(r0:y5q.t.R x0 v0)(hc118:(((((((((decide (60 < (x0.Name.length:Int)))||(decide (16 < (x0.Headers.length:Int))))||(decide (20 < (x0.Metadata.length:Int))))||(decide (8 < (x0.Registers.length:Int))))||(decide (24 < (x0.Actions.length:Int))))||(decide (16 < (x0.Tables.length:Int))))||(decide (16 < (x0.States.length:Int))))||(decide (16 < (x0.Deparser.length:Int))))||(decide (60 < (law21_nodes x0.Control 10))))=false){K0:Unit->Bool}
 (hK0:K0 ()=res->PX Try.prog 0 S (QR Try.prog [(2,none)] (RF4 res)) [(1,.fp v0)] ⟨0,[]⟩):
 ∀(m:Nat)(x3_:Int)(hm1:m=Int.toNat ((x0.Headers.length:Int)-x3_))(hlo1:0<=x3_),y104q x0 K0 m x3_=res->RC Try.prog (.loop ac4_L1) S (QR Try.prog [(2,none)] (RF4 res)) [(3,vi x3_),(1,.fp v0)] ⟨0,[]⟩:=by
 have hc118':=hc118;try simp only[qa,qaD]at hc118'
 intro m;induction m with
 |zero=>
  intro x3_ hm1 hlo1 hres;rw[y104q]at hres;refine y53q ?_;unfold ac4_L1;refine y7q (y7q (y2q (rd_op (y1q O) ?_)));obtain⟨v119,e119,r119⟩:=y5q.g_Headers r0;refine rd_op (y22q O e119) (rd_op (y19q O (TR.cnt (tSl y21q.t) r119) (TR.agg (tSl y21q.t) r119)) (rd_op (ov_bi O (y62q r119 Try.underlying22 _)) (rd_op (y20q O O i_lss) (y10q (y6q ?_)))));refine y24q O (λhc120=>?_) (λhc120=>?_)
  ·exfalso;try simp only[qa,qaD]at hc120
   omega
  ·have hend:=hres;have hc120':=hc120;try simp only[qa,qaD]at hc120'
   refine y93q (px_seq (y78q ?_));exact y96q ((y3q O (y31q _))) (hK0 hres)
 |succ m ih=>
  intro x3_ hm1 hlo1 hres;rw[y104q]at hres;refine y53q ?_;unfold ac4_L1;refine y7q (y7q (y2q (rd_op (y1q O) ?_)));obtain⟨v121,e121,r121⟩:=y5q.g_Headers r0;refine rd_op (y22q O e121) (rd_op (y19q O (TR.cnt (tSl y21q.t) r121) (TR.agg (tSl y21q.t) r121)) (rd_op (ov_bi O (y62q r121 Try.underlying22 _)) (rd_op (y20q O O i_lss) (y10q (y6q ?_)))));refine y24q O (λhc122=>?_) (λhc122=>?_)
  ·have hgo:=hres;have hc122':=hc122;try simp only[qa,qaD]at hc122'
   refine y34q (y6q (y7q (y42q (y7q (y2q ?_)))));obtain⟨v123,e123,r123⟩:=y5q.g_Headers r0;refine rd_op (y22q O e123) (rd_op (y19q O (TR.cnt (tSl y21q.t) r123) (TR.agg (tSl y21q.t) r123)) (rd_op (y1q O) ?_));obtain⟨v124,e124,r124⟩:=y106q (i:=x3_) r123 V V;refine rd_op (y48q O O e124) (rd_op (y19q O (TR.cnt y21q.t r124) (TR.agg y21q.t r124)) ?_);obtain⟨y125,hw125,hres⟩:=y47q hres;have f125:=f11_ok r124;rw[hw125]at f125;refine y52q (cv_fn O O (y15q (TR.clo y21q.t r124) y36q) f125) (rd_op (ov_not O) (y10q (y6q ?_)));refine y24q O (λhc126=>?_) (λhc126=>?_)
   ·replace hres:=(ite_t hc126).symm.trans hres;have hc126':=hc126;try simp only[qa,qaD]at hc126'
    refine y7q (y2q (rd_op (v:=vb true) (y1q O) (y10q (y6q ?_))));subst hres;exact y35q (.tmp O .nil) (y17q O) O
   ·replace hres:=(ite_f hc126).symm.trans hres;have hc126':=hc126;try simp only[qa,qaD]at hc126'
    refine y34q (y67q (y6q (y2q (rd_op (y1q O) (rd_op (y20q O O i_add) (rd_op (y1q O) (y10q (y56q ?_))))))));have hbd:=y58q r121;have hinc:wr (x3_+1)=x3_+1:=wr_of V V;rw[hinc];refine y37q ?_ (ih (x3_+1) V V hres);exact((y3q O (y3q O (y31q _))))
  ·exfalso;try simp only[qa,qaD]at hc122
   omega
theorem law21_TooLarge_L2_ok{S:List Fr}{res:Bool}{x0:y5q}{v0:PV}(r0:y5q.t.R x0 v0)(hc118:(((((((((decide (60 < (x0.Name.length:Int)))||(decide (16 < (x0.Headers.length:Int))))||(decide (20 < (x0.Metadata.length:Int))))||(decide (8 < (x0.Registers.length:Int))))||(decide (24 < (x0.Actions.length:Int))))||(decide (16 < (x0.Tables.length:Int))))||(decide (16 < (x0.States.length:Int))))||(decide (16 < (x0.Deparser.length:Int))))||(decide (60 < (law21_nodes x0.Control 10))))=false){K2:Unit->Bool}
 (hK2:K2 ()=res->PX Try.prog 2 S (QR Try.prog [(2,none)] (RF4 res)) [(1,.fp v0)] ⟨0,[]⟩):
 ∀(m:Nat)(x4_:Int)(hm2:m=Int.toNat ((x0.Actions.length:Int)-x4_))(hlo2:0<=x4_),y105q x0 K2 m x4_=res->RC Try.prog (.loop ac4_L2) S (QR Try.prog [(2,none)] (RF4 res)) [(4,vi x4_),(1,.fp v0)] ⟨0,[]⟩:=by
 have hc118':=hc118;try simp only[qa,qaD]at hc118'
 intro m;induction m with
 |zero=>
  intro x4_ hm2 hlo2 hres;rw[y105q]at hres;refine y53q ?_;unfold ac4_L2;refine y7q (y7q (y2q (rd_op (y1q O) ?_)));obtain⟨v128,e128,r128⟩:=y5q.g_Actions r0;refine rd_op (y22q O e128) (rd_op (y19q O (TR.cnt (tSl y23q.t) r128) (TR.agg (tSl y23q.t) r128)) (rd_op (ov_bi O (y62q r128 Try.underlying25 _)) (rd_op (y20q O O i_lss) (y10q (y6q ?_)))));refine y24q O (λhc129=>?_) (λhc129=>?_)
  ·exfalso;try simp only[qa,qaD]at hc129
   omega
  ·have hend:=hres;have hc129':=hc129;try simp only[qa,qaD]at hc129'
   refine y93q (px_seq (y78q ?_));exact y96q ((y3q O (y31q _))) (hK2 hres)
 |succ m ih=>
  intro x4_ hm2 hlo2 hres;rw[y105q]at hres;refine y53q ?_;unfold ac4_L2;refine y7q (y7q (y2q (rd_op (y1q O) ?_)));obtain⟨v130,e130,r130⟩:=y5q.g_Actions r0;refine rd_op (y22q O e130) (rd_op (y19q O (TR.cnt (tSl y23q.t) r130) (TR.agg (tSl y23q.t) r130)) (rd_op (ov_bi O (y62q r130 Try.underlying25 _)) (rd_op (y20q O O i_lss) (y10q (y6q ?_)))));refine y24q O (λhc131=>?_) (λhc131=>?_)
  ·have hgo:=hres;have hc131':=hc131;try simp only[qa,qaD]at hc131'
   refine y34q (y6q (y7q (y42q (y7q (y2q ?_)))));obtain⟨v132,e132,r132⟩:=y5q.g_Actions r0;refine rd_op (y22q O e132) (rd_op (y19q O (TR.cnt (tSl y23q.t) r132) (TR.agg (tSl y23q.t) r132)) (rd_op (y1q O) ?_));obtain⟨v133,e133,r133⟩:=y106q (i:=x4_) r132 V V;refine rd_op (y48q O O e133) (rd_op (y19q O (TR.cnt y23q.t r133) (TR.agg y23q.t r133)) ?_);obtain⟨y134,hw134,hres⟩:=y47q hres;have f134:=f12_ok r133;rw[hw134]at f134;refine y52q (cv_fn O O (y15q (TR.clo y23q.t r133) y36q) f134) (y10q (y6q ?_));refine y24q O (λhc135=>?_) (λhc135=>?_)
   ·replace hres:=(ite_t hc135).symm.trans hres;have hc135':=hc135;try simp only[qa,qaD]at hc135'
    refine y7q (y2q (rd_op (v:=vb true) (y1q O) (y10q (y6q ?_))));subst hres;exact y35q (.tmp O .nil) (y17q O) O
   ·replace hres:=(ite_f hc135).symm.trans hres;have hc135':=hc135;try simp only[qa,qaD]at hc135'
    refine y34q (y67q (y6q (y2q (rd_op (y1q O) (rd_op (y20q O O i_add) (rd_op (y1q O) (y10q (y56q ?_))))))));have hbd:=y58q r130;have hinc:wr (x4_+1)=x4_+1:=wr_of V V;rw[hinc];refine y37q ?_ (ih (x4_+1) V V hres);exact((y3q O (y3q O (y31q _))))
  ·exfalso;try simp only[qa,qaD]at hc131
   omega
theorem law21_TooLarge_L3_ok{S:List Fr}{res:Bool}{x0:y5q}{v0:PV}(r0:y5q.t.R x0 v0)(hc118:(((((((((decide (60 < (x0.Name.length:Int)))||(decide (16 < (x0.Headers.length:Int))))||(decide (20 < (x0.Metadata.length:Int))))||(decide (8 < (x0.Registers.length:Int))))||(decide (24 < (x0.Actions.length:Int))))||(decide (16 < (x0.Tables.length:Int))))||(decide (16 < (x0.States.length:Int))))||(decide (16 < (x0.Deparser.length:Int))))||(decide (60 < (law21_nodes x0.Control 10))))=false){K4:Unit->Bool}
 (hK4:K4 ()=res->PX Try.prog 4 S (QR Try.prog [(2,none)] (RF4 res)) [(1,.fp v0)] ⟨0,[]⟩):
 ∀(m:Nat)(x5_:Int)(hm3:m=Int.toNat ((x0.Tables.length:Int)-x5_))(hlo3:0<=x5_),law21_TooLarge_L3 x0 K4 m x5_=res->RC Try.prog (.loop ac4_L3) S (QR Try.prog [(2,none)] (RF4 res)) [(5,vi x5_),(1,.fp v0)] ⟨0,[]⟩:=by
 have hc118':=hc118;try simp only[qa,qaD]at hc118'
 intro m;induction m with
 |zero=>
  intro x5_ hm3 hlo3 hres;rw[law21_TooLarge_L3]at hres;refine y53q ?_;unfold ac4_L3;refine y7q (y7q (y2q (rd_op (y1q O) ?_)));obtain⟨v137,e137,r137⟩:=y5q.g_Tables r0;refine rd_op (y22q O e137) (rd_op (y19q O (TR.cnt (tSl y26q.t) r137) (TR.agg (tSl y26q.t) r137)) (rd_op (ov_bi O (y62q r137 Try.underlying26 _)) (rd_op (y20q O O i_lss) (y10q (y6q ?_)))));refine y24q O (λhc138=>?_) (λhc138=>?_)
  ·exfalso;try simp only[qa,qaD]at hc138
   omega
  ·have hend:=hres;have hc138':=hc138;try simp only[qa,qaD]at hc138'
   refine y93q (px_seq (y78q ?_));exact y96q ((y3q O (y31q _))) (hK4 hres)
 |succ m ih=>
  intro x5_ hm3 hlo3 hres;rw[law21_TooLarge_L3]at hres;refine y53q ?_;unfold ac4_L3;refine y7q (y7q (y2q (rd_op (y1q O) ?_)));obtain⟨v139,e139,r139⟩:=y5q.g_Tables r0;refine rd_op (y22q O e139) (rd_op (y19q O (TR.cnt (tSl y26q.t) r139) (TR.agg (tSl y26q.t) r139)) (rd_op (ov_bi O (y62q r139 Try.underlying26 _)) (rd_op (y20q O O i_lss) (y10q (y6q ?_)))));refine y24q O (λhc140=>?_) (λhc140=>?_)
  ·have hgo:=hres;have hc140':=hc140;try simp only[qa,qaD]at hc140'
   refine y34q (y6q (y7q (y42q (y7q (y2q ?_)))));obtain⟨v141,e141,r141⟩:=y5q.g_Tables r0;refine rd_op (y22q O e141) (rd_op (y19q O (TR.cnt (tSl y26q.t) r141) (TR.agg (tSl y26q.t) r141)) (rd_op (y1q O) ?_));obtain⟨v142,e142,r142⟩:=y106q (i:=x5_) r141 V V;refine rd_op (y48q O O e142) ?_;obtain⟨v143,e143,r143⟩:=y26q.g_Keys r142;refine rd_op (y22q O e143) (rd_op (y19q O (TR.cnt (tSl y57q.t) r143) (TR.agg (tSl y57q.t) r143)) (rd_op (ov_bi O (y62q r143 Try.underlying50 _)) (rd_op (y20q O O i_gtr) (rd_op (y1q O) ?_))));refine y63q (d:=110) (v:=vb ((decide (10 < (((ix x0.Tables x5_).Keys).length:Int)))||(decide (24 < (((ix x0.Tables x5_).Actions).length:Int))))) ?_ ?_
   ·intro S Q r;simp only[ac4_G9,List.cons_append,List.nil_append,List.append_assoc];cases hb144:(decide (10 < (((ix x0.Tables x5_).Keys).length:Int)))
    ·intro k;have hb144':=hb144;try simp only[qa,qaD]at hb144'
     obtain⟨v145,e145,r145⟩:=y5q.g_Tables r0;refine y18q O O (y22q O e145) (y18q O O (y19q O (TR.cnt (tSl y26q.t) r145) (TR.agg (tSl y26q.t) r145)) (y18q O O (y1q O) ?_));obtain⟨v146,e146,r146⟩:=y106q (i:=x5_) r145 V V;refine y18q O O (y48q O O e146) ?_;obtain⟨v147,e147,r147⟩:=y26q.g_Actions r146;refine y18q O O (y22q O e147) (y18q O O (y19q O (TR.cnt (tSl tI) r147) (TR.agg (tSl tI) r147)) (y18q O O (ov_bi O (y62q r147 Try.underlying29 _)) (y18q O O (y20q O O i_gtr) (rd_op (v:=vb (decide (24 < (((ix x0.Tables x5_).Actions).length:Int)))) (y30q O O O O) ?_))));exact y29q (y3q O (y0q O (y0q O (y0q O (y0q O (y0q O (y0q O (y0q O (y0q O (y0q O (y25q _))))))))))) k
    ·intro k;refine y12q O O (y12q O O (y12q O O (y12q O O (y12q O O (y12q O O (y12q O O (y12q O O (rd_op (v:=vb true) (y30q O O O O) ?_))))))));exact y29q (y3q O (y0q O (y0q O (y0q O (y0q O (y0q O (y0q O (y0q O (y0q O (y0q O (y25q _))))))))))) k
   refine rd_op (y1q O) ?_;refine y63q (d:=121) (v:=vb (((decide (10 < (((ix x0.Tables x5_).Keys).length:Int)))||(decide (24 < (((ix x0.Tables x5_).Actions).length:Int))))||(decide (8 < ((((ix x0.Tables x5_).Default).Args).length:Int))))) ?_ ?_
   ·intro S Q r;simp only[ac4_G10,List.cons_append,List.nil_append,List.append_assoc];cases hb148:((decide (10 < (((ix x0.Tables x5_).Keys).length:Int)))||(decide (24 < (((ix x0.Tables x5_).Actions).length:Int))))
    ·intro k;have hb148':=hb148;try simp only[qa,qaD]at hb148'
     obtain⟨v149,e149,r149⟩:=y5q.g_Tables r0;refine y18q O O (y22q O e149) (y18q O O (y19q O (TR.cnt (tSl y26q.t) r149) (TR.agg (tSl y26q.t) r149)) (y18q O O (y1q O) ?_));obtain⟨v150,e150,r150⟩:=y106q (i:=x5_) r149 V V;refine y18q O O (y48q O O e150) ?_;obtain⟨v151,e151,r151⟩:=y26q.g_Default r150;refine y18q O O (y22q O e151) ?_;obtain⟨v152,e152,r152⟩:=y73q.g_Args r151;refine y18q O O (y22q O e152) (y18q O O (y19q O (TR.cnt (tSl tU32) r152) (TR.agg (tSl tU32) r152)) (y18q O O (ov_bi O (y62q r152 Try.underlying51 _)) (y18q O O (y20q O O i_gtr) (rd_op (v:=vb (decide (8 < ((((ix x0.Tables x5_).Default).Args).length:Int)))) (y30q O O O O) ?_))));exact y29q (y3q O (y0q O (y0q O (y0q O (y0q O (y0q O (y0q O (y0q O (y0q O (y0q O (y0q O (y25q _)))))))))))) k
    ·intro k;refine y12q O O (y12q O O (y12q O O (y12q O O (y12q O O (y12q O O (y12q O O (y12q O O (y12q O O ?_))))))));refine rd_op (v:=vb true) (y30q O O O O) ?_;exact y29q (y3q O (y0q O (y0q O (y0q O (y0q O (y0q O (y0q O (y0q O (y0q O (y0q O (y0q O (y25q _)))))))))))) k
   refine rd_op (y1q O) ?_;refine y63q (d:=131) (v:=vb ((((decide (10 < (((ix x0.Tables x5_).Keys).length:Int)))||(decide (24 < (((ix x0.Tables x5_).Actions).length:Int))))||(decide (8 < ((((ix x0.Tables x5_).Default).Args).length:Int))))||(decide (60 < (((ix x0.Tables x5_).Name).length:Int))))) ?_ ?_
   ·intro S Q r;simp only[ac4_G11,List.cons_append,List.nil_append,List.append_assoc];cases hb153:(((decide (10 < (((ix x0.Tables x5_).Keys).length:Int)))||(decide (24 < (((ix x0.Tables x5_).Actions).length:Int))))||(decide (8 < ((((ix x0.Tables x5_).Default).Args).length:Int))))
    ·intro k;have hb153':=hb153;try simp only[qa,qaD]at hb153'
     obtain⟨v154,e154,r154⟩:=y5q.g_Tables r0;refine y18q O O (y22q O e154) (y18q O O (y19q O (TR.cnt (tSl y26q.t) r154) (TR.agg (tSl y26q.t) r154)) (y18q O O (y1q O) ?_));obtain⟨v155,e155,r155⟩:=y106q (i:=x5_) r154 V V;refine y18q O O (y48q O O e155) (y18q O O (y22q O (y26q.g_Name r155)) (y18q O O (y19q O O O) (y18q O O (ov_bi O (str_len Try.underlying9)) (y18q O O (y20q O O i_gtr) (rd_op (v:=vb (decide (60 < (((ix x0.Tables x5_).Name).length:Int)))) (y30q O O O O) ?_)))));exact y29q (y3q O (y0q O (y0q O (y0q O (y0q O (y0q O (y0q O (y0q O (y0q O (y0q O (y25q _))))))))))) k
    ·intro k;refine y12q O O (y12q O O (y12q O O (y12q O O (y12q O O (y12q O O (y12q O O (y12q O O (rd_op (v:=vb true) (y30q O O O O) ?_))))))));exact y29q (y3q O (y0q O (y0q O (y0q O (y0q O (y0q O (y0q O (y0q O (y0q O (y0q O (y25q _))))))))))) k
   refine y10q (y6q ?_);refine y24q O (λhc156=>?_) (λhc156=>?_)
   ·replace hres:=(ite_t hc156).symm.trans hres;have hc156':=hc156;try simp only[qa,qaD]at hc156'
    refine y7q (y2q (rd_op (v:=vb true) (y1q O) (y10q (y6q ?_))));subst hres;exact y35q (.tmp O .nil) (y17q O) O
   ·replace hres:=(ite_f hc156).symm.trans hres;have hc156':=hc156;try simp only[qa,qaD]at hc156'
    refine y34q (y67q (y6q (y2q (rd_op (y1q O) (rd_op (y20q O O i_add) (rd_op (y1q O) (y10q (y56q ?_))))))));have hbd:=y58q r139;have hinc:wr (x5_+1)=x5_+1:=wr_of V V;rw[hinc];refine y37q ?_ (ih (x5_+1) V V hres);exact((y3q O (y3q O (y31q _))))
  ·exfalso;try simp only[qa,qaD]at hc140
   omega
theorem law21_TooLarge_L4_ok{S:List Fr}{res:Bool}{x0:y5q}{v0:PV}(r0:y5q.t.R x0 v0)(hc118:(((((((((decide (60 < (x0.Name.length:Int)))||(decide (16 < (x0.Headers.length:Int))))||(decide (20 < (x0.Metadata.length:Int))))||(decide (8 < (x0.Registers.length:Int))))||(decide (24 < (x0.Actions.length:Int))))||(decide (16 < (x0.Tables.length:Int))))||(decide (16 < (x0.States.length:Int))))||(decide (16 < (x0.Deparser.length:Int))))||(decide (60 < (law21_nodes x0.Control 10))))=false){K6:Unit->Bool}
 (hK6:K6 ()=res->PX Try.prog 6 S (QR Try.prog [(2,none)] (RF4 res)) [] ⟨0,[]⟩):
 ∀(m:Nat)(x6_:Int)(hm4:m=Int.toNat ((x0.States.length:Int)-x6_))(hlo4:0<=x6_),law21_TooLarge_L4 x0 K6 m x6_=res->RC Try.prog (.loop ac4_L4) S (QR Try.prog [(2,none)] (RF4 res)) [(6,vi x6_),(1,.fp v0)] ⟨0,[]⟩:=by
 have hc118':=hc118;try simp only[qa,qaD]at hc118'
 intro m;induction m with
 |zero=>
  intro x6_ hm4 hlo4 hres;rw[law21_TooLarge_L4]at hres;refine y53q ?_;unfold ac4_L4;refine y7q (y7q (y2q (rd_op (y1q O) ?_)));obtain⟨v158,e158,r158⟩:=y5q.g_States r0;refine rd_op (y22q O e158) (rd_op (y19q O (TR.cnt (tSl y16q.t) r158) (TR.agg (tSl y16q.t) r158)) (rd_op (ov_bi O (y62q r158 Try.underlying27 _)) (rd_op (y20q O O i_lss) (y10q (y6q ?_)))));refine y24q O (λhc159=>?_) (λhc159=>?_)
  ·exfalso;try simp only[qa,qaD]at hc159
   omega
  ·have hend:=hres;have hc159':=hc159;try simp only[qa,qaD]at hc159'
   refine y93q (px_seq (y78q ?_));exact y96q ((y31q _)) (hK6 hres)
 |succ m ih=>
  intro x6_ hm4 hlo4 hres;rw[law21_TooLarge_L4]at hres;refine y53q ?_;unfold ac4_L4;refine y7q (y7q (y2q (rd_op (y1q O) ?_)));obtain⟨v160,e160,r160⟩:=y5q.g_States r0;refine rd_op (y22q O e160) (rd_op (y19q O (TR.cnt (tSl y16q.t) r160) (TR.agg (tSl y16q.t) r160)) (rd_op (ov_bi O (y62q r160 Try.underlying27 _)) (rd_op (y20q O O i_lss) (y10q (y6q ?_)))));refine y24q O (λhc161=>?_) (λhc161=>?_)
  ·have hgo:=hres;have hc161':=hc161;try simp only[qa,qaD]at hc161'
   refine y34q (y6q (y7q (y42q (y7q (y2q ?_)))));obtain⟨v162,e162,r162⟩:=y5q.g_States r0;refine rd_op (y22q O e162) (rd_op (y19q O (TR.cnt (tSl y16q.t) r162) (TR.agg (tSl y16q.t) r162)) (rd_op (y1q O) ?_));obtain⟨v163,e163,r163⟩:=y106q (i:=x6_) r162 V V;refine rd_op (y48q O O e163) (rd_op (y19q O (TR.cnt y16q.t r163) (TR.agg y16q.t r163)) ?_);obtain⟨y164,hw164,hres⟩:=y47q hres;have f164:=f13_ok r163;rw[hw164]at f164;refine y52q (cv_fn O O (y15q (TR.clo y16q.t r163) y36q) f164) (y10q (y6q ?_));refine y24q O (λhc165=>?_) (λhc165=>?_)
   ·replace hres:=(ite_t hc165).symm.trans hres;have hc165':=hc165;try simp only[qa,qaD]at hc165'
    refine y7q (y2q (rd_op (v:=vb true) (y1q O) (y10q (y6q ?_))));subst hres;exact y35q (.tmp O .nil) (y17q O) O
   ·replace hres:=(ite_f hc165).symm.trans hres;have hc165':=hc165;try simp only[qa,qaD]at hc165'
    refine y34q (y67q (y6q (y2q (rd_op (y1q O) (rd_op (y20q O O i_add) (rd_op (y1q O) (y10q (y56q ?_))))))));have hbd:=y58q r160;have hinc:wr (x6_+1)=x6_+1:=wr_of V V;rw[hinc];refine y37q ?_ (ih (x6_+1) V V hres);exact((y3q O (y3q O (y31q _))))
  ·exfalso;try simp only[qa,qaD]at hc161
   omega
theorem f4_ok{x0:y5q}{v0:PV}(r0:y5q.t.R x0 v0):FnR Try.prog 4 [v0] (vb (law21_TooLarge x0)):=by
 obtain⟨res,hres⟩:∃res,law21_TooLarge x0=res:=⟨_,O⟩;suffices H:RC Try.prog ac4 [] (QR Try.prog [(2,none)] (RF4 res)) (argE 0 [v0]) ⟨0,[]⟩ by
  obtain⟨r,h1,h2⟩:=fnE text4 U H;rw[hres];have h2:r=vb res:=h2;rw[<-h2];exact h1
 unfold law21_TooLarge at hres;unfold ac4;refine y7q (y2q (rd_op (y102q O (TR.cnt y5q.t r0)) (rd_op (v:=vb false) (y1q O) (y10q (y6q (y7q (y7q (y2q ?_))))))));refine rd_op (y22q O (y5q.g_Name r0)) (rd_op (y19q O O O) (rd_op (ov_bi O (str_len Try.underlying9)) (rd_op (y20q O O i_gtr) (rd_op (y1q O) ?_))));refine y63q (d:=16) (v:=vb ((decide (60 < (x0.Name.length:Int)))||(decide (16 < (x0.Headers.length:Int))))) ?_ ?_
 ·intro S Q r;simp only[ac4_G1,List.cons_append,List.nil_append,List.append_assoc];cases hb101:(decide (60 < (x0.Name.length:Int)))
  ·intro k;have hb101':=hb101;try simp only[qa,qaD]at hb101'
   obtain⟨v102,e102,r102⟩:=y5q.g_Headers r0;refine y18q O O (y22q O e102) (y18q O O (y19q O (TR.cnt (tSl y21q.t) r102) (TR.agg (tSl y21q.t) r102)) (y18q O O (ov_bi O (y62q r102 Try.underlying22 _)) (y18q O O (y20q O O i_gtr) (rd_op (v:=vb (decide (16 < (x0.Headers.length:Int)))) (y30q O O O O) ?_))));exact y29q (y3q O (y0q O (y0q O (y0q O (y0q O (y0q O (y25q _))))))) k
  ·intro k;refine y12q O O (y12q O O (y12q O O (y12q O O (rd_op (v:=vb true) (y30q O O O O) ?_))));exact y29q (y3q O (y0q O (y0q O (y0q O (y0q O (y0q O (y25q _))))))) k
 refine rd_op (y1q O) ?_;refine y63q (d:=22) (v:=vb (((decide (60 < (x0.Name.length:Int)))||(decide (16 < (x0.Headers.length:Int))))||(decide (20 < (x0.Metadata.length:Int))))) ?_ ?_
 ·intro S Q r;simp only[ac4_G2,List.cons_append,List.nil_append,List.append_assoc];cases hb103:((decide (60 < (x0.Name.length:Int)))||(decide (16 < (x0.Headers.length:Int))))
  ·intro k;have hb103':=hb103;try simp only[qa,qaD]at hb103'
   obtain⟨v104,e104,r104⟩:=y5q.g_Metadata r0;refine y18q O O (y22q O e104) (y18q O O (y19q O (TR.cnt (tSl y14q.t) r104) (TR.agg (tSl y14q.t) r104)) (y18q O O (ov_bi O (y62q r104 Try.underlying23 _)) (y18q O O (y20q O O i_gtr) (rd_op (v:=vb (decide (20 < (x0.Metadata.length:Int)))) (y30q O O O O) ?_))));exact y29q (y3q O (y0q O (y0q O (y0q O (y0q O (y0q O (y25q _))))))) k
  ·intro k;refine y12q O O (y12q O O (y12q O O (y12q O O (rd_op (v:=vb true) (y30q O O O O) ?_))));exact y29q (y3q O (y0q O (y0q O (y0q O (y0q O (y0q O (y25q _))))))) k
 refine rd_op (y1q O) ?_;refine y63q (d:=28) (v:=vb ((((decide (60 < (x0.Name.length:Int)))||(decide (16 < (x0.Headers.length:Int))))||(decide (20 < (x0.Metadata.length:Int))))||(decide (8 < (x0.Registers.length:Int))))) ?_ ?_
 ·intro S Q r;simp only[ac4_G3,List.cons_append,List.nil_append,List.append_assoc];cases hb105:(((decide (60 < (x0.Name.length:Int)))||(decide (16 < (x0.Headers.length:Int))))||(decide (20 < (x0.Metadata.length:Int))))
  ·intro k;have hb105':=hb105;try simp only[qa,qaD]at hb105'
   obtain⟨v106,e106,r106⟩:=y5q.g_Registers r0;refine y18q O O (y22q O e106) (y18q O O (y19q O (TR.cnt (tSl y27q.t) r106) (TR.agg (tSl y27q.t) r106)) (y18q O O (ov_bi O (y62q r106 Try.underlying24 _)) (y18q O O (y20q O O i_gtr) (rd_op (v:=vb (decide (8 < (x0.Registers.length:Int)))) (y30q O O O O) ?_))));exact y29q (y3q O (y0q O (y0q O (y0q O (y0q O (y0q O (y25q _))))))) k
  ·intro k;refine y12q O O (y12q O O (y12q O O (y12q O O (rd_op (v:=vb true) (y30q O O O O) ?_))));exact y29q (y3q O (y0q O (y0q O (y0q O (y0q O (y0q O (y25q _))))))) k
 refine rd_op (y1q O) ?_;refine y63q (d:=34) (v:=vb (((((decide (60 < (x0.Name.length:Int)))||(decide (16 < (x0.Headers.length:Int))))||(decide (20 < (x0.Metadata.length:Int))))||(decide (8 < (x0.Registers.length:Int))))||(decide (24 < (x0.Actions.length:Int))))) ?_ ?_
 ·intro S Q r;simp only[ac4_G4,List.cons_append,List.nil_append,List.append_assoc];cases hb107:((((decide (60 < (x0.Name.length:Int)))||(decide (16 < (x0.Headers.length:Int))))||(decide (20 < (x0.Metadata.length:Int))))||(decide (8 < (x0.Registers.length:Int))))
  ·intro k;have hb107':=hb107;try simp only[qa,qaD]at hb107'
   obtain⟨v108,e108,r108⟩:=y5q.g_Actions r0;refine y18q O O (y22q O e108) (y18q O O (y19q O (TR.cnt (tSl y23q.t) r108) (TR.agg (tSl y23q.t) r108)) (y18q O O (ov_bi O (y62q r108 Try.underlying25 _)) (y18q O O (y20q O O i_gtr) (rd_op (v:=vb (decide (24 < (x0.Actions.length:Int)))) (y30q O O O O) ?_))));exact y29q (y3q O (y0q O (y0q O (y0q O (y0q O (y0q O (y25q _))))))) k
  ·intro k;refine y12q O O (y12q O O (y12q O O (y12q O O (rd_op (v:=vb true) (y30q O O O O) ?_))));exact y29q (y3q O (y0q O (y0q O (y0q O (y0q O (y0q O (y25q _))))))) k
 refine rd_op (y1q O) ?_;refine y63q (d:=40) (v:=vb ((((((decide (60 < (x0.Name.length:Int)))||(decide (16 < (x0.Headers.length:Int))))||(decide (20 < (x0.Metadata.length:Int))))||(decide (8 < (x0.Registers.length:Int))))||(decide (24 < (x0.Actions.length:Int))))||(decide (16 < (x0.Tables.length:Int))))) ?_ ?_
 ·intro S Q r;simp only[ac4_G5,List.cons_append,List.nil_append,List.append_assoc];cases hb109:(((((decide (60 < (x0.Name.length:Int)))||(decide (16 < (x0.Headers.length:Int))))||(decide (20 < (x0.Metadata.length:Int))))||(decide (8 < (x0.Registers.length:Int))))||(decide (24 < (x0.Actions.length:Int))))
  ·intro k;have hb109':=hb109;try simp only[qa,qaD]at hb109'
   obtain⟨v110,e110,r110⟩:=y5q.g_Tables r0;refine y18q O O (y22q O e110) (y18q O O (y19q O (TR.cnt (tSl y26q.t) r110) (TR.agg (tSl y26q.t) r110)) (y18q O O (ov_bi O (y62q r110 Try.underlying26 _)) (y18q O O (y20q O O i_gtr) (rd_op (v:=vb (decide (16 < (x0.Tables.length:Int)))) (y30q O O O O) ?_))));exact y29q (y3q O (y0q O (y0q O (y0q O (y0q O (y0q O (y25q _))))))) k
  ·intro k;refine y12q O O (y12q O O (y12q O O (y12q O O (rd_op (v:=vb true) (y30q O O O O) ?_))));exact y29q (y3q O (y0q O (y0q O (y0q O (y0q O (y0q O (y25q _))))))) k
 refine rd_op (y1q O) ?_;refine y63q (d:=46) (v:=vb (((((((decide (60 < (x0.Name.length:Int)))||(decide (16 < (x0.Headers.length:Int))))||(decide (20 < (x0.Metadata.length:Int))))||(decide (8 < (x0.Registers.length:Int))))||(decide (24 < (x0.Actions.length:Int))))||(decide (16 < (x0.Tables.length:Int))))||(decide (16 < (x0.States.length:Int))))) ?_ ?_
 ·intro S Q r;simp only[ac4_G6,List.cons_append,List.nil_append,List.append_assoc];cases hb111:((((((decide (60 < (x0.Name.length:Int)))||(decide (16 < (x0.Headers.length:Int))))||(decide (20 < (x0.Metadata.length:Int))))||(decide (8 < (x0.Registers.length:Int))))||(decide (24 < (x0.Actions.length:Int))))||(decide (16 < (x0.Tables.length:Int))))
  ·intro k;have hb111':=hb111;try simp only[qa,qaD]at hb111'
   obtain⟨v112,e112,r112⟩:=y5q.g_States r0;refine y18q O O (y22q O e112) (y18q O O (y19q O (TR.cnt (tSl y16q.t) r112) (TR.agg (tSl y16q.t) r112)) (y18q O O (ov_bi O (y62q r112 Try.underlying27 _)) (y18q O O (y20q O O i_gtr) (rd_op (v:=vb (decide (16 < (x0.States.length:Int)))) (y30q O O O O) ?_))));exact y29q (y3q O (y0q O (y0q O (y0q O (y0q O (y0q O (y25q _))))))) k
  ·intro k;refine y12q O O (y12q O O (y12q O O (y12q O O (rd_op (v:=vb true) (y30q O O O O) ?_))));exact y29q (y3q O (y0q O (y0q O (y0q O (y0q O (y0q O (y25q _))))))) k
 refine rd_op (y1q O) ?_;refine y63q (d:=52) (v:=vb ((((((((decide (60 < (x0.Name.length:Int)))||(decide (16 < (x0.Headers.length:Int))))||(decide (20 < (x0.Metadata.length:Int))))||(decide (8 < (x0.Registers.length:Int))))||(decide (24 < (x0.Actions.length:Int))))||(decide (16 < (x0.Tables.length:Int))))||(decide (16 < (x0.States.length:Int))))||(decide (16 < (x0.Deparser.length:Int))))) ?_ ?_
 ·intro S Q r;simp only[ac4_G7,List.cons_append,List.nil_append,List.append_assoc];cases hb113:(((((((decide (60 < (x0.Name.length:Int)))||(decide (16 < (x0.Headers.length:Int))))||(decide (20 < (x0.Metadata.length:Int))))||(decide (8 < (x0.Registers.length:Int))))||(decide (24 < (x0.Actions.length:Int))))||(decide (16 < (x0.Tables.length:Int))))||(decide (16 < (x0.States.length:Int))))
  ·intro k;have hb113':=hb113;try simp only[qa,qaD]at hb113'
   obtain⟨v114,e114,r114⟩:=y5q.g_Deparser r0;refine y18q O O (y22q O e114) (y18q O O (y19q O (TR.cnt (tSl tI) r114) (TR.agg (tSl tI) r114)) (y18q O O (ov_bi O (y62q r114 Try.underlying29 _)) (y18q O O (y20q O O i_gtr) (rd_op (v:=vb (decide (16 < (x0.Deparser.length:Int)))) (y30q O O O O) ?_))));exact y29q (y3q O (y0q O (y0q O (y0q O (y0q O (y0q O (y25q _))))))) k
  ·intro k;refine y12q O O (y12q O O (y12q O O (y12q O O (rd_op (v:=vb true) (y30q O O O O) ?_))));exact y29q (y3q O (y0q O (y0q O (y0q O (y0q O (y0q O (y25q _))))))) k
 refine rd_op (y1q O) ?_;refine y63q (d:=58) (v:=vb (((((((((decide (60 < (x0.Name.length:Int)))||(decide (16 < (x0.Headers.length:Int))))||(decide (20 < (x0.Metadata.length:Int))))||(decide (8 < (x0.Registers.length:Int))))||(decide (24 < (x0.Actions.length:Int))))||(decide (16 < (x0.Tables.length:Int))))||(decide (16 < (x0.States.length:Int))))||(decide (16 < (x0.Deparser.length:Int))))||(decide (60 < (law21_nodes x0.Control 10))))) ?_ ?_
 ·intro S Q r;simp only[ac4_G8,List.cons_append,List.nil_append,List.append_assoc];cases hb115:((((((((decide (60 < (x0.Name.length:Int)))||(decide (16 < (x0.Headers.length:Int))))||(decide (20 < (x0.Metadata.length:Int))))||(decide (8 < (x0.Registers.length:Int))))||(decide (24 < (x0.Actions.length:Int))))||(decide (16 < (x0.Tables.length:Int))))||(decide (16 < (x0.States.length:Int))))||(decide (16 < (x0.Deparser.length:Int))))
  ·intro k;have hb115':=hb115;try simp only[qa,qaD]at hb115'
   obtain⟨v116,e116,r116⟩:=y5q.g_Control r0;refine y18q O O (y22q O e116) (y18q O O (y19q O (TR.cnt (tSl y8q.t) r116) (TR.agg (tSl y8q.t) r116)) ?_);have f117:=f10_ok (x1:=10) r116 (by first|assumption|omega|(rw[wr_of V V];omega)) (by first|assumption|omega|(rw[wr_of V V];omega));refine rd_ycall O O (cv_fn O O (y15q (TR.clo (tSl y8q.t) r116) (y15q O y36q)) f117) (y18q O O (y20q O O i_gtr) (rd_op (v:=vb (decide (60 < (law21_nodes x0.Control 10)))) (y30q O O O O) ?_));exact y29q (y3q O (y0q O (y0q O (y0q O (y0q O (y0q O (y25q _))))))) k
  ·intro k;refine y12q O O (y12q O O (y12q O O (y12q O O (rd_op (v:=vb true) (y30q O O O O) ?_))));exact y29q (y3q O (y0q O (y0q O (y0q O (y0q O (y0q O (y25q _))))))) k
 refine y10q (y6q ?_);refine y24q O (λhc118=>?_) (λhc118=>?_)
 ·replace hres:=(ite_t hc118).symm.trans hres;have hc118':=hc118;try simp only[qa,qaD]at hc118'
  refine y7q (y2q (rd_op (v:=vb true) (y1q O) (y10q (y6q ?_))));subst hres;exact y35q (.tmp O .nil) (y17q O) O
 ·replace hres:=(ite_f hc118).symm.trans hres;have hc118':=hc118;try simp only[qa,qaD]at hc118'
  refine y34q (y6q (y7q (y7q (y2q (rd_op (v:=vi 0) (y1q O) (y10q (y6q (y42q ?_))))))));refine y37q ?_ (law21_TooLarge_L1_ok (x0:=x0) (v0:=v0) (r0:=r0) (hc118:=hc118) ?_ (Int.toNat ((x0.Headers.length:Int)-0)) 0 O V hres)
  ·exact((y3q O (y3q O (y31q _))))
  ·intro hres;refine px_blk (y6q (y7q (y7q (y2q (rd_op (v:=vi 0) (y1q O) (y10q (y6q (y42q ?_))))))));refine y37q ?_ (law21_TooLarge_L2_ok (x0:=x0) (v0:=v0) (r0:=r0) (hc118:=hc118) ?_ (Int.toNat ((x0.Actions.length:Int)-0)) 0 O V hres)
   ·exact((y3q O (y3q O (y31q _))))
   ·intro hres;refine px_blk (y6q (y7q (y7q (y2q (rd_op (v:=vi 0) (y1q O) (y10q (y6q (y42q ?_))))))));refine y37q ?_ (law21_TooLarge_L3_ok (x0:=x0) (v0:=v0) (r0:=r0) (hc118:=hc118) ?_ (Int.toNat ((x0.Tables.length:Int)-0)) 0 O V hres)
    ·exact((y3q O (y3q O (y31q _))))
    ·intro hres;refine px_blk (y6q (y7q (y7q (y2q (rd_op (v:=vi 0) (y1q O) (y10q (y6q (y42q ?_))))))));refine y37q ?_ (law21_TooLarge_L4_ok (x0:=x0) (v0:=v0) (r0:=r0) (hc118:=hc118) ?_ (Int.toNat ((x0.States.length:Int)-0)) 0 O V hres)
     ·exact((y3q O (y3q O (y31q _))))
     ·intro hres;refine px_blk (y6q (y7q (y2q (rd_op (v:=vb false) (y1q O) (y10q (y6q ?_))))));subst hres;exact y35q (.tmp O .nil) (y17q O) O
theorem f5_ok:FnR Try.prog 5 [] (vb law31_works):=run5
/-- cmp.isNaN[int] -/
def RF48(res:Bool)(r:PV):Prop:=r=vb res
theorem f48_ok{x0:Int}:FnR Try.prog 48 [vi x0] (vb (cmp_isNaN_int x0)):=by
 obtain⟨res,hres⟩:∃res,cmp_isNaN_int x0=res:=⟨_,O⟩;suffices H:RC Try.prog ac48 [] (QR Try.prog [(2,none)] (RF48 res)) (argE 0 [vi x0]) ⟨0,[]⟩ by
  obtain⟨r,h1,h2⟩:=fnE text48 U H;rw[hres];have h2:r=vb res:=h2;rw[<-h2];exact h1
 unfold cmp_isNaN_int at hres;unfold ac48;refine y7q (y2q (rd_op (v:=vb false) (y1q O) (y10q (y6q (y7q (y2q (rd_op (y1q O) (rd_op (y1q O) ?_))))))));refine rd_op (y20q O O i_neq) (rd_op (y1q O) (y10q (y6q ?_)));subst hres;exact y35q (.tmp O .nil) (y17q O) O
/-- cmp.Compare[int] -/
def RF35(res:Int)(r:PV):Prop:=r=vi res
theorem f35_ok{x0:Int}{x1:Int}:FnR Try.prog 35 [vi x0,vi x1] (vi (y109q x0 x1)):=by
 obtain⟨res,hres⟩:∃res,y109q x0 x1=res:=⟨_,O⟩;suffices H:RC Try.prog ac35 [] (QR Try.prog [(4,none)] (RF35 res)) (argE 0 [vi x0,vi x1]) ⟨0,[]⟩ by
  obtain⟨r,h1,h2⟩:=fnE text35 U H;rw[hres];have h2:r=vi res:=h2;rw[<-h2];exact h1
 unfold y109q at hres;unfold ac35;refine y7q (y2q (rd_op (v:=vi 0) (y1q O) (y10q (y6q (y7q (y2q (rd_op (y1q O) ?_)))))));obtain⟨y101,hw101,hres⟩:=y47q hres;have f101:=f48_ok (x0:=x0);rw[hw101]at f101;refine y52q (cv_fn O O (y15q O y36q) f101) (rd_op (y1q O) (y10q (y6q (y7q (y2q (rd_op (y1q O) ?_))))));obtain⟨y102,hw102,hres⟩:=y47q hres;have f102:=f48_ok (x0:=x1);rw[hw102]at f102;refine y52q (cv_fn O O (y15q O y36q) f102) (rd_op (y1q O) (y10q (y6q (y7q (y7q (y2q (rd_op (y1q O) (y10q ?_))))))));refine y6q ?_;refine y24q O (λhc103=>?_) (λhc103=>?_)
 ·replace hres:=(ite_t hc103).symm.trans hres;have hc103':=hc103;try simp only[qa,qaD]at hc103'
  refine y7q (y7q (y2q (rd_op (y1q O) (y10q (y6q ?_)))));refine y24q O (λhc104=>?_) (λhc104=>?_)
  ·replace hres:=(ite_t hc104).symm.trans hres;have hc104':=hc104;try simp only[qa,qaD]at hc104'
   refine y7q (y2q (rd_op (v:=vi 0) (y1q O) (y10q (y6q ?_))));subst hres;exact y35q (.tmp O .nil) (y17q O) O
  ·replace hres:=(ite_f hc104).symm.trans hres;have hc104':=hc104;try simp only[qa,qaD]at hc104'
   refine y34q (y6q (y7q (y2q (rd_op (v:=vi (-1)) (y1q O) (y10q (y6q ?_))))));subst hres;exact y35q (.tmp O .nil) (y17q O) O
 ·replace hres:=(ite_f hc103).symm.trans hres;have hc103':=hc103;try simp only[qa,qaD]at hc103'
  refine y34q (y6q (y7q (y7q (y2q (rd_op (y1q O) (y10q (y6q ?_)))))));refine y24q O (λhc105=>?_) (λhc105=>?_)
  ·replace hres:=(ite_t hc105).symm.trans hres;have hc105':=hc105;try simp only[qa,qaD]at hc105'
   refine y7q (y2q (rd_op (v:=vi 1) (y1q O) (y10q (y6q ?_))));subst hres;exact y35q (.tmp O .nil) (y17q O) O
  ·replace hres:=(ite_f hc105).symm.trans hres;have hc105':=hc105;try simp only[qa,qaD]at hc105'
   refine y34q (y6q (y7q (y7q (y2q (rd_op (y1q O) (rd_op (y1q O) (rd_op (y20q O O i_lss) (y10q ?_))))))));refine y6q ?_;refine y24q O (λhc106=>?_) (λhc106=>?_)
   ·replace hres:=(ite_t hc106).symm.trans hres;have hc106':=hc106;try simp only[qa,qaD]at hc106'
    refine y7q (y2q (rd_op (v:=vi (-1)) (y1q O) (y10q (y6q ?_))));subst hres;exact y35q (.tmp O .nil) (y17q O) O
   ·replace hres:=(ite_f hc106).symm.trans hres;have hc106':=hc106;try simp only[qa,qaD]at hc106'
    refine y34q (y6q (y7q (y7q (y2q (rd_op (y1q O) (rd_op (y1q O) (rd_op (y20q O O i_gtr) (y10q ?_))))))));refine y6q ?_;refine y24q O (λhc107=>?_) (λhc107=>?_)
    ·replace hres:=(ite_t hc107).symm.trans hres;have hc107':=hc107;try simp only[qa,qaD]at hc107'
     refine y7q (y2q (rd_op (v:=vi 1) (y1q O) (y10q (y6q ?_))));subst hres;exact y35q (.tmp O .nil) (y17q O) O
    ·replace hres:=(ite_f hc107).symm.trans hres;have hc107':=hc107;try simp only[qa,qaD]at hc107'
     refine y34q (y6q (y7q (y2q (rd_op (v:=vi 0) (y1q O) (y10q (y6q ?_))))));subst hres;exact y35q (.tmp O .nil) (y17q O) O
end Go.Proofs.Ytmonnlkagniolaa
