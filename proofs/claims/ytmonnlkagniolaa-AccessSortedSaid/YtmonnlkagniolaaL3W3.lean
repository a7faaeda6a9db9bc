/-
 The code of each function does what its plain program says.
-/
import Derived.Test.YtmonnlkagniolaaL3W2
set_option linter.all false
set_option maxRecDepth 100000
namespace Go.Proofs.Ytmonnlkagniolaa
open Go Go.Pb Go.RowKit
/-- patchbay/bitvec.valid -/
def RF53(res:Bool)(r:PV):Prop:=r=vb res
theorem bitvec_valid_L1_ok{S:List Fr}{res:Bool}{x0:List Int}{v0:PV}(r0:(tSl tI).R x0 v0){K0:Unit->Bool}
 (hK0:K0 ()=res->PX Try.prog 0 S (QR Try.prog [(2,none)] (RF53 res)) [] ⟨0,[]⟩):
 ∀(m:Nat)(x7_:Int)(hm1:m=Int.toNat ((x0.length:Int)-x7_))(hlo1:0<=x7_),bitvec_valid_L1 x0 K0 m x7_=res->RC Try.prog (.loop ac53_L1) S (QR Try.prog [(2,none)] (RF53 res)) [(7,vi x7_),(6,vi (x0.length:Int)),(5,v0)] ⟨0,[]⟩:=by
 intro m;induction m with
 |zero=>
  intro x7_ hm1 hlo1 hres;rw[bitvec_valid_L1]at hres;refine y53q ?_;unfold ac53_L1;refine y7q (y2q (rd_op (y20q O O i_lss) (y10q (y6q (y7q ?_)))));refine y24q O (λhc101=>?_) (λhc101=>?_)
  ·exfalso;try simp only[qa,qaD]at hc101
   omega
  ·have hend:=hres;have hc101':=hc101;try simp only[qa,qaD]at hc101'
   refine y93q (px_seq (y78q ?_));exact y96q ((y31q _)) (hK0 hres)
 |succ m ih=>
  intro x7_ hm1 hlo1 hres;rw[bitvec_valid_L1]at hres;refine y53q ?_;unfold ac53_L1;refine y7q (y2q (rd_op (y20q O O i_lss) (y10q (y6q (y7q ?_)))));refine y24q O (λhc102=>?_) (λhc102=>?_)
  ·have hgo:=hres;have hc102':=hc102;try simp only[qa,qaD]at hc102'
   refine y34q (y6q (y7q (y42q (y7q (y2q (rd_op (y48q O O (slI r0 V V)) (rd_op (y19q O O O) (rd_op (y1q O) ?_))))))));refine y10q (y6q (y7q (y2q (rd_op (y1q O) (rd_op (y20q O O i_lss) (rd_op (y1q O) ?_))))));refine y63q (d:=16) (v:=vb ((decide ((ix x0 x7_) < 1))||(decide (32 < (ix x0 x7_))))) ?_ ?_
   ·intro S Q r;simp only[ac53_G1,List.cons_append,List.nil_append,List.append_assoc];cases hb103:(decide ((ix x0 x7_) < 1))
    ·intro k;have hb103':=hb103;try simp only[qa,qaD]at hb103'
     refine y18q O O (y1q O) (y18q O O (y20q O O i_gtr) (rd_op (v:=vb (decide (32 < (ix x0 x7_)))) (y30q O O O O) ?_));exact y29q (y3q O (y0q O (y0q O (y0q O (y25q _))))) k
    ·intro k;refine y12q O O (y12q O O (rd_op (v:=vb true) (y30q O O O O) ?_));exact y29q (y3q O (y0q O (y0q O (y0q O (y25q _))))) k
   refine y10q (y6q ?_);refine y24q O (λhc104=>?_) (λhc104=>?_)
   ·replace hres:=(ite_t hc104).symm.trans hres;have hc104':=hc104;try simp only[qa,qaD]at hc104'
    refine y7q (y2q (rd_op (v:=vb false) (y1q O) (y10q (y6q ?_))));subst hres;exact y35q (.tmp O .nil) (y17q O) O
   ·replace hres:=(ite_f hc104).symm.trans hres;have hc104':=hc104;try simp only[qa,qaD]at hc104'
    refine y34q (y67q (y6q (y2q (rd_op (y20q O O i_add) (rd_op (y1q O) (y10q (y56q ?_)))))));have hbd:=y58q r0;have hinc:wr (x7_+1)=x7_+1:=wr_of V V;rw[hinc];refine y37q ?_ (ih (x7_+1) V V hres);exact((y3q O (y3q O (y3q O (y31q _)))))
  ·exfalso;try simp only[qa,qaD]at hc102
   omega
theorem f53_ok{x0:List Int}{v0:PV}(r0:(tSl tI).R x0 v0):FnR Try.prog 53 [v0] (vb (bitvec_valid x0)):=by
 obtain⟨res,hres⟩:∃res,bitvec_valid x0=res:=⟨_,O⟩;suffices H:RC Try.prog ac53 [] (QR Try.prog [(2,none)] (RF53 res)) (argE 0 [v0]) ⟨0,[]⟩ by
  obtain⟨r,h1,h2⟩:=fnE text53 U H;rw[hres];have h2:r=vb res:=h2;rw[<-h2];exact h1
 unfold bitvec_valid at hres;unfold ac53;refine y7q (y2q (rd_op (v:=vb false) (y1q O) (y10q (y6q (y7q (y7q (y2q (rd_op (y1q O) ?_))))))));refine rd_op (ov_bi O (y62q r0 Try.underlying29 _)) (rd_op (v:=vi 0) (y1q O) (y10q (y6q (y42q ?_))));refine y37q ?_ (bitvec_valid_L1_ok (x0:=x0) (v0:=v0) (r0:=r0) ?_ (Int.toNat ((x0.length:Int)-0)) 0 O V hres)
 ·exact((y3q O (y3q O (y3q O (y31q _)))))
 ·intro hres;refine px_blk (y6q (y7q (y2q (rd_op (v:=vb true) (y1q O) (y10q (y6q ?_))))));subst hres;exact y35q (.tmp O .nil) (y17q O) O
/-- patchbay/bitvec.Mask -/
def RF45(res:(BitVec 32))(r:PV):Prop:=r=vu32 res
theorem f45_ok{x0:Int}:FnR Try.prog 45 [vi x0] (vu32 (bitvec_Mask x0)):=by
 obtain⟨res,hres⟩:∃res,bitvec_Mask x0=res:=⟨_,O⟩;suffices H:RC Try.prog ac45 [] (QR Try.prog [(2,none)] (RF45 res)) (argE 0 [vi x0]) ⟨0,[]⟩ by
  obtain⟨r,h1,h2⟩:=fnE text45 U H;rw[hres];have h2:r=vu32 res:=h2;rw[<-h2];exact h1
 unfold bitvec_Mask at hres;unfold ac45;refine y7q (y2q (rd_op (v:=vu32 0#32) (y1q O) (y10q (y6q (y7q (y7q (y2q (rd_op (y1q O) ?_))))))));refine rd_op (v:= .fs true [vi x0]) (ov_bslice O (all_cons O all_nil)) ?_;have r101:(tSl tI).R ([x0]:List Int) (.fs true [vi x0]):=sl_fs ⟨O,trivial⟩ U;obtain⟨y102,hw102,hres⟩:=y47q hres;have f102:=f53_ok r101;rw[hw102]at f102;refine y52q (cv_fn O O (y15q (TR.clo (tSl tI) r101) y36q) f102) (rd_op (ov_not O) (y10q (y6q ?_)));refine y24q O (λhc103=>?_) (λhc103=>?_)
 ·replace hres:=(ite_t hc103).symm.trans hres;have hc103':=hc103;try simp only[qa,qaD]at hc103'
  refine y7q (y2q (rd_op (v:=vu32 0#32) (y1q O) (y10q (y6q ?_))));subst hres;exact y35q (.tmp O .nil) (y17q O) O
 ·replace hres:=(ite_f hc103).symm.trans hres;have hc103':=hc103;try simp only[qa,qaD]at hc103'
  refine y34q (y6q (y7q (y2q (rd_op (y1q O) (rd_op (y20q O O i_sub) (rd_op (y20q (a:=vu32 4294967295#32) (b:=vi (wr (32-x0))) O O (w_shr (by first|omega|exact mask_sh Z Z))) (rd_op (y1q O) (y10q ?_))))))));refine y6q ?_;subst hres;exact y35q (.tmp O .nil) (y17q O) O
/-- (patchbay/expr.Scope).field -/
def RF101(res:y14q×Bool)(r:PV):Prop:=∃c0,r= .tup [c0,vb res.2]/\y14q.t.R res.1 c0
theorem f101_ok{x0:y28q}{x1:Int}{x2:Int}{v0:PV}(r0:y28q.t.R x0 v0):∃c0,FnR Try.prog 101 [v0,vi x1,vi x2] (.tup [c0,vb ((m1_expr_Scope__field x0 x1 x2).2)])/\y14q.t.R (m1_expr_Scope__field x0 x1 x2).1 c0:=by
 obtain⟨res,hres⟩:∃res,m1_expr_Scope__field x0 x1 x2=res:=⟨_,O⟩;suffices H:RC Try.prog ac101 [] (QR Try.prog [(6,some (2,true)),(7,none)] (RF101 res)) (argE 0 [v0,vi x1,vi x2]) ⟨0,[]⟩ by
  rw[hres];obtain⟨r,h1,c0,rfl,qc0⟩:=fnE text101 U H;exact⟨c0,h1,qc0⟩
 unfold m1_expr_Scope__field at hres;unfold ac101;refine y7q (y2q (rd_op (y102q O (TR.cnt y28q.t r0)) ?_));refine y94q (x:= .agg [vs [],vi 0]) (Mem.nil ⟨0,[]⟩) O O (λi101 w101 h101 M101=>?_);refine rd_op (v:=vb false) (y1q O) (y10q (y6q (y7q (y2q ?_))));obtain⟨v103,e103,r103⟩:=y28q.g_Program r0;refine rd_op (y22q O e103) ?_;obtain⟨v104,e104,r104⟩:=y5q.g_Metadata r103;refine rd_op (y22q O e104) (rd_op (y19q O (TR.cnt (tSl y14q.t) r104) (TR.agg (tSl y14q.t) r104)) (rd_op (y1q O) (y10q (y6q (y7q (y7q (y2q (rd_op (y1q O) ?_))))))));refine rd_op (y20q O O i_neq) (y10q (y6q ?_));obtain⟨k115,hk115,hres⟩:=y47q hres;refine rc_join (F:=λb S Q=>∀(x8_115:List y14q)(u8_115:PV)(r8_115:(tSl y14q.t).R x8_115 u8_115)(hj115:Heap)(Mj115:Mem hj115 [⟨.op i101 w101 0,85,2,[.agg [vs [],vi 0]]⟩]),k115 x8_115=res->RC Try.prog b S Q [(8,u8_115),(6,.op i101 w101 0),(2,vi x2)] hj115) ?_ ?_
 ·intro x8_115 u8_115 r8_115 hj115 Mj115 hres;rw[<-hk115]at hres;refine y7q (y7q (y2q (rd_op (y1q O) (rd_op (y20q O O i_lss) (rd_op (y1q O) ?_)))));refine y63q (d:=39) (v:=vb ((decide (x2 < 0))||(decide ((x8_115.length:Int)<=x2)))) ?_ ?_
  ·intro S Q r;simp only[ac101_G2,List.cons_append,List.nil_append,List.append_assoc];cases hb116:(decide (x2 < 0))
   ·intro k;have hb116':=hb116;try simp only[qa,qaD]at hb116'
    refine y18q O O (y1q O) (y18q O O (y1q O) (y18q O O (ov_bi O (y62q r8_115 Try.underlying23 _)) (y18q O O (y20q O O i_geq) (rd_op (v:=vb (decide ((x8_115.length:Int)<=x2))) (y30q O O O O) ?_))));exact y29q (y3q O (y0q O (y0q O (y0q O (y0q O (y0q O (y25q _))))))) k
   ·intro k;refine y12q O O (y12q O O (y12q O O (y12q O O (rd_op (v:=vb true) (y30q O O O O) ?_))));exact y29q (y3q O (y0q O (y0q O (y0q O (y0q O (y0q O (y25q _))))))) k
  refine y10q (y6q ?_);refine y24q O (λhc117=>?_) (λhc117=>?_)
  ·replace hres:=(ite_t hc117).symm.trans hres;have hc117':=hc117;try simp only[qa,qaD]at hc117'
   refine y7q (y2q (rd_op (v:= .agg [vs [],vi 0]) (ov_build (cs:=[vs [],vi 0]) O O) ?_));refine y89q (k:=0) (v:= .agg [vs [],vi 0]) Mj115 O O O O (λh118 M118=>?_);replace M118:Mem h118 [⟨.op i101 w101 0,85,2,[.agg [vs [],vi 0]]⟩]:=M118;refine rd_op (v:=vb false) (y1q O) (y10q (y6q ?_));subst hres;exact y35q (.cell O (load_whole (k:=0) M118 O O) (.tmp O .nil)) (y17q (show closed (.tup _)=true from(y15q (TR.clo y14q.t (show y14q.t.R ({Name:=([]:List UInt8),Width:=0}:y14q) (.agg [vs [],vi 0]) from O)) (y15q O y36q)))) ⟨.agg [vs [],vi 0],O,O⟩
  ·replace hres:=(ite_f hc117).symm.trans hres;have hc117':=hc117;try simp only[qa,qaD]at hc117'
   refine y34q (y6q (y7q (y2q (rd_op (y1q O) (rd_op (y1q O) ?_)))));obtain⟨v119,e119,r119⟩:=y106q (i:=x2) r8_115 V V;refine rd_op (y48q O O e119) (rd_op (y19q O (TR.cnt y14q.t r119) (TR.agg y14q.t r119)) ?_);refine y89q (k:=0) (v:=v119) Mj115 O O O (TR.cnt y14q.t r119) (λh120 M120=>?_);replace M120:Mem h120 [⟨.op i101 w101 0,85,2,[v119]⟩]:=M120;refine rd_op (v:=vb true) (y1q O) (y10q (y6q ?_));subst hres;exact y35q (.cell O (load_whole (k:=0) M120 O (TR.agg y14q.t r119)) (.tmp O .nil)) (y17q (show closed (.tup _)=true from(y15q (TR.clo y14q.t r119) (y15q O y36q)))) ⟨v119,O,r119⟩
 ·intro J;refine y24q O (λhc121=>?_) (λhc121=>?_)
  ·replace hres:=(ite_t hc121).symm.trans hres;have hc121':=hc121;try simp only[qa,qaD]at hc121'
   refine y7q (y7q (y2q (rd_op (y1q O) (rd_op (y20q O O i_lss) (rd_op (y1q O) ?_)))));refine y63q (d:=23) (v:=vb ((decide (x1 < 0))||(decide ((x0.Program.Headers.length:Int)<=x1)))) ?_ ?_
   ·intro S Q r;simp only[ac101_G1,List.cons_append,List.nil_append,List.append_assoc];cases hb122:(decide (x1 < 0))
    ·intro k;have hb122':=hb122;try simp only[qa,qaD]at hb122'
     refine y18q O O (y1q O) ?_;obtain⟨v123,e123,r123⟩:=y28q.g_Program r0;refine y18q O O (y22q O e123) ?_;obtain⟨v124,e124,r124⟩:=y5q.g_Headers r123;refine y18q O O (y22q O e124) (y18q O O (y19q O (TR.cnt (tSl y21q.t) r124) (TR.agg (tSl y21q.t) r124)) (y18q O O (ov_bi O (y62q r124 Try.underlying22 _)) (y18q O O (y20q O O i_geq) (rd_op (v:=vb (decide ((x0.Program.Headers.length:Int)<=x1))) (y30q O O O O) ?_))));exact y29q (y3q O (y0q O (y0q O (y0q O (y0q O (y0q O (y0q O (y0q O (y25q _))))))))) k
    ·intro k;refine y12q O O (y12q O O (y12q O O (y12q O O (y12q O O (y12q O O (rd_op (v:=vb true) (y30q O O O O) ?_))))));exact y29q (y3q O (y0q O (y0q O (y0q O (y0q O (y0q O (y0q O (y0q O (y25q _))))))))) k
   refine y10q (y6q ?_);refine y24q O (λhc125=>?_) (λhc125=>?_)
   ·replace hres:=(ite_t hc125).symm.trans hres;have hc125':=hc125;try simp only[qa,qaD]at hc125'
    refine y7q (y2q (rd_op (v:= .agg [vs [],vi 0]) (ov_build (cs:=[vs [],vi 0]) O O) ?_));refine y89q (k:=0) (v:= .agg [vs [],vi 0]) M101 O O O O (λh126 M126=>?_);replace M126:Mem h126 [⟨.op i101 w101 0,85,2,[.agg [vs [],vi 0]]⟩]:=M126;refine rd_op (v:=vb false) (y1q O) (y10q (y6q ?_));subst hres;exact y35q (.cell O (load_whole (k:=0) M126 O O) (.tmp O .nil)) (y17q (show closed (.tup _)=true from(y15q (TR.clo y14q.t (show y14q.t.R ({Name:=([]:List UInt8),Width:=0}:y14q) (.agg [vs [],vi 0]) from O)) (y15q O y36q)))) ⟨.agg [vs [],vi 0],O,O⟩
   ·replace hres:=(ite_f hc125).symm.trans hres;have hc125':=hc125;try simp only[qa,qaD]at hc125'
    refine y34q (y6q (y2q ?_));obtain⟨v127,e127,r127⟩:=y28q.g_Program r0;refine rd_op (y22q O e127) ?_;obtain⟨v128,e128,r128⟩:=y5q.g_Headers r127;refine rd_op (y22q O e128) (rd_op (y19q O (TR.cnt (tSl y21q.t) r128) (TR.agg (tSl y21q.t) r128)) (rd_op (y1q O) ?_));obtain⟨v129,e129,r129⟩:=y106q (i:=x1) r128 V V;refine rd_op (y48q O O e129) ?_;obtain⟨v130,e130,r130⟩:=y21q.g_Fields r129;refine rd_op (y22q O e130) (rd_op (y19q O (TR.cnt (tSl y14q.t) r130) (TR.agg (tSl y14q.t) r130)) (rd_op (y1q O) (y10q ?_)));refine y6q (y37q ((y3q O (y3q O (y3q O (y31q _))))) (J _ _ r130 _ (Mem.sub M101 (.cons_cons _ .slnil)) hres))
  ·replace hres:=(ite_f hc121).symm.trans hres;have hc121':=hc121;try simp only[qa,qaD]at hc121'
   refine y34q ?_;refine y6q (y37q ((y3q O (y3q O (y3q O (y31q _))))) (J _ _ r104 _ (Mem.sub M101 (.cons_cons _ .slnil)) hres))
/-- (patchbay/expr.Scope).primary -/
def RF98(res:Int×Int)(r:PV):Prop:=r= .tup [vi res.1,vi res.2]
theorem f98_ok{x0:y28q}{x1:y11q}{v0:PV}{v1:PV}(r0:y28q.t.R x0 v0)(r1:y11q.t.R x1 v1):FnR Try.prog 98 [v0,v1] (.tup [vi ((y100q x0 x1).1),vi ((y100q x0 x1).2)]):=by
 obtain⟨res,hres⟩:∃res,y100q x0 x1=res:=⟨_,O⟩;suffices H:RC Try.prog ac98 [] (QR Try.prog [(4,none),(5,none)] (RF98 res)) (argE 0 [v0,v1]) ⟨0,[]⟩ by
  obtain⟨r,h1,h2⟩:=fnE text98 U H;rw[hres];have h2:r= .tup [vi res.1,vi res.2]:=h2;rw[<-h2];exact h1
 unfold y100q at hres;unfold ac98;refine y7q (y2q (rd_op (y102q O (TR.cnt y28q.t r0)) (rd_op (y102q O (TR.cnt y11q.t r1)) (rd_op (v:=vi 0) (y1q O) (rd_op (v:=vi 0) (y1q O) (y10q (y6q (y7q ?_))))))));refine y7q (y2q (rd_op (y22q O (y11q.g_Op r1)) (rd_op (y19q O O O) (y10q (y6q (y42q (y7q (y2q ?_))))))));refine rd_op (y20q O O i_eql) (rd_op (y1q O) (y10q (y6q ?_)));refine y24q O (λhc101=>?_) (λhc101=>?_)
 ·replace hres:=(ite_t hc101).symm.trans hres;have hc101':=hc101;try simp only[qa,qaD]at hc101'
  refine y7q (y2q (rd_op (y22q O (y11q.g_W r1)) (rd_op (y19q O O O) ?_)));obtain⟨y102,hw102,hres⟩:=y47q hres;have f102:=f100_ok (x0:=x1.W);rw[hw102]at f102;refine y52q (cv_fn O O (y15q O y36q) f102) (rd_op (y1q O) (rd_op (y45q O O) (rd_op (y45q O O) (rd_op (y1q O) (rd_op (y1q O) (y10q (y6q (y7q ?_))))))));refine y7q (y2q (rd_op (y1q O) (rd_op (y20q O O i_eql) (rd_op (y1q O) ?_))));refine y63q (d:=34) (v:=vb ((decide (y102.2=0))&&((decide (x1.N < 0))||(decide (((bitvec_Mask y102.1).toNat:Int) < x1.N))))) ?_ ?_
  ·intro S Q r;simp only[ac98_G1,List.cons_append,List.nil_append,List.append_assoc];cases hb103:(decide (y102.2=0))
   ·intro k;simp only[ac98_G2,List.cons_append,List.nil_append,List.append_assoc];refine y12q O O (y12q O O (y12q O O (y12q O O (rd_skipU O (rd_skipU O (rd_skipU O (rd_skipU O (rd_skipU O ?_))))))));refine rd_skipU O (y12q O O (rd_op (v:=vb false) (y30q O O O O) ?_));exact y29q (y3q O (y0q O (y0q O (y0q O (y0q O (y0q O (y0q O (y0q O (y0q O (y0q O (y0q O (y0q O (y0q O (y25q _)))))))))))))) k
   ·intro k;have hb103':=hb103;try simp only[qa,qaD]at hb103'
    refine y18q O O (y22q O (y11q.g_N r1)) (y18q O O (y19q O O O) (y18q O O (y20q O O i_lss) (y18q O O (y1q O) ?_)));refine y63q (d:=33) (v:=vb ((decide (x1.N < 0))||(decide (((bitvec_Mask y102.1).toNat:Int) < x1.N)))) ?_ ?_
    ·intro S Q r;simp only[ac98_G2,List.cons_append,List.nil_append,List.append_assoc];cases hb104:(decide (x1.N < 0))
     ·intro k;have hb104':=hb104;try simp only[qa,qaD]at hb104'
      refine y18q O O (y22q O (y11q.g_N r1)) (y18q O O (y19q O O O) (y18q O O (y1q O) ?_));have f105:=f45_ok (x0:=y102.1);refine rd_ycall O O (cv_fn O O (y15q O y36q) f105) (y18q O O (ov_conv (a:=vu32 (bitvec_Mask y102.1)) O (c_wi Try.underlying108 Try.underlying3)) (y18q O O (y20q O O i_gtr) (y18q (v:=vb (decide (((bitvec_Mask y102.1).toNat:Int) < x1.N))) O O (y30q O O O O) ?_)));exact y29q (y3q O (y0q O (y0q O (y0q O (y0q O (y0q O (y0q O (y0q O (y25q _))))))))) k
     ·intro k;refine y12q O O (y12q O O (y12q O O (y12q O O (y12q O O (y12q O O (y18q (v:=vb true) O O (y30q O O O O) ?_))))));exact y29q (y3q O (y0q O (y0q O (y0q O (y0q O (y0q O (y0q O (y0q O (y25q _))))))))) k
    refine rd_op (v:=vb ((decide (x1.N < 0))||(decide (((bitvec_Mask y102.1).toNat:Int) < x1.N)))) (y30q O O O O) ?_;exact y29q (y3q O (y0q O (y0q O (y0q O (y0q O (y0q O (y0q O (y25q _)))))))) k
  refine y10q (y6q ?_);refine y24q O (λhc106=>?_) (λhc106=>?_)
  ·replace hres:=(ite_t hc106).symm.trans hres;have hc106':=hc106;try simp only[qa,qaD]at hc106'
   refine y7q (y2q (rd_op (v:=vi 0) (y1q O) (rd_op (v:=vi 9) (y1q O) (y10q (y6q ?_)))));subst hres;exact y35q (.tmp O (.tmp O .nil)) (y17q (show closed (.tup _)=true from(y15q O (y15q O y36q)))) O
  ·replace hres:=(ite_f hc106).symm.trans hres;have hc106':=hc106;try simp only[qa,qaD]at hc106'
   refine y34q (y6q (y7q (y2q (rd_op (y1q O) (rd_op (y1q O) (rd_op (y1q O) (rd_op (y1q O) (y10q ?_))))))));refine y6q ?_;subst hres;exact y35q (.tmp O (.tmp O .nil)) (y17q (show closed (.tup _)=true from(y15q O (y15q O y36q)))) O
 ·replace hres:=(ite_f hc101).symm.trans hres;have hc101':=hc101;try simp only[qa,qaD]at hc101'
  refine y7q (y2q (rd_op (y20q O O i_eql) (rd_op (y1q O) (y10q (y6q ?_)))));refine y24q O (λhc107=>?_) (λhc107=>?_)
  ·replace hres:=(ite_t hc107).symm.trans hres;have hc107':=hc107;try simp only[qa,qaD]at hc107'
   refine y7q (y2q (rd_op (y19q O (TR.cnt y28q.t r0) (TR.agg y28q.t r0)) (rd_op (y22q O (y11q.g_N r1)) (rd_op (y19q O O O) (rd_op (y22q O (y11q.g_W r1)) (rd_op (y19q O O O) ?_))))));obtain⟨y108,hw108,hres⟩:=y47q hres;obtain⟨v109,f108,r109⟩:=f101_ok (x1:=x1.N) (x2:=x1.W) r0;rw[hw108]at f108 r109;refine y52q (cv_fn O O (y15q (TR.clo y28q.t r0) (y15q O (y15q O y36q))) f108) (rd_op (y1q O) (rd_op (y45q O O) (rd_op (y45q O O) ?_)));refine y94q (x:= .agg [vs [],vi 0]) (Mem.nil ⟨0,[]⟩) O O (λi110 w110 h110 M110=>?_);refine y89q (k:=0) (v:=v109) M110 O O O (TR.cnt y14q.t r109) (λh112 M112=>?_);replace M112:Mem h112 [⟨.op i110 w110 0,85,2,[v109]⟩]:=M112;refine rd_op (y1q O) (y10q (y6q (y7q (y7q (y2q (rd_op (y1q O) (rd_op (ov_not O) (y10q ?_))))))));refine y6q ?_;refine y24q O (λhc113=>?_) (λhc113=>?_)
   ·replace hres:=(ite_t hc113).symm.trans hres;have hc113':=hc113;try simp only[qa,qaD]at hc113'
    refine y7q (y2q (rd_op (v:=vi 0) (y1q O) (rd_op (v:=vi 8) (y1q O) (y10q (y6q ?_)))));subst hres;exact y35q (.tmp O (.tmp O .nil)) (y17q (show closed (.tup _)=true from(y15q O (y15q O y36q)))) O
   ·replace hres:=(ite_f hc113).symm.trans hres;have hc113':=hc113;try simp only[qa,qaD]at hc113'
    refine y34q (y6q (y7q (y2q (rd_op (y33q O) (rd_op (y43q (k:=0) M112 O O (y14q.g_Width r109)) ?_)))));obtain⟨y114,hw114,hres⟩:=y47q hres;have f114:=f100_ok (x0:=y108.1.Width);rw[hw114]at f114;refine y52q (cv_fn O O (y15q O y36q) f114) (rd_op (y45q O O) (rd_op (y45q O O) (rd_op (y1q O) (rd_op (y1q O) (y10q (y6q ?_))))));subst hres;exact y35q (.tmp O (.tmp O .nil)) (y17q (show closed (.tup _)=true from(y15q O (y15q O y36q)))) O
  ·replace hres:=(ite_f hc107).symm.trans hres;have hc107':=hc107;try simp only[qa,qaD]at hc107'
   refine y7q (y2q (rd_op (y20q O O i_eql) (rd_op (y1q O) (y10q (y6q ?_)))));refine y24q O (λhc115=>?_) (λhc115=>?_)
   ·replace hres:=(ite_t hc115).symm.trans hres;have hc115':=hc115;try simp only[qa,qaD]at hc115'
    refine y7q (y7q (y2q (rd_op (y22q O (y11q.g_N r1)) (rd_op (y19q O O O) (rd_op (y20q O O i_lss) (rd_op (y1q O) ?_))))));refine y63q (d:=67) (v:=vb ((decide (x1.N < 0))||(decide ((x0.Params.length:Int)<=x1.N)))) ?_ ?_
    ·intro S Q r;simp only[ac98_G3,List.cons_append,List.nil_append,List.append_assoc];cases hb116:(decide (x1.N < 0))
     ·intro k;have hb116':=hb116;try simp only[qa,qaD]at hb116'
      refine y18q O O (y22q O (y11q.g_N r1)) (y18q O O (y19q O O O) ?_);obtain⟨v117,e117,r117⟩:=y28q.g_Params r0;refine y18q O O (y22q O e117) (y18q O O (y19q O (TR.cnt (tSl y14q.t) r117) (TR.agg (tSl y14q.t) r117)) (y18q O O (ov_bi O (y62q r117 Try.underlying23 _)) (y18q O O (y20q O O i_geq) (rd_op (v:=vb (decide ((x0.Params.length:Int)<=x1.N))) (y30q O O O O) ?_))));exact y29q (y3q O (y0q O (y0q O (y0q O (y0q O (y0q O (y0q O (y0q O (y25q _))))))))) k
     ·intro k;refine y12q O O (y12q O O (y12q O O (y12q O O (y12q O O (y12q O O (rd_op (v:=vb true) (y30q O O O O) ?_))))));exact y29q (y3q O (y0q O (y0q O (y0q O (y0q O (y0q O (y0q O (y0q O (y25q _))))))))) k
    refine y10q (y6q ?_);refine y24q O (λhc118=>?_) (λhc118=>?_)
    ·replace hres:=(ite_t hc118).symm.trans hres;have hc118':=hc118;try simp only[qa,qaD]at hc118'
     refine y7q (y2q (rd_op (v:=vi 0) (y1q O) (rd_op (v:=vi 8) (y1q O) (y10q (y6q ?_)))));subst hres;exact y35q (.tmp O (.tmp O .nil)) (y17q (show closed (.tup _)=true from(y15q O (y15q O y36q)))) O
    ·replace hres:=(ite_f hc118).symm.trans hres;have hc118':=hc118;try simp only[qa,qaD]at hc118'
     refine y34q (y6q (y7q (y2q ?_)));obtain⟨v119,e119,r119⟩:=y28q.g_Params r0;refine rd_op (y22q O e119) (rd_op (y19q O (TR.cnt (tSl y14q.t) r119) (TR.agg (tSl y14q.t) r119)) (rd_op (y22q O (y11q.g_N r1)) (rd_op (y19q O O O) ?_)));obtain⟨v120,e120,r120⟩:=y106q (i:=x1.N) r119 V V;refine rd_op (y48q O O e120) (rd_op (y22q O (y14q.g_Width r120)) (rd_op (y19q O O O) ?_));obtain⟨y121,hw121,hres⟩:=y47q hres;have f121:=f100_ok (x0:=(ix x0.Params x1.N).Width);rw[hw121]at f121;refine y52q (cv_fn O O (y15q O y36q) f121) (rd_op (y45q O O) (rd_op (y45q O O) (rd_op (y1q O) (rd_op (y1q O) (y10q (y6q ?_))))));subst hres;exact y35q (.tmp O (.tmp O .nil)) (y17q (show closed (.tup _)=true from(y15q O (y15q O y36q)))) O
   ·replace hres:=(ite_f hc115).symm.trans hres;have hc115':=hc115;try simp only[qa,qaD]at hc115'
    refine y34q (y67q (y6q (y7q (y7q (y2q (rd_op (y22q O (y11q.g_N r1)) (rd_op (y19q O O O) (rd_op (y20q O O i_lss) ?_))))))));refine rd_op (y1q O) ?_;refine y63q (d:=89) (v:=vb ((decide (x1.N < 0))||(decide ((x0.Program.Headers.length:Int)<=x1.N)))) ?_ ?_
    ·intro S Q r;simp only[ac98_G4,List.cons_append,List.nil_append,List.append_assoc];cases hb122:(decide (x1.N < 0))
     ·intro k;have hb122':=hb122;try simp only[qa,qaD]at hb122'
      refine y18q O O (y22q O (y11q.g_N r1)) (y18q O O (y19q O O O) ?_);obtain⟨v123,e123,r123⟩:=y28q.g_Program r0;refine y18q O O (y22q O e123) ?_;obtain⟨v124,e124,r124⟩:=y5q.g_Headers r123;refine y18q O O (y22q O e124) (y18q O O (y19q O (TR.cnt (tSl y21q.t) r124) (TR.agg (tSl y21q.t) r124)) (y18q O O (ov_bi O (y62q r124 Try.underlying22 _)) (y18q O O (y20q O O i_geq) (rd_op (v:=vb (decide ((x0.Program.Headers.length:Int)<=x1.N))) (y30q O O O O) ?_))));exact y29q (y3q O (y0q O (y0q O (y0q O (y0q O (y0q O (y0q O (y0q O (y0q O (y25q _)))))))))) k
     ·intro k;refine y12q O O (y12q O O (y12q O O (y12q O O (y12q O O (y12q O O (y12q O O (rd_op (v:=vb true) (y30q O O O O) ?_)))))));exact y29q (y3q O (y0q O (y0q O (y0q O (y0q O (y0q O (y0q O (y0q O (y0q O (y25q _)))))))))) k
    refine y10q (y6q ?_);refine y24q O (λhc125=>?_) (λhc125=>?_)
    ·replace hres:=(ite_t hc125).symm.trans hres;have hc125':=hc125;try simp only[qa,qaD]at hc125'
     refine y7q (y2q (rd_op (v:=vi 0) (y1q O) (rd_op (v:=vi 8) (y1q O) (y10q (y6q ?_)))));subst hres;exact y35q (.tmp O (.tmp O .nil)) (y17q (show closed (.tup _)=true from(y15q O (y15q O y36q)))) O
    ·replace hres:=(ite_f hc125).symm.trans hres;have hc125':=hc125;try simp only[qa,qaD]at hc125'
     refine y34q (y6q (y7q (y2q (rd_op (v:=vi 1) (y1q O) (rd_op (v:=vi 0) (y1q O) (y10q (y6q ?_)))))));subst hres;exact y35q (.tmp O (.tmp O .nil)) (y17q (show closed (.tup _)=true from(y15q O (y15q O y36q)))) O
/-- patchbay/expr.combine -/
def RF99(res:Int×Int)(r:PV):Prop:=r= .tup [vi res.1,vi res.2]
theorem f99_ok{x0:y11q}{x1:List Int}{v0:PV}{v1:PV}(r0:y11q.t.R x0 v0)(r1:(tAr 3 tI).R x1 v1):FnR Try.prog 99 [v0,v1] (.tup [vi ((expr_combine x0 x1).1),vi ((expr_combine x0 x1).2)]):=by
 obtain⟨res,hres⟩:∃res,expr_combine x0 x1=res:=⟨_,O⟩;suffices H:RC Try.prog ac99 [] (QR Try.prog [(4,none),(5,none)] (RF99 res)) (argE 0 [v0,v1]) ⟨0,[]⟩ by
  obtain⟨r,h1,h2⟩:=fnE text99 U H;rw[hres];have h2:r= .tup [vi res.1,vi res.2]:=h2;rw[<-h2];exact h1
 unfold expr_combine at hres;unfold ac99;refine y7q (y2q (rd_op (y102q O (TR.cnt y11q.t r0)) (rd_op (y102q O (TR.cnt (tAr 3 tI) r1)) (rd_op (v:=vi 0) (y1q O) (rd_op (v:=vi 0) (y1q O) (y10q (y6q (y7q ?_))))))));refine y7q (y2q (rd_op (y22q O (y11q.g_Op r0)) (rd_op (y19q O O O) (y10q (y6q (y42q (y7q (y7q ?_))))))));refine y2q (rd_op (y20q O O i_eql) (rd_op (y1q O) (y10q (y6q ?_))));obtain⟨k102,hk102,hres⟩:=y47q hres;refine rc_join (F:=λb S Q=>∀(x10_102:Bool),k102 x10_102=res->RC Try.prog b S Q [(10,vb x10_102),(9,vi x0.Op),(3,.fp v1),(2,.fp v0)] ⟨0,[]⟩) ?_ ?_
 ·intro x10_102 hres;rw[<-hk102]at hres;refine y24q O (λhc103=>?_) (λhc103=>?_)
  ·replace hres:=(ite_t hc103).symm.trans hres;have hc103':=hc103;try simp only[qa,qaD]at hc103'
   refine y7q (y2q (rd_op (y22q O (y11q.g_N r0)) (rd_op (y19q O O O) (rd_op (y20q O O i_lss) (rd_op (y1q O) ?_)))));refine y63q (d:=20) (v:=vb ((decide (x0.N < 0))||(decide (31 < x0.N)))) ?_ ?_
   ·intro S Q r;simp only[ac99_G1,List.cons_append,List.nil_append,List.append_assoc];cases hb104:(decide (x0.N < 0))
    ·intro k;have hb104':=hb104;try simp only[qa,qaD]at hb104'
     refine y18q O O (y22q O (y11q.g_N r0)) (y18q O O (y19q O O O) (y18q O O (y20q O O i_gtr) (rd_op (v:=vb (decide (31 < x0.N))) (y30q O O O O) ?_)));exact y29q (y3q O (y0q O (y0q O (y0q O (y0q O (y25q _)))))) k
    ·intro k;refine y12q O O (y12q O O (y12q O O (rd_op (v:=vb true) (y30q O O O O) ?_)));exact y29q (y3q O (y0q O (y0q O (y0q O (y0q O (y25q _)))))) k
   refine y10q (y6q ?_);refine y24q O (λhc105=>?_) (λhc105=>?_)
   ·replace hres:=(ite_t hc105).symm.trans hres;have hc105':=hc105;try simp only[qa,qaD]at hc105'
    refine y7q (y2q (rd_op (v:=vi 0) (y1q O) (rd_op (v:=vi 9) (y1q O) (y10q (y6q ?_)))));subst hres;exact y35q (.tmp O (.tmp O .nil)) (y17q (show closed (.tup _)=true from(y15q O (y15q O y36q)))) O
   ·replace hres:=(ite_f hc105).symm.trans hres;have hc105':=hc105;try simp only[qa,qaD]at hc105'
    refine y34q (y67q (y6q (y7q (y7q (y2q (rd_op (y22q O (y11q.g_Op r0)) (rd_op (y19q O O O) ?_)))))));obtain⟨y106,hw106,hres⟩:=y47q hres;have f106:=f97_ok (x0:=x0.Op);rw[hw106]at f106;refine y52q (cv_fn O O (y15q O y36q) f106) (rd_op (y20q O O i_eql) (rd_op (y1q O) ?_));refine y63q (d:=80) (v:=vb ((decide (y106=2))&&(!decide ((ix x1 0)=(ix x1 1))))) ?_ ?_
    ·intro S Q r;simp only[ac99_G4,List.cons_append,List.nil_append,List.append_assoc];cases hb107:(decide (y106=2))
     ·intro k;refine y12q O O (y12q O O (y12q O O (y12q O O (y12q O O (rd_op (v:=vb false) (y30q O O O O) ?_)))));exact y29q (y3q O (y0q O (y0q O (y0q O (y0q O (y0q O (y0q O (y25q _)))))))) k
     ·intro k;have hb107':=hb107;try simp only[qa,qaD]at hb107'
      obtain⟨v108,e108,r108⟩:=arr_addr (t:=tI) r1 (i:=0) V V;have r108:v108=vi (ix x1 0):=r108;subst r108;refine y18q O O (ov_iaddrA O O e108) (y18q O O (y19q O O O) ?_);obtain⟨v109,e109,r109⟩:=arr_addr (t:=tI) r1 (i:=1) V V;have r109:v109=vi (ix x1 1):=r109;subst r109;refine y18q O O (ov_iaddrA O O e109) (y18q O O (y19q O O O) (y18q O O (y20q O O i_neq) (rd_op (v:=vb (!decide ((ix x1 0)=(ix x1 1)))) (y30q O O O O) ?_)));exact y29q (y3q O (y0q O (y0q O (y0q O (y0q O (y0q O (y0q O (y25q _)))))))) k
    refine y10q (y6q ?_);refine y24q O (λhc110=>?_) (λhc110=>?_)
    ·replace hres:=(ite_t hc110).symm.trans hres;have hc110':=hc110;try simp only[qa,qaD]at hc110'
     refine y7q (y2q (rd_op (v:=vi 0) (y1q O) (rd_op (v:=vi 10) (y1q O) (y10q (y6q ?_)))));subst hres;exact y35q (.tmp O (.tmp O .nil)) (y17q (show closed (.tup _)=true from(y15q O (y15q O y36q)))) O
    ·replace hres:=(ite_f hc110).symm.trans hres;have hc110':=hc110;try simp only[qa,qaD]at hc110'
     refine y34q (y6q (y7q (y7q (y2q (rd_op (y22q O (y11q.g_Op r0)) (rd_op (y19q O O O) (rd_op (y20q O O i_eql) (rd_op (y1q O) ?_))))))));refine y63q (d:=88) (v:=vb ((decide (x0.Op=15))||(decide (x0.Op=16)))) ?_ ?_
     ·intro S Q r;simp only[ac99_G5,List.cons_append,List.nil_append,List.append_assoc];cases hb111:(decide (x0.Op=15))
      ·intro k;have hb111':=hb111;try simp only[qa,qaD]at hb111'
       refine y18q O O (y22q O (y11q.g_Op r0)) (y18q O O (y19q O O O) (y18q O O (y20q O O i_eql) (rd_op (v:=vb (decide (x0.Op=16))) (y30q O O O O) ?_)));exact y29q (y3q O (y0q O (y0q O (y0q O (y0q O (y25q _)))))) k
      ·intro k;refine y12q O O (y12q O O (y12q O O (rd_op (v:=vb true) (y30q O O O O) ?_)));exact y29q (y3q O (y0q O (y0q O (y0q O (y0q O (y25q _)))))) k
     refine y10q (y6q ?_);refine y24q O (λhc112=>?_) (λhc112=>?_)
     ·replace hres:=(ite_t hc112).symm.trans hres;have hc112':=hc112;try simp only[qa,qaD]at hc112'
      refine y7q (y2q (rd_op (v:=vi 1) (y1q O) (rd_op (v:=vi 0) (y1q O) (y10q (y6q ?_)))));subst hres;exact y35q (.tmp O (.tmp O .nil)) (y17q (show closed (.tup _)=true from(y15q O (y15q O y36q)))) O
     ·replace hres:=(ite_f hc112).symm.trans hres;have hc112':=hc112;try simp only[qa,qaD]at hc112'
      refine y34q (y6q (y7q (y2q ?_)));obtain⟨v113,e113,r113⟩:=arr_addr (t:=tI) r1 (i:=0) V V;have r113:v113=vi (ix x1 0):=r113;subst r113;refine rd_op (ov_iaddrA O O e113) (rd_op (y19q O O O) (rd_op (y1q O) (rd_op (v:=vi 0) (y1q O) (y10q (y6q ?_)))));subst hres;exact y35q (.tmp O (.tmp O .nil)) (y17q (show closed (.tup _)=true from(y15q O (y15q O y36q)))) O
  ·replace hres:=(ite_f hc103).symm.trans hres;have hc103':=hc103;try simp only[qa,qaD]at hc103'
   refine y7q (y2q (rd_op (y20q O O i_eql) (rd_op (y1q O) (y10q (y6q ?_)))));refine y24q O (λhc114=>?_) (λhc114=>?_)
   ·replace hres:=(ite_t hc114).symm.trans hres;have hc114':=hc114;try simp only[qa,qaD]at hc114'
    refine y7q (y7q (y2q (rd_op (y22q O (y11q.g_N r0)) (rd_op (y19q O O O) (rd_op (y20q O O i_lss) (y10q (y6q ?_)))))));refine y24q O (λhc115=>?_) (λhc115=>?_)
    ·replace hres:=(ite_t hc115).symm.trans hres;have hc115':=hc115;try simp only[qa,qaD]at hc115'
     refine y7q (y2q (rd_op (v:=vi 0) (y1q O) (rd_op (v:=vi 9) (y1q O) (y10q (y6q ?_)))));subst hres;exact y35q (.tmp O (.tmp O .nil)) (y17q (show closed (.tup _)=true from(y15q O (y15q O y36q)))) O
    ·replace hres:=(ite_f hc115).symm.trans hres;have hc115':=hc115;try simp only[qa,qaD]at hc115'
     refine y34q (y6q (y7q (y7q (y2q (rd_op (y22q O (y11q.g_W r0)) (rd_op (y19q O O O) ?_))))));obtain⟨y116,hw116,hres⟩:=y47q hres;have f116:=f100_ok (x0:=x0.W);rw[hw116]at f116;refine y52q (cv_fn O O (y15q O y36q) f116) (rd_op (y1q O) (rd_op (y45q O O) (rd_op (y45q O O) (rd_op (y1q O) (rd_op (y1q O) (y10q (y6q (y7q ?_))))))));refine y2q (rd_op (y1q O) (rd_op (y20q O O i_neq) (rd_op (y1q O) ?_)));refine y63q (d:=43) (v:=vb ((!decide (y116.2=0))||(decide ((wr ((ix x1 0)-x0.W)) < x0.N)))) ?_ ?_
     ·intro S Q r;simp only[ac99_G2,List.cons_append,List.nil_append,List.append_assoc];cases hb117:(!decide (y116.2=0))
      ·intro k;have hb117':=hb117;try simp only[qa,qaD]at hb117'
       refine y18q O O (y22q O (y11q.g_N r0)) (y18q O O (y19q O O O) ?_);obtain⟨v118,e118,r118⟩:=arr_addr (t:=tI) r1 (i:=0) V V;have r118:v118=vi (ix x1 0):=r118;subst r118;refine y18q O O (ov_iaddrA O O e118) (y18q O O (y19q O O O) (y18q O O (y22q O (y11q.g_W r0)) (y18q O O (y19q O O O) (y18q O O (y20q O O i_sub) (y18q O O (y20q O O i_gtr) (rd_op (v:=vb (decide ((wr ((ix x1 0)-x0.W)) < x0.N))) (y30q O O O O) ?_))))));exact y29q (y3q O (y0q O (y0q O (y0q O (y0q O (y0q O (y0q O (y0q O (y0q O (y0q O (y25q _))))))))))) k
      ·intro k;refine y12q O O (y12q O O (y12q O O (y12q O O (y12q O O (y12q O O (y12q O O (y12q O O (rd_op (v:=vb true) (y30q O O O O) ?_))))))));exact y29q (y3q O (y0q O (y0q O (y0q O (y0q O (y0q O (y0q O (y0q O (y0q O (y0q O (y25q _))))))))))) k
     refine y10q (y6q ?_);refine y24q O (λhc119=>?_) (λhc119=>?_)
     ·replace hres:=(ite_t hc119).symm.trans hres;have hc119':=hc119;try simp only[qa,qaD]at hc119'
      refine y7q (y2q (rd_op (v:=vi 0) (y1q O) (rd_op (v:=vi 10) (y1q O) (y10q (y6q ?_)))));subst hres;exact y35q (.tmp O (.tmp O .nil)) (y17q (show closed (.tup _)=true from(y15q O (y15q O y36q)))) O
     ·replace hres:=(ite_f hc119).symm.trans hres;have hc119':=hc119;try simp only[qa,qaD]at hc119'
      refine y34q (y6q (y7q (y2q (rd_op (y22q O (y11q.g_W r0)) (rd_op (y19q O O O) (rd_op (y1q O) (rd_op (v:=vi 0) (y1q O) (y10q ?_))))))));refine y6q ?_;subst hres;exact y35q (.tmp O (.tmp O .nil)) (y17q (show closed (.tup _)=true from(y15q O (y15q O y36q)))) O
   ·replace hres:=(ite_f hc114).symm.trans hres;have hc114':=hc114;try simp only[qa,qaD]at hc114'
    refine y7q (y2q (rd_op (y20q O O i_eql) (rd_op (y1q O) (y10q (y6q ?_)))));refine y24q O (λhc120=>?_) (λhc120=>?_)
    ·replace hres:=(ite_t hc120).symm.trans hres;have hc120':=hc120;try simp only[qa,qaD]at hc120'
     refine y7q (y2q ?_);obtain⟨v121,e121,r121⟩:=arr_addr (t:=tI) r1 (i:=0) V V;have r121:v121=vi (ix x1 0):=r121;subst r121;refine rd_op (ov_iaddrA O O e121) (rd_op (y19q O O O) ?_);obtain⟨v122,e122,r122⟩:=arr_addr (t:=tI) r1 (i:=1) V V;have r122:v122=vi (ix x1 1):=r122;subst r122;refine rd_op (ov_iaddrA O O e122) (rd_op (y19q O O O) (rd_op (y20q O O i_add) ?_));obtain⟨y123,hw123,hres⟩:=y47q hres;have f123:=f100_ok (x0:=(wr ((ix x1 0)+(ix x1 1))));rw[hw123]at f123;refine y52q (cv_fn O O (y15q O y36q) f123) (rd_op (y45q O O) (rd_op (y45q O O) (rd_op (y1q O) (rd_op (y1q O) (y10q (y6q ?_))))));subst hres;exact y35q (.tmp O (.tmp O .nil)) (y17q (show closed (.tup _)=true from(y15q O (y15q O y36q)))) O
    ·replace hres:=(ite_f hc120).symm.trans hres;have hc120':=hc120;try simp only[qa,qaD]at hc120'
     refine y7q (y2q (rd_op (y20q O O i_eql) (rd_op (y1q O) (y10q (y6q ?_)))));refine y24q O (λhc124=>?_) (λhc124=>?_)
     ·replace hres:=(ite_t hc124).symm.trans hres;have hc124':=hc124;try simp only[qa,qaD]at hc124'
      refine y7q (y7q (y2q ?_));obtain⟨v125,e125,r125⟩:=arr_addr (t:=tI) r1 (i:=0) V V;have r125:v125=vi (ix x1 0):=r125;subst r125;refine rd_op (ov_iaddrA O O e125) (rd_op (y19q O O O) (rd_op (y20q O O i_neq) (rd_op (y1q O) ?_)));refine y63q (d:=67) (v:=vb ((!decide ((ix x1 0)=1))||(!decide ((ix x1 1)=(ix x1 2))))) ?_ ?_
      ·intro S Q r;simp only[ac99_G3,List.cons_append,List.nil_append,List.append_assoc];cases hb126:(!decide ((ix x1 0)=1))
       ·intro k;have hb126':=hb126;try simp only[qa,qaD]at hb126'
        obtain⟨v127,e127,r127⟩:=arr_addr (t:=tI) r1 (i:=1) V V;have r127:v127=vi (ix x1 1):=r127;subst r127;refine y18q O O (ov_iaddrA O O e127) (y18q O O (y19q O O O) ?_);obtain⟨v128,e128,r128⟩:=arr_addr (t:=tI) r1 (i:=2) V V;have r128:v128=vi (ix x1 2):=r128;subst r128;refine y18q O O (ov_iaddrA O O e128) (y18q O O (y19q O O O) (y18q O O (y20q O O i_neq) (rd_op (v:=vb (!decide ((ix x1 1)=(ix x1 2)))) (y30q O O O O) ?_)));exact y29q (y3q O (y0q O (y0q O (y0q O (y0q O (y0q O (y0q O (y25q _)))))))) k
       ·intro k;refine y12q O O (y12q O O (y12q O O (y12q O O (y12q O O (rd_op (v:=vb true) (y30q O O O O) ?_)))));exact y29q (y3q O (y0q O (y0q O (y0q O (y0q O (y0q O (y0q O (y25q _)))))))) k
      refine y10q (y6q ?_);refine y24q O (λhc129=>?_) (λhc129=>?_)
      ·replace hres:=(ite_t hc129).symm.trans hres;have hc129':=hc129;try simp only[qa,qaD]at hc129'
       refine y7q (y2q (rd_op (v:=vi 0) (y1q O) (rd_op (v:=vi 10) (y1q O) (y10q (y6q ?_)))));subst hres;exact y35q (.tmp O (.tmp O .nil)) (y17q (show closed (.tup _)=true from(y15q O (y15q O y36q)))) O
      ·replace hres:=(ite_f hc129).symm.trans hres;have hc129':=hc129;try simp only[qa,qaD]at hc129'
       refine y34q (y6q (y7q (y2q ?_)));obtain⟨v130,e130,r130⟩:=arr_addr (t:=tI) r1 (i:=1) V V;have r130:v130=vi (ix x1 1):=r130;subst r130;refine rd_op (ov_iaddrA O O e130) (rd_op (y19q O O O) (rd_op (y1q O) (rd_op (v:=vi 0) (y1q O) (y10q (y6q ?_)))));subst hres;exact y35q (.tmp O (.tmp O .nil)) (y17q (show closed (.tup _)=true from(y15q O (y15q O y36q)))) O
     ·replace hres:=(ite_f hc124).symm.trans hres;have hc124':=hc124;try simp only[qa,qaD]at hc124'
      refine y34q (y67q (y6q (y7q (y7q (y2q (rd_op (y22q O (y11q.g_Op r0)) (rd_op (y19q O O O) ?_)))))));obtain⟨y131,hw131,hres⟩:=y47q hres;have f131:=f97_ok (x0:=x0.Op);rw[hw131]at f131;refine y52q (cv_fn O O (y15q O y36q) f131) (rd_op (y20q O O i_eql) (rd_op (y1q O) ?_));refine y63q (d:=80) (v:=vb ((decide (y131=2))&&(!decide ((ix x1 0)=(ix x1 1))))) ?_ ?_
      ·intro S Q r;simp only[ac99_G4,List.cons_append,List.nil_append,List.append_assoc];cases hb132:(decide (y131=2))
       ·intro k;refine y12q O O (y12q O O (y12q O O (y12q O O (y12q O O (rd_op (v:=vb false) (y30q O O O O) ?_)))));exact y29q (y3q O (y0q O (y0q O (y0q O (y0q O (y0q O (y0q O (y25q _)))))))) k
       ·intro k;have hb132':=hb132;try simp only[qa,qaD]at hb132'
        obtain⟨v133,e133,r133⟩:=arr_addr (t:=tI) r1 (i:=0) V V;have r133:v133=vi (ix x1 0):=r133;subst r133;refine y18q O O (ov_iaddrA O O e133) (y18q O O (y19q O O O) ?_);obtain⟨v134,e134,r134⟩:=arr_addr (t:=tI) r1 (i:=1) V V;have r134:v134=vi (ix x1 1):=r134;subst r134;refine y18q O O (ov_iaddrA O O e134) (y18q O O (y19q O O O) (y18q O O (y20q O O i_neq) (rd_op (v:=vb (!decide ((ix x1 0)=(ix x1 1)))) (y30q O O O O) ?_)));exact y29q (y3q O (y0q O (y0q O (y0q O (y0q O (y0q O (y0q O (y25q _)))))))) k
      refine y10q (y6q ?_);refine y24q O (λhc135=>?_) (λhc135=>?_)
      ·replace hres:=(ite_t hc135).symm.trans hres;have hc135':=hc135;try simp only[qa,qaD]at hc135'
       refine y7q (y2q (rd_op (v:=vi 0) (y1q O) (rd_op (v:=vi 10) (y1q O) (y10q (y6q ?_)))));subst hres;exact y35q (.tmp O (.tmp O .nil)) (y17q (show closed (.tup _)=true from(y15q O (y15q O y36q)))) O
      ·replace hres:=(ite_f hc135).symm.trans hres;have hc135':=hc135;try simp only[qa,qaD]at hc135'
       refine y34q (y6q (y7q (y7q (y2q (rd_op (y22q O (y11q.g_Op r0)) (rd_op (y19q O O O) (rd_op (y20q O O i_eql) (rd_op (y1q O) ?_))))))));refine y63q (d:=88) (v:=vb ((decide (x0.Op=15))||(decide (x0.Op=16)))) ?_ ?_
       ·intro S Q r;simp only[ac99_G5,List.cons_append,List.nil_append,List.append_assoc];cases hb136:(decide (x0.Op=15))
        ·intro k;have hb136':=hb136;try simp only[qa,qaD]at hb136'
         refine y18q O O (y22q O (y11q.g_Op r0)) (y18q O O (y19q O O O) (y18q O O (y20q O O i_eql) (rd_op (v:=vb (decide (x0.Op=16))) (y30q O O O O) ?_)));exact y29q (y3q O (y0q O (y0q O (y0q O (y0q O (y25q _)))))) k
        ·intro k;refine y12q O O (y12q O O (y12q O O (rd_op (v:=vb true) (y30q O O O O) ?_)));exact y29q (y3q O (y0q O (y0q O (y0q O (y0q O (y25q _)))))) k
       refine y10q (y6q ?_);refine y24q O (λhc137=>?_) (λhc137=>?_)
       ·replace hres:=(ite_t hc137).symm.trans hres;have hc137':=hc137;try simp only[qa,qaD]at hc137'
        refine y7q (y2q (rd_op (v:=vi 1) (y1q O) (rd_op (v:=vi 0) (y1q O) (y10q (y6q ?_)))));subst hres;exact y35q (.tmp O (.tmp O .nil)) (y17q (show closed (.tup _)=true from(y15q O (y15q O y36q)))) O
       ·replace hres:=(ite_f hc137).symm.trans hres;have hc137':=hc137;try simp only[qa,qaD]at hc137'
        refine y34q (y6q (y7q (y2q ?_)));obtain⟨v138,e138,r138⟩:=arr_addr (t:=tI) r1 (i:=0) V V;have r138:v138=vi (ix x1 0):=r138;subst r138;refine rd_op (ov_iaddrA O O e138) (rd_op (y19q O O O) (rd_op (y1q O) (rd_op (v:=vi 0) (y1q O) (y10q (y6q ?_)))));subst hres;exact y35q (.tmp O (.tmp O .nil)) (y17q (show closed (.tup _)=true from(y15q O (y15q O y36q)))) O
 ·intro J;refine y24q O (λhc139=>?_) (λhc139=>?_)
  ·replace hres:=(ite_t hc139).symm.trans hres;have hc139':=hc139;try simp only[qa,qaD]at hc139'
   refine y34q ?_;refine y6q (y37q ((y3q O (y3q O (y3q O (y3q O (y31q _)))))) (J _ hres))
  ·replace hres:=(ite_f hc139).symm.trans hres;have hc139':=hc139;try simp only[qa,qaD]at hc139'
   refine y2q (rd_op (y20q O O i_eql) (rd_op (y1q O) (y10q ?_)));refine y6q (y37q ((y3q O (y3q O (y3q O (y3q O (y31q _)))))) (J _ hres))
/-- (patchbay/expr.Scope).check -/
def RF96(res:Int×Int×Int)(r:PV):Prop:=r= .tup [vi res.1,vi res.2.1,vi res.2.2]
theorem m1_expr_Scope__check_L1_ok{S:List Fr}{res:Int×Int×Int}{x0:y28q}{x1:List y11q}{x2:Int}{rec_:y28q->(List y11q)->Int->(Int×Int×Int)}{mu_:Nat}{y103:Int}{v0:PV}{v1:PV}{i108:Nat}{w108:Nat}(r0:y28q.t.R x0 v0)(r1:(tSl y11q.t).R x1 v1)(h0:0<=x2)(hb:x1.length<=1000000)(ihR:∀{z0:y28q}{z1:List y11q}{z2:Int}{zv0:PV}{zv1:PV}(zr0:y28q.t.R z0 zv0)(zr1:(tSl y11q.t).R z1 zv1)(h0:0<=z2)(hb:z1.length<=1000000),(z1.length-z2.toNat) < mu_->FnR Try.prog 96 [zv0,zv1,vi z2] (.tup [vi ((rec_ z0 z1 z2).1),vi ((rec_ z0 z1 z2).2.1),vi ((rec_ z0 z1 z2).2.2)]))(hmu:mu_=(x1.length-x2.toNat))(hrec:∀(z0:y28q)(z1:List y11q)(z2:Int),0<=z2->z1.length<=1000000->(rec_ z0 z1 z2).2.2=0->z2 < (rec_ z0 z1 z2).2.1)(hc101:(decide ((x1.length:Int)<=x2))=false)(hw103:y84q ((ix x1 x2).Op)=y103)(hc104:(decide (y103 < 0))=false)(hc105:(decide (y103=0))=false){K1:Int->(List Int)->(Int×Int×Int)}
 (hK1:∀(x7_:Int)(zE109:List Int)(uE109:PV)(qE109:(tAr 3 tI).R zE109 uE109)(h:Heap)(M0:Mem h [⟨.op i108 w108 0,169,3,[uE109]⟩]),K1 x7_ zE109=res->PX Try.prog 1 S (QR Try.prog [(6,none),(7,none),(8,none)] (RF96 res)) [(1,v1),(2,vi x2),(7,vi x7_),(10,.op i108 w108 0)] h):
 ∀(m:Nat)(x7_:Int)(x44_:Int)(zE109:List Int)(uE109:PV)(qE109:(tAr 3 tI).R zE109 uE109)(hm1:m=Int.toNat (y103-x44_))(hlo1:0<=x44_)(iv1_0:x2 < x7_)(h:Heap)(M0:Mem h [⟨.op i108 w108 0,169,3,[uE109]⟩]),y44q x0 x1 rec_ K1 m x7_ x44_ zE109=res->RC Try.prog (.loop ac96_L1) S (QR Try.prog [(6,none),(7,none),(8,none)] (RF96 res)) [(44,vi x44_),(43,vi y103),(10,.op i108 w108 0),(7,vi x7_),(3,.fp v0),(2,vi x2),(1,v1)] h:=by
 have hb':=hb;try simp only[qa,qaD]at hb'
 have hc101':=hc101;try simp only[qa,qaD]at hc101'
 have hc104':=hc104;try simp only[qa,qaD]at hc104'
 have hc105':=hc105;try simp only[qa,qaD]at hc105'
 intro m;induction m with
 |zero=>
  intro x7_ x44_ zE109 uE109 qE109 hm1 hlo1 iv1_0 h M0 hres;rw[y44q]at hres;refine y53q ?_;unfold ac96_L1;refine y7q (y2q (rd_op (y20q O O i_lss) (y10q (y6q (y7q ?_)))));refine y24q O (λhc110=>?_) (λhc110=>?_)
  ·exfalso;try simp only[qa,qaD]at hc110
   omega
  ·have hend:=hres;have hc110':=hc110;try simp only[qa,qaD]at hc110'
   refine y93q (px_seq (y78q ?_));exact y96q ((y3q O (y3q O (y3q O (y3q O (y31q _)))))) (hK1 x7_ zE109 uE109 (show(tAr 3 tI).R zE109 uE109 from qE109) _ (Mem.sub M0 (.cons_cons _ .slnil)) hres)
 |succ m ih=>
  intro x7_ x44_ zE109 uE109 qE109 hm1 hlo1 iv1_0 h M0 hres;rw[y44q]at hres;refine y53q ?_;unfold ac96_L1;refine y7q (y2q (rd_op (y20q O O i_lss) (y10q (y6q (y7q ?_)))));refine y24q O (λhc111=>?_) (λhc111=>?_)
  ·have hgo:=hres;have hc111':=hc111;try simp only[qa,qaD]at hc111'
   refine y34q (y6q (y7q (y42q (y7q (y2q (rd_op (y1q O) (rd_op (y1q O) (y10q ?_))))))));refine y6q (y7q (y2q (rd_op (y1q O) (rd_op (y19q O (TR.cnt y28q.t r0) (TR.agg y28q.t r0)) (rd_op (y1q O) (rd_op (y1q O) ?_))))));obtain⟨y112,hw112,hres⟩:=y47q hres;have f112:=ihR (z0:=x0) (z1:=x1) (z2:=x7_) r0 r1 (by first|assumption|omega|(rw[wr_of V V];omega)) (by first|assumption|omega|(rw[wr_of V V];omega)) (by first|omega|(rw[wr_of V V];omega));rw[hw112]at f112;have ek112:y112.2.2=0->x7_ < y112.2.1:=by rw[<-hw112];exact hrec _ _ _ V V
   refine y52q (cv_fn O O (y15q (TR.clo y28q.t r0) (y15q (TR.clo (tSl y11q.t) r1) (y15q O y36q))) f112) (rd_op (y1q O) (rd_op (y45q O O) (rd_op (y45q O O) (rd_op (y45q O O) ?_))));have h0_113:0<=x44_:=by first|omega|(have hk:=ar Z;omega)
   have h1_113:x44_ < 3:=by first|omega|(have hk:=ar Z;omega)
   refine rd_op (ov_iaddrAO O O h0_113 h1_113) ?_;obtain⟨cs114,ec114,ln114,sr114⟩:=arr_store (t:=tI) (i:=x44_) qE109 h0_113 h1_113 (show tI.R y112.1 (vi y112.1) from O) O;refine rd_storeFA (k:=0) (v:=vi y112.1) M0 O O O ec114 O ln114.1 ln114.2 (λh114 M114=>?_);replace M114:Mem h114 [⟨.op i108 w108 0,169,3,[.agg (spl cs114 (x44_.toNat*1) [vi y112.1])]⟩]:=M114;refine rd_op (y1q O) (rd_op (y1q O) (y10q (y6q (y7q (y2q (rd_op (y1q O) (rd_op (y20q O O i_neq) (y10q ?_))))))));refine y6q ?_;refine y24q O (λhc115=>?_) (λhc115=>?_)
   ·replace hres:=(ite_t hc115).symm.trans hres;have hc115':=hc115;try simp only[qa,qaD]at hc115'
    refine y7q (y2q (rd_op (y1q O) (rd_op (v:=vi 0) (y1q O) (rd_op (v:=vi 0) (y1q O) (rd_op (y1q O) (y10q (y6q ?_)))))));subst hres;exact y35q (.tmp O (.tmp O (.tmp O .nil))) (y17q (show closed (.tup _)=true from(y15q O (y15q O (y15q O y36q))))) O
   ·replace hres:=(ite_f hc115).symm.trans hres;have hc115':=hc115;try simp only[qa,qaD]at hc115'
    refine y34q (y67q (y6q (y2q (rd_op (y20q O O i_add) (rd_op (y1q O) (y10q (y56q ?_)))))));have hinc:wr (x44_+1)=x44_+1:=wr_of V (by first|omega|(have hk:=ar Z;omega));rw[hinc];refine y37q ?_ (ih y112.2.1 (x44_+1) (zE109.set x44_.toNat y112.1) (.agg (spl cs114 (x44_.toNat*1) [vi y112.1])) (show(tAr 3 tI).R (zE109.set x44_.toNat y112.1) (.agg (spl cs114 (x44_.toNat*1) [vi y112.1])) from sr114) V V (by first|omega|(simp;done)|(simp only[List.length_append,List.length_cons,List.length_nil,List.length_set];omega)) _ (Mem.sub M114 (.cons_cons _ .slnil)) hres);exact((y3q O (y3q O (y3q O (y3q O (y3q O (y3q O (y3q O (y31q _)))))))))
  ·exfalso;try simp only[qa,qaD]at hc111
   omega
theorem f96_okB{rec_:y28q->(List y11q)->Int->(Int×Int×Int)}{mu_:Nat}{x0:y28q}{x1:List y11q}{x2:Int}{v0:PV}{v1:PV}(r0:y28q.t.R x0 v0)(r1:(tSl y11q.t).R x1 v1)(h0:0<=x2)(hb:x1.length<=1000000)(hmu:mu_=(x1.length-x2.toNat))(hrec:∀(z0:y28q)(z1:List y11q)(z2:Int),0<=z2->z1.length<=1000000->(rec_ z0 z1 z2).2.2=0->z2 < (rec_ z0 z1 z2).2.1)(ihR:∀{z0:y28q}{z1:List y11q}{z2:Int}{zv0:PV}{zv1:PV}(zr0:y28q.t.R z0 zv0)(zr1:(tSl y11q.t).R z1 zv1)(h0:0<=z2)(hb:z1.length<=1000000),(z1.length-z2.toNat) < mu_->FnR Try.prog 96 [zv0,zv1,vi z2] (.tup [vi ((rec_ z0 z1 z2).1),vi ((rec_ z0 z1 z2).2.1),vi ((rec_ z0 z1 z2).2.2)])):FnR Try.prog 96 [v0,v1,vi x2] (.tup [vi ((y51q rec_ x0 x1 x2).1),vi ((y51q rec_ x0 x1 x2).2.1),vi ((y51q rec_ x0 x1 x2).2.2)]):=by
 obtain⟨res,hres⟩:∃res,y51q rec_ x0 x1 x2=res:=⟨_,O⟩;suffices H:RC Try.prog ac96 [] (QR Try.prog [(6,none),(7,none),(8,none)] (RF96 res)) (argE 0 [v0,v1,vi x2]) ⟨0,[]⟩ by
  obtain⟨r,h1,h2⟩:=fnE text96 U H;rw[hres];have h2:r= .tup [vi res.1,vi res.2.1,vi res.2.2]:=h2;rw[<-h2];exact h1
 unfold y51q at hres;unfold ac96;refine y7q (y2q (rd_op (y102q O (TR.cnt y28q.t r0)) (rd_op (v:=vi 0) (y1q O) (rd_op (v:=vi 0) (y1q O) (rd_op (v:=vi 0) (y1q O) (y10q (y6q (y7q ?_))))))));refine y7q (y2q (rd_op (y1q O) (rd_op (y1q O) (rd_op (ov_bi O (y62q r1 Try.underlying32 _)) (rd_op (y20q O O i_geq) (y10q (y6q ?_)))))));refine y24q O (λhc101=>?_) (λhc101=>?_)
 ·replace hres:=(ite_t hc101).symm.trans hres;have hc101':=hc101;try simp only[qa,qaD]at hc101'
  refine y7q (y2q (rd_op (v:=vi 0) (y1q O) (rd_op (v:=vi 0) (y1q O) (rd_op (v:=vi 3) (y1q O) (y10q (y6q ?_))))));subst hres;exact y35q (.tmp O (.tmp O (.tmp O .nil))) (y17q (show closed (.tup _)=true from(y15q O (y15q O (y15q O y36q))))) O
 ·replace hres:=(ite_f hc101).symm.trans hres;have hc101':=hc101;try simp only[qa,qaD]at hc101'
  refine y34q (y6q (y7q (y2q (rd_op (y1q O) (rd_op (y1q O) ?_)))));obtain⟨v102,e102,r102⟩:=y106q (i:=x2) r1 V V;refine rd_op (y48q O O e102) (rd_op (y22q O (y11q.g_Op r102)) (rd_op (y19q O O O) ?_));obtain⟨y103,hw103,hres⟩:=y47q hres;have f103:=f97_ok (x0:=(ix x1 x2).Op);rw[hw103]at f103;refine y52q (cv_fn O O (y15q O y36q) f103) (rd_op (y1q O) (y10q (y6q (y7q (y42q (y7q (y2q (rd_op (y1q O) ?_))))))));refine rd_op (y20q O O i_lss) (rd_op (y1q O) (y10q (y6q ?_)));refine y24q O (λhc104=>?_) (λhc104=>?_)
  ·replace hres:=(ite_t hc104).symm.trans hres;have hc104':=hc104;try simp only[qa,qaD]at hc104'
   refine y7q (y2q (rd_op (v:=vi 0) (y1q O) (rd_op (v:=vi 0) (y1q O) (rd_op (v:=vi 11) (y1q O) (y10q (y6q ?_))))));subst hres;exact y35q (.tmp O (.tmp O (.tmp O .nil))) (y17q (show closed (.tup _)=true from(y15q O (y15q O (y15q O y36q))))) O
  ·replace hres:=(ite_f hc104).symm.trans hres;have hc104':=hc104;try simp only[qa,qaD]at hc104'
   refine y7q (y2q (rd_op (y1q O) (rd_op (y20q O O i_eql) (rd_op (y1q O) (y10q (y6q ?_))))));refine y24q O (λhc105=>?_) (λhc105=>?_)
   ·replace hres:=(ite_t hc105).symm.trans hres;have hc105':=hc105;try simp only[qa,qaD]at hc105'
    refine y7q (y2q (rd_op (y19q O (TR.cnt y28q.t r0) (TR.agg y28q.t r0)) (rd_op (y1q O) (rd_op (y1q O) ?_))));obtain⟨v106,e106,r106⟩:=y106q (i:=x2) r1 V V;refine rd_op (y48q O O e106) (rd_op (y19q O (TR.cnt y11q.t r106) (TR.agg y11q.t r106)) ?_);obtain⟨y107,hw107,hres⟩:=y47q hres;have f107:=f98_ok r0 r106;rw[hw107]at f107;refine y52q (cv_fn O O (y15q (TR.clo y28q.t r0) (y15q (TR.clo y11q.t r106) y36q)) f107) (rd_op (y1q O) (rd_op (y45q O O) (rd_op (y45q O O) (rd_op (y1q O) (rd_op (y1q O) (y10q (y6q (y7q ?_))))))));refine y2q (rd_op (y1q O) (rd_op (y1q O) (rd_op (y20q O O i_add) (rd_op (y1q O) (rd_op (y1q O) (rd_op (y1q O) (rd_op (y1q O) (y10q ?_))))))));refine y6q ?_;subst hres;exact y35q (.tmp O (.tmp O (.tmp O .nil))) (y17q (show closed (.tup _)=true from(y15q O (y15q O (y15q O y36q))))) O
   ·replace hres:=(ite_f hc105).symm.trans hres;have hc105':=hc105;try simp only[qa,qaD]at hc105'
    refine y34q (y67q (y6q (y7q (y2q ?_))));refine y94q (x:= .agg [vi 0,vi 0,vi 0]) (Mem.nil ⟨0,[]⟩) O O (λi108 w108 h108 M108=>?_);refine y10q (y6q (y7q (y2q (rd_op (y1q O) (rd_op (y20q O O i_add) (rd_op (y1q O) (y10q (y6q ?_))))))));refine y7q (y7q (y2q (rd_op (y1q O) (rd_op (v:=vi 0) (y1q O) (y10q (y6q (y42q ?_)))))));refine y37q ?_ (m1_expr_Scope__check_L1_ok (x0:=x0) (x1:=x1) (x2:=x2) (rec_:=rec_) (mu_:=mu_) (y103:=y103) (v0:=v0) (v1:=v1) (i108:=i108) (w108:=w108) (r0:=r0) (r1:=r1) (h0:=h0) (hb:=hb) (ihR:=ihR) (hmu:=hmu) (hrec:=hrec) (hc101:=hc101) (hw103:=hw103) (hc104:=hc104) (hc105:=hc105) ?_ (Int.toNat (y103-0)) (wr (x2+1)) 0 ([0,0,0]:List Int) (.agg [vi 0,vi 0,vi 0]) (show(tAr 3 tI).R ([0,0,0]:List Int) (.agg [vi 0,vi 0,vi 0]) from⟨O,[vi 0,vi 0,vi 0],[vi 0,vi 0,vi 0],⟨O,⟨O,⟨O,trivial⟩⟩⟩,O,O⟩) O V (by(rw[wr_of V V];omega)) _ (Mem.sub M108 (.cons_cons _ .slnil)) hres)
    ·exact((y3q O (y3q O (y3q O (y3q O (y3q O (y3q O (y3q O (y31q _)))))))))
    ·intro x7_116 zE109_116 u116E109 q116E109 h116 M116 hres;refine px_blk (y6q (y7q (y2q (rd_op (y1q O) (rd_op (y1q O) ?_)))));obtain⟨v117,e117,r117⟩:=y106q (i:=x2) r1 V V;refine rd_op (y48q O O e117) (rd_op (y19q O (TR.cnt y11q.t r117) (TR.agg y11q.t r117)) (rd_op (ov_load0 (k:=0) M116 O O (TR.agg (tAr 3 tI) q116E109)) ?_));obtain⟨y118,hw118,hres⟩:=y47q hres;have f118:=f99_ok r117 q116E109;rw[hw118]at f118;refine y52q (cv_fn O O (y15q (TR.clo y11q.t r117) (y15q (TR.clo (tAr 3 tI) q116E109) y36q)) f118) (rd_op (y1q O) (rd_op (y45q O O) (rd_op (y45q O O) (rd_op (y1q O) (rd_op (y1q O) (y10q (y6q (y7q ?_))))))));refine y2q (rd_op (y1q O) (rd_op (y1q O) (rd_op (y1q O) (rd_op (y1q O) (rd_op (y1q O) (rd_op (y1q O) (y10q (y6q ?_))))))));subst hres;exact y35q (.tmp O (.tmp O (.tmp O .nil))) (y17q (show closed (.tup _)=true from(y15q O (y15q O (y15q O y36q))))) O
theorem f96_okR:∀(n_:Nat){x0:y28q}{x1:List y11q}{x2:Int}{v0:PV}{v1:PV}(r0:y28q.t.R x0 v0)(r1:(tSl y11q.t).R x1 v1)(h0:0<=x2)(hb:x1.length<=1000000),(x1.length-x2.toNat) < n_->FnR Try.prog 96 [v0,v1,vi x2] (.tup [vi ((y46q n_ x0 x1 x2).1),vi ((y46q n_ x0 x1 x2).2.1),vi ((y46q n_ x0 x1 x2).2.2)]):=by
 intro n_;induction n_ with
 |zero=>intros;rename_i hlt;exact absurd hlt (Nat.not_lt_zero _)
 |succ n_ ihn=>
  intro x0 x1 x2 v0 v1 r0 r1 h0 hb hlt;have e_:y46q (n_+1) x0 x1 x2=y51q (y46q n_) x0 x1 x2:=by rw[y46q]
  rw[e_];exact f96_okB r0 r1 h0 hb O (check_next n_) (λ{z0}{z1}{z2}{zv0}{zv1} zr0 zr1 h0 hb hz=>ihn zr0 zr1 h0 hb V)
theorem f96_ok{x0:y28q}{x1:List y11q}{x2:Int}{v0:PV}{v1:PV}(r0:y28q.t.R x0 v0)(r1:(tSl y11q.t).R x1 v1)(h0:0<=x2)(hb:x1.length<=1000000):FnR Try.prog 96 [v0,v1,vi x2] (.tup [vi ((y38q x0 x1 x2).1),vi ((y38q x0 x1 x2).2.1),vi ((y38q x0 x1 x2).2.2)]):=f96_okR _ r0 r1 h0 hb (Nat.lt_succ_self _)
end Go.Proofs.Ytmonnlkagniolaa
