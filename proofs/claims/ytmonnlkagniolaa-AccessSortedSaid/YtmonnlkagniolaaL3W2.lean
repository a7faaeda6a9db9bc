/-
 The code of each function does what its plain program says.
-/
import Derived.Test.YtmonnlkagniolaaL3W1
set_option linter.all false
set_option maxRecDepth 100000
namespace Go.Proofs.Ytmonnlkagniolaa
open Go Go.Pb Go.RowKit
/-- (*patchbay/access.collector).sorted -/
def RF23(i0_ w0_:Nat)(R_:List Ent)(res:(List Int))(r:PV)(h:Heap):Prop:=∃asR0_:PV,∃esR0_:List PV,Mem h (⟨asR0_,3,1,esR0_⟩::R_)/\(All2 tI.R res esR0_)/\(isL asR0_=true)/\(res.length<=4611686018427387904)/\(Wri asR0_ esR0_)/\r=asR0_
theorem f23_ok{x0:y9q}{u0_H:PV}{u0_M:PV}{u0_R:PV}{u0_A:PV}{u0_T:PV}{u0_S:PV}{u0_C:PV}{u0_D:PV}{a0__8:PV}{es0__8:List PV}{R_:List Ent}{h_:Heap}{i0_ w0_:Nat}(ru0_H:(tSl y21q.t).R x0.p.Headers u0_H)(ru0_M:(tSl y14q.t).R x0.p.Metadata u0_M)(ru0_R:(tSl y27q.t).R x0.p.Registers u0_R)(ru0_A:(tSl y23q.t).R x0.p.Actions u0_A)(ru0_T:(tSl y26q.t).R x0.p.Tables u0_T)(ru0_S:(tSl y16q.t).R x0.p.States u0_S)(ru0_C:(tSl y8q.t).R x0.p.Control u0_C)(ru0_D:(tSl tI).R x0.p.Deparser u0_D)(qs0__8:All2 tI.R x0.cells es0__8)(ne0__8:isL a0__8=true)(hl0__8:x0.cells.length<=4611686018427387904)(wi0__9:Wri a0__8 es0__8)(M_:Mem h_ (⟨.op i0_ w0_ 0,70,10,[.agg [vs x0.p.Name,u0_H,u0_M,u0_R,u0_A,u0_T,u0_S,u0_C,u0_D,a0__8]]⟩::⟨a0__8,3,1,es0__8⟩::R_))(hb:x0.cells.length<=1000000):∃r h2_,FnX Try.prog 23 [.op i0_ w0_ 0] h_ r h2_/\RF23 i0_ w0_ R_ (y68q x0) r h2_:=by
 obtain⟨res,hres⟩:∃res,y68q x0=res:=⟨_,O⟩;suffices H:RC Try.prog ac23 [] (retPost Try.prog [(2,none)] (RF23 i0_ w0_ R_ res)) (argE 0 [.op i0_ w0_ 0]) h_ by
  rw[hres];exact fnX text23 U H
 unfold y68q at hres;unfold ac23;refine y7q (y2q (rd_op (v:=nilS) (y1q O) (y10q (y6q (y7q (y75q (y39q (rd_op (y1q O) ?_))))))));refine y40q (y39q (rd_op (y97q O O) (y40q (y39q (rd_op (y33q O) (y40q (y39q (rd_op (y43q (k:=0) M_ O O (mk1 (y82q (k:=1) M_ O ne0__8).2)) ?_))))))));refine y40q ?_;have M101:Mem h_ (⟨a0__8,3,1,es0__8⟩::⟨.op i0_ w0_ 0,70,10,[.agg [vs x0.p.Name,u0_H,u0_M,u0_R,u0_A,u0_T,u0_S,u0_C,u0_D,a0__8]]⟩::R_):=(Mem.front (k:=1) M_ O);obtain⟨y101,hw101,hres⟩:=y47q hres;obtain⟨vr101,h102,hX101,hZ101⟩:=f37_ok (x0:=x0.cells) qs0__8 ne0__8 hl0__8 wi0__9 M101 (by first|assumption|omega|(rw[wr_of V V];omega));rw[hw101]at hZ101;obtain⟨es101_p0,M102,qs101_p0,hs101_p0,wi101_p0,hr101⟩:=hZ101;replace hr101:=hr101.symm;subst hr101;refine y86q O O hX101 (rs_nil (y6q (y7q (y75q (y39q (rd_op (y1q O) (y40q (y39q ?_))))))));refine rd_op (y97q O O) (y40q (y39q (rd_op (y33q O) (y40q (y39q (rd_op (y43q (k:=1) M102 O O (mk1 (y82q (k:=0) M102 O ne0__8).2)) (y40q ?_)))))));have M103:Mem h102 (⟨a0__8,3,1,es101_p0⟩::⟨.op i0_ w0_ 0,70,10,[.agg [vs x0.p.Name,u0_H,u0_M,u0_R,u0_A,u0_T,u0_S,u0_C,u0_D,a0__8]]⟩::R_):=(Mem.front (k:=0) M102 O);obtain⟨y103,hw103,hres⟩:=y47q hres;obtain⟨vr103,h105,hX103,hZ103⟩:=f38_ok (x0:=y101) qs101_p0 ne0__8 hs101_p0 wi101_p0 M103;rw[hw103]at hZ103;obtain⟨as103_0,es103_0,M105,qs103_0,ns103_0,hs103_0,wi103_0,hr103⟩:=hZ103;replace hr103:=hr103.symm;subst hr103;refine y86q O O hX103 (y39q (rd_op (y1q O) (y40q (rs_nil (y6q ?_)))));have MZ106:Mem h105 (⟨as103_0,3,1,es103_0⟩::⟨.op i0_ w0_ 0,70,10,[.agg [vs x0.p.Name,u0_H,u0_M,u0_R,u0_A,u0_T,u0_S,u0_C,u0_D,a0__8]]⟩::R_):=(Mem.front (k:=0) M105 O);subst hres;exact rc_retX (.tmp O .nil) ⟨as103_0,es103_0,Mem.sub MZ106 (.cons_cons _ (.cons _ (List.Sublist.refl R_))),qs103_0,ns103_0,hs103_0,wi103_0,O⟩
/-- patchbay/access.declared -/
def RF24(res:y26q×Bool)(r:PV):Prop:=∃c0,r= .tup [c0,vb res.2]/\y26q.t.R res.1 c0
theorem f24_ok{x0:y5q}{x1:y49q}{v0:PV}{v1:PV}(r0:y5q.t.R x0 v0)(r1:y49q.t.R x1 v1):∃c0,FnR Try.prog 24 [v0,v1] (.tup [c0,vb ((y92q x0 x1).2)])/\y26q.t.R (y92q x0 x1).1 c0:=by
 obtain⟨res,hres⟩:∃res,y92q x0 x1=res:=⟨_,O⟩;suffices H:RC Try.prog ac24 [] (QR Try.prog [(4,some (6,true)),(5,none)] (RF24 res)) (argE 0 [v0,v1]) ⟨0,[]⟩ by
  rw[hres];obtain⟨r,h1,c0,rfl,qc0⟩:=fnE text24 U H;exact⟨c0,h1,qc0⟩
 unfold y92q at hres;unfold ac24;refine y7q (y2q (rd_op (y102q O (TR.cnt y5q.t r0)) (rd_op (y102q O (TR.cnt y49q.t r1)) ?_)));refine y94q (x:= .agg [vs [],nilS,nilS,vi 0,nilS,vi 0]) (Mem.nil ⟨0,[]⟩) O O (λi101 w101 h101 M101=>?_);refine rd_op (v:=vb false) (y1q O) (y10q (y6q (y7q (y7q (y2q (rd_op (y22q O (y49q.g_Table r1)) (rd_op (y19q O O O) (rd_op (y20q O O i_lss) ?_))))))));refine rd_op (y1q O) ?_;refine y63q (d:=16) (v:=vb ((decide (x1.Table < 0))||(decide ((x0.Tables.length:Int)<=x1.Table)))) ?_ ?_
 ·intro S Q r;simp only[ac24_G1,List.cons_append,List.nil_append,List.append_assoc];cases hb103:(decide (x1.Table < 0))
  ·intro k;have hb103':=hb103;try simp only[qa,qaD]at hb103'
   refine y18q O O (y22q O (y49q.g_Table r1)) (y18q O O (y19q O O O) ?_);obtain⟨v104,e104,r104⟩:=y5q.g_Tables r0;refine y18q O O (y22q O e104) (y18q O O (y19q O (TR.cnt (tSl y26q.t) r104) (TR.agg (tSl y26q.t) r104)) (y18q O O (ov_bi O (y62q r104 Try.underlying26 _)) (y18q O O (y20q O O i_geq) (rd_op (v:=vb (decide ((x0.Tables.length:Int)<=x1.Table))) (y30q O O O O) ?_))));exact y29q (y3q O (y0q O (y0q O (y0q O (y0q O (y0q O (y0q O (y0q O (y25q _))))))))) k
  ·intro k;refine y12q O O (y12q O O (y12q O O (y12q O O (y12q O O (y12q O O (rd_op (v:=vb true) (y30q O O O O) ?_))))));exact y29q (y3q O (y0q O (y0q O (y0q O (y0q O (y0q O (y0q O (y0q O (y25q _))))))))) k
 refine y10q (y6q ?_);refine y24q O (λhc105=>?_) (λhc105=>?_)
 ·replace hres:=(ite_t hc105).symm.trans hres;have hc105':=hc105;try simp only[qa,qaD]at hc105'
  refine y7q (y2q (rd_op (v:= .agg [vs [],nilS,nilS,vi 0,nilS,vi 0]) (ov_build (cs:=[vs [],nilS,nilS,vi 0,nilS,vi 0]) O O) ?_));refine y89q (k:=0) (v:= .agg [vs [],nilS,nilS,vi 0,nilS,vi 0]) M101 O O O O (λh106 M106=>?_);replace M106:Mem h106 [⟨.op i101 w101 0,55,6,[.agg [vs [],nilS,nilS,vi 0,nilS,vi 0]]⟩]:=M106;refine rd_op (v:=vb false) (y1q O) (y10q (y6q ?_));subst hres;exact y35q (.cell O (load_whole (k:=0) M106 O O) (.tmp O .nil)) (y17q (show closed (.tup _)=true from(y15q (TR.clo y26q.t (show y26q.t.R ({Name:=([]:List UInt8),Keys:=([]:List y57q),Actions:=([]:List Int),Default:=({Action:=0,Args:=([]:List (BitVec 32))}:y73q),Size:=0}:y26q) (.agg [vs [],nilS,nilS,vi 0,nilS,vi 0]) from⟨nilS,nilS,nilS,O,sl_nil,sl_nil,sl_nil⟩)) (y15q O y36q)))) ⟨.agg [vs [],nilS,nilS,vi 0,nilS,vi 0],O,⟨nilS,nilS,nilS,O,sl_nil,sl_nil,sl_nil⟩⟩
 ·replace hres:=(ite_f hc105).symm.trans hres;have hc105':=hc105;try simp only[qa,qaD]at hc105'
  refine y34q (y6q (y7q (y2q ?_)));obtain⟨v107,e107,r107⟩:=y5q.g_Tables r0;refine rd_op (y22q O e107) (rd_op (y19q O (TR.cnt (tSl y26q.t) r107) (TR.agg (tSl y26q.t) r107)) (rd_op (y22q O (y49q.g_Table r1)) (rd_op (y19q O O O) ?_)));obtain⟨v108,e108,r108⟩:=y106q (i:=x1.Table) r107 V V;refine rd_op (y48q O O e108) (rd_op (y19q O (TR.cnt y26q.t r108) (TR.agg y26q.t r108)) ?_);refine y89q (k:=0) (v:=v108) M101 O O O (TR.cnt y26q.t r108) (λh109 M109=>?_);replace M109:Mem h109 [⟨.op i101 w101 0,55,6,[v108]⟩]:=M109;refine rd_op (v:=vb true) (y1q O) (y10q (y6q ?_));subst hres;exact y35q (.cell O (load_whole (k:=0) M109 O (TR.agg y26q.t r108)) (.tmp O .nil)) (y17q (show closed (.tup _)=true from(y15q (TR.clo y26q.t r108) (y15q O y36q)))) ⟨v108,O,r108⟩
/-- patchbay/lexer.isLetter -/
def RF91(res:Bool)(r:PV):Prop:=r=vb res
theorem f91_ok{x0:UInt8}:FnR Try.prog 91 [vu8 x0] (vb (lexer_isLetter x0)):=by
 obtain⟨res,hres⟩:∃res,lexer_isLetter x0=res:=⟨_,O⟩;suffices H:RC Try.prog ac91 [] (QR Try.prog [(2,none)] (RF91 res)) (argE 0 [vu8 x0]) ⟨0,[]⟩ by
  obtain⟨r,h1,h2⟩:=fnE text91 U H;rw[hres];have h2:r=vb res:=h2;rw[<-h2];exact h1
 unfold lexer_isLetter at hres;unfold ac91;refine y7q (y2q (rd_op (v:=vb false) (y1q O) (y10q (y6q (y7q (y2q (rd_op (y1q O) (rd_op (y20q (a:=vu8 x0) (b:=vu8 (97:UInt8)) O O y_geq) ?_))))))));refine rd_op (y1q O) ?_;refine y63q (d:=8) (v:=vb ((decide ((97:UInt8)<=x0))&&(decide (x0<=(122:UInt8))))) ?_ ?_
 ·intro S Q r;simp only[ac91_G1,List.cons_append,List.nil_append,List.append_assoc];cases hb101:(decide ((97:UInt8)<=x0))
  ·intro k;refine y12q O O (y12q O O (rd_op (v:=vb false) (y30q O O O O) ?_));exact y29q (y3q O (y0q O (y0q O (y0q O (y25q _))))) k
  ·intro k;have hb101':=hb101;try simp only[qa,qaD]at hb101'
   refine y18q O O (y1q O) (y18q O O (y20q (a:=vu8 x0) (b:=vu8 (122:UInt8)) O O y_leq) (rd_op (v:=vb (decide (x0<=(122:UInt8)))) (y30q O O O O) ?_));exact y29q (y3q O (y0q O (y0q O (y0q O (y25q _))))) k
 refine rd_op (y1q O) ?_;refine y63q (d:=16) (v:=vb (((decide ((97:UInt8)<=x0))&&(decide (x0<=(122:UInt8))))||((decide ((65:UInt8)<=x0))&&(decide (x0<=(90:UInt8)))))) ?_ ?_
 ·intro S Q r;simp only[ac91_G2,List.cons_append,List.nil_append,List.append_assoc];cases hb102:((decide ((97:UInt8)<=x0))&&(decide (x0<=(122:UInt8))))
  ·intro k;have hb102':=hb102;try simp only[qa,qaD]at hb102'
   refine y18q O O (y1q O) (y18q O O (y20q (a:=vu8 x0) (b:=vu8 (65:UInt8)) O O y_geq) (y18q O O (y1q O) ?_));refine y63q (d:=15) (v:=vb ((decide ((65:UInt8)<=x0))&&(decide (x0<=(90:UInt8))))) ?_ ?_
   ·intro S Q r;simp only[ac91_G3,List.cons_append,List.nil_append,List.append_assoc];cases hb103:(decide ((65:UInt8)<=x0))
    ·intro k;refine y12q O O (y12q O O (y18q (v:=vb false) O O (y30q O O O O) ?_));exact y29q (y3q O (y0q O (y0q O (y0q O (y25q _))))) k
    ·intro k;have hb103':=hb103;try simp only[qa,qaD]at hb103'
     refine y18q O O (y1q O) (y18q O O (y20q (a:=vu8 x0) (b:=vu8 (90:UInt8)) O O y_leq) (y18q (v:=vb (decide (x0<=(90:UInt8)))) O O (y30q O O O O) ?_));exact y29q (y3q O (y0q O (y0q O (y0q O (y25q _))))) k
   refine rd_op (v:=vb ((decide ((65:UInt8)<=x0))&&(decide (x0<=(90:UInt8))))) (y30q O O O O) ?_;exact y29q (y3q O (y0q O (y0q O (y0q O (y0q O (y0q O (y25q _))))))) k
  ·intro k;simp only[ac91_G3,List.cons_append,List.nil_append,List.append_assoc];refine y12q O O (y12q O O (y12q O O (rd_skipU O (rd_skipU O (y12q O O (rd_op (v:=vb true) (y30q O O O O) ?_))))));exact y29q (y3q O (y0q O (y0q O (y0q O (y0q O (y0q O (y0q O (y0q O (y25q _))))))))) k
 refine rd_op (y1q O) (y10q (y6q ?_));subst hres;exact y35q (.tmp O .nil) (y17q O) O
/-- patchbay/lexer.extent -/
def RF92(res:Int)(r:PV):Prop:=r=vi res
theorem lexer_extent_L1_ok{S:List Fr}{res:Int}{x0:List UInt8}{x1:UInt8->Bool}{v1:PV}(r1:(tFn Try.prog tU8 tB).R x1 v1)(hs:x0.length<=1000){K0:Int->Int}
 (hK0:∀(x5_:Int),K0 x5_=res->PX Try.prog 0 S (QR Try.prog [(4,none)] (RF92 res)) [(5,vi x5_)] ⟨0,[]⟩):
 ∀(m:Nat)(x5_:Int)(hm1:m=Int.toNat ((x0.length:Int)-x5_))(hlo1:0<=x5_),lexer_extent_L1 x0 x1 K0 m x5_=res->RC Try.prog (.loop ac92_L1) S (QR Try.prog [(4,none)] (RF92 res)) [(5,vi x5_),(1,v1),(0,vs x0)] ⟨0,[]⟩:=by
 intro m;induction m with
 |zero=>
  intro x5_ hm1 hlo1 hres;rw[lexer_extent_L1]at hres;refine y53q ?_;unfold ac92_L1;refine y7q (y7q (y2q (rd_op (y1q O) (rd_op (y1q O) (rd_op (ov_bi O (str_len Try.underlying9)) (rd_op (y20q O O i_lss) (rd_op (y1q O) ?_)))))));refine y63q (d:=16) (v:=vb ((decide (x5_ < (x0.length:Int)))&&(x1 (ix x0 x5_)))) ?_ ?_
  ·intro S Q r;simp only[ac92_G1,List.cons_append,List.nil_append,List.append_assoc];cases hb101:(decide (x5_ < (x0.length:Int)))
   ·intro k;refine y12q O O (y12q O O (y12q O O (y12q O O (y12q O O (rd_op (v:=vb false) (y30q O O O O) ?_)))));exact y29q (y3q O (y0q O (y0q O (y0q O (y0q O (y0q O (y0q O (y25q _)))))))) k
   ·intro k;have hb101':=hb101;try simp only[qa,qaD]at hb101'
    refine y18q O O (y1q O) (y18q O O (y1q O) (y18q O O (y1q O) (y18q O O (ov_indexS O O (str_idx Try.underlying9 V V)) ?_)));refine rd_ycallF O O O r1 O (show tU8.R (ix x0 x5_) (vu8 (ix x0 x5_)) from O) (λv102 r102=>?_);have r102:v102=vb (x1 (ix x0 x5_)):=r102;subst r102;refine rd_op (v:=vb (x1 (ix x0 x5_))) (y30q O O O O) ?_;exact y29q (y3q O (y0q O (y0q O (y0q O (y0q O (y0q O (y0q O (y25q _)))))))) k
  refine y10q (y6q ?_);refine y24q O (λhc103=>?_) (λhc103=>?_)
  ·exfalso;try simp only[qa,qaD]at hc103
   omega
  ·have hend:=hres;have hc103':=hc103;try simp only[qa,qaD]at hc103'
   refine y93q (px_seq (y78q ?_));exact y96q ((y3q O (y31q _))) (hK0 x5_ hres)
 |succ m ih=>
  intro x5_ hm1 hlo1 hres;rw[lexer_extent_L1]at hres;refine y53q ?_;unfold ac92_L1;refine y7q (y7q (y2q (rd_op (y1q O) (rd_op (y1q O) (rd_op (ov_bi O (str_len Try.underlying9)) (rd_op (y20q O O i_lss) (rd_op (y1q O) ?_)))))));refine y63q (d:=16) (v:=vb ((decide (x5_ < (x0.length:Int)))&&(x1 (ix x0 x5_)))) ?_ ?_
  ·intro S Q r;simp only[ac92_G1,List.cons_append,List.nil_append,List.append_assoc];cases hb104:(decide (x5_ < (x0.length:Int)))
   ·intro k;refine y12q O O (y12q O O (y12q O O (y12q O O (y12q O O (rd_op (v:=vb false) (y30q O O O O) ?_)))));exact y29q (y3q O (y0q O (y0q O (y0q O (y0q O (y0q O (y0q O (y25q _)))))))) k
   ·intro k;have hb104':=hb104;try simp only[qa,qaD]at hb104'
    refine y18q O O (y1q O) (y18q O O (y1q O) (y18q O O (y1q O) (y18q O O (ov_indexS O O (str_idx Try.underlying9 V V)) ?_)));refine rd_ycallF O O O r1 O (show tU8.R (ix x0 x5_) (vu8 (ix x0 x5_)) from O) (λv105 r105=>?_);have r105:v105=vb (x1 (ix x0 x5_)):=r105;subst r105;refine rd_op (v:=vb (x1 (ix x0 x5_))) (y30q O O O O) ?_;exact y29q (y3q O (y0q O (y0q O (y0q O (y0q O (y0q O (y0q O (y25q _)))))))) k
  refine y10q (y6q ?_);refine y24q O (λhc106=>?_) (λhc106=>?_)
  ·replace hres:=(ite_t hc106).symm.trans hres;have hc106':=hc106;try simp only[qa,qaD]at hc106'
   refine y34q (y6q (y42q (y2q (rd_op (y1q O) (rd_op (y20q O O i_add) (rd_op (y1q O) (y10q (y67q ?_))))))));refine y56q ?_;have hinc:wr (x5_+1)=x5_+1:=wr_of V V;rw[hinc];refine y37q ?_ (ih (x5_+1) V V hres);exact((y3q O (y3q O (y3q O (y31q _)))))
  ·replace hres:=(ite_f hc106).symm.trans hres;have hc106':=hc106;try simp only[qa,qaD]at hc106'
   refine y93q (px_seq (y78q ?_));exact y96q ((y3q O (y31q _))) (hK0 x5_ hres)
theorem f92_ok{x0:List UInt8}{x1:UInt8->Bool}{v1:PV}(r1:(tFn Try.prog tU8 tB).R x1 v1)(hs:x0.length<=1000):FnR Try.prog 92 [vs x0,v1] (vi (lexer_extent x0 x1)):=by
 obtain⟨res,hres⟩:∃res,lexer_extent x0 x1=res:=⟨_,O⟩;suffices H:RC Try.prog ac92 [] (QR Try.prog [(4,none)] (RF92 res)) (argE 0 [vs x0,v1]) ⟨0,[]⟩ by
  obtain⟨r,h1,h2⟩:=fnE text92 U H;rw[hres];have h2:r=vi res:=h2;rw[<-h2];exact h1
 unfold lexer_extent at hres;unfold ac92;refine y7q (y2q (rd_op (v:=vi 0) (y1q O) (y10q (y6q (y7q (y2q (rd_op (v:=vi 0) (y1q O) (y10q ?_))))))));refine y6q (y7q (y42q ?_));refine y37q ?_ (lexer_extent_L1_ok (x0:=x0) (x1:=x1) (v1:=v1) (r1:=r1) (hs:=hs) ?_ (Int.toNat ((x0.length:Int)-0)) 0 O V hres)
 ·exact((y3q O (y3q O (y3q O (y31q _)))))
 ·intro x5_107 hres;refine px_blk (y6q (y7q (y2q (rd_op (y1q O) (rd_op (y1q O) (y10q (y6q ?_)))))));subst hres;exact y35q (.tmp O .nil) (y17q O) O
/-- patchbay/lexer.isDigit -/
def RF94(res:Bool)(r:PV):Prop:=r=vb res
theorem f94_ok{x0:UInt8}:FnR Try.prog 94 [vu8 x0] (vb (lexer_isDigit x0)):=by
 obtain⟨res,hres⟩:∃res,lexer_isDigit x0=res:=⟨_,O⟩;suffices H:RC Try.prog ac94 [] (QR Try.prog [(2,none)] (RF94 res)) (argE 0 [vu8 x0]) ⟨0,[]⟩ by
  obtain⟨r,h1,h2⟩:=fnE text94 U H;rw[hres];have h2:r=vb res:=h2;rw[<-h2];exact h1
 unfold lexer_isDigit at hres;unfold ac94;refine y7q (y2q (rd_op (v:=vb false) (y1q O) (y10q (y6q (y7q (y2q (rd_op (y1q O) (rd_op (y20q (a:=vu8 x0) (b:=vu8 (48:UInt8)) O O y_geq) ?_))))))));refine rd_op (y1q O) ?_;refine y63q (d:=8) (v:=vb ((decide ((48:UInt8)<=x0))&&(decide (x0<=(57:UInt8))))) ?_ ?_
 ·intro S Q r;simp only[ac94_G1,List.cons_append,List.nil_append,List.append_assoc];cases hb101:(decide ((48:UInt8)<=x0))
  ·intro k;refine y12q O O (y12q O O (rd_op (v:=vb false) (y30q O O O O) ?_));exact y29q (y3q O (y0q O (y0q O (y0q O (y25q _))))) k
  ·intro k;have hb101':=hb101;try simp only[qa,qaD]at hb101'
   refine y18q O O (y1q O) (y18q O O (y20q (a:=vu8 x0) (b:=vu8 (57:UInt8)) O O y_leq) (rd_op (v:=vb (decide (x0<=(57:UInt8)))) (y30q O O O O) ?_));exact y29q (y3q O (y0q O (y0q O (y0q O (y25q _))))) k
 refine rd_op (y1q O) (y10q (y6q ?_));subst hres;exact y35q (.tmp O .nil) (y17q O) O
/-- patchbay/lexer.IsIdentifier$1 -/
def RF93(res:Bool)(r:PV):Prop:=r=vb res
theorem f93_ok{x0:UInt8}:FnR Try.prog 93 [vu8 x0] (vb (lexer_IsIdentifier_1 x0)):=by
 obtain⟨res,hres⟩:∃res,lexer_IsIdentifier_1 x0=res:=⟨_,O⟩;suffices H:RC Try.prog ac93 [] (QR Try.prog [(2,none)] (RF93 res)) (argE 0 [vu8 x0]) ⟨0,[]⟩ by
  obtain⟨r,h1,h2⟩:=fnE text93 U H;rw[hres];have h2:r=vb res:=h2;rw[<-h2];exact h1
 unfold lexer_IsIdentifier_1 at hres;unfold ac93;refine y7q (y2q (rd_op (v:=vb false) (y1q O) (y10q (y6q (y7q (y2q (rd_op (y1q O) ?_)))))));obtain⟨y101,hw101,hres⟩:=y47q hres;have f101:=f91_ok (x0:=x0);rw[hw101]at f101;refine y52q (cv_fn O O (y15q O y36q) f101) (rd_op (y1q O) ?_);refine y63q (d:=8) (v:=vb (y101||(lexer_isDigit x0))) ?_ ?_
 ·intro S Q r;simp only[ac93_G1,List.cons_append,List.nil_append,List.append_assoc];cases hb102:y101
  ·intro k;have hb102':=hb102;try simp only[qa,qaD]at hb102'
   refine y18q O O (y1q O) ?_;have f103:=f94_ok (x0:=x0);refine rd_ycall O O (cv_fn O O (y15q O y36q) f103) (rd_op (v:=vb (lexer_isDigit x0)) (y30q O O O O) ?_);exact y29q (y3q O (y0q O (y0q O (y0q O (y25q _))))) k
  ·intro k;refine y12q O O (y12q O O (rd_op (v:=vb true) (y30q O O O O) ?_));exact y29q (y3q O (y0q O (y0q O (y0q O (y25q _))))) k
 refine rd_op (y1q O) ?_;refine y63q (d:=12) (v:=vb ((y101||(lexer_isDigit x0))||(decide (x0=(95:UInt8))))) ?_ ?_
 ·intro S Q r;simp only[ac93_G2,List.cons_append,List.nil_append,List.append_assoc];cases hb104:(y101||(lexer_isDigit x0))
  ·intro k;have hb104':=hb104;try simp only[qa,qaD]at hb104'
   refine y18q O O (y1q O) (y18q O O (y20q (a:=vu8 x0) (b:=vu8 (95:UInt8)) O O y_eql) (rd_op (v:=vb (decide (x0=(95:UInt8)))) (y30q O O O O) ?_));exact y29q (y3q O (y0q O (y0q O (y0q O (y25q _))))) k
  ·intro k;refine y12q O O (y12q O O (rd_op (v:=vb true) (y30q O O O O) ?_));exact y29q (y3q O (y0q O (y0q O (y0q O (y25q _))))) k
 refine rd_op (y1q O) (y10q (y6q ?_));subst hres;exact y35q (.tmp O .nil) (y17q O) O
theorem tfn93:(tFn Try.prog tU8 tB).R lexer_IsIdentifier_1 (.fn (.func 93) [] []):=tFn_of λa va ra=>by obtain rfl:=ra;exact⟨_,f93_ok,O⟩
/-- patchbay/lexer.IsIdentifier -/
def RF83(res:Bool)(r:PV):Prop:=r=vb res
theorem f83_ok{x0:List UInt8}:FnR Try.prog 83 [vs x0] (vb (lexer_IsIdentifier x0)):=by
 obtain⟨res,hres⟩:∃res,lexer_IsIdentifier x0=res:=⟨_,O⟩;suffices H:RC Try.prog ac83 [] (QR Try.prog [(2,none)] (RF83 res)) (argE 0 [vs x0]) ⟨0,[]⟩ by
  obtain⟨r,h1,h2⟩:=fnE text83 U H;rw[hres];have h2:r=vb res:=h2;rw[<-h2];exact h1
 unfold lexer_IsIdentifier at hres;unfold ac83;refine y7q (y2q (rd_op (v:=vb false) (y1q O) (y10q (y6q (y7q (y7q (y2q (rd_op (y1q O) ?_))))))));refine rd_op (ov_bi O (str_len Try.underlying9)) (rd_op (y20q O O i_eql) (rd_op (y1q O) ?_));refine y63q (d:=10) (v:=vb ((decide ((x0.length:Int)=0))||(decide (16 < (x0.length:Int))))) ?_ ?_
 ·intro S Q r;simp only[ac83_G1,List.cons_append,List.nil_append,List.append_assoc];cases hb101:(decide ((x0.length:Int)=0))
  ·intro k;have hb101':=hb101;try simp only[qa,qaD]at hb101'
   refine y18q O O (y1q O) (y18q O O (ov_bi O (str_len Try.underlying9)) (y18q O O (y20q O O i_gtr) (rd_op (v:=vb (decide (16 < (x0.length:Int)))) (y30q O O O O) ?_)));exact y29q (y3q O (y0q O (y0q O (y0q O (y0q O (y25q _)))))) k
  ·intro k;refine y12q O O (y12q O O (y12q O O (rd_op (v:=vb true) (y30q O O O O) ?_)));exact y29q (y3q O (y0q O (y0q O (y0q O (y0q O (y25q _)))))) k
 refine rd_op (y1q O) ?_;refine y63q (d:=16) (v:=vb (((decide ((x0.length:Int)=0))||(decide (16 < (x0.length:Int))))||(!(lexer_isLetter (ix x0 0))))) ?_ ?_
 ·intro S Q r;simp only[ac83_G2,List.cons_append,List.nil_append,List.append_assoc];cases hb102:((decide ((x0.length:Int)=0))||(decide (16 < (x0.length:Int))))
  ·intro k;have hb102':=hb102;try simp only[qa,qaD]at hb102'
   refine y18q O O (y1q O) (y18q O O (ov_indexS O O (str_idx Try.underlying9 V V)) ?_);have f103:=f91_ok (x0:=(ix x0 0));refine rd_ycall O O (cv_fn O O (y15q O y36q) f103) (y18q O O (ov_not O) (rd_op (v:=vb (!(lexer_isLetter (ix x0 0)))) (y30q O O O O) ?_));exact y29q (y3q O (y0q O (y0q O (y0q O (y0q O (y0q O (y25q _))))))) k
  ·intro k;refine y12q O O (y12q O O (y12q O O (y12q O O (rd_op (v:=vb true) (y30q O O O O) ?_))));exact y29q (y3q O (y0q O (y0q O (y0q O (y0q O (y0q O (y25q _))))))) k
 refine y10q (y6q ?_);refine y24q O (λhc104=>?_) (λhc104=>?_)
 ·replace hres:=(ite_t hc104).symm.trans hres;have hc104':=hc104;try simp only[qa,qaD]at hc104'
  refine y7q (y2q (rd_op (v:=vb false) (y1q O) (y10q (y6q ?_))));subst hres;exact y35q (.tmp O .nil) (y17q O) O
 ·replace hres:=(ite_f hc104).symm.trans hres;have hc104':=hc104;try simp only[qa,qaD]at hc104'
  refine y34q (y6q (y7q (y2q (rd_op (y1q O) ?_))));obtain⟨y105,hw105,hres⟩:=y47q hres;have f105:=f92_ok (x0:=x0) tfn93 (by first|assumption|omega|(rw[wr_of V V];omega));rw[hw105]at f105;refine y52q (cv_fn O O (y15q O (y15q O y36q)) f105) (rd_op (y1q O) (rd_op (ov_bi O (str_len Try.underlying9)) (rd_op (y20q O O i_eql) (rd_op (y1q O) (y10q (y6q ?_))))));subst hres;exact y35q (.tmp O .nil) (y17q O) O
/-- patchbay/action.declaration$1 -/
def RF85(res:Bool)(r:PV):Prop:=r=vb res
theorem f85_ok{x0:y14q}{c0:y14q}{v0:PV}{w0:PV}(r0:y14q.t.R x0 v0)(rc0:y14q.t.R c0 w0):FnR Try.prog 85 [v0,.fp w0] (vb (action_declaration_1 x0 c0)):=by
 obtain⟨res,hres⟩:∃res,action_declaration_1 x0 c0=res:=⟨_,O⟩;suffices H:RC Try.prog ac85 [] (QR Try.prog [(3,none)] (RF85 res)) (argE 0 [v0,.fp w0]) ⟨0,[]⟩ by
  obtain⟨r,h1,h2⟩:=fnE text85 U H;rw[hres];have h2:r=vb res:=h2;rw[<-h2];exact h1
 unfold action_declaration_1 at hres;unfold ac85;refine y7q (y2q (rd_op (y102q O (TR.cnt y14q.t r0)) (rd_op (v:=vb false) (y1q O) (y10q (y6q (y7q (y2q (rd_op (y22q O (y14q.g_Name r0)) ?_))))))));refine rd_op (y19q O O O) (rd_op (y22q O (y14q.g_Name rc0)) (rd_op (y19q O O O) (rd_op (y20q (a:=vs x0.Name) (b:=vs c0.Name) O O str_eql) (rd_op (y1q O) (y10q (y6q ?_))))));subst hres;exact y35q (.tmp O .nil) (y17q O) O
/-- slices.IndexFunc[[]patchbay/api.Field,patchbay/api.Field] -/
def RF95(res:Int)(r:PV):Prop:=r=vi res
theorem slices_IndexFunc__api_Field_api_Field__L1_ok{S:List Fr}{res:Int}{x0:List y14q}{x1:y14q->Bool}{v0:PV}{v1:PV}(r0:(tSl y14q.t).R x0 v0)(r1:(tFn Try.prog y14q.t tB).R x1 v1){K0:Unit->Int}
 (hK0:K0 ()=res->PX Try.prog 0 S (QR Try.prog [(4,none)] (RF95 res)) [] ⟨0,[]⟩):
 ∀(m:Nat)(x8_:Int)(hm1:m=Int.toNat ((x0.length:Int)-x8_))(hlo1:0<=x8_),y64q x0 x1 K0 m x8_=res->RC Try.prog (.loop ac95_L1) S (QR Try.prog [(4,none)] (RF95 res)) [(8,vi x8_),(7,vi (x0.length:Int)),(1,v1),(0,v0)] ⟨0,[]⟩:=by
 intro m;induction m with
 |zero=>
  intro x8_ hm1 hlo1 hres;rw[y64q]at hres;refine y53q ?_;unfold ac95_L1;refine y7q (y2q (rd_op (y20q O O i_lss) (y10q (y6q (y7q ?_)))));refine y24q O (λhc101=>?_) (λhc101=>?_)
  ·exfalso;try simp only[qa,qaD]at hc101
   omega
  ·have hend:=hres;have hc101':=hc101;try simp only[qa,qaD]at hc101'
   refine y93q (px_seq (y78q ?_));exact y96q ((y31q _)) (hK0 hres)
 |succ m ih=>
  intro x8_ hm1 hlo1 hres;rw[y64q]at hres;refine y53q ?_;unfold ac95_L1;refine y7q (y2q (rd_op (y20q O O i_lss) (y10q (y6q (y7q ?_)))));refine y24q O (λhc102=>?_) (λhc102=>?_)
  ·have hgo:=hres;have hc102':=hc102;try simp only[qa,qaD]at hc102'
   refine y34q (y6q (y7q (y42q (y7q (y2q (rd_op (y1q O) (rd_op (y1q O) (y10q ?_))))))));refine y6q (y7q (y2q (rd_op (y1q O) (rd_op (y1q O) (rd_op (y1q O) ?_)))));obtain⟨v103,e103,r103⟩:=y106q (i:=x8_) r0 V V;refine rd_op (y48q O O e103) (rd_op (y19q O (TR.cnt y14q.t r103) (TR.agg y14q.t r103)) ?_);refine rd_callF O r1 O (show y14q.t.R (ix x0 x8_) v103 from r103) (λv104 r104=>?_);have r104:v104=vb (x1 (ix x0 x8_)):=r104;subst r104;refine y10q (y6q ?_);refine y24q O (λhc105=>?_) (λhc105=>?_)
   ·replace hres:=(ite_t hc105).symm.trans hres;have hc105':=hc105;try simp only[qa,qaD]at hc105'
    refine y7q (y2q (rd_op (y1q O) (rd_op (y1q O) (y10q (y6q ?_)))));subst hres;exact y35q (.tmp O .nil) (y17q O) O
   ·replace hres:=(ite_f hc105).symm.trans hres;have hc105':=hc105;try simp only[qa,qaD]at hc105'
    refine y34q (y67q (y6q (y2q (rd_op (y20q O O i_add) (rd_op (y1q O) (y10q (y56q ?_)))))));have hbd:=y58q r0;have hinc:wr (x8_+1)=x8_+1:=wr_of V V;rw[hinc];refine y37q ?_ (ih (x8_+1) V V hres);exact((y3q O (y3q O (y3q O (y3q O (y31q _))))))
  ·exfalso;try simp only[qa,qaD]at hc102
   omega
theorem f95_ok{x0:List y14q}{x1:y14q->Bool}{v0:PV}{v1:PV}(r0:(tSl y14q.t).R x0 v0)(r1:(tFn Try.prog y14q.t tB).R x1 v1):FnR Try.prog 95 [v0,v1] (vi (y81q x0 x1)):=by
 obtain⟨res,hres⟩:∃res,y81q x0 x1=res:=⟨_,O⟩;suffices H:RC Try.prog ac95 [] (QR Try.prog [(4,none)] (RF95 res)) (argE 0 [v0,v1]) ⟨0,[]⟩ by
  obtain⟨r,h1,h2⟩:=fnE text95 U H;rw[hres];have h2:r=vi res:=h2;rw[<-h2];exact h1
 unfold y81q at hres;unfold ac95;refine y7q (y2q (rd_op (v:=vi 0) (y1q O) (y10q (y6q (y7q (y7q (y2q (rd_op (y1q O) ?_))))))));refine rd_op (ov_bi O (y62q r0 Try.underlying23 _)) (rd_op (v:=vi 0) (y1q O) (y10q (y6q (y42q ?_))));refine y37q ?_ (slices_IndexFunc__api_Field_api_Field__L1_ok (x0:=x0) (x1:=x1) (v0:=v0) (v1:=v1) (r0:=r0) (r1:=r1) ?_ (Int.toNat ((x0.length:Int)-0)) 0 O V hres)
 ·exact((y3q O (y3q O (y3q O (y3q O (y31q _))))))
 ·intro hres;refine px_blk (y6q (y7q (y2q (rd_op (v:=vi (-1)) (y1q O) (y10q (y6q ?_))))));subst hres;exact y35q (.tmp O .nil) (y17q O) O
/-- slices.ContainsFunc[[]patchbay/api.Field,patchbay/api.Field] -/
def RF84(res:Bool)(r:PV):Prop:=r=vb res
theorem f84_ok{x0:List y14q}{x1:y14q->Bool}{v0:PV}{v1:PV}(r0:(tSl y14q.t).R x0 v0)(r1:(tFn Try.prog y14q.t tB).R x1 v1):FnR Try.prog 84 [v0,v1] (vb (y76q x0 x1)):=by
 obtain⟨res,hres⟩:∃res,y76q x0 x1=res:=⟨_,O⟩;suffices H:RC Try.prog ac84 [] (QR Try.prog [(4,none)] (RF84 res)) (argE 0 [v0,v1]) ⟨0,[]⟩ by
  obtain⟨r,h1,h2⟩:=fnE text84 U H;rw[hres];have h2:r=vb res:=h2;rw[<-h2];exact h1
 unfold y76q at hres;unfold ac84;refine y7q (y2q (rd_op (v:=vb false) (y1q O) (y10q (y6q (y7q (y2q (rd_op (y1q O) (rd_op (y1q O) ?_))))))));obtain⟨y101,hw101,hres⟩:=y47q hres;have f101:=f95_ok r0 r1;rw[hw101]at f101;refine y52q (cv_fn O O (y15q (TR.clo (tSl y14q.t) r0) (y15q (TR.clo (tFn Try.prog y14q.t tB) r1) y36q)) f101) (rd_op (y20q O O i_geq) (rd_op (y1q O) (y10q (y6q ?_))));subst hres;exact y35q (.tmp O .nil) (y17q O) O
/-- patchbay/action.declaration -/
def RF73(res:Int)(r:PV):Prop:=r=vi res
theorem action_declaration_L1_ok{S:List Fr}{res:Int}{x0:y23q}{y101:Bool}{v0:PV}{v107:PV}(r0:y23q.t.R x0 v0)(hw101:lexer_IsIdentifier x0.Name=y101)(hc102:(!y101)=false)(hc106:((decide (4 < (x0.Params.length:Int)))||(decide (12 < (x0.Body.length:Int))))=false)(r107:(tSl y14q.t).R x0.Params v107){K1:Unit->Int}
 (hK1:∀(h:Heap)(M0:Mem h []),K1 ()=res->PX Try.prog 1 S (QR Try.prog [(2,none)] (RF73 res)) [] h):
 ∀(m:Nat)(x24_:Int)(hm1:m=Int.toNat ((x0.Params.length:Int)-x24_))(hlo1:0<=x24_)(h:Heap)(M0:Mem h []),action_declaration_L1 x0 K1 m x24_=res->RC Try.prog (.loop ac73_L1) S (QR Try.prog [(2,none)] (RF73 res)) [(24,vi x24_),(23,vi (x0.Params.length:Int)),(22,v107),(1,.fp v0)] h:=by
 have hc102':=hc102;try simp only[qa,qaD]at hc102'
 have hc106':=hc106;try simp only[qa,qaD]at hc106'
 intro m;induction m with
 |zero=>
  intro x24_ hm1 hlo1 h M0 hres;rw[action_declaration_L1]at hres;refine y53q ?_;unfold ac73_L1;refine y7q (y2q (rd_op (y20q O O i_lss) (y10q (y6q (y7q ?_)))));refine y24q O (λhc108=>?_) (λhc108=>?_)
  ·exfalso;try simp only[qa,qaD]at hc108
   omega
  ·have hend:=hres;have hc108':=hc108;try simp only[qa,qaD]at hc108'
   refine y93q (px_seq (y78q ?_));exact y96q ((y31q _)) (hK1 _ (Mem.sub M0 .slnil) hres)
 |succ m ih=>
  intro x24_ hm1 hlo1 h M0 hres;rw[action_declaration_L1]at hres;refine y53q ?_;unfold ac73_L1;refine y7q (y2q (rd_op (y20q O O i_lss) (y10q (y6q (y7q ?_)))));refine y24q O (λhc109=>?_) (λhc109=>?_)
  ·have hgo:=hres;have hc109':=hc109;try simp only[qa,qaD]at hc109'
   refine y34q (y6q (y7q (y42q (y7q (y2q (rd_op (y1q O) ?_))))));obtain⟨v110,e110,r110⟩:=y106q (i:=x24_) r107 V V;refine rd_op (y48q O O e110) (rd_op (y19q O (TR.cnt y14q.t r110) (TR.agg y14q.t r110)) ?_);refine y94q (x:= .agg [vs [],vi 0]) M0 O O (λi111 w111 h111 M111=>?_);refine rd_op (y1q O) ?_;refine y89q (k:=0) (v:=v110) M111 O O O (TR.cnt y14q.t r110) (λh113 M113=>?_);replace M113:Mem h113 [⟨.op i111 w111 0,85,2,[v110]⟩]:=M113;refine y10q (y6q (y42q (y7q (y75q (y39q (rd_op (y33q O) (y40q (y39q ?_))))))));refine rd_op (y43q (k:=0) M113 O O (y14q.g_Name r110)) (y40q (y39q ?_));obtain⟨y114,hw114,hres⟩:=y47q hres;have f114:=f83_ok (x0:=(ix x0.Params x24_).Name);rw[hw114]at f114;refine y52q (cv_fn O O (y15q O y36q) f114) (y40q (y39q (rd_op (ov_not O) (y40q (y39q (rd_op (y1q O) (y40q ?_)))))));refine rs_freezeP (k:=0) (E':=[(29,vb (!y114)),(33,vb (!y114)),(32,vb y114),(31,vs ((ix x0.Params x24_).Name)),(3,vi x24_),(4,.fp v110),(28,v110),(27,.fp v110),(26,vi x24_),(25,vb (decide (x24_ < (x0.Params.length:Int)))),(24,vi x24_),(23,vi (x0.Params.length:Int)),(22,v107),(1,.fp v0)]) M113 O (frz_keep O (frz_keep O (frz_keep O (frz_keep O (frz_keep O (frz_turn O (frz_keep O (frz_keep O (frz_keep O (frz_keep O (frz_keep O (frz_keep O (frz_keep O (frz_keep O frz_nil)))))))))))))) (λh115 M115=>?_);replace M115:Mem h115 []:=M115;refine rs_nil (y6q ?_);refine y24q O (λhc116=>?_) (λhc116=>?_)
   ·replace hres:=(ite_t hc116).symm.trans hres;have hc116':=hc116;try simp only[qa,qaD]at hc116'
    refine y7q (y2q (rd_op (v:=vi 6) (y1q O) (y10q (y6q ?_))));subst hres;exact y35q (.tmp O .nil) (y17q O) O
   ·replace hres:=(ite_f hc116).symm.trans hres;have hc116':=hc116;try simp only[qa,qaD]at hc116'
    refine y7q (y2q (rd_op (y22q O (y14q.g_Width r110)) (rd_op (y19q O O O) (rd_op (y20q O O i_lss) (rd_op (y1q O) ?_)))));refine y63q (d:=42) (v:=vb ((decide (((ix x0.Params x24_).Width) < 1))||(decide (32 < ((ix x0.Params x24_).Width))))) ?_ ?_
    ·intro S Q r;simp only[ac73_G2,List.cons_append,List.nil_append,List.append_assoc];cases hb117:(decide (((ix x0.Params x24_).Width) < 1))
     ·intro k;have hb117':=hb117;try simp only[qa,qaD]at hb117'
      refine y18q O O (y22q O (y14q.g_Width r110)) (y18q O O (y19q O O O) (y18q O O (y20q O O i_gtr) (rd_op (v:=vb (decide (32 < ((ix x0.Params x24_).Width)))) (y30q O O O O) ?_)));exact y29q (y3q O (y0q O (y0q O (y0q O (y0q O (y25q _)))))) k
     ·intro k;refine y12q O O (y12q O O (y12q O O (rd_op (v:=vb true) (y30q O O O O) ?_)));exact y29q (y3q O (y0q O (y0q O (y0q O (y0q O (y25q _)))))) k
    refine rd_op (y1q O) (y10q (y6q ?_));refine y24q O (λhc118=>?_) (λhc118=>?_)
    ·replace hres:=(ite_t hc118).symm.trans hres;have hc118':=hc118;try simp only[qa,qaD]at hc118'
     refine y7q (y2q (rd_op (v:=vi 10) (y1q O) (y10q (y6q ?_))));subst hres;exact y35q (.tmp O .nil) (y17q O) O
    ·replace hres:=(ite_f hc118).symm.trans hres;have hc118':=hc118;try simp only[qa,qaD]at hc118'
     refine y7q (y2q ?_);obtain⟨v119,e119,r119⟩:=y23q.g_Params r0;refine rd_op (y22q O e119) (rd_op (y19q O (TR.cnt (tSl y14q.t) r119) (TR.agg (tSl y14q.t) r119)) (rd_op (y1q O) ?_));obtain⟨v120,e120,r120⟩:=sl_sub (P:=Try.prog) (hf:=false) (E:=[(46,vi x24_),(45,v119),(44,.fp v119),(34,vb ((decide (((ix x0.Params x24_).Width) < 1))||(decide (32 < ((ix x0.Params x24_).Width))))),(42,vb ((decide (((ix x0.Params x24_).Width) < 1))||(decide (32 < ((ix x0.Params x24_).Width))))),(38,vb (decide (((ix x0.Params x24_).Width) < 1))),(37,vb (decide (((ix x0.Params x24_).Width) < 1))),(36,vi ((ix x0.Params x24_).Width)),(35,.fp (vi ((ix x0.Params x24_).Width))),(29,vb (!y114)),(33,vb (!y114)),(32,vb y114),(31,vs ((ix x0.Params x24_).Name)),(3,vi x24_),(4,.fp v110),(28,v110),(27,.fp v110),(26,vi x24_),(25,vb (decide (x24_ < (x0.Params.length:Int)))),(24,vi x24_),(23,vi (x0.Params.length:Int)),(22,v107),(1,.fp v0)]) (h:=h115) (t:=y14q.t) (tt:=23) (x:=(.tmp 45)) (lo:=none) (hi:=(some (.tmp 46))) (a:=0) (b:=x24_) r119 O O O (show 0<=0 by omega) (show 0<=x24_ by omega) (show x24_<=(x0.Params.length:Int) by omega) (λad=>by kernel_rfl);have hl120:=sub_len (l:=x0.Params) (show 0<=0 by omega) (show 0<=x24_ by omega) (show x24_<=(x0.Params.length:Int) by omega);refine rd_op (v:=v120) (e120) ?_;have r121:(tFn Try.prog y14q.t tB).R (λa_=>action_declaration_1 a_ (ix x0.Params x24_)) (.fn (.func 85) [] [.fp v110]):=tFn_ofC (y15q (clo_fp (TR.clo y14q.t r110)) y36q) λa va ra=>by exact⟨_,f85_ok ra r110,O⟩
     refine rd_op (v:= .fn (.func 85) [] [.fp v110]) (ov_mkFunc O O) ?_;obtain⟨y122,hw122,hres⟩:=y47q hres;have f122:=f84_ok r120 r121;rw[hw122]at f122;refine y52q (cv_fn O O (y15q (TR.clo (tSl y14q.t) r120) (y15q (TR.clo (tFn Try.prog y14q.t tB) r121) y36q)) f122) (rd_op (y1q O) (y10q (y6q ?_)));refine y24q O (λhc123=>?_) (λhc123=>?_)
     ·replace hres:=(ite_t hc123).symm.trans hres;have hc123':=hc123;try simp only[qa,qaD]at hc123'
      refine y7q (y2q (rd_op (v:=vi 7) (y1q O) (y10q (y6q ?_))));subst hres;exact y35q (.tmp O .nil) (y17q O) O
     ·replace hres:=(ite_f hc123).symm.trans hres;have hc123':=hc123;try simp only[qa,qaD]at hc123'
      refine y34q (y67q (y67q (y6q (y2q (rd_op (y20q O O i_add) (rd_op (y1q O) (y10q (y56q ?_))))))));have hbd:=y58q r107;have hinc:wr (x24_+1)=x24_+1:=wr_of V V;rw[hinc];refine y37q ?_ (ih (x24_+1) V V _ (Mem.sub M115 .slnil) hres);exact((y3q O (y3q O (y3q O (y3q O (y31q _))))))
  ·exfalso;try simp only[qa,qaD]at hc109
   omega
theorem f73_ok{x0:y23q}{v0:PV}(r0:y23q.t.R x0 v0):FnR Try.prog 73 [v0] (vi (action_declaration x0)):=by
 obtain⟨res,hres⟩:∃res,action_declaration x0=res:=⟨_,O⟩;suffices H:RC Try.prog ac73 [] (QR Try.prog [(2,none)] (RF73 res)) (argE 0 [v0]) ⟨0,[]⟩ by
  obtain⟨r,h1,h2⟩:=fnE text73 U H;rw[hres];have h2:r=vi res:=h2;rw[<-h2];exact h1
 unfold action_declaration at hres;unfold ac73;refine y7q (y2q (rd_op (y102q O (TR.cnt y23q.t r0)) (rd_op (v:=vi 0) (y1q O) (y10q (y6q (y7q (y42q (y7q ?_))))))));refine y2q (rd_op (y22q O (y23q.g_Name r0)) (rd_op (y19q O O O) ?_));obtain⟨y101,hw101,hres⟩:=y47q hres;have f101:=f83_ok (x0:=x0.Name);rw[hw101]at f101;refine y52q (cv_fn O O (y15q O y36q) f101) (rd_op (ov_not O) (rd_op (y1q O) (y10q (y6q ?_))));refine y24q O (λhc102=>?_) (λhc102=>?_)
 ·replace hres:=(ite_t hc102).symm.trans hres;have hc102':=hc102;try simp only[qa,qaD]at hc102'
  refine y7q (y2q (rd_op (v:=vi 6) (y1q O) (y10q (y6q ?_))));subst hres;exact y35q (.tmp O .nil) (y17q O) O
 ·replace hres:=(ite_f hc102).symm.trans hres;have hc102':=hc102;try simp only[qa,qaD]at hc102'
  refine y7q (y2q ?_);obtain⟨v103,e103,r103⟩:=y23q.g_Params r0;refine rd_op (y22q O e103) (rd_op (y19q O (TR.cnt (tSl y14q.t) r103) (TR.agg (tSl y14q.t) r103)) (rd_op (ov_bi O (y62q r103 Try.underlying23 _)) (rd_op (y20q O O i_gtr) (rd_op (y1q O) ?_))));refine y63q (d:=20) (v:=vb ((decide (4 < (x0.Params.length:Int)))||(decide (12 < (x0.Body.length:Int))))) ?_ ?_
  ·intro S Q r;simp only[ac73_G1,List.cons_append,List.nil_append,List.append_assoc];cases hb104:(decide (4 < (x0.Params.length:Int)))
   ·intro k;have hb104':=hb104;try simp only[qa,qaD]at hb104'
    obtain⟨v105,e105,r105⟩:=y23q.g_Body r0;refine y18q O O (y22q O e105) (y18q O O (y19q O (TR.cnt (tSl y13q.t) r105) (TR.agg (tSl y13q.t) r105)) (y18q O O (ov_bi O (y62q r105 Try.underlying47 _)) (y18q O O (y20q O O i_gtr) (rd_op (v:=vb (decide (12 < (x0.Body.length:Int)))) (y30q O O O O) ?_))));exact y29q (y3q O (y0q O (y0q O (y0q O (y0q O (y0q O (y25q _))))))) k
   ·intro k;refine y12q O O (y12q O O (y12q O O (y12q O O (rd_op (v:=vb true) (y30q O O O O) ?_))));exact y29q (y3q O (y0q O (y0q O (y0q O (y0q O (y0q O (y25q _))))))) k
  refine rd_op (y1q O) (y10q (y6q ?_));refine y24q O (λhc106=>?_) (λhc106=>?_)
  ·replace hres:=(ite_t hc106).symm.trans hres;have hc106':=hc106;try simp only[qa,qaD]at hc106'
   refine y7q (y2q (rd_op (v:=vi 12) (y1q O) (y10q (y6q ?_))));subst hres;exact y35q (.tmp O .nil) (y17q O) O
  ·replace hres:=(ite_f hc106).symm.trans hres;have hc106':=hc106;try simp only[qa,qaD]at hc106'
   refine y34q (y67q (y6q (y7q (y7q (y2q ?_)))));obtain⟨v107,e107,r107⟩:=y23q.g_Params r0;refine rd_op (y22q O e107) (rd_op (y19q O (TR.cnt (tSl y14q.t) r107) (TR.agg (tSl y14q.t) r107)) (rd_op (ov_bi O (y62q r107 Try.underlying23 _)) (rd_op (v:=vi 0) (y1q O) (y10q (y6q (y42q ?_))))));refine y37q ?_ (action_declaration_L1_ok (x0:=x0) (y101:=y101) (v0:=v0) (v107:=v107) (r0:=r0) (hw101:=hw101) (hc102:=hc102) (hc106:=hc106) (r107:=r107) ?_ (Int.toNat ((x0.Params.length:Int)-0)) 0 O V _ (Mem.sub (Mem.nil ⟨0,[]⟩) .slnil) hres)
   ·exact((y3q O (y3q O (y3q O (y3q O (y31q _))))))
   ·intro h124 M124 hres;refine px_blk (y6q (y7q (y2q (rd_op (v:=vi 0) (y1q O) (y10q (y6q ?_))))));subst hres;exact y35q (.tmp O .nil) (y17q O) O
/-- patchbay/action.width -/
def RF86(res:Int×Bool)(r:PV):Prop:=r= .tup [vi res.1,vb res.2]
theorem f86_ok{x0:y5q}{x1:y4q}{v0:PV}{v1:PV}(r0:y5q.t.R x0 v0)(r1:y4q.t.R x1 v1):FnR Try.prog 86 [v0,v1] (.tup [vi ((action_width x0 x1).1),vb ((action_width x0 x1).2)]):=by
 obtain⟨res,hres⟩:∃res,action_width x0 x1=res:=⟨_,O⟩;suffices H:RC Try.prog ac86 [] (QR Try.prog [(4,none),(5,none)] (RF86 res)) (argE 0 [v0,v1]) ⟨0,[]⟩ by
  obtain⟨r,h1,h2⟩:=fnE text86 U H;rw[hres];have h2:r= .tup [vi res.1,vb res.2]:=h2;rw[<-h2];exact h1
 unfold action_width at hres;unfold ac86;refine y7q (y2q (rd_op (y102q O (TR.cnt y5q.t r0)) (rd_op (y102q O (TR.cnt y4q.t r1)) (rd_op (v:=vi 0) (y1q O) (rd_op (v:=vb false) (y1q O) (y10q (y6q (y7q ?_))))))));refine y2q ?_;obtain⟨v101,e101,r101⟩:=y5q.g_Metadata r0;refine rd_op (y22q O e101) (rd_op (y19q O (TR.cnt (tSl y14q.t) r101) (TR.agg (tSl y14q.t) r101)) (rd_op (y1q O) (y10q (y6q (y7q (y7q (y2q (rd_op (y22q O (y4q.g_Header r1)) ?_))))))));refine rd_op (y19q O O O) (rd_op (y20q O O i_neq) (y10q (y6q ?_)));obtain⟨k109,hk109,hres⟩:=y47q hres;refine rc_join (F:=λb S Q=>∀(x6_109:List y14q)(u6_109:PV)(r6_109:(tSl y14q.t).R x6_109 u6_109),k109 x6_109=res->RC Try.prog b S Q [(6,u6_109),(3,.fp v1)] ⟨0,[]⟩) ?_ ?_
 ·intro x6_109 u6_109 r6_109 hres;rw[<-hk109]at hres;refine y7q (y7q (y2q (rd_op (y22q O (y4q.g_Field r1)) (rd_op (y19q O O O) (rd_op (y20q O O i_lss) (rd_op (y1q O) ?_))))));refine y63q (d:=39) (v:=vb ((decide (x1.Field < 0))||(decide ((x6_109.length:Int)<=x1.Field)))) ?_ ?_
  ·intro S Q r;simp only[ac86_G2,List.cons_append,List.nil_append,List.append_assoc];cases hb110:(decide (x1.Field < 0))
   ·intro k;have hb110':=hb110;try simp only[qa,qaD]at hb110'
    refine y18q O O (y22q O (y4q.g_Field r1)) (y18q O O (y19q O O O) (y18q O O (y1q O) (y18q O O (ov_bi O (y62q r6_109 Try.underlying23 _)) (y18q O O (y20q O O i_geq) (rd_op (v:=vb (decide ((x6_109.length:Int)<=x1.Field))) (y30q O O O O) ?_)))));exact y29q (y3q O (y0q O (y0q O (y0q O (y0q O (y0q O (y0q O (y25q _)))))))) k
   ·intro k;refine y12q O O (y12q O O (y12q O O (y12q O O (y12q O O (rd_op (v:=vb true) (y30q O O O O) ?_)))));exact y29q (y3q O (y0q O (y0q O (y0q O (y0q O (y0q O (y0q O (y25q _)))))))) k
  refine y10q (y6q ?_);refine y24q O (λhc111=>?_) (λhc111=>?_)
  ·replace hres:=(ite_t hc111).symm.trans hres;have hc111':=hc111;try simp only[qa,qaD]at hc111'
   refine y7q (y2q (rd_op (v:=vi 0) (y1q O) (rd_op (v:=vb false) (y1q O) (y10q (y6q ?_)))));subst hres;exact y35q (.tmp O (.tmp O .nil)) (y17q (show closed (.tup _)=true from(y15q O (y15q O y36q)))) O
  ·replace hres:=(ite_f hc111).symm.trans hres;have hc111':=hc111;try simp only[qa,qaD]at hc111'
   refine y34q (y6q (y7q (y2q (rd_op (y1q O) (rd_op (y22q O (y4q.g_Field r1)) (rd_op (y19q O O O) ?_))))));obtain⟨v112,e112,r112⟩:=y106q (i:=x1.Field) r6_109 V V;refine rd_op (y48q O O e112) (rd_op (y22q O (y14q.g_Width r112)) (rd_op (y19q O O O) (rd_op (y1q O) (rd_op (v:=vb true) (y1q O) (y10q (y6q ?_))))));subst hres;exact y35q (.tmp O (.tmp O .nil)) (y17q (show closed (.tup _)=true from(y15q O (y15q O y36q)))) O
 ·intro J;refine y24q O (λhc113=>?_) (λhc113=>?_)
  ·replace hres:=(ite_t hc113).symm.trans hres;have hc113':=hc113;try simp only[qa,qaD]at hc113'
   refine y7q (y7q (y2q (rd_op (y22q O (y4q.g_Header r1)) (rd_op (y19q O O O) (rd_op (y20q O O i_lss) (rd_op (y1q O) ?_))))));refine y63q (d:=22) (v:=vb ((decide (x1.Header < 0))||(decide ((x0.Headers.length:Int)<=x1.Header)))) ?_ ?_
   ·intro S Q r;simp only[ac86_G1,List.cons_append,List.nil_append,List.append_assoc];cases hb114:(decide (x1.Header < 0))
    ·intro k;have hb114':=hb114;try simp only[qa,qaD]at hb114'
     refine y18q O O (y22q O (y4q.g_Header r1)) (y18q O O (y19q O O O) ?_);obtain⟨v115,e115,r115⟩:=y5q.g_Headers r0;refine y18q O O (y22q O e115) (y18q O O (y19q O (TR.cnt (tSl y21q.t) r115) (TR.agg (tSl y21q.t) r115)) (y18q O O (ov_bi O (y62q r115 Try.underlying22 _)) (y18q O O (y20q O O i_geq) (rd_op (v:=vb (decide ((x0.Headers.length:Int)<=x1.Header))) (y30q O O O O) ?_))));exact y29q (y3q O (y0q O (y0q O (y0q O (y0q O (y0q O (y0q O (y0q O (y25q _))))))))) k
    ·intro k;refine y12q O O (y12q O O (y12q O O (y12q O O (y12q O O (y12q O O (rd_op (v:=vb true) (y30q O O O O) ?_))))));exact y29q (y3q O (y0q O (y0q O (y0q O (y0q O (y0q O (y0q O (y0q O (y25q _))))))))) k
   refine y10q (y6q ?_);refine y24q O (λhc116=>?_) (λhc116=>?_)
   ·replace hres:=(ite_t hc116).symm.trans hres;have hc116':=hc116;try simp only[qa,qaD]at hc116'
    refine y7q (y2q (rd_op (v:=vi 0) (y1q O) (rd_op (v:=vb false) (y1q O) (y10q (y6q ?_)))));subst hres;exact y35q (.tmp O (.tmp O .nil)) (y17q (show closed (.tup _)=true from(y15q O (y15q O y36q)))) O
   ·replace hres:=(ite_f hc116).symm.trans hres;have hc116':=hc116;try simp only[qa,qaD]at hc116'
    refine y34q (y6q (y2q ?_));obtain⟨v117,e117,r117⟩:=y5q.g_Headers r0;refine rd_op (y22q O e117) (rd_op (y19q O (TR.cnt (tSl y21q.t) r117) (TR.agg (tSl y21q.t) r117)) (rd_op (y22q O (y4q.g_Header r1)) (rd_op (y19q O O O) ?_)));obtain⟨v118,e118,r118⟩:=y106q (i:=x1.Header) r117 V V;refine rd_op (y48q O O e118) ?_;obtain⟨v119,e119,r119⟩:=y21q.g_Fields r118;refine rd_op (y22q O e119) (rd_op (y19q O (TR.cnt (tSl y14q.t) r119) (TR.agg (tSl y14q.t) r119)) (rd_op (y1q O) (y10q ?_)));refine y6q (y37q ((y3q O (y3q O (y31q _)))) (J _ _ r119 hres))
  ·replace hres:=(ite_f hc113).symm.trans hres;have hc113':=hc113;try simp only[qa,qaD]at hc113'
   refine y34q ?_;refine y6q (y37q ((y3q O (y3q O (y31q _)))) (J _ _ r101 hres))
/-- patchbay/expr.arity -/
def RF97(res:Int)(r:PV):Prop:=r=vi res
theorem f97_ok{x0:Int}:FnR Try.prog 97 [vi x0] (vi (y84q x0)):=by
 obtain⟨res,hres⟩:∃res,y84q x0=res:=⟨_,O⟩;suffices H:RC Try.prog ac97 [] (QR Try.prog [(2,none)] (RF97 res)) (argE 0 [vi x0]) ⟨0,[]⟩ by
  obtain⟨r,h1,h2⟩:=fnE text97 U H;rw[hres];have h2:r=vi res:=h2;rw[<-h2];exact h1
 unfold y84q at hres;unfold ac97;refine y7q (y2q (rd_op (v:=vi 0) (y1q O) (y10q (y6q (y7q (y7q (y2q (rd_op (y1q O) ?_))))))));refine y10q (y6q (y42q (y7q (y7q (y2q (rd_op (y20q O O i_eql) (rd_op (y1q O) (y10q ?_))))))));refine y6q ?_;obtain⟨k104,hk104,hres⟩:=y47q hres;refine rc_join (F:=λb S Q=>∀(x4_104:Bool),k104 x4_104=res->RC Try.prog b S Q [(4,vb x4_104),(3,vi x0)] ⟨0,[]⟩) ?_ ?_
 ·intro x4_104 hres;rw[<-hk104]at hres;refine y24q O (λhc105=>?_) (λhc105=>?_)
  ·replace hres:=(ite_t hc105).symm.trans hres;have hc105':=hc105;try simp only[qa,qaD]at hc105'
   refine y7q (y2q (rd_op (v:=vi 0) (y1q O) (y10q (y6q ?_))));subst hres;exact y35q (.tmp O .nil) (y17q O) O
  ·replace hres:=(ite_f hc105).symm.trans hres;have hc105':=hc105;try simp only[qa,qaD]at hc105'
   refine y7q (y7q (y2q (rd_op (y20q O O i_eql) (rd_op (y1q O) (y10q (y6q ?_))))));obtain⟨k109,hk109,hres⟩:=y47q hres;refine rc_join (F:=λb S Q=>∀(x9_109:Bool),k109 x9_109=res->RC Try.prog b S Q [(9,vb x9_109),(3,vi x0)] ⟨0,[]⟩) ?_ ?_
   ·intro x9_109 hres;rw[<-hk109]at hres;refine y24q O (λhc110=>?_) (λhc110=>?_)
    ·replace hres:=(ite_t hc110).symm.trans hres;have hc110':=hc110;try simp only[qa,qaD]at hc110'
     refine y7q (y2q (rd_op (v:=vi 1) (y1q O) (y10q (y6q ?_))));subst hres;exact y35q (.tmp O .nil) (y17q O) O
    ·replace hres:=(ite_f hc110).symm.trans hres;have hc110':=hc110;try simp only[qa,qaD]at hc110'
     refine y7q (y7q (y2q (rd_op (y20q O O i_eql) (rd_op (y1q O) (y10q (y6q ?_))))));obtain⟨k118,hk118,hres⟩:=y47q hres;refine rc_join (F:=λb S Q=>∀(x14_118:Bool),k118 x14_118=res->RC Try.prog b S Q [(14,vb x14_118),(3,vi x0)] ⟨0,[]⟩) ?_ ?_
     ·intro x14_118 hres;rw[<-hk118]at hres;refine y24q O (λhc119=>?_) (λhc119=>?_)
      ·replace hres:=(ite_t hc119).symm.trans hres;have hc119':=hc119;try simp only[qa,qaD]at hc119'
       refine y7q (y2q (rd_op (v:=vi 2) (y1q O) (y10q (y6q ?_))));subst hres;exact y35q (.tmp O .nil) (y17q O) O
      ·replace hres:=(ite_f hc119).symm.trans hres;have hc119':=hc119;try simp only[qa,qaD]at hc119'
       refine y7q (y2q (rd_op (y20q O O i_eql) (rd_op (y1q O) (y10q (y6q ?_)))));refine y24q O (λhc120=>?_) (λhc120=>?_)
       ·replace hres:=(ite_t hc120).symm.trans hres;have hc120':=hc120;try simp only[qa,qaD]at hc120'
        refine y7q (y2q (rd_op (v:=vi 3) (y1q O) (y10q (y6q ?_))));subst hres;exact y35q (.tmp O .nil) (y17q O) O
       ·replace hres:=(ite_f hc120).symm.trans hres;have hc120':=hc120;try simp only[qa,qaD]at hc120'
        refine y34q (y67q (y6q (y7q (y2q (rd_op (v:=vi (-1)) (y1q O) (y10q (y6q ?_)))))));subst hres;exact y35q (.tmp O .nil) (y17q O) O
     ·intro J;refine y24q O (λhc121=>?_) (λhc121=>?_)
      ·replace hres:=(ite_t hc121).symm.trans hres;have hc121':=hc121;try simp only[qa,qaD]at hc121'
       refine y34q ?_;refine y6q (y37q ((y3q O (y3q O (y31q _)))) (J _ hres))
      ·replace hres:=(ite_f hc121).symm.trans hres;have hc121':=hc121;try simp only[qa,qaD]at hc121'
       refine y7q (y2q (rd_op (y20q O O i_eql) (rd_op (y1q O) (y10q (y6q ?_)))));refine y24q O (λhc122=>?_) (λhc122=>?_)
       ·replace hres:=(ite_t hc122).symm.trans hres;have hc122':=hc122;try simp only[qa,qaD]at hc122'
        refine y34q ?_;refine y6q (y37q ((y3q O (y3q O (y31q _)))) (J _ hres))
       ·replace hres:=(ite_f hc122).symm.trans hres;have hc122':=hc122;try simp only[qa,qaD]at hc122'
        refine y7q (y2q (rd_op (y20q O O i_eql) (rd_op (y1q O) (y10q (y6q ?_)))));refine y24q O (λhc123=>?_) (λhc123=>?_)
        ·replace hres:=(ite_t hc123).symm.trans hres;have hc123':=hc123;try simp only[qa,qaD]at hc123'
         refine y34q ?_;refine y6q (y37q ((y3q O (y3q O (y31q _)))) (J _ hres))
        ·replace hres:=(ite_f hc123).symm.trans hres;have hc123':=hc123;try simp only[qa,qaD]at hc123'
         refine y7q (y2q (rd_op (y20q O O i_eql) (rd_op (y1q O) (y10q (y6q ?_)))));refine y24q O (λhc124=>?_) (λhc124=>?_)
         ·replace hres:=(ite_t hc124).symm.trans hres;have hc124':=hc124;try simp only[qa,qaD]at hc124'
          refine y34q ?_;refine y6q (y37q ((y3q O (y3q O (y31q _)))) (J _ hres))
         ·replace hres:=(ite_f hc124).symm.trans hres;have hc124':=hc124;try simp only[qa,qaD]at hc124'
          refine y7q (y2q (rd_op (y20q O O i_eql) (rd_op (y1q O) (y10q (y6q ?_)))));refine y24q O (λhc125=>?_) (λhc125=>?_)
          ·replace hres:=(ite_t hc125).symm.trans hres;have hc125':=hc125;try simp only[qa,qaD]at hc125'
           refine y34q ?_;refine y6q (y37q ((y3q O (y3q O (y31q _)))) (J _ hres))
          ·replace hres:=(ite_f hc125).symm.trans hres;have hc125':=hc125;try simp only[qa,qaD]at hc125'
           refine y7q (y2q (rd_op (y20q O O i_eql) (rd_op (y1q O) (y10q (y6q ?_)))));refine y24q O (λhc126=>?_) (λhc126=>?_)
           ·replace hres:=(ite_t hc126).symm.trans hres;have hc126':=hc126;try simp only[qa,qaD]at hc126'
            refine y34q ?_;refine y6q (y37q ((y3q O (y3q O (y31q _)))) (J _ hres))
           ·replace hres:=(ite_f hc126).symm.trans hres;have hc126':=hc126;try simp only[qa,qaD]at hc126'
            refine y7q (y2q (rd_op (y20q O O i_eql) (rd_op (y1q O) (y10q (y6q ?_)))));refine y24q O (λhc127=>?_) (λhc127=>?_)
            ·replace hres:=(ite_t hc127).symm.trans hres;have hc127':=hc127;try simp only[qa,qaD]at hc127'
             refine y34q ?_;refine y6q (y37q ((y3q O (y3q O (y31q _)))) (J _ hres))
            ·replace hres:=(ite_f hc127).symm.trans hres;have hc127':=hc127;try simp only[qa,qaD]at hc127'
             refine y2q (rd_op (y20q O O i_eql) (rd_op (y1q O) (y10q ?_)));refine y6q (y37q ((y3q O (y3q O (y31q _)))) (J _ hres))
   ·intro J;refine y24q O (λhc128=>?_) (λhc128=>?_)
    ·replace hres:=(ite_t hc128).symm.trans hres;have hc128':=hc128;try simp only[qa,qaD]at hc128'
     refine y34q ?_;refine y6q (y37q ((y3q O (y3q O (y31q _)))) (J _ hres))
    ·replace hres:=(ite_f hc128).symm.trans hres;have hc128':=hc128;try simp only[qa,qaD]at hc128'
     refine y7q (y2q (rd_op (y20q O O i_eql) (rd_op (y1q O) (y10q (y6q ?_)))));refine y24q O (λhc129=>?_) (λhc129=>?_)
     ·replace hres:=(ite_t hc129).symm.trans hres;have hc129':=hc129;try simp only[qa,qaD]at hc129'
      refine y34q ?_;refine y6q (y37q ((y3q O (y3q O (y31q _)))) (J _ hres))
     ·replace hres:=(ite_f hc129).symm.trans hres;have hc129':=hc129;try simp only[qa,qaD]at hc129'
      refine y7q (y2q (rd_op (y20q O O i_eql) (rd_op (y1q O) (y10q (y6q ?_)))));refine y24q O (λhc130=>?_) (λhc130=>?_)
      ·replace hres:=(ite_t hc130).symm.trans hres;have hc130':=hc130;try simp only[qa,qaD]at hc130'
       refine y34q ?_;refine y6q (y37q ((y3q O (y3q O (y31q _)))) (J _ hres))
      ·replace hres:=(ite_f hc130).symm.trans hres;have hc130':=hc130;try simp only[qa,qaD]at hc130'
       refine y2q (rd_op (y20q O O i_eql) (rd_op (y1q O) (y10q ?_)));refine y6q (y37q ((y3q O (y3q O (y31q _)))) (J _ hres))
 ·intro J;refine y24q O (λhc131=>?_) (λhc131=>?_)
  ·replace hres:=(ite_t hc131).symm.trans hres;have hc131':=hc131;try simp only[qa,qaD]at hc131'
   refine y34q ?_;refine y6q (y37q ((y3q O (y3q O (y31q _)))) (J _ hres))
  ·replace hres:=(ite_f hc131).symm.trans hres;have hc131':=hc131;try simp only[qa,qaD]at hc131'
   refine y7q (y2q (rd_op (y20q O O i_eql) (rd_op (y1q O) (y10q (y6q ?_)))));refine y24q O (λhc132=>?_) (λhc132=>?_)
   ·replace hres:=(ite_t hc132).symm.trans hres;have hc132':=hc132;try simp only[qa,qaD]at hc132'
    refine y34q ?_;refine y6q (y37q ((y3q O (y3q O (y31q _)))) (J _ hres))
   ·replace hres:=(ite_f hc132).symm.trans hres;have hc132':=hc132;try simp only[qa,qaD]at hc132'
    refine y7q (y2q (rd_op (y20q O O i_eql) (rd_op (y1q O) (y10q (y6q ?_)))));refine y24q O (λhc133=>?_) (λhc133=>?_)
    ·replace hres:=(ite_t hc133).symm.trans hres;have hc133':=hc133;try simp only[qa,qaD]at hc133'
     refine y34q ?_;refine y6q (y37q ((y3q O (y3q O (y31q _)))) (J _ hres))
    ·replace hres:=(ite_f hc133).symm.trans hres;have hc133':=hc133;try simp only[qa,qaD]at hc133'
     refine y2q (rd_op (y20q O O i_eql) (rd_op (y1q O) (y10q ?_)));refine y6q (y37q ((y3q O (y3q O (y31q _)))) (J _ hres))
/-- patchbay/expr.wide -/
def RF100(res:Int×Int)(r:PV):Prop:=r= .tup [vi res.1,vi res.2]
theorem f100_ok{x0:Int}:FnR Try.prog 100 [vi x0] (.tup [vi ((expr_wide x0).1),vi ((expr_wide x0).2)]):=by
 obtain⟨res,hres⟩:∃res,expr_wide x0=res:=⟨_,O⟩;suffices H:RC Try.prog ac100 [] (QR Try.prog [(2,none),(3,none)] (RF100 res)) (argE 0 [vi x0]) ⟨0,[]⟩ by
  obtain⟨r,h1,h2⟩:=fnE text100 U H;rw[hres];have h2:r= .tup [vi res.1,vi res.2]:=h2;rw[<-h2];exact h1
 unfold expr_wide at hres;unfold ac100;refine y7q (y2q (rd_op (v:=vi 0) (y1q O) (rd_op (v:=vi 0) (y1q O) (y10q (y6q (y7q (y7q (y2q ?_))))))));refine rd_op (y1q O) (rd_op (y20q O O i_lss) (rd_op (y1q O) ?_));refine y63q (d:=9) (v:=vb ((decide (x0 < 1))||(decide (32 < x0)))) ?_ ?_
 ·intro S Q r;simp only[ac100_G1,List.cons_append,List.nil_append,List.append_assoc];cases hb101:(decide (x0 < 1))
  ·intro k;have hb101':=hb101;try simp only[qa,qaD]at hb101'
   refine y18q O O (y1q O) (y18q O O (y20q O O i_gtr) (rd_op (v:=vb (decide (32 < x0))) (y30q O O O O) ?_));exact y29q (y3q O (y0q O (y0q O (y0q O (y25q _))))) k
  ·intro k;refine y12q O O (y12q O O (rd_op (v:=vb true) (y30q O O O O) ?_));exact y29q (y3q O (y0q O (y0q O (y0q O (y25q _))))) k
 refine y10q (y6q ?_);refine y24q O (λhc102=>?_) (λhc102=>?_)
 ·replace hres:=(ite_t hc102).symm.trans hres;have hc102':=hc102;try simp only[qa,qaD]at hc102'
  refine y7q (y2q (rd_op (v:=vi 0) (y1q O) (rd_op (v:=vi 10) (y1q O) (y10q (y6q ?_)))));subst hres;exact y35q (.tmp O (.tmp O .nil)) (y17q (show closed (.tup _)=true from(y15q O (y15q O y36q)))) O
 ·replace hres:=(ite_f hc102).symm.trans hres;have hc102':=hc102;try simp only[qa,qaD]at hc102'
  refine y34q (y6q (y7q (y2q (rd_op (y1q O) (rd_op (y1q O) (rd_op (v:=vi 0) (y1q O) (y10q (y6q ?_))))))));subst hres;exact y35q (.tmp O (.tmp O .nil)) (y17q (show closed (.tup _)=true from(y15q O (y15q O y36q)))) O
end Go.Proofs.Ytmonnlkagniolaa
