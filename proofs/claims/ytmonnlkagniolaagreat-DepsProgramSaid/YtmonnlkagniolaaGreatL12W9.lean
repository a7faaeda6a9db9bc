/-
 The code of each function does what its plain program says.
-/
import Derived.Test.YtmonnlkagniolaaGreatL12W8
set_option linter.unusedVariables false
set_option linter.unusedSimpArgs false
set_option maxRecDepth 100000
namespace Go.Proofs.YtmonnlkagniolaaGreat
open Go Go.Pb Go.RowKit
def RF216(res:Int×Int×Int)(r:PV):Prop:=r= .tup [vi res.1,vi res.2.1,vi res.2.2]
theorem ag4{S:List Fr}{res:Int×Int×Int}{x0:List ai}{x1:Int}{x2:bf}{rec_:(List ai)->Int->bf->(Int×Int×Int)}{mu_:Nat}{a9:Int}{v0 v2:PV}(r0:(tSl ai.t).R x0 v0)(r2:bf.t.R x2 v2)(h0:0<=x1)(hb:x0.length<=1000000)(ihR:∀{z0:List ai}{z1:Int}{z2:bf}{d7 e0:PV}(e5:(tSl ai.t).R z0 d7)(e4:bf.t.R z2 e0)(h0:0<=z1)(hb:z0.length<=1000000),(z0.length-z1.toNat) < mu_->FnR Tryz.prog 216 [d7,vi z1,e0] (.tup [vi ((rec_ z0 z1 z2).1),vi ((rec_ z0 z1 z2).2.1),vi ((rec_ z0 z1 z2).2.2)]))(hmu:mu_=(x0.length-x1.toNat))(hrec:∀(z0:List ai)(z1:Int)(z2:bf),0<=z1->z0.length<=1000000->(rec_ z0 z1 z2).2.2=0->z1 < (rec_ z0 z1 z2).2.1)(c4:(decide ((x0.length:Int)<=x1))=false)(d6:og ((ix x0 x1).Op)=a9)(d2:(decide (a9 < 0))=false)(b9:(decide (a9=0))=false){K0:Int->(List Int)->(Int×Int×Int)}
 (e3:∀{a4:Int}{zE109:List Int}{a0:List PV}{a1:PV}(a5:All2 tI.R zE109 a0)(a7:isL a1=true)(a2:Wri a1 a0)(a6:zE109.length<=4611686018427387904)(e6:(zE109.length:Int)=a9){h:Heap}(M0:Mem h [⟨a1,3,1,a0⟩]),K0 a4 zE109=res->PX Tryz.prog 0 S (QR Tryz.prog [(6,none),(7,none),(8,none)] (RF216 res)) [(0,v0),(1,vi x1),(12,a1),(13,vi a4)] h):
 ∀{m:Nat}{a4 a3:Int}{zE109:List Int}{a0:List PV}{a1:PV}(a5:All2 tI.R zE109 a0)(a7:isL a1=true)(a2:Wri a1 a0)(a6:zE109.length<=4611686018427387904)(d8:m=Int.toNat (a9-a3))(c7:0<=a3)(b1:x1 < a4)(b3:(zE109.length:Int)=a3)(b2:a3<=a9){h:Heap}(M0:Mem h [⟨a1,3,1,a0⟩]),od x0 x2 rec_ K0 m a4 a3 zE109=res->RC Tryz.prog (.loop cr1) S (QR Tryz.prog [(6,none),(7,none),(8,none)] (RF216 res)) [(14,vi a3),(13,vi a4),(12,a1),(9,vi a9),(5,.fp v2),(1,vi x1),(0,v0)] h:=by
 have hb':=hb;try simp only[qa]at hb'
 have b6:=c4;try simp only[qa]at b6
 have b7:=d2;try simp only[qa]at b7
 have b8:=b9;try simp only[qa]at b8
 intro m;induction m with
 |zero=>
  intro a4 a3 zE109 a0 a1 a5 a7 a2 a6 d8 c7 b1 b3 b2 h M0 z;rw[od]at z;refine cg (am (sR (mV O (mV O (bN cx O O (nS ?_))))));refine bv O ?_ ?_<;>intro c<;>try simp only[qa]at c
  ·omega
  refine dl (ee (dh ?_));exact wP (e3 a5 a7 a2 a6 V (Mem.sub M0 (.cons_cons _ .slnil)) z) O
 |succ m ih=>
  intro a4 a3 zE109 a0 a1 a5 a7 a2 a6 d8 c7 b1 b3 b2 h M0 z;rw[od]at z;refine cg (am (sR (mV O (mV O (bN cx O O (nS ?_))))));refine bv O ?_ ?_<;>intro c<;>try simp only[qa]at c
  rotate_left
  ·omega
  refine bc (aq (am (bm (sR (mV O (mV O (lD r2 O O O ?_)))))));obtain⟨a8,b4,z⟩:=br z;have c5:=ihR (z0:=x0) (z1:=a4) (z2:=x2) r0 r2 (by first|assumption|omega|(rw[db V V];omega)) (by first|assumption|omega|(rw[db V V];omega)) (by first|omega|(rw[db V V];omega));rw[b4]at c5;have d9:a8.2.2=0->a4 < a8.2.1:=by rw[<-b4];exact hrec _ _ _ V V
  refine cL c5 O O (ak (TR.clo (tSl ai.t) r0) (ak O (ak (TR.clo bf.t r2) bp))) (mV O (xT O O (xT O O (xT O O (mV O (mV O (mV O (nS ?_))))))));refine am (sR (mV O (bN kx O O (nS ?_))));refine ck z O ?_ ?_<;>clear z<;>intro c z<;>try simp only[qa]at c
  ·refine sR (mV O (mV O (mI O (mV O (mV O (nS ?_))))));subst z;exact ft (.tmp O (.tmp O (.tmp O .nil))) (du (show closed (.tup _)=true from(ak O (ak O (ak O bp))))) O
  ·refine bc (aq (sR (mV O (mV O (ah (v:= .fs true [vi a8.1]) (fk O (all_cons O iy)) ?_)))));have d5:(tSl tI).R ([a8.1]:List Int) (.fs true [vi a8.1]):=pt ⟨O,trivial⟩ OZ;obtain⟨b0,d1,b5⟩:=kv (t:=tI) (h:=h) d5;have d0:fits (a0.length+b0.length) 8=true:=by rw[All2.length_eq a5,All2.length_eq b5];(try simp only[List.length_cons,List.length_nil]);exact ii (by first|omega|(have hk:=rar OY;omega)|(simp only[List.length_append,List.length_cons,List.length_nil];have hk:=rar OY;omega)) (by first|omega|(have hk:=rar OY;omega)|(simp only[List.length_append,List.length_cons,List.length_nil];have hk:=rar OY;omega))
   refine jc (k:=0) (es:=a0) (news:=b0) M0 O O O a7 a2 d1 d0 (λe2 e1 d3 c9 d4=>?_);have c8:All2 tI.R (zE109++([a8.1]:List Int)) (a0++b0):=All2.app a5 b5;have c6:(zE109++([a8.1]:List Int)).length<=4611686018427387904:=by rw[<-All2.length_eq c8,List.length_append];exact gm d0
   refine mV O (nS (ax (mV O (mV O (bq (de (aq (ax ?_))))))));refine mV O (bN dt O O (mV O (bq (cy ?_))));have o:wr (a3+1)=a3+1:=db V (by(have hk:=rar OY;omega));erw[o];exact wC (ih c8 d3 c9 c6 V V (by first|(simp only[List.length_append,List.length_cons,List.length_nil];omega)|omega) (by first|(simp only[List.length_append,List.length_cons,List.length_nil];omega)|omega) (by first|(simp only[List.length_append,List.length_cons,List.length_nil];omega)|omega) (Mem.sub d4 (.cons_cons _ .slnil)) z) O
theorem cp4{rec_:(List ai)->Int->bf->(Int×Int×Int)}{mu_:Nat}{x0:List ai}{x1:Int}{x2:bf}{v0 v2:PV}(r0:(tSl ai.t).R x0 v0)(r2:bf.t.R x2 v2)(h0:0<=x1)(hb:x0.length<=1000000)(hmu:mu_=(x0.length-x1.toNat))(hrec:∀(z0:List ai)(z1:Int)(z2:bf),0<=z1->z0.length<=1000000->(rec_ z0 z1 z2).2.2=0->z1 < (rec_ z0 z1 z2).2.1)(ihR:∀{z0:List ai}{z1:Int}{z2:bf}{d5 d6:PV}(e6:(tSl ai.t).R z0 d5)(e5:bf.t.R z2 d6)(h0:0<=z1)(hb:z0.length<=1000000),(z0.length-z1.toNat) < mu_->FnR Tryz.prog 216 [d5,vi z1,d6] (.tup [vi ((rec_ z0 z1 z2).1),vi ((rec_ z0 z1 z2).2.1),vi ((rec_ z0 z1 z2).2.2)])):FnR Tryz.prog 216 [v0,vi x1,v2] (.tup [vi ((qi rec_ x0 x1 x2).1),vi ((qi rec_ x0 x1 x2).2.1),vi ((qi rec_ x0 x1 x2).2.2)]):=by
 refine fnS (R:=RF216) dg1 (λ_ h=>h) O λres z=>?_;unfold qi at z;refine sR (ah (ej O (TR.cnt bf.t r2)) (mI O (mI O (mI O (nS (am (sR (mV O ?_))))))));refine mV O (ah (da O (co r0 Tryz.underlying32 _)) (bN lh O O (nS ?_)));refine ck z O ?_ ?_<;>clear z<;>intro a5 z<;>have a7:=a5<;>try simp only[qa]at a7
 ·refine sR (mV O (mI O (mV O (mI O (nS ?_)))));subst z;exact ft (.tmp O (.tmp O (.tmp O .nil))) (du (show closed (.tup _)=true from(ak O (ak O (ak O bp))))) O
 ·refine bc (aq (sR (mV O (mV O ?_))));obtain⟨e4,d2,d3⟩:=dn (i:=x1) r0 V V;refine ah (bn O O d2) (fL O (ai.g_Op d3) O O ?_);obtain⟨e1,a3,z⟩:=br z;have b5:=cz5 (x0:=(ix x0 x1).Op);rw[a3]at b5;refine cL b5 O O (ak O bp) (mV O (nS (am (sR (mV O (bN cx O O (nS ?_)))))));refine ck z O ?_ ?_<;>clear z<;>intro a6 z<;>have a8:=a6<;>try simp only[qa]at a8
  ·refine sR (mV O (mI O (mV O (mI O (nS ?_)))));subst z;exact ft (.tmp O (.tmp O (.tmp O .nil))) (du (show closed (.tup _)=true from(ak O (ak O (ak O bp))))) O
  ·refine bc (aq (am (sR (mV O (bN dy O O (nS ?_))))));refine ck z O ?_ ?_<;>clear z<;>intro a4 z<;>have b0:=a4<;>try simp only[qa]at b0
   ·refine sR (mV O (mV O ?_));obtain⟨d7,d0,b1⟩:=dn (i:=x1) r0 V V;refine ah (bn O O d0) (lD b1 O O O (lD r2 O O O ?_));obtain⟨e0,c4,z⟩:=br z;have b8:=do1 b1 r2;rw[c4]at b8;refine cL b8 O O (ak (TR.clo ai.t b1) (ak (TR.clo bf.t r2) bp)) (mV O (xT O O (xT O O (mV O (mV O (nR (mV O (mV O ?_))))))));refine bN dt O O (mV O (mV O (mV O (mV O (nS ?_)))));subst z;exact ft (.tmp O (.tmp O (.tmp O .nil))) (du (show closed (.tup _)=true from(ak O (ak O (ak O bp))))) O
   ·refine bc (aq (sR (ah (v:=nilS) (ba O) (nR (mV O (bN dt O O (mV O (nS ?_))))))));refine am (sR (mI O (nS (bm ?_))));have d1:=my (sz:=1) (es:=[]) (Mem.nil ⟨0,[]⟩) 3 (.inl ⟨none,O,O⟩) OZ;refine wC (ag4 r0 r2 h0 hb ihR hmu hrec a5 a3 a6 a4 ?_ aL O (.inl O) (by first|decide|simp) O V (by first|omega|simp|(rw[db V V];omega)) (by first|omega|simp|(rw[db V V];omega)) (by first|omega|simp|(rw[db V V];omega)) (Mem.sub d1 (.cons_cons _ .slnil)) z) O
    ·intro c6 b3 b2 b9 a1 a2 b4 a0 c5 e2 c8 z;refine em (aq (sR (mV O (mV O ?_))));obtain⟨d8,c9,a9⟩:=dn (i:=x1) r0 V V;refine ah (bn O O c9) (lD a9 O O O (mV O ?_));obtain⟨d9,d4,c7⟩:=py (P:=Tryz.prog) (k:=0) (t:=tI) c8 O a2 a1 (Nat.le_trans a0 OO);obtain⟨e3,b7,z⟩:=br z;have b6:=cv6 a9 c7 (by first|omega|(have hk:=rar OY;omega)) (by first|omega|(have hk:=rar OY;omega));rw[b7]at b6;refine ap4 (br6 O O (tl (du (TR.clo ai.t a9)) (tl d4 bb0)) b6 O) (mV O (xT O O (xT O O (mV O (mV O (nR (mV O (mV O ?_))))))));refine mV O (mV O (mV O (mV O (nS ?_))));subst z;exact ft (.tmp O (.tmp O (.tmp O .nil))) (du (show closed (.tup _)=true from(ak O (ak O (ak O bp))))) O
theorem cf8:∀(n_:Nat){x0:List ai}{x1:Int}{x2:bf}{v0 v2:PV}(r0:(tSl ai.t).R x0 v0)(r2:bf.t.R x2 v2)(h0:0<=x1)(hb:x0.length<=1000000),(x0.length-x1.toNat) < n_->FnR Tryz.prog 216 [v0,vi x1,v2] (.tup [vi ((jz n_ x0 x1 x2).1),vi ((jz n_ x0 x1 x2).2.1),vi ((jz n_ x0 x1 x2).2.2)]):=by
 intro n_;induction n_ with
 |zero=>intros;rename_i hlt;exact absurd hlt (Nat.not_lt_zero _)
 |succ n_ ihn=>
  intro x0 x1 x2 v0 v2 r0 r2 h0 hb hlt;have e_:jz (n_+1) x0 x1 x2=qi (jz n_) x0 x1 x2:=by rw[jz]
  rw[e_];exact cp4 r0 r2 h0 hb O (bh9 n_) (λ{z0}{z1}{z2}{zv0}{zv2} zr0 zr2 h0 hb hz=>ihn zr0 zr2 h0 hb V)
theorem dd2{x0:List ai}{x1:Int}{x2:bf}{v0 v2:PV}(r0:(tSl ai.t).R x0 v0)(r2:bf.t.R x2 v2)(h0:0<=x1)(hb:x0.length<=1000000):FnR Tryz.prog 216 [v0,vi x1,v2] (.tup [vi ((ue x0 x1 x2).1),vi ((ue x0 x1 x2).2.1),vi ((ue x0 x1 x2).2.2)]):=cf8 _ r0 r2 h0 hb (Nat.lt_succ_self _)
def RF156(res:Int×Int)(r:PV):Prop:=r= .tup [vi res.1,vi res.2]
theorem bc9{x0:List ai}{x1:bf}{v0 v1:PV}(r0:(tSl ai.t).R x0 v0)(r1:bf.t.R x1 v1):FnR Tryz.prog 156 [v0,v1] (.tup [vi ((qq x0 x1).1),vi ((qq x0 x1).2)]):=by
 refine fnS (R:=RF156) dh8 (λ_ h=>h) O λres z=>?_;unfold qq at z;refine sR (ah (ej O (TR.cnt bf.t r1)) (mI O (mI O (nS (am (sR (mV O (ah (da O (co r0 Tryz.underlying32 _)) ?_))))))));refine bN kh O O (nS ?_);refine ck z O ?_ ?_<;>clear z<;>intro c z<;>try simp only[qa]at c
 ·refine sR (mI O (mI O (nS ?_)));exact rT z O O O O O
 ·refine bc (aq (sR (mV O (lD r1 O O O ?_))));obtain⟨a2,a1,z⟩:=br z;have a0:=dd2 (x1:=0) r0 r1 (by first|assumption|omega|(rw[db V V];omega)) (by first|assumption|omega|(rw[db V V];omega));rw[a1]at a0;refine cL a0 O O (ak (TR.clo (tSl ai.t) r0) (ak O (ak (TR.clo bf.t r1) bp))) (mV O (xT O O (xT O O (xT O O (mV O (mV O (mV O (nS ?_))))))));refine am (bm (sR (mV O (bN kx O O (mV O (nS ?_))))));refine ck z O ?_ ?_<;>clear z<;>intro c z<;>try simp only[qa]at c
  ·refine sR (mV O (mI O (mV O (nS ?_))));exact rT z O O O O O
  ·refine sR (mV O (mV O (ah (da O (co r0 Tryz.underlying32 _)) (bN cx O O (mV O (nS ?_))))));refine ck z O ?_ ?_<;>clear z<;>intro c z<;>try simp only[qa]at c
   ·refine sR (mI O (mI O (nS ?_)));exact rT z O O O O O
   ·refine bc (de (aq (sR (mV O (mV O (mI O (nS ?_)))))));exact rT z O O O O O
def RF178(res:Int)(r:PV):Prop:=r=vi res
theorem bv9{x0:List ai}{x1:bf}{x2:Int}{v0 v1:PV}(r0:(tSl ai.t).R x0 v0)(r1:bf.t.R x1 v1):FnR Tryz.prog 178 [v0,v1,vi x2] (vi (sy x0 x1 x2)):=by
 refine fnS (R:=RF178) dc4 (λ_ h=>h) O λres z=>?_;unfold sy at z;refine sR (ah (ej O (TR.cnt bf.t r1)) (mI O (nR (mV O (lD r1 O O O ?_)))));obtain⟨a0,a3,z⟩:=br z;have a2:=bc9 r0 r1;rw[a3]at a2;refine cL a2 O O (ak (TR.clo (tSl ai.t) r0) (ak (TR.clo bf.t r1) bp)) (mV O (xT O O (xT O O (mV O (mV O (nS (am (sR ?_))))))));refine mV O (bN dy O O (mV O ?_));refine cq 4 (d:=21) (v:=vb ((decide (a0.2=0))&&(!decide (a0.1=x2)))) ?_ ?_
 ·intro S Q r;cases a4:(decide (a0.2=0))
  ·exact gN 3 O O O O O O
  ·intro k;have a1:=a4;try simp only[qa]at a1
   refine aj O O (ba O) (aj O O (ba O) (aj O O (ct O O kx) ?_));exact gK O O O O O k
 refine nS ?_;refine ck z O ?_ ?_<;>clear z<;>intro c z<;>try simp only[qa]at c
 ·refine sR (mI O (nS ?_));exact rR z O O O
 ·refine bc (aq (sR (mV O (mV O (nS ?_)))));exact rR z O O O
def RF107(res:Int)(r:PV):Prop:=r=vi res
theorem dh4{x0:af}{x1:aw}{x2:bf}{v0 v1 v2:PV}(r0:af.t.R x0 v0)(r1:aw.t.R x1 v1)(r2:bf.t.R x2 v2):FnR Tryz.prog 107 [v0,v1,v2] (vi (re x0 x1 x2)):=by
 refine fnS (R:=RF107) dh7 (λ_ h=>h) O λres z=>?_;unfold re at z;refine sR (ah (ej O (TR.cnt af.t r0)) (ah (ej O (TR.cnt aw.t r1)) (ah (ej O (TR.cnt bf.t r2)) (mI O (nR (lD r0 O O O (gL (aw.g_Dst r1) O O O λe9 b2=>?_)))))));obtain⟨a1,d0,z⟩:=br z;have d1:=bv7 r0 b2;rw[d0]at d1;refine cL d1 O O (ak (TR.clo af.t r0) (ak (TR.clo aa.t b2) bp)) (mV O (xT O O (xT O O (mV O (mV O (nR (fL O (aw.g_Register r1) O O (bN lh O O ?_))))))));refine mV O ?_;refine cq 7 (d:=31) (v:=vb ((decide (0<=x1.Register))&&(decide (x1.Register < (x0.Registers.length:Int))))) ?_ ?_
 ·intro S Q r;cases b4:(decide (0<=x1.Register))
  ·exact gN 6 O O O O O O
  ·intro k;have a5:=b4;try simp only[qa]at a5
   refine aj O O (cw O (aw.g_Register r1)) (aj O O (cp O O O) ?_);obtain⟨f4,e2,a7⟩:=af.g_Registers r0;refine aj O O (cw O e2) (aj O O (cp O (TR.cnt (tSl cz.t) a7) (TR.agg (tSl cz.t) a7)) (aj O O (da O (co a7 Tryz.underlying24 _)) (aj O O (ct O O cx) ?_)));exact gK O O O O O k
 refine mV O (nS (am (sR (fL O (aw.g_Kind r1) O O (nS (bm (sR (bN dy O O ?_))))))));refine mV O (nS ?_);refine ck z O ?_ ?_<;>clear z<;>intro c z<;>try simp only[qa]at c
 ·refine am (sR (mV O (ah (ku O) (nS ?_))));refine ck z O ?_ ?_<;>clear z<;>intro c z<;>try simp only[qa]at c
  ·refine sR (mI O (nS ?_));exact rR z O O O
  ·refine bc (aq (sR (gL (aw.g_Value r1) O O O λf7 c8=>(lD r2 O O O (mV O ?_)))));obtain⟨f6,b6,z⟩:=br z;have c5:=bv9 (x2:=a1.1) c8 r2;rw[b6]at c5;refine cL c5 O O (ak (TR.clo (tSl ai.t) c8) (ak (TR.clo bf.t r2) (ak O bp))) (mV O (nS ?_));exact rR z O O O
 ·refine am (sR (bN dy O O (mV O (nS ?_))));obtain⟨e0,b9,z⟩:=br z;refine ni (F:=λb S Q=>∀(a0:Bool),e0 a0=res->RC Tryz.prog b S Q [(43,vb a0),(33,vi x1.Kind),(9,vb ((decide (0<=x1.Register))&&(decide (x1.Register < (x0.Registers.length:Int))))),(8,vb a1.2),(7,vi a1.1),(5,.fp v2),(4,.fp v1),(3,.fp v0)] ⟨0,[]⟩) ?_ ?_
  ·intro a0 z;rw[<-b9]at z;refine ck z O ?_ ?_<;>clear z<;>intro c z<;>try simp only[qa]at c
   ·refine am (sR (fL O (aw.g_Header r1) O O (bN cx O O (mV O ?_))));refine cq 7 (d:=56) (v:=vb ((decide (x1.Header < 0))||(decide ((x0.Headers.length:Int)<=x1.Header)))) ?_ ?_
    ·intro S Q r;cases b3:(decide (x1.Header < 0))
     ·intro k;have a9:=b3;try simp only[qa]at a9
      refine aj O O (cw O (aw.g_Header r1)) (aj O O (cp O O O) ?_);obtain⟨f2,e3,a2⟩:=af.g_Headers r0;refine aj O O (cw O e3) (aj O O (cp O (TR.cnt (tSl cm.t) a2) (TR.agg (tSl cm.t) a2)) (aj O O (da O (co a2 Tryz.underlying22 _)) (aj O O (ct O O lh) ?_)));exact gK O O O O O k
     ·exact gN 6 O O O O O O
    refine nS ?_;refine ck z O ?_ ?_<;>clear z<;>intro c z<;>try simp only[qa]at c
    ·refine sR (mI O (nS ?_));exact rR z O O O
    ·refine bc (aq (sR (mI O (nS ?_))));exact rR z O O O
   ·refine sR (bN dy O O (mV O (nS ?_)));refine ck z O ?_ ?_<;>clear z<;>intro c z<;>try simp only[qa]at c
    ·refine am (sR (mV O (ah (ku O) (mV O ?_))));refine cq 3 (d:=64) (v:=vb ((!a1.2)||(!((decide (0<=x1.Register))&&(decide (x1.Register < (x0.Registers.length:Int))))))) ?_ ?_
     ·intro S Q r;cases c6:(!a1.2)
      ·intro k;have a4:=c6;try simp only[qa]at a4
       refine aj O O (ba O) (aj O O (ku O) ?_);exact gK O O O O O k
      ·exact gN 2 O O O O O O
     refine nS ?_;refine ck z O ?_ ?_<;>clear z<;>intro c z<;>try simp only[qa]at c
     ·refine sR (mI O (nS ?_));exact rR z O O O
     ·refine bc (aq (sR ?_));obtain⟨e5,e1,a3⟩:=aw.g_Index r1;refine fA O e1 (lD a3 O O O (lD r2 O O O ?_));obtain⟨b1,d2,z⟩:=br z;have b0:=bc9 a3 r2;rw[d2]at b0;refine cL b0 O O (ak (TR.clo (tSl ai.t) a3) (ak (TR.clo bf.t r2) bp)) (mV O (xT O O (xT O O (mV O (mV O (nS (am (sR ?_))))))));refine mV O (bN dy O O (mV O ?_));refine cq 10 (d:=84) (v:=vb ((decide (b1.2=0))&&(!decide (a1.1=((ix x0.Registers x1.Register).Width))))) ?_ ?_
      ·intro S Q r;cases c4:(decide (b1.2=0))
       ·exact gN 9 O O O O O O
       ·intro k;have a8:=c4;try simp only[qa]at a8
        refine aj O O (ba O) ?_;obtain⟨e6,d8,a6⟩:=af.g_Registers r0;refine aj O O (cw O d8) (aj O O (cp O (TR.cnt (tSl cz.t) a6) (TR.agg (tSl cz.t) a6)) (aj O O (cw O (aw.g_Register r1)) (aj O O (cp O O O) ?_)));obtain⟨f5,d5,d9⟩:=dn (i:=x1.Register) a6 V V;refine aj O O (bn O O d5) (aj O O (cw O (cz.g_Width d9)) (aj O O (cp O O O) (aj O O (ct O O kx) ?_)));exact gK O O O O O k
      refine nS ?_;refine ck z O ?_ ?_<;>clear z<;>intro c z<;>try simp only[qa]at c
      ·refine sR (mI O (nS ?_));exact rR z O O O
      ·refine bc (aq (sR (mV O (mV O (nS ?_)))));exact rR z O O O
    ·refine sR (bN dy O O (mV O (nS ?_)));refine ck z O ?_ ?_<;>clear z<;>intro c z<;>try simp only[qa]at c
     ·refine am (sR (mV O (ah (ku O) (nS ?_))));refine ck z O ?_ ?_<;>clear z<;>intro c z<;>try simp only[qa]at c
      ·refine sR (mI O (nS ?_));exact rR z O O O
      ·refine bc (aq (sR (gL (aw.g_Index r1) O O O λf0 b5=>(lD r2 O O O ?_))));obtain⟨e7,c9,z⟩:=br z;have b8:=bc9 b5 r2;rw[c9]at b8;refine cL b8 O O (ak (TR.clo (tSl ai.t) b5) (ak (TR.clo bf.t r2) bp)) (mV O (xT O O (xT O O (mV O (mV O (nS (am (sR ?_))))))));refine mV O (bN kx O O (nS ?_));refine ck z O ?_ ?_<;>clear z<;>intro c z<;>try simp only[qa]at c
       ·refine sR (mV O (mV O (nS ?_)));exact rR z O O O
       ·refine bc (aq (sR (gL (aw.g_Value r1) O O O λf3 c7=>(lD r2 O O O (gL (af.g_Registers r0) O O O λf1 d7=>(fL O (aw.g_Register r1) O O ?_))))));obtain⟨e8,d6,d4⟩:=dn (i:=x1.Register) d7 V V;refine ah (bn O O d6) (fL O (cz.g_Width d4) O O ?_);obtain⟨e4,d3,z⟩:=br z;have b7:=bv9 (x2:=(ix x0.Registers x1.Register).Width) c7 r2;rw[d3]at b7;refine cL b7 O O (ak (TR.clo (tSl ai.t) c7) (ak (TR.clo bf.t r2) (ak O bp))) (mV O (nS ?_));exact rR z O O O
     ·refine bc (de (aq (sR (mI O (nS ?_)))));exact rR z O O O
  ·intro J;refine ck z O ?_ ?_<;>clear z<;>intro c z<;>try simp only[qa]at c
   ·refine bc ?_;refine aq (wC (J _ z) O)
   ·refine ax (bN dy O O (mV O (bq ?_)));refine aq (wC (J _ z) O)
def RF36(res:Int×Int)(r:PV):Prop:=r= .tup [vi res.1,vi res.2]
theorem ah5{S:List Fr}{res:Int×Int}{x0:af}{x1:Int}{b6:Bool}{c5:Int}{v0 a4:PV}{a9 a2:Nat}(r0:af.t.R x0 v0)(b7:((decide (x1 < 0))||(decide ((x0.Actions.length:Int)<=x1)))=false)(a3:bt.t.R (ix x0.Actions x1) a4)(d4:ki ((ix x0.Actions x1).Name)=b6)(b4:(!b6)=false)(b8:((decide (4 < (((ix x0.Actions x1).Params).length:Int)))||(decide (12 < (((ix x0.Actions x1).Body).length:Int))))=false)(d3:ry ((ix x0.Actions x1).Params)=c5)(c4:(!decide (c5=0))=false){K1:Unit->(Int×Int)}
 (d7:∀{h:Heap}(M0:Mem h [⟨.op a9 a2 0,97,3,[a4]⟩]),K1 ()=res->PX Tryz.prog 1 S (QR Tryz.prog [(4,none),(5,none)] (RF36 res)) [] h):
 ∀{m:Nat}{a0:Int}(d5:m=Int.toNat ((((ix x0.Actions x1).Body).length:Int)-a0))(b5:0<=a0){h:Heap}(M0:Mem h [⟨.op a9 a2 0,97,3,[a4]⟩]),pq x0 x1 K1 m a0=res->RC Tryz.prog (.loop dk8) S (QR Tryz.prog [(4,none),(5,none)] (RF36 res)) [(7,vi a0),(6,.op a9 a2 0),(2,.fp v0),(1,vi x1)] h:=by
 have a8:=b7;try simp only[qa]at a8
 have a5:=b4;try simp only[qa]at a5
 have b0:=b8;try simp only[qa]at b0
 have a1:=c4;try simp only[qa]at a1
 intro m;induction m with
 |zero=>
  intro a0 d5 b5 h M0 z;rw[pq]at z;refine cg (am (sR (mV O (ah (bh O) ?_))));obtain⟨e1,c9,d0⟩:=bt.g_Body a3;refine ah (ci (k:=0) M0 O O c9) (ah (da O (co d0 Tryz.underlying95 _)) (bN cx O O (nS ?_)));refine bv O ?_ ?_<;>intro c<;>try simp only[qa]at c
  ·omega
  refine dl (ee (dh ?_));exact wP (d7 (Mem.sub M0 (.cons_cons _ .slnil)) z) O
 |succ m ih=>
  intro a0 d5 b5 h M0 z;rw[pq]at z;refine cg (am (sR (mV O (ah (bh O) ?_))));obtain⟨e2,c6,b3⟩:=bt.g_Body a3;refine ah (ci (k:=0) M0 O O c6) (ah (da O (co b3 Tryz.underlying95 _)) (bN cx O O (nS ?_)));refine bv O ?_ ?_<;>intro c<;>try simp only[qa]at c
  rotate_left
  ·omega
  refine bc (aq (am (bm (sR (lD r0 O O O (ah (bh O) ?_))))));obtain⟨d9,c7,d1⟩:=bt.g_Body a3;refine ah (ci (k:=0) M0 O O c7) (mV O ?_);obtain⟨d6,c8,a7⟩:=dn (i:=a0) d1 V V;refine ah (bn O O c8) (lD a7 O O O (lD r0 O O O (mV O ?_)));obtain⟨e0,b1,z⟩:=br z;obtain⟨e3,d2,a6⟩:=eb2 (x1:=x1) r0 (by first|assumption|omega|(rw[db V V];omega));rw[b1]at a6;refine cL d2 O O (ak (TR.clo af.t r0) (ak O bp)) ?_;obtain⟨d8,b9,z⟩:=br z;have b2:=dh4 r0 a7 a6;rw[b9]at b2;refine cL b2 O O (ak (TR.clo af.t r0) (ak (TR.clo aw.t a7) (ak (TR.clo bf.t a6) bp))) (mV O (nR (mV O (bN kx O O (nS ?_)))));refine ck z O ?_ ?_<;>clear z<;>intro c z<;>try simp only[qa]at c
  ·refine sR (mV O (mV O (mV O (mV O (nS ?_)))));exact rT z O O O O O
  ·refine bc (de (aq (ax (mV O (bN dt O O (mV O (bq (cy ?_))))))));have s:=df b3;have o:wr (a0+1)=a0+1:=db V V;erw[o];exact wC (ih V V (Mem.sub M0 (.cons_cons _ .slnil)) z) O
theorem cc9{x0:af}{x1:Int}{v0:PV}(r0:af.t.R x0 v0):FnR Tryz.prog 36 [v0,vi x1] (.tup [vi ((ny x0 x1).1),vi ((ny x0 x1).2)]):=by
 refine fnS (R:=RF36) ed9 (λ_ h=>h) O λres z=>?_;unfold ny at z;refine sR (ah (ej O (TR.cnt af.t r0)) (mI O (mI O (nS (am (sR (mV O (bN cx O O ?_))))))));refine mV O ?_;refine cq 6 (d:=17) (v:=vb ((decide (x1 < 0))||(decide ((x0.Actions.length:Int)<=x1)))) ?_ ?_
 ·intro S Q r;cases b9:(decide (x1 < 0))
  ·intro k;have b1:=b9;try simp only[qa]at b1
   refine aj O O (ba O) ?_;obtain⟨f1,d5,b0⟩:=af.g_Actions r0;refine aj O O (cw O d5) (aj O O (cp O (TR.cnt (tSl bt.t) b0) (TR.agg (tSl bt.t) b0)) (aj O O (da O (co b0 Tryz.underlying25 _)) (aj O O (ct O O lh) ?_)));exact gK O O O O O k
  ·exact gN 5 O O O O O O
 refine nS ?_;refine ck z O ?_ ?_<;>clear z<;>intro a5 z<;>have b2:=a5<;>try simp only[qa]at b2
 ·refine sR (mI O (mI O (nS ?_)));exact rT z O O O O O
 ·refine bc (aq (sR (gL (af.g_Actions r0) O O O λe7 d0=>(mV O ?_))));obtain⟨c5,d1,a1⟩:=dn (i:=x1) d0 V V;refine ah (bn O O d1) (lD a1 O O O ?_);refine dz (x:= .agg [vs [],nilS,nilS]) (Mem.nil ⟨0,[]⟩) O O (λd9 d4 e6 d7=>?_);refine dm (k:=0) (v:=c5) d7 O O O (TR.cnt bt.t a1) (λc9 a0=>?_);replace a0:Mem c9 [⟨.op d9 d4 0,97,3,[c5]⟩]:=a0;refine nS (am (bm (sR (ah (bh O) (ah (ci (k:=0) a0 O O (bt.g_Name a1)) ?_)))));obtain⟨e4,a4,z⟩:=br z;have c4:=bx3 (x0:=(ix x0.Actions x1).Name);rw[a4]at c4;refine cL c4 O O (ak O bp) (ah (ku O) (mV O (nS ?_)));refine ck z O ?_ ?_<;>clear z<;>intro a3 z<;>have a9:=a3<;>try simp only[qa]at a9
  ·refine sR (mI O (mI O (nS ?_)));exact rT z O O O O O
  ·refine sR (ah (bh O) ?_);obtain⟨f0,d2,d3⟩:=bt.g_Params a1;refine ah (ci (k:=0) a0 O O d2) (ah (da O (co d3 Tryz.underlying23 _)) (bN kh O O (mV O ?_)));refine cq 5 (d:=38) (v:=vb ((decide (4 < (((ix x0.Actions x1).Params).length:Int)))||(decide (12 < (((ix x0.Actions x1).Body).length:Int))))) ?_ ?_
   ·intro S Q r;cases b8:(decide (4 < (((ix x0.Actions x1).Params).length:Int)))
    ·intro k;have b3:=b8;try simp only[qa]at b3
     refine aj O O (bh O) ?_;obtain⟨e5,e0,c8⟩:=bt.g_Body a1;refine aj O O (ci (k:=0) a0 O O e0) (aj O O (da O (co c8 Tryz.underlying95 _)) (aj O O (ct O O kh) ?_));exact gK O O O O O k
    ·exact gN 4 O O O O O O
   refine mV O (nS ?_);refine ck z O ?_ ?_<;>clear z<;>intro a6 z<;>have b4:=a6<;>try simp only[qa]at b4
   ·refine sR (mI O (mI O (nS ?_)));exact rT z O O O O O
   ·refine sR (ah (bh O) ?_);obtain⟨e8,d8,b6⟩:=bt.g_Params a1;refine ah (ci (k:=0) a0 O O d8) ?_;obtain⟨f2,a2,z⟩:=br z;have c6:=bt3 b6;rw[a2]at c6;refine cL c6 O O (ak (TR.clo (tSl bg.t) b6) bp) (bN kx O O (mV O (nS ?_)));refine ck z O ?_ ?_<;>clear z<;>intro a7 z<;>have a8:=a7<;>try simp only[qa]at a8
    ·refine sR (ah (bh O) ?_);obtain⟨e3,d6,b7⟩:=bt.g_Params a1;refine ah (ci (k:=0) a0 O O d6) ?_;obtain⟨e1,c7,z⟩:=br z;have b5:=bt3 b7;rw[c7]at b5;refine cL b5 O O (ak (TR.clo (tSl bg.t) b7) bp) (mI O (mV O (nS ?_)));exact rT z O O O O O
    ·refine bc (de (aq (am (sR (mI O (nS (bm ?_)))))));refine wC (ah5 r0 a5 a1 a4 a3 a6 a2 a7 ?_ O V (Mem.sub a0 (.cons_cons _ .slnil)) z) O
     ·intro e9 e2 z;refine em (aq (sR (mI O (mI O (nS ?_)))));exact rT z O O O O O
def RF180(res:Bool)(r:PV):Prop:=r=vb res
theorem cz9{x0:aa}{x1:aa}{v0 v1:PV}(r0:aa.t.R x0 v0)(r1:aa.t.R x1 v1):FnR Tryz.prog 180 [v0,v1] (vb (ke x0 x1)):=by
 refine fnS (R:=RF180) dk5 (λ_ h=>h) O λres z=>?_;unfold ke at z;refine sR (ah (ej O (TR.cnt aa.t r0)) (ah (ej O (TR.cnt aa.t r1)) (mB O (nR (fL O (aa.g_Header r0) O O (fL O (aa.g_Header r1) O O (bN cx O O (mV O ?_))))))));refine cq 13 (d:=23) (v:=vb ((decide (x0.Header < x1.Header))||((decide (x0.Header=x1.Header))&&(decide (x0.Field < x1.Field))))) ?_ ?_
 ·intro S Q r;cases a3:(decide (x0.Header < x1.Header))
  ·intro k;have a0:=a3;try simp only[qa]at a0
   refine aj O O (cw O (aa.g_Header r0)) (aj O O (cp O O O) (aj O O (cw O (aa.g_Header r1)) (aj O O (cp O O O) (aj O O (ct O O dy) (aj O O (ba O) ?_)))));refine cq 6 (d:=22) (v:=vb ((decide (x0.Header=x1.Header))&&(decide (x0.Field < x1.Field)))) ?_ ?_
   ·intro S Q r;cases a2:(decide (x0.Header=x1.Header))
    ·intro k;refine fx O O (fx O O (fx O O (fx O O (fx O O (aj (v:=vb false) O O (oo O O O O) ?_)))));exact wD k O
    ·intro k;have a1:=a2;try simp only[qa]at a1
     refine aj O O (cw O (aa.g_Field r0)) (aj O O (cp O O O) (aj O O (cw O (aa.g_Field r1)) (aj O O (cp O O O) (aj O O (ct O O cx) (aj (v:=vb (decide (x0.Field < x1.Field))) O O (oo O O O O) ?_)))));exact wD k O
   exact gK O O O O O k
  ·exact gN 12 O O O O O O
 refine mV O (nS ?_);exact rR z O O O
def RF113(res:(List aa))(r:PV):Prop:=(tSl aa.t).R res r
theorem yt{S:List Fr}{res:(List aa)}{x0:List aa}{x1:aa}{v0 v1:PV}(r0:(tSl aa.t).R x0 v0)(r1:aa.t.R x1 v1)(hb:x0.length<=100000){K0:Bool->(List aa)->(List aa)}
 (i1:∀{b1:Bool}{zE102:List aa}{a0:List PV}{a1:PV}(a2:All2 aa.t.R zE102 a0)(a5:isL a1=true)(a3:Wri a1 a0)(a7:zE102.length<=4611686018427387904)(i3:zE102.length<=200000){h:Heap}(M0:Mem h [⟨a1,87,2,a0⟩]),K0 b1 zE102=res->PX Tryz.prog 0 S (QR Tryz.prog [(4,none)] (RF113 res)) [(3,.fp v1),(5,a1),(6,vb b1)] h):
 ∀{m:Nat}{b1:Bool}{a4:Int}{zE102:List aa}{a0:List PV}{a1:PV}(a2:All2 aa.t.R zE102 a0)(a5:isL a1=true)(a3:Wri a1 a0)(a7:zE102.length<=4611686018427387904)(h2:m=Int.toNat ((x0.length:Int)-a4))(d2:0<=a4)(b5:(zE102.length:Int)<=2*a4)(b4:a4<=(x0.length:Int)){h:Heap}(M0:Mem h [⟨a1,87,2,a0⟩]),gk x0 x1 K0 m b1 a4 zE102=res->RC Tryz.prog (.loop ci8) S (QR Tryz.prog [(4,none)] (RF113 res)) [(7,vi a4),(6,vb b1),(5,a1),(3,.fp v1),(0,v0)] h:=by
 have hb':=hb;try simp only[qa]at hb'
 intro m;induction m with
 |zero=>
  intro b1 a4 zE102 a0 a1 a2 a5 a3 a7 h2 d2 b5 b4 h M0 z;rw[gk]at z;refine cg (am (sR (mV O (mV O (ah (da O (co r0 Tryz.underlying75 _)) (bN cx O O (nS ?_)))))));refine bv O ?_ ?_<;>intro c<;>try simp only[qa]at c
  ·omega
  refine dl (ee (dh ?_));exact wP (i1 a2 a5 a3 a7 V (Mem.sub M0 (.cons_cons _ .slnil)) z) O
 |succ m ih=>
  intro b1 a4 zE102 a0 a1 a2 a5 a3 a7 h2 d2 b5 b4 h M0 z;rw[gk]at z;refine cg (am (sR (mV O (mV O (ah (da O (co r0 Tryz.underlying75 _)) (bN cx O O (nS ?_)))))));refine bv O ?_ ?_<;>intro c<;>try simp only[qa]at c
  rotate_left
  ·omega
  refine bc (aq (am (bm (am (sR (mV O (ah (ku O) (mV O ?_))))))));refine cq 8 (d:=24) (v:=vb ((!b1)&&(!(ke (ix x0 a4) x1)))) ?_ ?_
  ·intro S Q r;cases d5:(!b1)
   ·exact gN 7 O O O O O O
   ·intro k;have b9:=d5;try simp only[qa]at b9
    refine aj O O (ba O) (aj O O (ba O) ?_);obtain⟨h9,h0,b2⟩:=dn (i:=a4) r0 V V;refine aj O O (bn O O h0) (aj O O (cp O (TR.cnt aa.t b2) (TR.agg aa.t b2)) (aj O O (cp O (TR.cnt aa.t r1) (TR.agg aa.t r1)) ?_));have f3:=cz9 b2 r1;refine ow O O (ur O O (ak (TR.clo aa.t b2) (ak (TR.clo aa.t r1) bp)) f3) (aj O O (ku O) ?_);exact gK O O O O O k
  refine nS ?_;refine ck z O ?_ ?_<;>clear z<;>intro c z<;>try simp only[qa]at c
  ·refine sR (mB O (nR (mV O (mV O ?_))));obtain⟨i2,f7,c9⟩:=dn (i:=a4) r0 V V;refine ah (bn O O f7) (lD c9 O O O (lD r1 O O O (bN (aa.neq_87 c9 r1) O O (nS ?_))));refine ck z O ?_ ?_<;>clear z<;>intro c z<;>try simp only[qa]at c
   ·refine ax (mV O (lD r1 O O O (ah (v:= .fs true [v1]) (fk O (all_cons (TR.cnt aa.t r1) iy)) ?_)));have f2:(tSl aa.t).R ([x1]:List aa) (.fs true [v1]):=pt ⟨r1,trivial⟩ OZ;obtain⟨a6,e8,b7⟩:=kv (t:=aa.t) (h:=h) f2;have d8:fits (a0.length+a6.length) 16=true:=by rw[All2.length_eq a2,All2.length_eq b7];(try simp only[List.length_cons,List.length_nil]);exact ii (by first|omega|(simp only[List.length_append,List.length_cons,List.length_nil];omega)) (by first|omega|(simp only[List.length_append,List.length_cons,List.length_nil];omega))
    refine jc (k:=0) (es:=a0) (news:=a6) M0 O O O a5 a3 e8 d8 (λh6 g2 g6 d4 f8=>?_);have c5:All2 aa.t.R (zE102++([x1]:List aa)) (a0++a6):=All2.app a2 b7;have h1:(zE102++([x1]:List aa)).length<=4611686018427387904:=by rw[<-All2.length_eq c5,List.length_append];exact gm d8
    refine mV O (nS (ax (mV O (mV O (mV O ?_)))));obtain⟨d3,g5,c6⟩:=dn (i:=a4) r0 V V;refine ah (bn O O g5) (lD c6 O O O (ah (v:= .fs true [d3]) (fk O (all_cons (TR.cnt aa.t c6) iy)) ?_));have g0:(tSl aa.t).R ([(ix x0 a4)]:List aa) (.fs true [d3]):=pt ⟨c6,trivial⟩ OZ;obtain⟨b0,e3,b8⟩:=kv (t:=aa.t) (h:=g2) g0;have e2:fits ((a0++a6).length+b0.length) 16=true:=by rw[All2.length_eq c5,All2.length_eq b8];(try simp only[List.length_cons,List.length_nil]);exact ii (by first|omega|(simp only[List.length_append,List.length_cons,List.length_nil];omega)) (by first|omega|(simp only[List.length_append,List.length_cons,List.length_nil];omega))
    refine jc (k:=0) (es:=(a0++a6)) (news:=b0) f8 O O O g6 d4 e3 e2 (λh7 h4 g1 f0 g3=>?_);have e7:All2 aa.t.R ((zE102++([x1]:List aa))++([(ix x0 a4)]:List aa)) ((a0++a6)++b0):=All2.app c5 b8;have d1:((zE102++([x1]:List aa))++([(ix x0 a4)]:List aa)).length<=4611686018427387904:=by rw[<-All2.length_eq e7,List.length_append];exact gm e2
    refine mV O (bq (de (aq (ax (mV O (bN dt O O (mV O (bq ?_))))))));refine cy ?_;have s:=df r0;have o:wr (a4+1)=a4+1:=db V V;erw[o];exact wC (ih e7 g1 f0 d1 V V (by first|omega|(simp only[List.length_append,List.length_cons,List.length_nil];omega)) (by first|omega|(simp only[List.length_append,List.length_cons,List.length_nil];omega)) (Mem.sub g3 (.cons_cons _ .slnil)) z) O
   ·refine bc (aq (ax (mV O (mV O (mV O ?_)))));obtain⟨d7,f9,c4⟩:=dn (i:=a4) r0 V V;refine ah (bn O O f9) (lD c4 O O O (ah (v:= .fs true [d7]) (fk O (all_cons (TR.cnt aa.t c4) iy)) ?_));have g7:(tSl aa.t).R ([(ix x0 a4)]:List aa) (.fs true [d7]):=pt ⟨c4,trivial⟩ OZ;obtain⟨a8,c8,b3⟩:=kv (t:=aa.t) (h:=h) g7;have d6:fits (a0.length+a8.length) 16=true:=by rw[All2.length_eq a2,All2.length_eq b3];(try simp only[List.length_cons,List.length_nil]);exact ii (by first|omega|(simp only[List.length_append,List.length_cons,List.length_nil];omega)) (by first|omega|(simp only[List.length_append,List.length_cons,List.length_nil];omega))
    refine jc (k:=0) (es:=a0) (news:=a8) M0 O O O a5 a3 c8 d6 (λh5 i0 g9 f1 f4=>?_);have e9:All2 aa.t.R (zE102++([(ix x0 a4)]:List aa)) (a0++a8):=All2.app a2 b3;have e6:(zE102++([(ix x0 a4)]:List aa)).length<=4611686018427387904:=by rw[<-All2.length_eq e9,List.length_append];exact gm d6
    refine mV O (bq (de (aq (ax (mV O (bN dt O O (mV O (bq ?_))))))));refine cy ?_;have s:=df r0;have o:wr (a4+1)=a4+1:=db V V;erw[o];exact wC (ih e9 g9 f1 e6 V V (by first|omega|(simp only[List.length_append,List.length_cons,List.length_nil];omega)) (by first|omega|(simp only[List.length_append,List.length_cons,List.length_nil];omega)) (Mem.sub f4 (.cons_cons _ .slnil)) z) O
  ·refine bc (aq (ax (mV O (mV O (mV O ?_)))));obtain⟨d9,g8,c7⟩:=dn (i:=a4) r0 V V;refine ah (bn O O g8) (lD c7 O O O (ah (v:= .fs true [d9]) (fk O (all_cons (TR.cnt aa.t c7) iy)) ?_));have f5:(tSl aa.t).R ([(ix x0 a4)]:List aa) (.fs true [d9]):=pt ⟨c7,trivial⟩ OZ;obtain⟨a9,d0,b6⟩:=kv (t:=aa.t) (h:=h) f5;have e5:fits (a0.length+a9.length) 16=true:=by rw[All2.length_eq a2,All2.length_eq b6];(try simp only[List.length_cons,List.length_nil]);exact ii (by first|omega|(simp only[List.length_append,List.length_cons,List.length_nil];omega)) (by first|omega|(simp only[List.length_append,List.length_cons,List.length_nil];omega))
   refine jc (k:=0) (es:=a0) (news:=a9) M0 O O O a5 a3 d0 e5 (λh3 h8 g4 e0 f6=>?_);have e4:All2 aa.t.R (zE102++([(ix x0 a4)]:List aa)) (a0++a9):=All2.app a2 b6;have e1:(zE102++([(ix x0 a4)]:List aa)).length<=4611686018427387904:=by rw[<-All2.length_eq e4,List.length_append];exact gm e5
   refine mV O (bq (de (aq (ax (mV O (bN dt O O (mV O (bq ?_))))))));refine cy ?_;have s:=df r0;have o:wr (a4+1)=a4+1:=db V V;erw[o];exact wC (ih e4 g4 e0 e1 V V (by first|omega|(simp only[List.length_append,List.length_cons,List.length_nil];omega)) (by first|omega|(simp only[List.length_append,List.length_cons,List.length_nil];omega)) (Mem.sub f6 (.cons_cons _ .slnil)) z) O
theorem ap0{x0:List aa}{x1:aa}{v0 v1:PV}(r0:(tSl aa.t).R x0 v0)(r1:aa.t.R x1 v1)(hb:x0.length<=100000):∃r,FnR Tryz.prog 113 [v0,v1] r/\(tSl aa.t).R (lb x0 x1) r:=by
 refine fnT (R:=RF113) di5 O λres z=>?_;unfold lb at z;refine sR (ah (ej O (TR.cnt aa.t r1)) (ah (v:=nilS) (ba O) (nR (ah (v:=nilS) (ba O) (nR (mB O (nS (am ?_))))))));refine sR (mI O (nS (bm ?_)));have b8:=my (sz:=2) (es:=[]) (Mem.nil ⟨0,[]⟩) 87 (.inl ⟨none,O,O⟩) OZ;refine wC (yt r0 r1 hb ?_ aL O (.inl O) (by first|decide|simp) O V (by first|omega|simp) (by first|omega|simp) (Mem.sub b8 (.cons_cons _ .slnil)) z) O
 ·intro c4 a2 a0 b3 a1 a3 a4 a5 b4 b6 b1 z;refine em (aq (am (sR (mV O (ah (ku O) (nS ?_))))));refine ck z O ?_ ?_<;>clear z<;>intro c z<;>try simp only[qa]at c
  ·refine ax (mV O (lD r1 O O O (ah (v:= .fs true [v1]) (fk O (all_cons (TR.cnt aa.t r1) iy)) ?_)));have c8:(tSl aa.t).R ([x1]:List aa) (.fs true [v1]):=pt ⟨r1,trivial⟩ OZ;obtain⟨a6,a9,a7⟩:=kv (t:=aa.t) (h:=b6) c8;have b2:fits (a0.length+a6.length) 16=true:=by rw[All2.length_eq a1,All2.length_eq a7];(try simp only[List.length_cons,List.length_nil]);exact ii (by first|omega|(simp only[List.length_append,List.length_cons,List.length_nil];omega)) (by first|omega|(simp only[List.length_append,List.length_cons,List.length_nil];omega))
   refine jc (k:=0) (es:=a0) (news:=a6) b1 O O O a3 a4 a9 b2 (λd1 d0 b7 c9 b5=>?_);have a8:All2 aa.t.R (a2++([x1]:List aa)) (a0++a6):=All2.app a1 a7;have b0:(a2++([x1]:List aa)).length<=4611686018427387904:=by rw[<-All2.length_eq a8,List.length_append];exact gm b2
   refine mV O (nR (mV O (mV O (nS ?_))));obtain⟨d2,c5,b9⟩:=py (P:=Tryz.prog) (k:=0) (t:=aa.t) b5 O b7 a8 (Nat.le_trans b0 OO);subst z;exact ft (.tmp O .nil) c5 b9
  ·refine bc (aq (sR (mV O (mV O (nS ?_)))));obtain⟨d3,c6,c7⟩:=py (P:=Tryz.prog) (k:=0) (t:=aa.t) b1 O a3 a1 (Nat.le_trans a5 OO);subst z;exact ft (.tmp O .nil) c6 c7
end Go.Proofs.YtmonnlkagniolaaGreat
