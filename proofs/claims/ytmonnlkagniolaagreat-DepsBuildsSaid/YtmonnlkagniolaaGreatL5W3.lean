/-
 The code of each function does what its plain program says.
-/
import Derived.Test.YtmonnlkagniolaaGreatL5W2
set_option linter.all false
set_option maxRecDepth 100000
namespace Go.Proofs.YtmonnlkagniolaaGreat
open Go Go.Pb Go.RowKit
def RF182(res:(BitVec 32))(r:PV):Prop:=r=ue res
theorem cr0{x0:Int}:FnR Tryz.prog 182 [vi x0] (ue (oq x0)):=by
 refine fnS (R:=RF182) ck6 (λ_ h=>h) O λres z=>?_;unfold oq at z;refine sR (af (v:=ue 0#32) (ay O) (nS (am (sR (mV O (af (v:= .fs true [vi x0]) (gb O (all_cons O ji)) ?_))))));have a2:(tSl tI).R ([x0]:List Int) (.fs true [vi x0]):=pd ⟨O,trivial⟩ OZ;obtain⟨a3,a1,z⟩:=br z;have a0:=cm5 a2;rw[a1]at a0;refine cL a0 O O (aj (TR.clo (tSl tI) a2) bh) (af (ju O) (nS ?_));refine cd z O ?_ ?_<;>clear z<;>intro c z<;>try simp only[qa]at c
 ·refine sR (af (v:=ue 0#32) (ay O) (nS ?_));exact rR z O O O
 ·refine ax (ap (sR (mV O (bN vt O O (af (ct (a:=ue 4294967295#32) (b:=vi (wr (32-x0))) O O (ds9 (by exact cw4 OY OY))) (mV O (nS ?_)))))));exact rR z O O O
def RF288(res:az×Bool)(r:PV):Prop:=∃c0,r= .tup [c0,vb res.2]/\az.t.R res.1 c0
theorem cz5{x0:bc}{x1 x2:Int}{v0:PV}(r0:bc.t.R x0 v0):∃c0,FnR Tryz.prog 288 [v0,vi x1,vi x2] (.tup [c0,vb ((mc x0 x1 x2).2)])/\az.t.R (mc x0 x1 x2).1 c0:=by
 obtain⟨res,z⟩:∃res,mc x0 x1 x2=res:=⟨_,O⟩;suffices H:RC Tryz.prog db8 [] (QR Tryz.prog [(6,some (2,true)),(7,none)] (RF288 res)) (argE 0 [v0,vi x1,vi x2]) ⟨0,[]⟩ by
  rw[z];obtain⟨r,h1,c0,rfl,e6⟩:=fnE cy8 OZ H;exact⟨c0,h1,e6⟩
 unfold mc at z;refine sR (af (dw O (TR.cnt bc.t r0)) ?_);refine fa (x:= .agg [vs [],vi 0]) (Mem.nil ⟨0,[]⟩) O O (λa5 a4 e4 b4=>?_);refine mB O (nR ?_);obtain⟨e5,d0,d1⟩:=bc.g_Program r0;refine fA O d0 (gL (ae.g_Metadata d1) O O O λe1 c9=>(mV O (nS (am (sR (mV O (bN (lx (b:= -1)) O O (nS ?_))))))));obtain⟨c2,b7,z⟩:=br z;refine nd (F:=λb S Q=>∀(a0:List az)(a1:PV)(a2:(tSl az.t).R a0 a1)(a3:Heap)(a7:Mem a3 [⟨.op a5 a4 0,166,2,[.agg [vs [],vi 0]]⟩]),c2 a0=res->RC Tryz.prog b S Q [(8,a1),(6,.op a5 a4 0),(2,vi x2)] a3) ?_ ?_
 ·intro a0 a1 a2 a3 a7 z;rw[<-b7]at z;refine am (sR (mV O (bN cn O O (mV O ?_))));refine cm 5 (d:=39) (v:=vb ((decide (x2 < 0))||(decide ((a0.length:Int)<=x2)))) ?_ ?_
  ·intro S Q r;cases b6:(decide (x2 < 0))
   ·intro k;have b1:=b6;try simp only[qa]at b1
    refine ai O O (ay O) (ai O O (ay O) (ai O O (cp O (ca a2 Tryz.underlying23 _)) (ai O O (ct O O kj) ?_)));exact gK O O O O O k
   ·exact gN 4 O O O O O O
  refine nS ?_;refine cd z O ?_ ?_<;>clear z<;>intro c z<;>try simp only[qa]at c
  ·refine sR (af (v:= .agg [vs [],vi 0]) (mr (cs:=[vs [],vi 0]) O O) ?_);refine ek (k:=0) (v:= .agg [vs [],vi 0]) a7 O O O O (λc7 a9=>?_);replace a9:Mem c7 [⟨.op a5 a4 0,166,2,[.agg [vs [],vi 0]]⟩]:=a9;refine mB O (nS ?_);subst z;exact gi (.cell O (pt (k:=0) a9 O O) (.tmp O .nil)) (eh (show closed (.tup _)=true from(aj (TR.clo az.t (show az.t.R ({Name:=([]:List UInt8),Width:=0}:az) (.agg [vs [],vi 0]) from O)) (aj O bh)))) ⟨.agg [vs [],vi 0],O,O⟩
  ·refine ax (ap (sR (mV O (mV O ?_))));obtain⟨b2,d2,a6⟩:=de (i:=x2) a2 V V;refine af (bd O O d2) (lD a6 O O O ?_);refine ek (k:=0) (v:=b2) a7 O O O (TR.cnt az.t a6) (λc8 b0=>?_);replace b0:Mem c8 [⟨.op a5 a4 0,166,2,[b2]⟩]:=b0;refine mB O (nS ?_);subst z;exact gi (.cell O (pt (k:=0) b0 O (TR.agg az.t a6)) (.tmp O .nil)) (eh (show closed (.tup _)=true from(aj (TR.clo az.t a6) (aj O bh)))) ⟨b2,O,a6⟩
 ·intro J;refine cd z O ?_ ?_<;>clear z<;>intro c z<;>try simp only[qa]at c
  ·refine am (sR (mV O (bN cn O O (mV O ?_))));refine cm 7 (d:=23) (v:=vb ((decide (x1 < 0))||(decide ((x0.Program.Headers.length:Int)<=x1)))) ?_ ?_
   ·intro S Q r;cases b8:(decide (x1 < 0))
    ·intro k;have b5:=b8;try simp only[qa]at b5
     refine ai O O (ay O) ?_;obtain⟨e7,c6,d5⟩:=bc.g_Program r0;refine ai O O (co O c6) ?_;obtain⟨d8,c4,a8⟩:=ae.g_Headers d5;refine ai O O (co O c4) (ai O O (ck O (TR.cnt (tSl bz.t) a8) (TR.agg (tSl bz.t) a8)) (ai O O (cp O (ca a8 Tryz.underlying22 _)) (ai O O (ct O O kj) ?_)));exact gK O O O O O k
    ·exact gN 6 O O O O O O
   refine nS ?_;refine cd z O ?_ ?_<;>clear z<;>intro c z<;>try simp only[qa]at c
   ·refine sR (af (v:= .agg [vs [],vi 0]) (mr (cs:=[vs [],vi 0]) O O) ?_);refine ek (k:=0) (v:= .agg [vs [],vi 0]) b4 O O O O (λb9 b3=>?_);replace b3:Mem b9 [⟨.op a5 a4 0,166,2,[.agg [vs [],vi 0]]⟩]:=b3;refine mB O (nS ?_);subst z;exact gi (.cell O (pt (k:=0) b3 O O) (.tmp O .nil)) (eh (show closed (.tup _)=true from(aj (TR.clo az.t (show az.t.R ({Name:=([]:List UInt8),Width:=0}:az) (.agg [vs [],vi 0]) from O)) (aj O bh)))) ⟨.agg [vs [],vi 0],O,O⟩
   ·refine ax (ap (av ?_));obtain⟨d9,d6,d4⟩:=bc.g_Program r0;refine fA O d6 (gL (ae.g_Headers d4) O O O λe2 c3=>(mV O ?_));obtain⟨e3,c5,d3⟩:=de (i:=x1) c3 V V;refine af (bd O O c5) (gL (bz.g_Fields d3) O O O λe0 d7=>(mV O (bn ?_)));refine ap (wC (J _ _ d7 _ (Mem.sub b4 (.cons_cons _ .slnil)) z) O)
  ·refine ax ?_;refine ap (wC (J _ _ c9 _ (Mem.sub b4 (.cons_cons _ .slnil)) z) O)
def RF268(res:Int×Int)(r:PV):Prop:=r= .tup [vi res.1,vi res.2]
theorem ck7{x0:bc}{x1:ah}{v0 v1:PV}(r0:bc.t.R x0 v0)(r1:ah.t.R x1 v1):FnR Tryz.prog 268 [v0,v1] (.tup [vi ((iu x0 x1).1),vi ((iu x0 x1).2)]):=by
 refine fnS (R:=RF268) ck1 (λ_ h=>h) O λres z=>?_;unfold iu at z;refine sR (af (dw O (TR.cnt bc.t r0)) (af (dw O (TR.cnt ah.t r1)) (mI O (mI O (nS (am (sR (fL O (ah.g_Op r1) O O ?_))))))));refine nS (bf (sR (bN dt O O (mV O (nS ?_)))));refine cd z O ?_ ?_<;>clear z<;>intro c z<;>try simp only[qa]at c
 ·refine sR (fL O (ah.g_W r1) O O ?_);obtain⟨a0,b5,z⟩:=br z;have c2:=ab5 (x0:=x1.W);rw[b5]at c2;refine cL c2 O O (aj O bh) (mV O (xT O O (xT O O (mV O (mV O (nS (am (sR ?_))))))));refine mV O (bN dt O O (mV O ?_));refine cm 12 (d:=34) (v:=vb ((decide (a0.2=0))&&((decide (x1.N < 0))||(decide (((oq a0.1).toNat:Int) < x1.N))))) ?_ ?_
  ·intro S Q r;cases b2:(decide (a0.2=0))
   ·exact gN 11 O O O O O O
   ·intro k;have a4:=b2;try simp only[qa]at a4
    refine ai O O (co O (ah.g_N r1)) (ai O O (ck O O O) (ai O O (ct O O cn) (ai O O (ay O) ?_)));refine cm 7 (d:=33) (v:=vb ((decide (x1.N < 0))||(decide (((oq a0.1).toNat:Int) < x1.N)))) ?_ ?_
    ·intro S Q r;cases b4:(decide (x1.N < 0))
     ·intro k;have a5:=b4;try simp only[qa]at a5
      refine ai O O (co O (ah.g_N r1)) (ai O O (ck O O O) (ai O O (ay O) ?_));have d2:=cr0 (x0:=a0.1);refine lf O O (rl O O (aj O bh) d2) (ai O O (au3 (a:=ue (oq a0.1)) O (c_wi Tryz.underlying89 Tryz.underlying3)) (ai O O (ct O O jr) (ai (v:=vb (decide (((oq a0.1).toNat:Int) < x1.N))) O O (po O O O O) ?_)));exact wD k O
     ·intro k;refine ja O O (ja O O (ja O O (ja O O (ja O O (ja O O (ai (v:=vb true) O O (po O O O O) ?_))))));exact wD k O
    exact gK O O O O O k
  refine nS ?_;refine cd z O ?_ ?_<;>clear z<;>intro c z<;>try simp only[qa]at c
  ·refine sR (mI O (mI O (nS ?_)));exact rT z O O O O O
  ·refine ax (ap (sR (mV O (mV O (mV O (mV O (nS ?_)))))));exact rT z O O O O O
 ·refine sR (bN dt O O (mV O (nS ?_)));refine cd z O ?_ ?_<;>clear z<;>intro c z<;>try simp only[qa]at c
  ·refine sR (lD r0 O O O (fL O (ah.g_N r1) O O (fL O (ah.g_W r1) O O ?_)));obtain⟨d3,b0,z⟩:=br z;obtain⟨b6,b7,a6⟩:=cz5 (x1:=x1.N) (x2:=x1.W) r0;rw[b0]at b7 a6;refine cL b7 O O (aj (TR.clo bc.t r0) (aj O (aj O bh))) (mV O (xT O O (xT O O ?_)));refine fa (x:= .agg [vs [],vi 0]) (Mem.nil ⟨0,[]⟩) O O (λc9 d0 e1 d6=>?_);refine ek (k:=0) (v:=b6) d6 O O O (TR.cnt az.t a6) (λc7 a7=>?_);replace a7:Mem c7 [⟨.op c9 d0 0,166,2,[b6]⟩]:=a7;refine mV O (nS (am (sR (mV O (af (ju O) (nS ?_))))));refine cd z O ?_ ?_<;>clear z<;>intro c z<;>try simp only[qa]at c
   ·refine sR (mI O (mI O (nS ?_)));exact rT z O O O O O
   ·refine ax (ap (sR (af (bg O) (af (cg (k:=0) a7 O O (az.g_Width a6)) ?_))));obtain⟨d8,b8,z⟩:=br z;have b3:=ab5 (x0:=d3.1.Width);rw[b8]at b3;refine cL b3 O O (aj O bh) (xT O O (xT O O (mV O (mV O (nS ?_)))));exact rT z O O O O O
  ·refine sR (bN dt O O (mV O (nS ?_)));refine cd z O ?_ ?_<;>clear z<;>intro c z<;>try simp only[qa]at c
   ·refine am (sR (fL O (ah.g_N r1) O O (bN cn O O (mV O ?_))));refine cm 7 (d:=67) (v:=vb ((decide (x1.N < 0))||(decide ((x0.Params.length:Int)<=x1.N)))) ?_ ?_
    ·intro S Q r;cases b9:(decide (x1.N < 0))
     ·intro k;have a3:=b9;try simp only[qa]at a3
      refine ai O O (co O (ah.g_N r1)) (ai O O (ck O O O) ?_);obtain⟨e0,c4,a1⟩:=bc.g_Params r0;refine ai O O (co O c4) (ai O O (ck O (TR.cnt (tSl az.t) a1) (TR.agg (tSl az.t) a1)) (ai O O (cp O (ca a1 Tryz.underlying23 _)) (ai O O (ct O O kj) ?_)));exact gK O O O O O k
     ·exact gN 6 O O O O O O
    refine nS ?_;refine cd z O ?_ ?_<;>clear z<;>intro c z<;>try simp only[qa]at c
    ·refine sR (mI O (mI O (nS ?_)));exact rT z O O O O O
    ·refine ax (ap (sR (gL (bc.g_Params r0) O O O λd9 d5=>(fL O (ah.g_N r1) O O ?_))));obtain⟨e2,d4,c8⟩:=de (i:=x1.N) d5 V V;refine af (bd O O d4) (fL O (az.g_Width c8) O O ?_);obtain⟨e3,b1,z⟩:=br z;have a9:=ab5 (x0:=(ix x0.Params x1.N).Width);rw[b1]at a9;refine cL a9 O O (aj O bh) (xT O O (xT O O (mV O (mV O (nS ?_)))));exact rT z O O O O O
   ·refine ax (cy (ap (am (sR (fL O (ah.g_N r1) O O (bN cn O O (mV O ?_)))))));refine cm 8 (d:=89) (v:=vb ((decide (x1.N < 0))||(decide ((x0.Program.Headers.length:Int)<=x1.N)))) ?_ ?_
    ·intro S Q r;cases c3:(decide (x1.N < 0))
     ·intro k;have a8:=c3;try simp only[qa]at a8
      refine ai O O (co O (ah.g_N r1)) (ai O O (ck O O O) ?_);obtain⟨e4,c6,d1⟩:=bc.g_Program r0;refine ai O O (co O c6) ?_;obtain⟨d7,c5,a2⟩:=ae.g_Headers d1;refine ai O O (co O c5) (ai O O (ck O (TR.cnt (tSl bz.t) a2) (TR.agg (tSl bz.t) a2)) (ai O O (cp O (ca a2 Tryz.underlying22 _)) (ai O O (ct O O kj) ?_)));exact gK O O O O O k
     ·exact gN 7 O O O O O O
    refine nS ?_;refine cd z O ?_ ?_<;>clear z<;>intro c z<;>try simp only[qa]at c
    ·refine sR (mI O (mI O (nS ?_)));exact rT z O O O O O
    ·refine ax (ap (sR (mI O (mI O (nS ?_)))));exact rT z O O O O O
def RF269(res:Int×Int)(r:PV):Prop:=r= .tup [vi res.1,vi res.2]
theorem ct5{x0:ah}{x1:List Int}{v0 v1:PV}(r0:ah.t.R x0 v0)(r1:(tAr 3 tI).R x1 v1):FnR Tryz.prog 269 [v0,v1] (.tup [vi ((ia x0 x1).1),vi ((ia x0 x1).2)]):=by
 refine fnS (R:=RF269) cn1 (λ_ h=>h) O λres z=>?_;unfold ia at z;refine sR (af (dw O (TR.cnt ah.t r0)) (af (dw O (TR.cnt (tAr 3 tI) r1)) (mI O (mI O (nS (am (sR (fL O (ah.g_Op r0) O O ?_))))))));refine nS (bf (am (sR (bN dt O O (mV O (nS ?_))))));obtain⟨e2,c3,z⟩:=br z;refine nd (F:=λb S Q=>∀(a0:Bool),e2 a0=res->RC Tryz.prog b S Q [(10,vb a0),(9,vi x0.Op),(3,.fp v1),(2,.fp v0)] ⟨0,[]⟩) ?_ ?_
 ·intro a0 z;rw[<-c3]at z;refine cd z O ?_ ?_<;>clear z<;>intro c z<;>try simp only[qa]at c
  ·refine sR (fL O (ah.g_N r0) O O (bN cn O O (mV O ?_)));refine cm 4 (d:=20) (v:=vb ((decide (x0.N < 0))||(decide (31 < x0.N)))) ?_ ?_
   ·intro S Q r;cases c4:(decide (x0.N < 0))
    ·intro k;have b3:=c4;try simp only[qa]at b3
     refine ai O O (co O (ah.g_N r0)) (ai O O (ck O O O) (ai O O (ct O O jr) ?_));exact gK O O O O O k
    ·exact gN 3 O O O O O O
   refine nS ?_;refine cd z O ?_ ?_<;>clear z<;>intro c z<;>try simp only[qa]at c
   ·refine sR (mI O (mI O (nS ?_)));exact rT z O O O O O
   ·refine ax (cy (ap (am (sR (fL O (ah.g_Op r0) O O ?_)))));obtain⟨e0,c5,z⟩:=br z;have d2:=at7 (x0:=x0.Op);rw[c5]at d2;refine cL d2 O O (aj O bh) (bN dt O O (mV O ?_));refine cm 6 (d:=80) (v:=vb ((decide (e0=2))&&(!decide ((ix x1 0)=(ix x1 1))))) ?_ ?_
    ·intro S Q r;cases d7:(decide (e0=2))
     ·exact gN 5 O O O O O O
     ·intro k;have c2:=d7;try simp only[qa]at c2
      obtain⟨g8,f4,a1⟩:=ph (t:=tI) r1 (i:=0) V V;have a1:g8=vi (ix x1 0):=a1;subst a1;refine ai O O (nz O O f4) (ai O O (ck O O O) ?_);obtain⟨f9,f5,a8⟩:=ph (t:=tI) r1 (i:=1) V V;have a8:f9=vi (ix x1 1):=a8;subst a8;refine ai O O (nz O O f5) (ai O O (ck O O O) (ai O O (ct O O lx) ?_));exact gK O O O O O k
    refine nS ?_;refine cd z O ?_ ?_<;>clear z<;>intro c z<;>try simp only[qa]at c
    ·refine sR (mI O (mI O (nS ?_)));exact rT z O O O O O
    ·refine ax (ap (am (sR (fL O (ah.g_Op r0) O O (bN dt O O (mV O ?_))))));refine cm 4 (d:=88) (v:=vb ((decide (x0.Op=15))||(decide (x0.Op=16)))) ?_ ?_
     ·intro S Q r;cases d8:(decide (x0.Op=15))
      ·intro k;have b5:=d8;try simp only[qa]at b5
       refine ai O O (co O (ah.g_Op r0)) (ai O O (ck O O O) (ai O O (ct O O dt) ?_));exact gK O O O O O k
      ·exact gN 3 O O O O O O
     refine nS ?_;refine cd z O ?_ ?_<;>clear z<;>intro c z<;>try simp only[qa]at c
     ·refine sR (mI O (mI O (nS ?_)));exact rT z O O O O O
     ·refine ax (ap (sR ?_));obtain⟨f6,e8,a3⟩:=ph (t:=tI) r1 (i:=0) V V;have a3:f6=vi (ix x1 0):=a3;subst a3;refine af (nz O O e8) (lR O O O (mV O (mI O (nS ?_))));exact rT z O O O O O
  ·refine sR (bN dt O O (mV O (nS ?_)));refine cd z O ?_ ?_<;>clear z<;>intro c z<;>try simp only[qa]at c
   ·refine am (sR (fL O (ah.g_N r0) O O (bN cn O O (nS ?_))));refine cd z O ?_ ?_<;>clear z<;>intro c z<;>try simp only[qa]at c
    ·refine sR (mI O (mI O (nS ?_)));exact rT z O O O O O
    ·refine ax (ap (am (sR (fL O (ah.g_W r0) O O ?_))));obtain⟨c9,d0,z⟩:=br z;have c6:=ab5 (x0:=x0.W);rw[d0]at c6;refine cL c6 O O (aj O bh) (mV O (xT O O (xT O O (mV O (mV O (nR (mV O (bN lx O O ?_))))))));refine mV O ?_;refine cm 9 (d:=43) (v:=vb ((!decide (c9.2=0))||(decide ((wr ((ix x1 0)-x0.W)) < x0.N)))) ?_ ?_
     ·intro S Q r;cases d4:(!decide (c9.2=0))
      ·intro k;have a7:=d4;try simp only[qa]at a7
       refine ai O O (co O (ah.g_N r0)) (ai O O (ck O O O) ?_);obtain⟨f0,f8,b2⟩:=ph (t:=tI) r1 (i:=0) V V;have b2:f0=vi (ix x1 0):=b2;subst b2;refine ai O O (nz O O f8) (ai O O (ck O O O) (ai O O (co O (ah.g_W r0)) (ai O O (ck O O O) (ai O O (ct O O vt) (ai O O (ct O O jr) ?_)))));exact gK O O O O O k
      ·exact gN 8 O O O O O O
     refine nS ?_;refine cd z O ?_ ?_<;>clear z<;>intro c z<;>try simp only[qa]at c
     ·refine sR (mI O (mI O (nS ?_)));exact rT z O O O O O
     ·refine ax (ap (sR (fL O (ah.g_W r0) O O (mV O (mI O (nS ?_))))));exact rT z O O O O O
   ·refine sR (bN dt O O (mV O (nS ?_)));refine cd z O ?_ ?_<;>clear z<;>intro c z<;>try simp only[qa]at c
    ·refine sR ?_;obtain⟨e4,g1,b4⟩:=ph (t:=tI) r1 (i:=0) V V;have b4:e4=vi (ix x1 0):=b4;subst b4;refine af (nz O O g1) (lR O O O ?_);obtain⟨e5,e6,a9⟩:=ph (t:=tI) r1 (i:=1) V V;have a9:e5=vi (ix x1 1):=a9;subst a9;refine af (nz O O e6) (lR O O O (bN dp O O ?_));obtain⟨g9,c8,z⟩:=br z;have d3:=ab5 (x0:=(wr ((ix x1 0)+(ix x1 1))));rw[c8]at d3;refine cL d3 O O (aj O bh) (xT O O (xT O O (mV O (mV O (nS ?_)))));exact rT z O O O O O
    ·refine sR (bN dt O O (mV O (nS ?_)));refine cd z O ?_ ?_<;>clear z<;>intro c z<;>try simp only[qa]at c
     ·refine am (sR ?_);obtain⟨f1,g0,b8⟩:=ph (t:=tI) r1 (i:=0) V V;have b8:f1=vi (ix x1 0):=b8;subst b8;refine af (nz O O g0) (lR O O O (bN lx O O (mV O ?_)));refine cm 6 (d:=67) (v:=vb ((!decide ((ix x1 0)=1))||(!decide ((ix x1 1)=(ix x1 2))))) ?_ ?_
      ·intro S Q r;cases d6:(!decide ((ix x1 0)=1))
       ·intro k;have a6:=d6;try simp only[qa]at a6
        obtain⟨e7,e3,a2⟩:=ph (t:=tI) r1 (i:=1) V V;have a2:e7=vi (ix x1 1):=a2;subst a2;refine ai O O (nz O O e3) (ai O O (ck O O O) ?_);obtain⟨g7,g6,a4⟩:=ph (t:=tI) r1 (i:=2) V V;have a4:g7=vi (ix x1 2):=a4;subst a4;refine ai O O (nz O O g6) (ai O O (ck O O O) (ai O O (ct O O lx) ?_));exact gK O O O O O k
       ·exact gN 5 O O O O O O
      refine nS ?_;refine cd z O ?_ ?_<;>clear z<;>intro c z<;>try simp only[qa]at c
      ·refine sR (mI O (mI O (nS ?_)));exact rT z O O O O O
      ·refine ax (ap (sR ?_));obtain⟨f7,g5,b1⟩:=ph (t:=tI) r1 (i:=1) V V;have b1:f7=vi (ix x1 1):=b1;subst b1;refine af (nz O O g5) (lR O O O (mV O (mI O (nS ?_))));exact rT z O O O O O
     ·refine ax (cy (ap (am (sR (fL O (ah.g_Op r0) O O ?_)))));obtain⟨c7,d5,z⟩:=br z;have d9:=at7 (x0:=x0.Op);rw[d5]at d9;refine cL d9 O O (aj O bh) (bN dt O O (mV O ?_));refine cm 6 (d:=80) (v:=vb ((decide (c7=2))&&(!decide ((ix x1 0)=(ix x1 1))))) ?_ ?_
      ·intro S Q r;cases d1:(decide (c7=2))
       ·exact gN 5 O O O O O O
       ·intro k;have b0:=d1;try simp only[qa]at b0
        obtain⟨g2,g3,b7⟩:=ph (t:=tI) r1 (i:=0) V V;have b7:g2=vi (ix x1 0):=b7;subst b7;refine ai O O (nz O O g3) (ai O O (ck O O O) ?_);obtain⟨f3,e9,b6⟩:=ph (t:=tI) r1 (i:=1) V V;have b6:f3=vi (ix x1 1):=b6;subst b6;refine ai O O (nz O O e9) (ai O O (ck O O O) (ai O O (ct O O lx) ?_));exact gK O O O O O k
      refine nS ?_;refine cd z O ?_ ?_<;>clear z<;>intro c z<;>try simp only[qa]at c
      ·refine sR (mI O (mI O (nS ?_)));exact rT z O O O O O
      ·refine ax (ap (am (sR (fL O (ah.g_Op r0) O O (bN dt O O (mV O ?_))))));refine cm 4 (d:=88) (v:=vb ((decide (x0.Op=15))||(decide (x0.Op=16)))) ?_ ?_
       ·intro S Q r;cases e1:(decide (x0.Op=15))
        ·intro k;have b9:=e1;try simp only[qa]at b9
         refine ai O O (co O (ah.g_Op r0)) (ai O O (ck O O O) (ai O O (ct O O dt) ?_));exact gK O O O O O k
        ·exact gN 3 O O O O O O
       refine nS ?_;refine cd z O ?_ ?_<;>clear z<;>intro c z<;>try simp only[qa]at c
       ·refine sR (mI O (mI O (nS ?_)));exact rT z O O O O O
       ·refine ax (ap (sR ?_));obtain⟨g4,f2,a5⟩:=ph (t:=tI) r1 (i:=0) V V;have a5:g4=vi (ix x1 0):=a5;subst a5;refine af (nz O O f2) (lR O O O (mV O (mI O (nS ?_))));exact rT z O O O O O
 ·intro J;refine cd z O ?_ ?_<;>clear z<;>intro c z<;>try simp only[qa]at c
  ·refine ax ?_;refine ap (wC (J _ z) O)
  ·refine av (bN dt O O (mV O (bn ?_)));refine ap (wC (J _ z) O)
def RF226(res:Int×Int×Int)(r:PV):Prop:=r= .tup [vi res.1,vi res.2.1,vi res.2.2]
theorem tu{S:List Fr}{res:Int×Int×Int}{x0:bc}{x1:List ah}{x2:Int}{rec_:bc->(List ah)->Int->(Int×Int×Int)}{mu_:Nat}{a5:Int}{v0 v1:PV}{a7 a4:Nat}(r0:bc.t.R x0 v0)(r1:(tSl ah.t).R x1 v1)(h0:0<=x2)(hb:x1.length<=1000000)(ihR:∀{z0:bc}{z1:List ah}{z2:Int}{c8 d0:PV}(d4:bc.t.R z0 c8)(d5:(tSl ah.t).R z1 d0)(h0:0<=z2)(hb:z1.length<=1000000),(z1.length-z2.toNat) < mu_->FnR Tryz.prog 226 [c8,d0,vi z2] (.tup [vi ((rec_ z0 z1 z2).1),vi ((rec_ z0 z1 z2).2.1),vi ((rec_ z0 z1 z2).2.2)]))(hmu:mu_=(x1.length-x2.toNat))(hrec:∀(z0:bc)(z1:List ah)(z2:Int),0<=z2->z1.length<=1000000->(rec_ z0 z1 z2).2.2=0->z2 < (rec_ z0 z1 z2).2.1)(c5:(decide ((x1.length:Int)<=x2))=false)(d2:en ((ix x1 x2).Op)=a5)(c4:(decide (a5 < 0))=false)(b7:(decide (a5=0))=false){K1:Int->(List Int)->(Int×Int×Int)}
 (d3:∀{a9:Int}{zE109:List Int}{a1:PV}(a2:(tAr 3 tI).R zE109 a1){h:Heap}(M0:Mem h [⟨.op a7 a4 0,293,3,[a1]⟩]),K1 a9 zE109=res->PX Tryz.prog 1 S (QR Tryz.prog [(6,none),(7,none),(8,none)] (RF226 res)) [(1,v1),(2,vi x2),(7,vi a9),(10,.op a7 a4 0)] h):
 ∀{m:Nat}{a9 a0:Int}{zE109:List Int}{a1:PV}(a2:(tAr 3 tI).R zE109 a1)(d1:m=Int.toNat (a5-a0))(b9:0<=a0)(b0:x2 < a9){h:Heap}(M0:Mem h [⟨.op a7 a4 0,293,3,[a1]⟩]),df x0 x1 rec_ K1 m a9 a0 zE109=res->RC Tryz.prog (.loop bt1) S (QR Tryz.prog [(6,none),(7,none),(8,none)] (RF226 res)) [(44,vi a0),(43,vi a5),(10,.op a7 a4 0),(7,vi a9),(3,.fp v0),(2,vi x2),(1,v1)] h:=by
 have hb':=hb;try simp only[qa]at hb'
 have b5:=c5;try simp only[qa]at b5
 have b3:=c4;try simp only[qa]at b3
 have b4:=b7;try simp only[qa]at b4
 intro m;induction m with
 |zero=>
  intro a9 a0 zE109 a1 a2 d1 b9 b0 h M0 z;rw[df]at z;refine bv (sR (bN cn O O (nS (am ?_))));refine bp O ?_ ?_<;>intro c<;>try simp only[qa]at c
  ·omega
  refine dg (dq (dc ?_));exact wP (d3 a2 (Mem.sub M0 (.cons_cons _ .slnil)) z) O
 |succ m ih=>
  intro a9 a0 zE109 a1 a2 d1 b9 b0 h M0 z;rw[df]at z;refine bv (sR (bN cn O O (nS (am ?_))));refine bp O ?_ ?_<;>intro c<;>try simp only[qa]at c
  rotate_left
  ·omega
  refine ax (ap (am (bf (sR (mV O (mV O (nR (mV O ?_))))))));refine lD r0 O O O (mV O (mV O ?_));obtain⟨a3,b1,z⟩:=br z;have c2:=ihR (z0:=x0) (z1:=x1) (z2:=a9) r0 r1 V OY V;rw[b1]at c2;have c9:a3.2.2=0->a9 < a3.2.1:=by rw[<-b1];exact hrec _ _ _ V V
  refine cL c2 O O (aj (TR.clo bc.t r0) (aj (TR.clo (tSl ah.t) r1) (aj O bh))) (mV O (xT O O (xT O O (xT O O ?_))));have a6:0<=a0:=by omega
  have a8:a0 < 3:=by((have hk:=ar OY;omega))
  refine af (yn O O a6 a8) ?_;obtain⟨b8,c6,b2,c3⟩:=ao8 (t:=tI) (i:=a0) a2 a6 a8 (show tI.R a3.1 (vi a3.1) from O) O;refine aj3 (k:=0) (v:=vi a3.1) M0 O O O c6 O b2.1 b2.2 (λc7 b6=>?_);replace b6:Mem c7 [⟨.op a7 a4 0,293,3,[.agg (spl b8 (a0.toNat*1) [vi a3.1])]⟩]:=b6;refine mV O (mV O (nR (mV O (bN lx O O (nS ?_)))));refine cd z O ?_ ?_<;>clear z<;>intro c z<;>try simp only[qa]at c
  ·refine sR (mV O (mI O (mI O (mV O (nS ?_)))));subst z;exact gi (.tmp O (.tmp O (.tmp O .nil))) (eh (show closed (.tup _)=true from(aj O (aj O (aj O bh))))) O
  ·refine ax (cy (ap (av (bN dp O O (mV O (bn (cv ?_)))))));have o:wr (a0+1)=a0+1:=dj V V;erw[o];exact wC (ih c3 V V V (Mem.sub b6 (.cons_cons _ .slnil)) z) O
theorem ca4{rec_:bc->(List ah)->Int->(Int×Int×Int)}{mu_:Nat}{x0:bc}{x1:List ah}{x2:Int}{v0 v1:PV}(r0:bc.t.R x0 v0)(r1:(tSl ah.t).R x1 v1)(h0:0<=x2)(hb:x1.length<=1000000)(hmu:mu_=(x1.length-x2.toNat))(hrec:∀(z0:bc)(z1:List ah)(z2:Int),0<=z2->z1.length<=1000000->(rec_ z0 z1 z2).2.2=0->z2 < (rec_ z0 z1 z2).2.1)(ihR:∀{z0:bc}{z1:List ah}{z2:Int}{c6 c7:PV}(d8:bc.t.R z0 c6)(d9:(tSl ah.t).R z1 c7)(h0:0<=z2)(hb:z1.length<=1000000),(z1.length-z2.toNat) < mu_->FnR Tryz.prog 226 [c6,c7,vi z2] (.tup [vi ((rec_ z0 z1 z2).1),vi ((rec_ z0 z1 z2).2.1),vi ((rec_ z0 z1 z2).2.2)])):FnR Tryz.prog 226 [v0,v1,vi x2] (.tup [vi ((ee rec_ x0 x1 x2).1),vi ((ee rec_ x0 x1 x2).2.1),vi ((ee rec_ x0 x1 x2).2.2)]):=by
 refine fnS (R:=RF226) co2 (λ_ h=>h) O λres z=>?_;unfold ee at z;refine sR (af (dw O (TR.cnt bc.t r0)) (mI O (mI O (mI O (nS (am (sR (mV O ?_))))))));refine mV O (af (cp O (ca r1 Tryz.underlying32 _)) (bN kj O O (nS ?_)));refine cd z O ?_ ?_<;>clear z<;>intro a3 z<;>have a9:=a3<;>try simp only[qa]at a9
 ·refine sR (mI O (mI O (mI O (nS ?_))));subst z;exact gi (.tmp O (.tmp O (.tmp O .nil))) (eh (show closed (.tup _)=true from(aj O (aj O (aj O bh))))) O
 ·refine ax (ap (sR (mV O (mV O ?_))));obtain⟨d2,c5,b7⟩:=de (i:=x2) r1 V V;refine af (bd O O c5) (fL O (ah.g_Op b7) O O ?_);obtain⟨d0,a4,z⟩:=br z;have b4:=at7 (x0:=(ix x1 x2).Op);rw[a4]at b4;refine cL b4 O O (aj O bh) (mV O (nS (am (bf (sR (mV O (bN cn O O (mV O ?_))))))));refine nS ?_;refine cd z O ?_ ?_<;>clear z<;>intro a2 z<;>have a6:=a2<;>try simp only[qa]at a6
  ·refine sR (mI O (mI O (mI O (nS ?_))));subst z;exact gi (.tmp O (.tmp O (.tmp O .nil))) (eh (show closed (.tup _)=true from(aj O (aj O (aj O bh))))) O
  ·refine sR (mV O (bN dt O O (mV O (nS ?_))));refine cd z O ?_ ?_<;>clear z<;>intro a1 z<;>have a8:=a1<;>try simp only[qa]at a8
   ·refine sR (lD r0 O O O (mV O (mV O ?_)));obtain⟨d7,c3,a7⟩:=de (i:=x2) r1 V V;refine af (bd O O c3) (lD a7 O O O ?_);obtain⟨d1,b2,z⟩:=br z;have b1:=ck7 r0 a7;rw[b2]at b1;refine cL b1 O O (aj (TR.clo bc.t r0) (aj (TR.clo ah.t a7) bh)) (mV O (xT O O (xT O O (mV O (mV O (nR (mV O (mV O ?_))))))));refine bN dp O O (mV O (mV O (mV O (mV O (nS ?_)))));subst z;exact gi (.tmp O (.tmp O (.tmp O .nil))) (eh (show closed (.tup _)=true from(aj O (aj O (aj O bh))))) O
   ·refine ax (cy (ap (sR ?_)));refine fa (x:= .agg [vi 0,vi 0,vi 0]) (Mem.nil ⟨0,[]⟩) O O (λd5 c8 c9 c2=>?_);refine nR (mV O (bN dp O O (mV O (nS (am (sR (mV O (mI O ?_))))))));refine nS (bf ?_);refine wC (tu r0 r1 h0 hb ihR hmu hrec a3 a4 a2 a1 ?_ (show(tAr 3 tI).R ([0,0,0]:List Int) (.agg [vi 0,vi 0,vi 0]) from⟨O,[vi 0,vi 0,vi 0],[vi 0,vi 0,vi 0],⟨O,⟨O,⟨O,trivial⟩⟩⟩,O,O⟩) O V (by(rw[dj V V];omega)) (Mem.sub c2 (.cons_cons _ .slnil)) z) O
    ·intro b9 b0 b5 a0 d4 c4 z;refine dy (ap (sR (mV O (mV O ?_))));obtain⟨d3,b8,a5⟩:=de (i:=x2) r1 V V;refine af (bd O O b8) (lD a5 O O O (af (pw (k:=0) c4 O O (TR.agg (tAr 3 tI) a0)) ?_));obtain⟨d6,b6,z⟩:=br z;have b3:=ct5 a5 a0;rw[b6]at b3;refine cL b3 O O (aj (TR.clo ah.t a5) (aj (TR.clo (tAr 3 tI) a0) bh)) (mV O (xT O O (xT O O (mV O (mV O (nR (mV O (mV O ?_))))))));refine mV O (mV O (mV O (mV O (nS ?_))));subst z;exact gi (.tmp O (.tmp O (.tmp O .nil))) (eh (show closed (.tup _)=true from(aj O (aj O (aj O bh))))) O
theorem br7:∀(n_:Nat){x0:bc}{x1:List ah}{x2:Int}{v0 v1:PV}(r0:bc.t.R x0 v0)(r1:(tSl ah.t).R x1 v1)(h0:0<=x2)(hb:x1.length<=1000000),(x1.length-x2.toNat) < n_->FnR Tryz.prog 226 [v0,v1,vi x2] (.tup [vi ((dh n_ x0 x1 x2).1),vi ((dh n_ x0 x1 x2).2.1),vi ((dh n_ x0 x1 x2).2.2)]):=by
 intro n_;induction n_ with
 |zero=>intros;rename_i hlt;exact absurd hlt (Nat.not_lt_zero _)
 |succ n_ ihn=>
  intro x0 x1 x2 v0 v1 r0 r1 h0 hb hlt;have e_:dh (n_+1) x0 x1 x2=ee (dh n_) x0 x1 x2:=by rw[dh]
  rw[e_];exact ca4 r0 r1 h0 hb O (ro n_) (λ{z0}{z1}{z2}{zv0}{zv1} zr0 zr1 h0 hb hz=>ihn zr0 zr1 h0 hb V)
theorem cv1{x0:bc}{x1:List ah}{x2:Int}{v0 v1:PV}(r0:bc.t.R x0 v0)(r1:(tSl ah.t).R x1 v1)(h0:0<=x2)(hb:x1.length<=1000000):FnR Tryz.prog 226 [v0,v1,vi x2] (.tup [vi ((db x0 x1 x2).1),vi ((db x0 x1 x2).2.1),vi ((db x0 x1 x2).2.2)]):=br7 _ r0 r1 h0 hb (Nat.lt_succ_self _)
def RF174(res:Int×Int)(r:PV):Prop:=r= .tup [vi res.1,vi res.2]
theorem bh8{x0:List ah}{x1:bc}{v0 v1:PV}(r0:(tSl ah.t).R x0 v0)(r1:bc.t.R x1 v1):FnR Tryz.prog 174 [v0,v1] (.tup [vi ((pc x0 x1).1),vi ((pc x0 x1).2)]):=by
 refine fnS (R:=RF174) cn5 (λ_ h=>h) O λres z=>?_;unfold pc at z;refine sR (af (dw O (TR.cnt bc.t r1)) (mI O (mI O (nS (am (sR (mV O (af (cp O (ca r0 Tryz.underlying32 _)) ?_))))))));refine bN jr O O (nS ?_);refine cd z O ?_ ?_<;>clear z<;>intro c z<;>try simp only[qa]at c
 ·refine sR (mI O (mI O (nS ?_)));exact rT z O O O O O
 ·refine ax (ap (sR (lD r1 O O O (mV O ?_))));obtain⟨a2,a1,z⟩:=br z;have a0:=cv1 (x2:=0) r1 r0 V V;rw[a1]at a0;refine cL a0 O O (aj (TR.clo bc.t r1) (aj (TR.clo (tSl ah.t) r0) (aj O bh))) (mV O (xT O O (xT O O (xT O O (mV O (mV O (mV O (nS ?_))))))));refine am (bf (sR (mV O (bN lx O O (mV O (nS ?_))))));refine cd z O ?_ ?_<;>clear z<;>intro c z<;>try simp only[qa]at c
  ·refine sR (mV O (mI O (mV O (nS ?_))));exact rT z O O O O O
  ·refine sR (mV O (mV O (af (cp O (ca r0 Tryz.underlying32 _)) (bN cn O O (mV O (nS ?_))))));refine cd z O ?_ ?_<;>clear z<;>intro c z<;>try simp only[qa]at c
   ·refine sR (mI O (mI O (nS ?_)));exact rT z O O O O O
   ·refine ax (cy (ap (sR (mV O (mV O (mI O (nS ?_)))))));exact rT z O O O O O
def RF173(res:Int)(r:PV):Prop:=r=vi res
theorem bk2{x0:di}{x1:List ah}{x2:Int}{v0 v1:PV}(r0:di.t.R x0 v0)(r1:(tSl ah.t).R x1 v1):FnR Tryz.prog 173 [v0,v1,vi x2] (vi (gy x0 x1 x2)):=by
 refine fnS (R:=RF173) cl3 (λ_ h=>h) O λres z=>?_;unfold gy at z;refine sR (af (dw O (TR.cnt di.t r0)) (mI O (nR (mV O (gL (di.g_scope r0) O O O λa6 a5=>?_)))));obtain⟨a1,a3,z⟩:=br z;have a4:=bh8 r1 a5;rw[a3]at a4;refine cL a4 O O (aj (TR.clo (tSl ah.t) r1) (aj (TR.clo bc.t a5) bh)) (mV O (xT O O (xT O O (mV O (mV O (nS (am (sR ?_))))))));refine mV O (bN dt O O (mV O ?_));refine cm 4 (d:=22) (v:=vb ((decide (a1.2=0))&&(!decide (a1.1=x2)))) ?_ ?_
 ·intro S Q r;cases a2:(decide (a1.2=0))
  ·exact gN 3 O O O O O O
  ·intro k;have a0:=a2;try simp only[qa]at a0
   refine ai O O (ay O) (ai O O (ay O) (ai O O (ct O O lx) ?_));exact gK O O O O O k
 refine nS ?_;refine cd z O ?_ ?_<;>clear z<;>intro c z<;>try simp only[qa]at c
 ·refine sR (mI O (nS ?_));exact rR z O O O
 ·refine ax (ap (sR (mV O (mV O (nS ?_)))));exact rR z O O O
end Go.Proofs.YtmonnlkagniolaaGreat
