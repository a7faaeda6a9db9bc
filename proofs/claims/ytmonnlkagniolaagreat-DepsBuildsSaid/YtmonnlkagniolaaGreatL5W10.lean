/-
 The code of each function does what its plain program says.
-/
import Derived.Test.YtmonnlkagniolaaGreatL5W9
set_option linter.all false
set_option maxRecDepth 100000
namespace Go.Proofs.YtmonnlkagniolaaGreat
open Go Go.Pb Go.RowKit
def RF145(res:Int)(r:PV):Prop:=r=vi res
theorem cr2{x0:ae}{x1:Int}{v0:PV}(r0:ae.t.R x0 v0)(hs:x0.Headers.length<=1000):FnR Tryz.prog 145 [v0,vi x1] (vi (il x0 x1)):=by
 refine fnS (R:=RF145) cq7 (λ_ h=>h) O λres z=>?_;unfold il at z;refine sR (af (dw O (TR.cnt ae.t r0)) (mI O (nS (am (sR (mV O (bN cn O O (mV O ?_))))))));refine cm 6 (d:=13) (v:=vb ((decide (x1 < 0))||(decide ((x0.Headers.length:Int)<=x1)))) ?_ ?_
 ·intro S Q r;cases a3:(decide (x1 < 0))
  ·intro k;have a1:=a3;try simp only[qa]at a1
   refine ai O O (ay O) ?_;obtain⟨a8,a7,a0⟩:=ae.g_Headers r0;refine ai O O (co O a7) (ai O O (ck O (TR.cnt (tSl bz.t) a0) (TR.agg (tSl bz.t) a0)) (ai O O (cp O (ca a0 Tryz.underlying22 _)) (ai O O (ct O O kj) ?_)));exact gK O O O O O k
  ·exact gN 5 O O O O O O
 refine nS ?_;refine cd z O ?_ ?_<;>clear z<;>intro c z<;>try simp only[qa]at c
 ·refine sR (mI O (nS ?_));exact rR z O O O
 ·refine ax (ap (sR (lD r0 O O O ?_)));obtain⟨b0,a6,a4⟩:=ae.g_Headers r0;refine fA O a6 (lD a4 O O O (af (cp O (ca a4 Tryz.underlying22 _)) ?_));obtain⟨a9,a2,z⟩:=br z;have a5:=ai0 (x1:=(x0.Headers.length:Int)) r0 V OY;rw[a2]at a5;refine cL a5 O O (aj (TR.clo ae.t r0) (aj O bh)) (mV O (bN dp O O (mV O (nS ?_))));exact rR z O O O
def RF146(res:Int)(r:PV):Prop:=r=vi res
theorem db3{x0:ae}{x1:Int}{v0:PV}(r0:ae.t.R x0 v0)(hs:x0.Headers.length<=1000):FnR Tryz.prog 146 [v0,vi x1] (vi (ib x0 x1)):=by
 refine fnS (R:=RF146) co6 (λ_ h=>h) O λres z=>?_;unfold ib at z;refine sR (af (dw O (TR.cnt ae.t r0)) (mI O (nS (am (sR (mV O (bN cn O O (mV O ?_))))))));refine cm 6 (d:=13) (v:=vb ((decide (x1 < 0))||(decide ((x0.Registers.length:Int)<=x1)))) ?_ ?_
 ·intro S Q r;cases a3:(decide (x1 < 0))
  ·intro k;have a1:=a3;try simp only[qa]at a1
   refine ai O O (ay O) ?_;obtain⟨a9,a8,a0⟩:=ae.g_Registers r0;refine ai O O (co O a8) (ai O O (ck O (TR.cnt (tSl cq.t) a0) (TR.agg (tSl cq.t) a0)) (ai O O (cp O (ca a0 Tryz.underlying24 _)) (ai O O (ct O O kj) ?_)));exact gK O O O O O k
  ·exact gN 5 O O O O O O
 refine nS ?_;refine cd z O ?_ ?_<;>clear z<;>intro c z<;>try simp only[qa]at c
 ·refine sR (mI O (nS ?_));exact rR z O O O
 ·refine ax (ap (sR (lD r0 O O O (gL (ae.g_Headers r0) O O O λb1 a7=>(af (cp O (ca a7 Tryz.underlying22 _)) ?_)))));obtain⟨b0,a2,z⟩:=br z;have a4:=ai0 (x1:=(x0.Headers.length:Int)) r0 V OY;rw[a2]at a4;refine cL a4 O O (aj (TR.clo ae.t r0) (aj O bh)) (gL (ae.g_Headers r0) O O O λb3 a6=>(af (cp O (ca a6 Tryz.underlying22 _)) (bN dp O O (gL (ae.g_Metadata r0) O O O λb2 a5=>(af (cp O (ca a5 Tryz.underlying23 _)) (bN dp O O (mV O (bN dp O O ?_))))))));refine mV O (nS ?_);exact rR z O O O
def RF70(res:(List Int))(r:PV):Prop:=(tSl tI).R res r
theorem yx{S:List Fr}{res:(List Int)}{x0:ae}{x1:List Int}{x2:List aa}{x3 x4:List Int}{v0 v2 v3 v4:PV}(r0:ae.t.R x0 v0)(r2:(tSl aa.t).R x2 v2)(hs:x0.Headers.length<=1000)(hb:x1.length+x2.length+x3.length+x4.length<=2000000){K0:(List Int)->(List Int)}
 (b8:∀{a1:List Int}{a5:PV}(a7:(tSl tI).R a1 a5)(c3:(a1.length:Int)<=x1.length+x2.length),K0 a1=res->PX Tryz.prog 0 S (QR Tryz.prog [(10,none)] (RF70 res)) [(1,a5),(3,v3),(4,v4),(5,.fp v0)] ⟨0,[]⟩):
 ∀{m:Nat}{a1:List Int}{a0:Int}{a5:PV}(a7:(tSl tI).R a1 a5)(b5:m=Int.toNat ((x2.length:Int)-a0))(a8:0<=a0)(a2:(a1.length:Int)<=(x1.length:Int)+a0)(a4:a0<=(x2.length:Int)),lm x0 x2 K0 m a1 a0=res->RC Tryz.prog (.loop cx2) S (QR Tryz.prog [(10,none)] (RF70 res)) [(11,vi a0),(5,.fp v0),(4,v4),(3,v3),(2,v2),(1,a5)] ⟨0,[]⟩:=by
 have hb':=hb;try simp only[qa]at hb'
 intro m;induction m with
 |zero=>
  intro a1 a0 a5 a7 b5 a8 a2 a4 z;rw[lm]at z;refine bv (am (sR (mV O (mV O (af (cp O (ca r2 Tryz.underlying75 _)) (bN cn O O (nS ?_)))))));refine bp O ?_ ?_<;>intro c<;>try simp only[qa]at c
  ·omega
  refine dg (dq (dc ?_));exact wP (b8 a7 V z) O
 |succ m ih=>
  intro a1 a0 a5 a7 b5 a8 a2 a4 z;rw[lm]at z;refine bv (am (sR (mV O (mV O (af (cp O (ca r2 Tryz.underlying75 _)) (bN cn O O (nS ?_)))))));refine bp O ?_ ?_<;>intro c<;>try simp only[qa]at c
  rotate_left
  ·omega
  refine ax (ap (am (bf (av (mV O (lD r0 O O O (mV O (mV O ?_))))))));obtain⟨b9,b2,a6⟩:=de (i:=a0) r2 V V;refine af (bd O O b2) (lD a6 O O O ?_);obtain⟨b3,b0,z⟩:=br z;have b1:=br1 r0 a6 OY;rw[b0]at b1;refine cL b1 O O (aj (TR.clo ae.t r0) (aj (TR.clo aa.t a6) bh)) ?_;obtain⟨b7,a3,z⟩:=br z;obtain⟨c2,b4,a9⟩:=as2 (x1:=b3) a7 V;rw[a3]at a9;have b6:=ut a3 V;refine cL b4 O O (aj (TR.clo (tSl tI) a7) (aj O bh)) (mV O (bn (cy (ap (av (mV O (bN dp O O (mV O ?_))))))));refine bn (cv ?_);have s:=da r2;have o:wr (a0+1)=a0+1:=dj V V;erw[o];exact wC (ih a9 V V V V z) O
theorem xq{S:List Fr}{res:(List Int)}{x0:ae}{x1:List Int}{x2:List aa}{x3 x4 a6:List Int}{v0 v3 v4:PV}(r0:ae.t.R x0 v0)(r3:(tSl tI).R x3 v3)(hs:x0.Headers.length<=1000)(hb:x1.length+x2.length+x3.length+x4.length<=2000000)(b2:(a6.length:Int)<=x1.length+x2.length){K2:(List Int)->(List Int)}
 (b8:∀{a1:List Int}{a5:PV}(a7:(tSl tI).R a1 a5)(c2:(a1.length:Int)<=x1.length+x2.length+x3.length),K2 a1=res->PX Tryz.prog 2 S (QR Tryz.prog [(10,none)] (RF70 res)) [(1,a5),(4,v4),(5,.fp v0)] ⟨0,[]⟩):
 ∀{m:Nat}{a1:List Int}{a0:Int}{a5:PV}(a7:(tSl tI).R a1 a5)(b5:m=Int.toNat ((x3.length:Int)-a0))(a9:0<=a0)(a3:(a1.length:Int)<=(x1.length+x2.length:Int)+a0)(a2:a0<=(x3.length:Int)),ln x0 x3 K2 m a1 a0=res->RC Tryz.prog (.loop cp7) S (QR Tryz.prog [(10,none)] (RF70 res)) [(12,vi a0),(5,.fp v0),(4,v4),(3,v3),(1,a5)] ⟨0,[]⟩:=by
 have hb':=hb;try simp only[qa]at hb'
 intro m;induction m with
 |zero=>
  intro a1 a0 a5 a7 b5 a9 a3 a2 z;rw[ln]at z;refine bv (am (sR (mV O (mV O (af (cp O (ca r3 Tryz.underlying29 _)) (bN cn O O (nS ?_)))))));refine bp O ?_ ?_<;>intro c<;>try simp only[qa]at c
  ·omega
  refine dg (dq (dc ?_));exact wP (b8 a7 V z) O
 |succ m ih=>
  intro a1 a0 a5 a7 b5 a9 a3 a2 z;rw[ln]at z;refine bv (am (sR (mV O (mV O (af (cp O (ca r3 Tryz.underlying29 _)) (bN cn O O (nS ?_)))))));refine bp O ?_ ?_<;>intro c<;>try simp only[qa]at c
  rotate_left
  ·omega
  refine ax (ap (am (bf (av (mV O (lD r0 O O O (mV O (mV O ?_))))))));refine af (bd O O (slI r3 V V)) (lR O O O ?_);obtain⟨b3,a8,z⟩:=br z;have b0:=cr2 (x1:=(ix x3 a0)) r0 OY;rw[a8]at b0;refine cL b0 O O (aj (TR.clo ae.t r0) (aj O bh)) ?_;obtain⟨b7,a4,z⟩:=br z;obtain⟨b9,b4,b1⟩:=as2 (x1:=b3) a7 V;rw[a4]at b1;have b6:=ut a4 V;refine cL b4 O O (aj (TR.clo (tSl tI) a7) (aj O bh)) (mV O (bn (cy (ap (av (mV O (bN dp O O (mV O ?_))))))));refine bn (cv ?_);have s:=da r3;have o:wr (a0+1)=a0+1:=dj V V;erw[o];exact wC (ih b1 V V V V z) O
theorem yt{S:List Fr}{res:(List Int)}{x0:ae}{x1:List Int}{x2:List aa}{x3 x4 a6 a7:List Int}{v0 v4:PV}(r0:ae.t.R x0 v0)(r4:(tSl tI).R x4 v4)(hs:x0.Headers.length<=1000)(hb:x1.length+x2.length+x3.length+x4.length<=2000000)(b4:(a6.length:Int)<=x1.length+x2.length)(b3:(a7.length:Int)<=x1.length+x2.length+x3.length){K4:(List Int)->(List Int)}
 (c3:∀{a1:List Int}{a5:PV}(a8:(tSl tI).R a1 a5)(c4:(a1.length:Int)<=x1.length+x2.length+x3.length+x4.length),K4 a1=res->PX Tryz.prog 4 S (QR Tryz.prog [(10,none)] (RF70 res)) [(1,a5)] ⟨0,[]⟩):
 ∀{m:Nat}{a1:List Int}{a0:Int}{a5:PV}(a8:(tSl tI).R a1 a5)(b8:m=Int.toNat ((x4.length:Int)-a0))(b1:0<=a0)(a2:(a1.length:Int)<=(x1.length+x2.length+x3.length:Int)+a0)(a3:a0<=(x4.length:Int)),lh x0 x4 K4 m a1 a0=res->RC Tryz.prog (.loop cw9) S (QR Tryz.prog [(10,none)] (RF70 res)) [(13,vi a0),(5,.fp v0),(4,v4),(1,a5)] ⟨0,[]⟩:=by
 have hb':=hb;try simp only[qa]at hb'
 intro m;induction m with
 |zero=>
  intro a1 a0 a5 a8 b8 b1 a2 a3 z;rw[lh]at z;refine bv (am (sR (mV O (mV O (af (cp O (ca r4 Tryz.underlying29 _)) (bN cn O O (nS ?_)))))));refine bp O ?_ ?_<;>intro c<;>try simp only[qa]at c
  ·omega
  refine dg (dq (dc ?_));exact wP (c3 a8 V z) O
 |succ m ih=>
  intro a1 a0 a5 a8 b8 b1 a2 a3 z;rw[lh]at z;refine bv (am (sR (mV O (mV O (af (cp O (ca r4 Tryz.underlying29 _)) (bN cn O O (nS ?_)))))));refine bp O ?_ ?_<;>intro c<;>try simp only[qa]at c
  rotate_left
  ·omega
  refine ax (ap (am (bf (av (mV O (lD r0 O O O (mV O (mV O ?_))))))));refine af (bd O O (slI r4 V V)) (lR O O O ?_);obtain⟨b5,b0,z⟩:=br z;have b2:=db3 (x1:=(ix x4 a0)) r0 OY;rw[b0]at b2;refine cL b2 O O (aj (TR.clo ae.t r0) (aj O bh)) ?_;obtain⟨c2,a4,z⟩:=br z;obtain⟨b9,b6,a9⟩:=as2 (x1:=b5) a8 V;rw[a4]at a9;have b7:=ut a4 V;refine cL b6 O O (aj (TR.clo (tSl tI) a8) (aj O bh)) (mV O (bn (cy (ap (av (mV O (bN dp O O (mV O ?_))))))));refine bn (cv ?_);have s:=da r4;have o:wr (a0+1)=a0+1:=dj V V;erw[o];exact wC (ih a9 V V V V z) O
theorem bd6{x0:ae}{x1:List Int}{x2:List aa}{x3 x4:List Int}{v0 v1 v2 v3 v4:PV}(r0:ae.t.R x0 v0)(r1:(tSl tI).R x1 v1)(r2:(tSl aa.t).R x2 v2)(r3:(tSl tI).R x3 v3)(r4:(tSl tI).R x4 v4)(hs:x0.Headers.length<=1000)(hb:x1.length+x2.length+x3.length+x4.length<=2000000):∃r,FnR Tryz.prog 70 [v0,v1,v2,v3,v4] r/\(tSl tI).R (nr x0 x1 x2 x3 x4) r:=by
 refine fnT (R:=RF70) dr1 O λres z=>?_;unfold nr at z;refine sR (af (dw O (TR.cnt ae.t r0)) (af (v:=nilS) (ay O) (nS (am (sR (mI O (nS (bf ?_))))))));refine wC (yx r0 r2 hs hb ?_ r1 O V V V z) O
 ·intro a7 a8 a4 a0 z;refine dy (ap (am (sR (mI O (nS (bf ?_))))));refine wC (xq r0 r3 hs hb a0 ?_ a4 O V V V z) O
  ·intro b0 a9 a3 a2 z;refine dy (ap (am (sR (mI O (nS (bf ?_))))));refine wC (yt r0 r4 hs hb a0 a2 ?_ a3 O V V V z) O
   ·intro b1 a6 a1 a5 z;refine dy (ap (sR (mV O (mV O (nS ?_)))));exact rR z O (TR.clo (tSl tI) a1) a1
def RF19(res:(List Int))(r:PV):Prop:=(tSl tI).R res r
theorem xx{S:List Fr}{res:(List Int)}{x0:ae}{x1:ba}{v0 b2:PV}{b0 b3:Nat}(r0:ae.t.R x0 v0)(hs:x0.Headers.length<=1000)(hA:AB x0)(b9:((decide (x1.Table < 0))||(decide ((x0.Tables.length:Int)<=x1.Table)))=false)(b5:bw.t.R (ix x0.Tables x1.Table) b2){K0:(List Int)->(List Int)}
 (d9:∀{a3:List Int}{b4:PV}(b6:(tSl tI).R a3 b4){h:Heap}(M0:Mem h [⟨.op b0 b3 0,59,6,[b2]⟩]),K0 a3=res->PX Tryz.prog 0 S (QR Tryz.prog [(4,none)] (RF19 res)) [(5,b4)] h):
 ∀{m:Nat}{a3:List Int}{a0:Int}{b4:PV}(b6:(tSl tI).R a3 b4)(d0:m=Int.toNat ((((ix x0.Tables x1.Table).Actions).length:Int)-a0))(b7:0<=a0)(a1:(a3.length:Int)<=39000*a0)(a2:a0<=24){h:Heap}(M0:Mem h [⟨.op b0 b3 0,59,6,[b2]⟩]),li x0 x1 K0 m a3 a0=res->RC Tryz.prog (.loop cn7) S (QR Tryz.prog [(4,none)] (RF19 res)) [(7,vi a0),(6,.op b0 b3 0),(5,b4),(2,.fp v0)] h:=by
 have a9:=b9;try simp only[qa]at a9
 intro m;induction m with
 |zero=>
  intro a3 a0 b4 b6 d0 b7 a1 a2 h M0 z;rw[li]at z;refine bv (am (sR (mV O (af (bg O) ?_))));obtain⟨d5,c3,c8⟩:=bw.g_Actions b5;refine af (cg (k:=0) M0 O O c3) (af (cp O (ca c8 Tryz.underlying29 _)) (bN cn O O (nS ?_)));refine bp O ?_ ?_<;>intro c<;>try simp only[qa]at c
  ·omega
  refine dg (dq (dc ?_));exact wP (d9 b6 (Mem.sub M0 (.cons_cons _ .slnil)) z) O
 |succ m ih=>
  intro a3 a0 b4 b6 d0 b7 a1 a2 h M0 z;rw[li]at z;refine bv (am (sR (mV O (af (bg O) ?_))));obtain⟨d6,c5,b8⟩:=bw.g_Actions b5;refine af (cg (k:=0) M0 O O c5) (af (cp O (ca b8 Tryz.underlying29 _)) (bN cn O O (nS ?_)));refine bp O ?_ ?_<;>intro c<;>try simp only[qa]at c
  rotate_left
  ·omega
  refine ax (ap (am (bf (sR (lD r0 O O O (af (bg O) ?_))))));obtain⟨d3,c6,c9⟩:=bw.g_Actions b5;refine af (cg (k:=0) M0 O O c6) (mV O (af (bd O O (slI c9 V V)) (lR O O O ?_)));obtain⟨a7,a4,z⟩:=br z;obtain⟨d8,e0,d4,c7,b1,a8,a6⟩:=di1 (x1:=(ix ((ix x0.Tables x1.Table).Actions) a0)) r0 (by exact hA.1);rw[a4]at b1 a8 a6;have d2:a7.1.length<=13000/\a7.2.1.length<=13000/\a7.2.2.length<=13000:=bb0 hA.1 a4;refine cL c7 O O (aj (TR.clo ae.t r0) (aj O bh)) (mV O (xT O O (xT O O (xT O O (mV O (mV O (mV O (nS ?_))))))));refine av (lD r0 O O O (mV O (mV O (mV O (mV O ?_)))));obtain⟨e1,a5,z⟩:=br z;obtain⟨d7,c4,c2⟩:=bd6 r0 b6 b1 a8 a6 V V;rw[a5]at c2;have d1:=ym a5 V;refine cL c4 O O (aj (TR.clo ae.t r0) (aj (TR.clo (tSl tI) b6) (aj (TR.clo (tSl aa.t) b1) (aj (TR.clo (tSl tI) a8) (aj (TR.clo (tSl tI) a6) bh))))) (mV O (bn (cy (ap (av (mV O (bN dp O O (mV O ?_))))))));refine bn (cv ?_);have s:=da b8;have o:wr (a0+1)=a0+1:=dj V V;erw[o];exact wC (ih c2 V V V (by((have hT:=hA.2 x1.Table V V;omega))) (Mem.sub M0 (.cons_cons _ .slnil)) z) O
theorem bf9{x0:ae}{x1:ba}{v0 v1:PV}(r0:ae.t.R x0 v0)(r1:ba.t.R x1 v1)(hs:x0.Headers.length<=1000)(hA:AB x0):∃r,FnR Tryz.prog 19 [v0,v1] r/\(tSl tI).R (ot x0 x1) r:=by
 refine fnT (R:=RF19) dh6 O λres z=>?_;unfold ot at z;refine sR (af (dw O (TR.cnt ae.t r0)) (af (dw O (TR.cnt ba.t r1)) (af (v:=nilS) (ay O) (nS (am (sR (fL O (ba.g_Table r1) O O (bN cn O O ?_))))))));refine mV O ?_;refine cm 7 (d:=21) (v:=vb ((decide (x1.Table < 0))||(decide ((x0.Tables.length:Int)<=x1.Table)))) ?_ ?_
 ·intro S Q r;cases a7:(decide (x1.Table < 0))
  ·intro k;have a6:=a7;try simp only[qa]at a6
   refine ai O O (co O (ba.g_Table r1)) (ai O O (ck O O O) ?_);obtain⟨b9,b4,a2⟩:=ae.g_Tables r0;refine ai O O (co O b4) (ai O O (ck O (TR.cnt (tSl bw.t) a2) (TR.agg (tSl bw.t) a2)) (ai O O (cp O (ca a2 Tryz.underlying26 _)) (ai O O (ct O O kj) ?_)));exact gK O O O O O k
  ·exact gN 6 O O O O O O
 refine nS ?_;refine cd z O ?_ ?_<;>clear z<;>intro a1 z<;>have a4:=a1<;>try simp only[qa]at a4
 ·refine sR (af (v:=nilS) (ay O) (nS ?_));exact rR z O (TR.clo (tSl tI) ft) ft
 ·refine ax (ap (sR (af (v:=nilS) (ay O) (nR (gL (ae.g_Tables r0) O O O λc3 b1=>(fL O (ba.g_Table r1) O O ?_))))));obtain⟨a8,b6,a5⟩:=de (i:=x1.Table) b1 V V;refine af (bd O O b6) (lD a5 O O O ?_);refine fa (x:= .agg [vs [],nilS,nilS,vi 0,nilS,vi 0]) (Mem.nil ⟨0,[]⟩) O O (λb2 b3 c4 b0=>?_);refine ek (k:=0) (v:=a8) b0 O O O (TR.cnt bw.t a5) (λa9 a3=>?_);replace a3:Mem a9 [⟨.op b2 b3 0,59,6,[a8]⟩]:=a3;refine nS (am (sR (mI O (nS (bf ?_)))));refine wC (xx r0 hs hA a1 a5 ?_ ft O V (by(((try dsimp only);(try simp only[List.length_append,List.length_cons,List.length_nil]);omega))) V (Mem.sub a3 (.cons_cons _ .slnil)) z) O
  ·intro b5 b7 a0 c2 b8 z;refine dy (ap (sR (mV O (mV O (nS ?_)))));exact rR z O (TR.clo (tSl tI) a0) a0
def RF166(res:Bool)(r:PV):Prop:=r=vb res
theorem vh{S:List Fr}{res:Bool}{x0:List ba}{x1 x2 a1:Int}{v0:PV}(r0:(tSl ba.t).R x0 v0)(b0:((((decide (x1 < 0))||(decide (x2 < 0)))||(decide ((x0.length:Int)<=x1)))||(decide ((x0.length:Int)<=x2)))=false)(e5:0<=a1)(b1:(decide (a1 < (((ix x0 x1).Guards).length:Int)))=true){K2:Unit->Bool}
 (f4:K2 ()=res->PX Tryz.prog 2 S (QR Tryz.prog [(6,none)] (RF166 res)) [(0,v0),(1,vi x1),(2,vi x2),(7,vi a1)] ⟨0,[]⟩):
 ∀{m:Nat}{a0:Int}(d9:m=Int.toNat ((((ix x0 x2).Guards).length:Int)-a0))(a7:0<=a0),jn x0 x1 x2 a1 K2 m a0=res->RC Tryz.prog (.loop bw1) S (QR Tryz.prog [(6,none)] (RF166 res)) [(8,vi a0),(7,vi a1),(2,vi x2),(1,vi x1),(0,v0)] ⟨0,[]⟩:=by
 have a2:=b0;try simp only[qa]at a2
 have a5:=b1;try simp only[qa]at a5
 intro m;induction m with
 |zero=>
  intro a0 d9 a7 z;rw[jn]at z;refine bv (am (sR (mV O (mV O (mV O ?_)))));obtain⟨e7,c2,c5⟩:=de (i:=x2) r0 V V;refine af (bd O O c2) (gL (ba.g_Guards c5) O O O λf5 c6=>(af (cp O (ca c6 Tryz.underlying33 _)) (bN cn O O (nS ?_))));refine bp O ?_ ?_<;>intro c<;>try simp only[qa]at c
  ·omega
  refine dg (dq (dc ?_));exact wP (f4 z) O
 |succ m ih=>
  intro a0 d9 a7 z;rw[jn]at z;refine bv (am (sR (mV O (mV O (mV O ?_)))));obtain⟨e1,d8,d3⟩:=de (i:=x2) r0 V V;refine af (bd O O d8) (gL (ba.g_Guards d3) O O O λe9 a9=>(af (cp O (ca a9 Tryz.underlying33 _)) (bN cn O O (nS ?_))));refine bp O ?_ ?_<;>intro c<;>try simp only[qa]at c
  rotate_left
  ·omega
  refine ax (ap (am (bf (sR (mV O (mV O ?_))))));obtain⟨e6,b8,b3⟩:=de (i:=x1) r0 V V;refine af (bd O O b8) (gL (ba.g_Guards b3) O O O λe3 b7=>(mV O ?_));obtain⟨e8,d1,d7⟩:=de (i:=a1) b7 V V;refine af (bd O O d1) (fL O (bq.g_Unit d7) O O (mV O (mV O ?_)));obtain⟨f3,d6,d0⟩:=de (i:=x2) r0 V V;refine af (bd O O d6) (gL (ba.g_Guards d0) O O O λf6 c7=>(mV O ?_));obtain⟨f7,b2,c4⟩:=de (i:=a0) c7 V V;refine af (bd O O b2) (fL O (bq.g_Unit c4) O O (bN dt O O (mV O ?_)));refine cm 20 (d:=86) (v:=vb ((decide (((ix ((ix x0 x1).Guards) a1).Unit)=((ix ((ix x0 x2).Guards) a0).Unit)))&&(!decide (((ix ((ix x0 x1).Guards) a1).Want)=((ix ((ix x0 x2).Guards) a0).Want))))) ?_ ?_
  ·intro S Q r;cases a8:(decide (((ix ((ix x0 x1).Guards) a1).Unit)=((ix ((ix x0 x2).Guards) a0).Unit)))
   ·exact gN 19 O O O O O O
   ·intro k;have a4:=a8;try simp only[qa]at a4
    refine ai O O (ay O) (ai O O (ay O) ?_);obtain⟨e0,b9,b4⟩:=de (i:=x1) r0 V V;refine ai O O (bd O O b9) ?_;obtain⟨f2,c9,a6⟩:=ba.g_Guards b4;refine ai O O (co O c9) (ai O O (ck O (TR.cnt (tSl bq.t) a6) (TR.agg (tSl bq.t) a6)) (ai O O (ay O) ?_));obtain⟨e4,c8,b6⟩:=de (i:=a1) a6 V V;refine ai O O (bd O O c8) (ai O O (co O (bq.g_Want b6)) (ai O O (ck O O O) (ai O O (ay O) (ai O O (ay O) ?_))));obtain⟨e2,d5,d4⟩:=de (i:=x2) r0 V V;refine ai O O (bd O O d5) ?_;obtain⟨f0,b5,a3⟩:=ba.g_Guards d4;refine ai O O (co O b5) (ai O O (ck O (TR.cnt (tSl bq.t) a3) (TR.agg (tSl bq.t) a3)) (ai O O (ay O) ?_));obtain⟨f1,c3,d2⟩:=de (i:=a0) a3 V V;refine ai O O (bd O O c3) (ai O O (co O (bq.g_Want d2)) (ai O O (ck O O O) (ai O O (ct O O (ax2 (by rw[Tryz.underlying4];rfl))) ?_)));exact gK O O O O O k
  refine nS ?_;refine cd z O ?_ ?_<;>clear z<;>intro c z<;>try simp only[qa]at c
  ·refine sR (mB O (nS ?_));exact rR z O O O
  ·refine ax (cy (ap (av (mV O (bN dp O O (mV O (bn (cv ?_))))))));have s:=da a9;have o:wr (a0+1)=a0+1:=dj V V;erw[o];exact wC (ih V V z) O
theorem vg{S:List Fr}{res:Bool}{x0:List ba}{x1 x2:Int}{v0:PV}(r0:(tSl ba.t).R x0 v0)(a1:((((decide (x1 < 0))||(decide (x2 < 0)))||(decide ((x0.length:Int)<=x1)))||(decide ((x0.length:Int)<=x2)))=false){K0:Unit->Bool}
 (b5:K0 ()=res->PX Tryz.prog 0 S (QR Tryz.prog [(6,none)] (RF166 res)) [] ⟨0,[]⟩):
 ∀{m:Nat}{a2:Int}(b3:m=Int.toNat ((((ix x0 x1).Guards).length:Int)-a2))(a4:0<=a2),jm x0 x1 x2 K0 m a2=res->RC Tryz.prog (.loop cb3) S (QR Tryz.prog [(6,none)] (RF166 res)) [(7,vi a2),(2,vi x2),(1,vi x1),(0,v0)] ⟨0,[]⟩:=by
 have a3:=a1;try simp only[qa]at a3
 intro m;induction m with
 |zero=>
  intro a2 b3 a4 z;rw[jm]at z;refine bv (am (sR (mV O (mV O (mV O ?_)))));obtain⟨b6,b2,b1⟩:=de (i:=x1) r0 V V;refine af (bd O O b2) ?_;obtain⟨b7,a9,a6⟩:=ba.g_Guards b1;refine fA O a9 (lD a6 O O O (af (cp O (ca a6 Tryz.underlying33 _)) (bN cn O O (nS ?_))));refine bp O ?_ ?_<;>intro c<;>try simp only[qa]at c
  ·omega
  refine dg (dq (dc ?_));exact wP (b5 z) O
 |succ m ih=>
  intro a2 b3 a4 z;rw[jm]at z;refine bv (am (sR (mV O (mV O (mV O ?_)))));obtain⟨b8,a8,b0⟩:=de (i:=x1) r0 V V;refine af (bd O O a8) (gL (ba.g_Guards b0) O O O λb4 a7=>(af (cp O (ca a7 Tryz.underlying33 _)) (bN cn O O (nS ?_))));refine bp O (λa0=>?_) (λa0=>?_)
  ·have hgo:=z;have a5:=a0;try simp only[qa]at a5
   refine ax (ap (am (bf (sR (mI O (nS (bf ?_)))))));refine wC (vh r0 a1 a4 a0 ?_ O V z) O
   ·intro z;refine dy (cy (ap (av (mV O (bN dp O O (mV O (bn (cv ?_))))))));have s:=da a7;have o:wr (a2+1)=a2+1:=dj V V;erw[o];exact wC (ih V V z) O
  ·exfalso;try simp only[qa]at a0
   omega
theorem cn6{x0:List ba}{x1 x2:Int}{v0:PV}(r0:(tSl ba.t).R x0 v0):FnR Tryz.prog 166 [v0,vi x1,vi x2] (vb (oh x0 x1 x2)):=by
 refine fnS (R:=RF166) cg5 (λ_ h=>h) O λres z=>?_;unfold oh at z;refine sR (mB O (nS (am (sR (mV O (bN cn O O (mV O ?_)))))));refine cm 3 (d:=14) (v:=vb ((decide (x1 < 0))||(decide (x2 < 0)))) ?_ ?_
 ·intro S Q r;cases a7:(decide (x1 < 0))
  ·intro k;have a3:=a7;try simp only[qa]at a3
   refine ai O O (ay O) (ai O O (ct O O cn) ?_);exact gK O O O O O k
  ·exact gN 2 O O O O O O
 refine mV O ?_;refine cm 5 (d:=20) (v:=vb (((decide (x1 < 0))||(decide (x2 < 0)))||(decide ((x0.length:Int)<=x1)))) ?_ ?_
 ·intro S Q r;cases a5:((decide (x1 < 0))||(decide (x2 < 0)))
  ·intro k;have a4:=a5;try simp only[qa]at a4
   refine ai O O (ay O) (ai O O (ay O) (ai O O (cp O (ca r0 Tryz.underlying68 _)) (ai O O (ct O O kj) ?_)));exact gK O O O O O k
  ·exact gN 4 O O O O O O
 refine mV O ?_;refine cm 5 (d:=26) (v:=vb ((((decide (x1 < 0))||(decide (x2 < 0)))||(decide ((x0.length:Int)<=x1)))||(decide ((x0.length:Int)<=x2)))) ?_ ?_
 ·intro S Q r;cases a6:(((decide (x1 < 0))||(decide (x2 < 0)))||(decide ((x0.length:Int)<=x1)))
  ·intro k;have a2:=a6;try simp only[qa]at a2
   refine ai O O (ay O) (ai O O (ay O) (ai O O (cp O (ca r0 Tryz.underlying68 _)) (ai O O (ct O O kj) ?_)));exact gK O O O O O k
  ·exact gN 4 O O O O O O
 refine nS ?_;refine cd z O ?_ ?_<;>clear z<;>intro a0 z<;>have a1:=a0<;>try simp only[qa]at a1
 ·refine sR (mB O (nS ?_));exact rR z O O O
 ·refine ax (ap (am (sR (mI O (nS (bf ?_))))));refine wC (vg r0 a0 ?_ O V z) O
  ·intro z;refine dy (ap (sR (mB O (nS ?_))));exact rR z O O O
def RF167(res:Bool)(r:PV):Prop:=r=vb res
theorem xb{S:List Fr}{res:Bool}{x0:ba}{x1:Int}{v0:PV}(r0:ba.t.R x0 v0){K0:Unit->Bool}
 (b0:K0 ()=res->PX Tryz.prog 0 S (QR Tryz.prog [(4,none)] (RF167 res)) [] ⟨0,[]⟩):
 ∀{m:Nat}{a0:Int}(a9:m=Int.toNat ((x0.Guards.length:Int)-a0))(a2:0<=a0),mb x0 x1 K0 m a0=res->RC Tryz.prog (.loop bt8) S (QR Tryz.prog [(4,none)] (RF167 res)) [(5,vi a0),(2,.fp v0),(1,vi x1)] ⟨0,[]⟩:=by
 intro m;induction m with
 |zero=>
  intro a0 a9 a2 z;rw[mb]at z;refine bv (am (sR (mV O (gL (ba.g_Guards r0) O O O λb3 a8=>(af (cp O (ca a8 Tryz.underlying33 _)) (bN cn O O (nS ?_)))))));refine bp O ?_ ?_<;>intro c<;>try simp only[qa]at c
  ·omega
  refine dg (dq (dc ?_));exact wP (b0 z) O
 |succ m ih=>
  intro a0 a9 a2 z;rw[mb]at z;refine bv (am (sR (mV O ?_)));obtain⟨b2,a5,a1⟩:=ba.g_Guards r0;refine fA O a5 (lD a1 O O O (af (cp O (ca a1 Tryz.underlying33 _)) (bN cn O O (nS ?_))));refine bp O ?_ ?_<;>intro c<;>try simp only[qa]at c
  rotate_left
  ·omega
  refine ax (ap (am (bf (sR ?_))));obtain⟨b1,a7,a3⟩:=ba.g_Guards r0;refine fA O a7 (lD a3 O O O (mV O ?_));obtain⟨b4,a6,a4⟩:=de (i:=a0) a3 V V;refine af (bd O O a6) (fL O (bq.g_Unit a4) O O (mV O (bN dt O O (nS ?_))));refine cd z O ?_ ?_<;>clear z<;>intro c z<;>try simp only[qa]at c
  ·refine sR (mB O (nS ?_));exact rR z O O O
  ·refine ax (cy (ap (av (mV O (bN dp O O (mV O (bn (cv ?_))))))));have s:=da a1;have o:wr (a0+1)=a0+1:=dj V V;erw[o];exact wC (ih V V z) O
theorem cq9{x0:ba}{x1:Int}{v0:PV}(r0:ba.t.R x0 v0):FnR Tryz.prog 167 [v0,vi x1] (vb (rz x0 x1)):=by
 refine fnS (R:=RF167) ct9 (λ_ h=>h) O λres z=>?_;unfold rz at z;refine sR (af (dw O (TR.cnt ba.t r0)) (mB O (nS (am (sR (mI O (nS (bf ?_))))))));refine wC (xb r0 ?_ O V z) O
 ·intro z;refine dy (ap (sR (mB O (nS ?_))));exact rR z O O O
def RF71(res:(List aa))(r:PV):Prop:=(tSl aa.t).R res r
theorem yu{S:List Fr}{res:(List aa)}{x0:List ah}{v0:PV}(r0:(tSl ah.t).R x0 v0)(hb:x0.length<=1000){K0:(List aa)->(List aa)}
 (b9:∀{a1:List aa}{a4:PV}(a5:(tSl aa.t).R a1 a4),K0 a1=res->PX Tryz.prog 0 S (QR Tryz.prog [(2,none)] (RF71 res)) [(3,a4)] ⟨0,[]⟩):
 ∀{m:Nat}{a1:List aa}{a0:Int}{a4:PV}(a5:(tSl aa.t).R a1 a4)(b5:m=Int.toNat ((x0.length:Int)-a0))(a6:0<=a0)(a3:(a1.length:Int)<=a0),ke x0 K0 m a1 a0=res->RC Tryz.prog (.loop ck2) S (QR Tryz.prog [(2,none)] (RF71 res)) [(4,vi a0),(3,a4),(0,v0)] ⟨0,[]⟩:=by
 have hb':=hb;try simp only[qa]at hb'
 intro m;induction m with
 |zero=>
  intro a1 a0 a4 a5 b5 a6 a3 z;rw[ke]at z;refine bv (am (sR (mV O (mV O (af (cp O (ca r0 Tryz.underlying32 _)) (bN cn O O (nS ?_)))))));refine bp O ?_ ?_<;>intro c<;>try simp only[qa]at c
  ·omega
  refine dg (dq (dc ?_));exact wP (b9 a5 z) O
 |succ m ih=>
  intro a1 a0 a4 a5 b5 a6 a3 z;rw[ke]at z;refine bv (am (sR (mV O (mV O (af (cp O (ca r0 Tryz.underlying32 _)) (bN cn O O (nS ?_)))))));refine bp O ?_ ?_<;>intro c<;>try simp only[qa]at c
  rotate_left
  ·omega
  refine ax (ap (am (bf (sR (mV O (mV O ?_))))));obtain⟨c3,b0,b1⟩:=de (i:=a0) r0 V V;refine af (bd O O b0) (fL O (ah.g_Op b1) O O (bN dt O O (nS ?_)));refine cd z O ?_ ?_<;>clear z<;>intro c z<;>try simp only[qa]at c
  ·refine av (mV O (mV O (mV O ?_)));obtain⟨c2,b4,b3⟩:=de (i:=a0) r0 V V;refine af (bd O O b4) (fL O (ah.g_N b3) O O (mV O (mV O ?_)));obtain⟨c4,b2,a9⟩:=de (i:=a0) r0 V V;refine af (bd O O b2) (fL O (ah.g_W a9) O O (af (v:= .agg [vi ((ix x0 a0).N),vi ((ix x0 a0).W)]) (mr (cs:=[vi ((ix x0 a0).N),vi ((ix x0 a0).W)]) O O) ?_));obtain⟨b8,a2,z⟩:=br z;obtain⟨b7,a8,a7⟩:=ai3 a5 (show aa.t.R ({Header:=(ix x0 a0).N,Field:=(ix x0 a0).W}:aa) (.agg [vi ((ix x0 a0).N),vi ((ix x0 a0).W)]) from O) V;rw[a2]at a7;have b6:=AddField_len a2;refine cL a8 O O (aj (TR.clo (tSl aa.t) a5) (aj (TR.clo aa.t (show aa.t.R ({Header:=(ix x0 a0).N,Field:=(ix x0 a0).W}:aa) (.agg [vi ((ix x0 a0).N),vi ((ix x0 a0).W)]) from O)) bh)) (mV O (bn (cy (ap (av (mV O (bN dp O O (mV O ?_))))))));refine bn (cv ?_);have s:=da r0;have o:wr (a0+1)=a0+1:=dj V V;erw[o];exact wC (ih a7 V V V z) O
  ·refine ax (cy (ap (av (mV O (bN dp O O (mV O (bn (cv ?_))))))));have s:=da r0;have o:wr (a0+1)=a0+1:=dj V V;erw[o];exact wC (ih a5 V V V z) O
theorem cb2{x0:List ah}{v0:PV}(r0:(tSl ah.t).R x0 v0)(hb:x0.length<=1000):∃r,FnR Tryz.prog 71 [v0] r/\(tSl aa.t).R (nq x0) r:=by
 refine fnT (R:=RF71) dk3 O λres z=>?_;unfold nq at z;refine sR (af (v:=nilS) (ay O) (nR (af (v:=nilS) (ay O) (nS (am (sR (mI O (nS ?_))))))));refine bf ?_;refine wC (yu r0 hb ?_ ft O V OZ z) O
 ·intro a2 a1 a0 z;refine dy (ap (sR (mV O (mV O (nS ?_)))));exact rR z O (TR.clo (tSl aa.t) a0) a0
def RF72(res:(List Int))(r:PV):Prop:=(tSl tI).R res r
theorem xc{S:List Fr}{res:(List Int)}{x0:List ah}{v0:PV}(r0:(tSl ah.t).R x0 v0)(hb:x0.length<=1000){K0:(List Int)->(List Int)}
 (b7:∀{a1:List Int}{a4:PV}(a5:(tSl tI).R a1 a4),K0 a1=res->PX Tryz.prog 0 S (QR Tryz.prog [(2,none)] (RF72 res)) [(3,a4)] ⟨0,[]⟩):
 ∀{m:Nat}{a1:List Int}{a0:Int}{a4:PV}(a5:(tSl tI).R a1 a4)(b3:m=Int.toNat ((x0.length:Int)-a0))(a6:0<=a0)(a2:(a1.length:Int)<=a0),jv x0 K0 m a1 a0=res->RC Tryz.prog (.loop cz4) S (QR Tryz.prog [(2,none)] (RF72 res)) [(4,vi a0),(3,a4),(0,v0)] ⟨0,[]⟩:=by
 have hb':=hb;try simp only[qa]at hb'
 intro m;induction m with
 |zero=>
  intro a1 a0 a4 a5 b3 a6 a2 z;rw[jv]at z;refine bv (am (sR (mV O (mV O (af (cp O (ca r0 Tryz.underlying32 _)) (bN cn O O (nS ?_)))))));refine bp O ?_ ?_<;>intro c<;>try simp only[qa]at c
  ·omega
  refine dg (dq (dc ?_));exact wP (b7 a5 z) O
 |succ m ih=>
  intro a1 a0 a4 a5 b3 a6 a2 z;rw[jv]at z;refine bv (am (sR (mV O (mV O (af (cp O (ca r0 Tryz.underlying32 _)) (bN cn O O (nS ?_)))))));refine bp O ?_ ?_<;>intro c<;>try simp only[qa]at c
  rotate_left
  ·omega
  refine ax (ap (am (bf (sR (mV O (mV O ?_))))));obtain⟨b9,a8,a9⟩:=de (i:=a0) r0 V V;refine af (bd O O a8) (fL O (ah.g_Op a9) O O (bN dt O O (nS ?_)));refine cd z O ?_ ?_<;>clear z<;>intro c z<;>try simp only[qa]at c
  ·refine av (mV O (mV O (mV O ?_)));obtain⟨b8,b2,b1⟩:=de (i:=a0) r0 V V;refine af (bd O O b2) (fL O (ah.g_N b1) O O ?_);obtain⟨b5,a3,z⟩:=br z;obtain⟨b6,b0,a7⟩:=vc (x1:=(ix x0 a0).N) a5 V;rw[a3]at a7;have b4:=AddInt_len a3;refine cL b0 O O (aj (TR.clo (tSl tI) a5) (aj O bh)) (mV O (bn (cy (ap (av (mV O (bN dp O O (mV O ?_))))))));refine bn (cv ?_);have s:=da r0;have o:wr (a0+1)=a0+1:=dj V V;erw[o];exact wC (ih a7 V V V z) O
  ·refine ax (cy (ap (av (mV O (bN dp O O (mV O (bn (cv ?_))))))));have s:=da r0;have o:wr (a0+1)=a0+1:=dj V V;erw[o];exact wC (ih a5 V V V z) O
theorem cd6{x0:List ah}{v0:PV}(r0:(tSl ah.t).R x0 v0)(hb:x0.length<=1000):∃r,FnR Tryz.prog 72 [v0] r/\(tSl tI).R (mh x0) r:=by
 refine fnT (R:=RF72) dp8 O λres z=>?_;unfold mh at z;refine sR (af (v:=nilS) (ay O) (nR (af (v:=nilS) (ay O) (nS (am (sR (mI O (nS ?_))))))));refine bf ?_;refine wC (xc r0 hb ?_ ft O V OZ z) O
 ·intro a1 a2 a0 z;refine dy (ap (sR (mV O (mV O (nS ?_)))));exact rR z O (TR.clo (tSl tI) a0) a0
def RF111(res:aq)(r:PV):Prop:=aq.t.R res r
theorem xf{S:List Fr}{res:aq}{x0:aq}{x1:List ah}{a4:(List aa)}{c3:(List Int)}{c6 c7:PV}{a9 a6 a7 a5:Nat}(hb:x1.length<=1000/\x0.Fields.length<=50000/\x0.Headers.length<=50000)(d7:nq x1=a4)(b1:(tSl aa.t).R a4 c6)(d9:a4.length<=x1.length)(d6:mh x1=c3)(e1:c3.length<=x1.length){K0:aq->aq}
 (e3:∀{zE102:aq}{a0:PV}(a1:aq.t.R zE102 a0)(e5:zE102.Headers.length<=50000){h:Heap}(M0:Mem h [⟨.op a7 a5 0,162,3,[.agg [nilS,nilS,nilS]]⟩,⟨.op a9 a6 0,162,3,[a0]⟩]),K0 zE102=res->PX Tryz.prog 0 S (QR Tryz.prog [(4,some (3,true))] (RF111 res)) [(2,.op a9 a6 0),(4,.op a7 a5 0),(6,c7)] h):
 ∀{m:Nat}{a8:Int}{zE102:aq}{a0:PV}(a1:aq.t.R zE102 a0)(d8:m=Int.toNat ((a4.length:Int)-a8))(c4:0<=a8)(b5:(zE102.Fields.length:Int)<=(x0.Fields.length:Int)+a8)(b6:(zE102.Headers.length:Int)<=(x0.Headers.length:Int))(b7:a8<=(a4.length:Int)){h:Heap}(M0:Mem h [⟨.op a7 a5 0,162,3,[.agg [nilS,nilS,nilS]]⟩,⟨.op a9 a6 0,162,3,[a0]⟩]),kw a4 K0 m a8 zE102=res->RC Tryz.prog (.loop bw4) S (QR Tryz.prog [(4,some (3,true))] (RF111 res)) [(7,vi a8),(6,c7),(5,c6),(4,.op a7 a5 0),(2,.op a9 a6 0)] h:=by
 have hb':=hb;try simp only[qa]at hb'
 intro m;induction m with
 |zero=>
  intro a8 zE102 a0 a1 d8 c4 b5 b6 b7 h M0 z;rw[kw]at z;refine bv (am (sR (mV O (mV O (af (cp O (ca b1 Tryz.underlying75 _)) (bN cn O O (nS ?_)))))));refine bp O ?_ ?_<;>intro c<;>try simp only[qa]at c
  ·omega
  refine dg (dq (dc ?_));exact wP (e3 a1 V (Mem.sub M0 (.cons_cons _ (.cons_cons _ .slnil))) z) O
 |succ m ih=>
  intro a8 zE102 a0 a1 d8 c4 b5 b6 b7 h M0 z;rw[kw]at z;refine bv (am (sR (mV O (mV O (af (cp O (ca b1 Tryz.underlying75 _)) (bN cn O O (nS ?_)))))));refine bp O ?_ ?_<;>intro c<;>try simp only[qa]at c
  rotate_left
  ·omega
  refine ax (ap (am (bf (av (af (bg O) ?_)))));obtain⟨e4,d5,c5⟩:=aq.g_Fields a1;refine af (cg (k:=1) M0 O O d5) (mV O (mV O ?_));obtain⟨e2,d1,c2⟩:=de (i:=a8) b1 V V;refine af (bd O O d1) (lD c2 O O O ?_);obtain⟨d3,b8,z⟩:=br z;obtain⟨b2,d2,b3⟩:=ai3 c5 c2 V;rw[b8]at b3;have e0:=AddField_len b8;refine cL d2 O O (aj (TR.clo (tSl aa.t) c5) (aj (TR.clo aa.t c2) bh)) (af (bg O) ?_);obtain⟨c9,a3,a2,d0,c8,b4,b0⟩:=a1;subst d0;refine jh (k:=1) (v:=b2) M0 O O O (pf (TR.cnt (tSl aa.t) b3) (TR.agg (tSl aa.t) b3)) O (by((simp only[List.length_cons,List.length_nil];omega))) (λd4 b9=>?_);replace b9:Mem d4 [⟨.op a7 a5 0,162,3,[.agg [nilS,nilS,nilS]]⟩,⟨.op a9 a6 0,162,3,[.agg [b2,a3,a2]]⟩]:=b9;refine bn (cy (ap (av (mV O (bN dp O O (mV O (bn (cv ?_))))))));have s:=da b1;have o:wr (a8+1)=a8+1:=dj V V;erw[o];exact wC (ih (show aq.t.R ({Fields:=d3,Headers:=zE102.Headers,Registers:=zE102.Registers}:aq) (.agg [b2,a3,a2]) from⟨b2,a3,a2,O,b3,b4,b0⟩) V V (by(((try dsimp only);(try simp only[List.length_append,List.length_cons,List.length_nil]);omega))) V V (Mem.sub b9 (.cons_cons _ (.cons_cons _ .slnil))) z) O
theorem xi{S:List Fr}{res:aq}{x0:aq}{x1:List ah}{c3:(List aa)}{a4:(List Int)}{a5:aq}{c5:PV}{b0 a8 a9 a7:Nat}(hb:x1.length<=1000/\x0.Fields.length<=50000/\x0.Headers.length<=50000)(d6:nq x1=c3)(d8:c3.length<=x1.length)(d4:mh x1=a4)(b2:(tSl tI).R a4 c5)(d9:a4.length<=x1.length)(c8:a5.Headers.length<=50000){K2:aq->aq}
 (e0:∀{zE102:aq}{a0:PV}(a1:aq.t.R zE102 a0){h:Heap}(M0:Mem h [⟨.op a9 a7 0,162,3,[.agg [nilS,nilS,nilS]]⟩,⟨.op b0 a8 0,162,3,[a0]⟩]),K2 zE102=res->PX Tryz.prog 2 S (QR Tryz.prog [(4,some (3,true))] (RF111 res)) [(2,.op b0 a8 0),(4,.op a9 a7 0)] h):
 ∀{m:Nat}{a6:Int}{zE102:aq}{a0:PV}(a1:aq.t.R zE102 a0)(d5:m=Int.toNat ((a4.length:Int)-a6))(c2:0<=a6)(b8:(zE102.Headers.length:Int)<=50000+a6)(b6:a6<=(a4.length:Int)){h:Heap}(M0:Mem h [⟨.op a9 a7 0,162,3,[.agg [nilS,nilS,nilS]]⟩,⟨.op b0 a8 0,162,3,[a0]⟩]),kv a4 K2 m a6 zE102=res->RC Tryz.prog (.loop by0) S (QR Tryz.prog [(4,some (3,true))] (RF111 res)) [(8,vi a6),(6,c5),(4,.op a9 a7 0),(2,.op b0 a8 0)] h:=by
 have hb':=hb;try simp only[qa]at hb'
 intro m;induction m with
 |zero=>
  intro a6 zE102 a0 a1 d5 c2 b8 b6 h M0 z;rw[kv]at z;refine bv (am (sR (mV O (mV O (af (cp O (ca b2 Tryz.underlying29 _)) (bN cn O O (nS ?_)))))));refine bp O ?_ ?_<;>intro c<;>try simp only[qa]at c
  ·omega
  refine dg (dq (dc ?_));exact wP (e0 a1 (Mem.sub M0 (.cons_cons _ (.cons_cons _ .slnil))) z) O
 |succ m ih=>
  intro a6 zE102 a0 a1 d5 c2 b8 b6 h M0 z;rw[kv]at z;refine bv (am (sR (mV O (mV O (af (cp O (ca b2 Tryz.underlying29 _)) (bN cn O O (nS ?_)))))));refine bp O ?_ ?_<;>intro c<;>try simp only[qa]at c
  rotate_left
  ·omega
  refine ax (ap (am (bf (av (af (bg O) ?_)))));obtain⟨e1,d2,c4⟩:=aq.g_Headers a1;refine af (cg (k:=1) M0 O O d2) (mV O (mV O (af (bd O O (slI b2 V V)) (lR O O O ?_))));obtain⟨c9,b7,z⟩:=br z;obtain⟨b5,d3,b3⟩:=vc (x1:=(ix a4 a6)) c4 V;rw[b7]at b3;have d7:=AddInt_len b7;refine cL d3 O O (aj (TR.clo (tSl tI) c4) (aj O bh)) (af (bg O) ?_);obtain⟨a3,c6,a2,d1,b1,c7,b4⟩:=a1;subst d1;refine jh (k:=1) (v:=b5) M0 O O O (pf (TR.cnt (tSl tI) b3) (TR.agg (tSl tI) b3)) O (by((simp only[List.length_cons,List.length_nil];omega))) (λd0 b9=>?_);replace b9:Mem d0 [⟨.op a9 a7 0,162,3,[.agg [nilS,nilS,nilS]]⟩,⟨.op b0 a8 0,162,3,[.agg [a3,b5,a2]]⟩]:=b9;refine bn (cy (ap (av (mV O (bN dp O O (mV O (bn (cv ?_))))))));have s:=da b2;have o:wr (a6+1)=a6+1:=dj V V;erw[o];exact wC (ih (show aq.t.R ({Fields:=zE102.Fields,Headers:=c9,Registers:=zE102.Registers}:aq) (.agg [a3,b5,a2]) from⟨a3,b5,a2,O,b1,b3,b4⟩) V V (by(((try dsimp only);(try simp only[List.length_append,List.length_cons,List.length_nil]);omega))) V (Mem.sub b9 (.cons_cons _ (.cons_cons _ .slnil))) z) O
theorem bi7{x0:aq}{x1:List ah}{v0 v1:PV}(r0:aq.t.R x0 v0)(r1:(tSl ah.t).R x1 v1)(hb:x1.length<=1000/\x0.Fields.length<=50000/\x0.Headers.length<=50000):∃r,FnR Tryz.prog 111 [v0,v1] r/\aq.t.R (nw x0 x1) r:=by
 refine fnT (R:=RF111) cm0 O λres z=>?_;unfold nw at z;refine sR ?_;refine au5 (x:=v0) (Mem.nil ⟨0,[]⟩) O (TR.cnt aq.t r0) (λc8 c4 d3 c2=>?_);refine fa (x:= .agg [nilS,nilS,nilS]) c2 O O (λc6 c3 c9 c5=>?_);refine nR (mV O ?_);obtain⟨b9,a3,z⟩:=br z;obtain⟨d4,c7,b1⟩:=cb2 r1 V;rw[a3]at b1;have a7:b9.length<=x1.length:=af9 a3;refine cL c7 O O (aj (TR.clo (tSl ah.t) r1) bh) (mV O ?_);obtain⟨b8,a2,z⟩:=br z;obtain⟨d5,b5,b3⟩:=cd6 r1 V;rw[a2]at b3;have a6:b8.length<=x1.length:=zx a2;refine cL b5 O O (aj (TR.clo (tSl ah.t) r1) bh) (mV O (mV O (nS (am (sR (mI O (nS (bf ?_))))))));have d2:aq.t.R ({Fields:=([]:List aa),Headers:=([]:List Int),Registers:=([]:List Int)}:aq) (.agg [nilS,nilS,nilS]):=⟨nilS,nilS,nilS,O,ft,ft,ft⟩;refine wC (xf hb a3 b1 a7 a2 a6 ?_ r0 O V V V V (Mem.sub c5 (.cons_cons _ (.cons_cons _ .slnil))) z) O
 ·intro a9 b4 a4 a5 d1 b6 z;refine dy (ap (am (sR (mI O (nS (bf ?_))))));refine wC (xi hb a3 a7 a2 b3 a6 a5 ?_ a4 O V V V (Mem.sub b6 (.cons_cons _ (.cons_cons _ .slnil))) z) O
  ·intro b0 a1 a0 d0 b2 z;refine dy (ap (sR (af (pw (k:=1) b2 O O (TR.agg aq.t a0)) ?_)));refine ek (k:=0) (v:=a1) b2 O O O (TR.cnt aq.t a0) (λb7 a8=>?_);replace a8:Mem b7 [⟨.op c6 c3 0,162,3,[a1]⟩,⟨.op c8 c4 0,162,3,[a1]⟩]:=a8;refine nS ?_;subst z;exact gi (.cell O (pt (k:=0) a8 O (TR.agg aq.t a0)) .nil) (eh (TR.clo aq.t a0)) a0
end Go.Proofs.YtmonnlkagniolaaGreat
