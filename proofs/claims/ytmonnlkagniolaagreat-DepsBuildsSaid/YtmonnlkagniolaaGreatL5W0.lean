/-
 The code of each function does what its plain program says.
-/
import Derived.Test.YtmonnlkagniolaaGreatKDef
import Derived.Test.YtmonnlkagniolaaGreatL5Text
import Derived.Test.YtmonnlkagniolaaGreatPbV
import Derived.Test.YtmonnlkagniolaaGreatKFcFrBdDb
import Derived.Test.YtmonnlkagniolaaGreatKSimCellsGaAuDl
import Derived.Test.YtmonnlkagniolaaGreatKSimCellsGaAuDl
import Derived.Test.YtmonnlkagniolaaGreatKCkFe
import Derived.Test.YtmonnlkagniolaaGreatKCkFe
import Derived.Test.YtmonnlkagniolaaGreatKExAEx
import Derived.Test.YtmonnlkagniolaaGreatKFcFrBdDb
import Derived.Test.YtmonnlkagniolaaGreatKFcFrBdDb
import Derived.Test.YtmonnlkagniolaaGreatKCoFo
import Derived.Test.YtmonnlkagniolaaGreatKLy
import Derived.Test.YtmonnlkagniolaaGreatKCoFo
import Derived.Test.YtmonnlkagniolaaGreatL5Run
set_option linter.all false
set_option maxRecDepth 100000
namespace Go.Proofs.YtmonnlkagniolaaGreat
open Go Go.Pb Go.RowKit
def RF94(res:Bool)(r:PV):Prop:=r=vb res
theorem zc{S:List Fr}{res:Bool}{x0:List az}{v0:PV}(r0:(tSl az.t).R x0 v0)(a3:(decide (16 < (x0.length:Int)))=false){K0:Unit->Bool}
 (a8:K0 ()=res->PX Tryz.prog 0 S (QR Tryz.prog [(2,none)] (RF94 res)) [] ⟨0,[]⟩):
 ∀{m:Nat}{a0:Int}(a6:m=Int.toNat ((x0.length:Int)-a0))(a2:0<=a0),qb x0 K0 m a0=res->RC Tryz.prog (.loop cj2) S (QR Tryz.prog [(2,none)] (RF94 res)) [(3,vi a0),(0,v0)] ⟨0,[]⟩:=by
 have a1:=a3;try simp only[qa]at a1
 intro m;induction m with
 |zero=>
  intro a0 a6 a2 z;rw[qb]at z;refine bv (am (sR (mV O (mV O (af (cp O (ca r0 Tryz.underlying23 _)) (bN cn O O (nS ?_)))))));refine bp O ?_ ?_<;>intro c<;>try simp only[qa]at c
  ·omega
  refine dg (dq (dc ?_));exact wP (a8 z) O
 |succ m ih=>
  intro a0 a6 a2 z;rw[qb]at z;refine bv (am (sR (mV O (mV O (af (cp O (ca r0 Tryz.underlying23 _)) (bN cn O O (nS ?_)))))));refine bp O ?_ ?_<;>intro c<;>try simp only[qa]at c
  rotate_left
  ·omega
  refine ax (ap (am (bf (sR (mV O (mV O ?_))))));obtain⟨a7,a5,a4⟩:=de (i:=a0) r0 V V;refine af (bd O O a5) (fL O (az.g_Name a4) O O (af (cp O (pn Tryz.underlying9)) (bN jr O O (nS ?_))));refine cd z O ?_ ?_<;>clear z<;>intro c z<;>try simp only[qa]at c
  ·refine sR (mB O (nS ?_));exact rR z O O O
  ·refine ax (cy (ap (av (mV O (bN dp O O (mV O (bn (cv ?_))))))));have s:=da r0;have o:wr (a0+1)=a0+1:=dj V V;erw[o];exact wC (ih V V z) O
theorem bf1{x0:List az}{v0:PV}(r0:(tSl az.t).R x0 v0):FnR Tryz.prog 94 [v0] (vb (dz x0)):=by
 refine fnS (R:=RF94) ds2 (λ_ h=>h) O λres z=>?_;unfold dz at z;refine sR (mB O (nS (am (sR (mV O (af (cp O (ca r0 Tryz.underlying23 _)) (bN jr O O (nS ?_))))))));refine cd z O ?_ ?_<;>clear z<;>intro a0 z<;>have a1:=a0<;>try simp only[qa]at a1
 ·refine sR (mB O (nS ?_));exact rR z O O O
 ·refine ax (ap (am (sR (mI O (nS (bf ?_))))));refine wC (zc r0 a0 ?_ O V z) O
  ·intro z;refine dy (ap (sR (mB O (nS ?_))));exact rR z O O O
def RF95(res:Bool)(r:PV):Prop:=r=vb res
theorem ad9{S:List Fr}{res:Bool}{x0:bm}{v0:PV}(r0:bm.t.R x0 v0)(a7:(((decide (40 < (x0.Name.length:Int)))||(!(dz x0.Params)))||(decide (16 < (x0.Body.length:Int))))=false){K0:Unit->Bool}
 (c7:K0 ()=res->PX Tryz.prog 0 S (QR Tryz.prog [(2,none)] (RF95 res)) [] ⟨0,[]⟩):
 ∀{m:Nat}{a0:Int}(b8:m=Int.toNat ((x0.Body.length:Int)-a0))(a5:0<=a0),qu x0 K0 m a0=res->RC Tryz.prog (.loop cp0) S (QR Tryz.prog [(2,none)] (RF95 res)) [(3,vi a0),(1,.fp v0)] ⟨0,[]⟩:=by
 have a4:=a7;try simp only[qa]at a4
 intro m;induction m with
 |zero=>
  intro a0 b8 a5 z;rw[qu]at z;refine bv (am (sR (mV O (gL (bm.g_Body r0) O O O λc5 b2=>(af (cp O (ca b2 Tryz.underlying95 _)) (bN cn O O (nS ?_)))))));refine bp O ?_ ?_<;>intro c<;>try simp only[qa]at c
  ·omega
  refine dg (dq (dc ?_));exact wP (c7 z) O
 |succ m ih=>
  intro a0 b8 a5 z;rw[qu]at z;refine bv (am (sR (mV O (gL (bm.g_Body r0) O O O λc2 a8=>(af (cp O (ca a8 Tryz.underlying95 _)) (bN cn O O (nS ?_)))))));refine bp O ?_ ?_<;>intro c<;>try simp only[qa]at c
  rotate_left
  ·omega
  refine ax (ap (am (bf (sR (gL (bm.g_Body r0) O O O λc3 b0=>(mV O ?_))))));obtain⟨c8,b6,b3⟩:=de (i:=a0) b0 V V;refine af (bd O O b6) (gL (au.g_Index b3) O O O λb9 b7=>(af (cp O (ca b7 Tryz.underlying32 _)) (bN jr O O (mV O ?_))));refine cm 9 (d:=44) (v:=vb ((decide (40 < (((ix x0.Body a0).Index).length:Int)))||(decide (40 < (((ix x0.Body a0).Value).length:Int))))) ?_ ?_
  ·intro S Q r;cases a6:(decide (40 < (((ix x0.Body a0).Index).length:Int)))
   ·intro k;have a1:=a6;try simp only[qa]at a1
    obtain⟨c6,b1,a3⟩:=bm.g_Body r0;refine ai O O (co O b1) (ai O O (ck O (TR.cnt (tSl au.t) a3) (TR.agg (tSl au.t) a3)) (ai O O (ay O) ?_));obtain⟨c9,b5,b4⟩:=de (i:=a0) a3 V V;refine ai O O (bd O O b5) ?_;obtain⟨c4,a9,a2⟩:=au.g_Value b4;refine ai O O (co O a9) (ai O O (ck O (TR.cnt (tSl ah.t) a2) (TR.agg (tSl ah.t) a2)) (ai O O (cp O (ca a2 Tryz.underlying32 _)) (ai O O (ct O O jr) ?_)));exact gK O O O O O k
   ·exact gN 8 O O O O O O
  refine nS ?_;refine cd z O ?_ ?_<;>clear z<;>intro c z<;>try simp only[qa]at c
  ·refine sR (mB O (nS ?_));exact rR z O O O
  ·refine ax (cy (ap (av (mV O (bN dp O O (mV O (bn (cv ?_))))))));have s:=da a8;have o:wr (a0+1)=a0+1:=dj V V;erw[o];exact wC (ih V V z) O
theorem dk0{x0:bm}{v0:PV}(r0:bm.t.R x0 v0):FnR Tryz.prog 95 [v0] (vb (yw x0)):=by
 refine fnS (R:=RF95) dh0 (λ_ h=>h) O λres z=>?_;unfold yw at z;refine sR (af (dw O (TR.cnt bm.t r0)) (mB O (nS (am (sR (fL O (bm.g_Name r0) O O (af (cp O (pn Tryz.underlying9)) (bN jr O O ?_))))))));refine mV O ?_;refine cm 5 (d:=13) (v:=vb ((decide (40 < (x0.Name.length:Int)))||(!(dz x0.Params)))) ?_ ?_
 ·intro S Q r;cases a7:(decide (40 < (x0.Name.length:Int)))
  ·intro k;have a5:=a7;try simp only[qa]at a5
   obtain⟨b1,a9,a0⟩:=bm.g_Params r0;refine ai O O (co O a9) (ai O O (ck O (TR.cnt (tSl az.t) a0) (TR.agg (tSl az.t) a0)) ?_);have a8:=bf1 a0;refine lf O O (rl O O (aj (TR.clo (tSl az.t) a0) bh) a8) (ai O O (ju O) ?_);exact gK O O O O O k
  ·exact gN 4 O O O O O O
 refine mV O ?_;refine cm 5 (d:=19) (v:=vb (((decide (40 < (x0.Name.length:Int)))||(!(dz x0.Params)))||(decide (16 < (x0.Body.length:Int))))) ?_ ?_
 ·intro S Q r;cases a6:((decide (40 < (x0.Name.length:Int)))||(!(dz x0.Params)))
  ·intro k;have a2:=a6;try simp only[qa]at a2
   obtain⟨b2,b0,a4⟩:=bm.g_Body r0;refine ai O O (co O b0) (ai O O (ck O (TR.cnt (tSl au.t) a4) (TR.agg (tSl au.t) a4)) (ai O O (cp O (ca a4 Tryz.underlying95 _)) (ai O O (ct O O jr) ?_)));exact gK O O O O O k
  ·exact gN 4 O O O O O O
 refine nS ?_;refine cd z O ?_ ?_<;>clear z<;>intro a1 z<;>have a3:=a1<;>try simp only[qa]at a3
 ·refine sR (mB O (nS ?_));exact rR z O O O
 ·refine ax (ap (am (sR (mI O (nS (bf ?_))))));refine wC (ad9 r0 a1 ?_ O V z) O
  ·intro z;refine dy (ap (sR (mB O (nS ?_))));exact rR z O O O
def RF27(res:Bool)(r:PV):Prop:=r=vb res
theorem zy{S:List Fr}{res:Bool}{x0:ae}{v0:PV}(r0:ae.t.R x0 v0)(a7:((((((((decide (40 < (x0.Name.length:Int)))||(decide (12 < (x0.Headers.length:Int))))||(!(dz x0.Metadata)))||(decide (8 < (x0.Registers.length:Int))))||(decide (20 < (x0.Actions.length:Int))))||(decide (16 < (x0.Tables.length:Int))))||(decide (16 < (x0.States.length:Int))))||(decide (16 < (x0.Deparser.length:Int))))=false){K0:Unit->Bool}
 (c5:K0 ()=res->PX Tryz.prog 0 S (QR Tryz.prog [(2,none)] (RF27 res)) [(1,.fp v0)] ⟨0,[]⟩):
 ∀{m:Nat}{a0:Int}(b8:m=Int.toNat ((x0.Headers.length:Int)-a0))(a6:0<=a0),mw x0 K0 m a0=res->RC Tryz.prog (.loop cp3) S (QR Tryz.prog [(2,none)] (RF27 res)) [(3,vi a0),(1,.fp v0)] ⟨0,[]⟩:=by
 have a3:=a7;try simp only[qa]at a3
 intro m;induction m with
 |zero=>
  intro a0 b8 a6 z;rw[mw]at z;refine bv (am (sR (mV O (gL (ae.g_Headers r0) O O O λc3 b0=>(af (cp O (ca b0 Tryz.underlying22 _)) (bN cn O O (nS ?_)))))));refine bp O ?_ ?_<;>intro c<;>try simp only[qa]at c
  ·omega
  refine dg (dq (dc ?_));exact wP (c5 z) O
 |succ m ih=>
  intro a0 b8 a6 z;rw[mw]at z;refine bv (am (sR (mV O (gL (ae.g_Headers r0) O O O λc4 a8=>(af (cp O (ca a8 Tryz.underlying22 _)) (bN cn O O (nS ?_)))))));refine bp O ?_ ?_<;>intro c<;>try simp only[qa]at c
  rotate_left
  ·omega
  refine ax (ap (am (bf (sR (gL (ae.g_Headers r0) O O O λc7 b3=>(mV O ?_))))));obtain⟨c8,a9,b2⟩:=de (i:=a0) b3 V V;refine af (bd O O a9) (fL O (bz.g_Name b2) O O (af (cp O (pn Tryz.underlying9)) (bN jr O O (mV O ?_))));refine cm 9 (d:=79) (v:=vb ((decide (40 < (((ix x0.Headers a0).Name).length:Int)))||(!(dz ((ix x0.Headers a0).Fields))))) ?_ ?_
  ·intro S Q r;cases a5:(decide (40 < (((ix x0.Headers a0).Name).length:Int)))
   ·intro k;have a4:=a5;try simp only[qa]at a4
    obtain⟨b9,b1,a2⟩:=ae.g_Headers r0;refine ai O O (co O b1) (ai O O (ck O (TR.cnt (tSl bz.t) a2) (TR.agg (tSl bz.t) a2)) (ai O O (ay O) ?_));obtain⟨c6,b5,b7⟩:=de (i:=a0) a2 V V;refine ai O O (bd O O b5) ?_;obtain⟨c2,b4,a1⟩:=bz.g_Fields b7;refine ai O O (co O b4) (ai O O (ck O (TR.cnt (tSl az.t) a1) (TR.agg (tSl az.t) a1)) ?_);have b6:=bf1 a1;refine lf O O (rl O O (aj (TR.clo (tSl az.t) a1) bh) b6) (ai O O (ju O) ?_);exact gK O O O O O k
   ·exact gN 8 O O O O O O
  refine nS ?_;refine cd z O ?_ ?_<;>clear z<;>intro c z<;>try simp only[qa]at c
  ·refine sR (mB O (nS ?_));exact rR z O O O
  ·refine ax (cy (ap (av (mV O (bN dp O O (mV O (bn (cv ?_))))))));have s:=da a8;have o:wr (a0+1)=a0+1:=dj V V;erw[o];exact wC (ih V V z) O
theorem zk{S:List Fr}{res:Bool}{x0:ae}{v0:PV}(r0:ae.t.R x0 v0)(a4:((((((((decide (40 < (x0.Name.length:Int)))||(decide (12 < (x0.Headers.length:Int))))||(!(dz x0.Metadata)))||(decide (8 < (x0.Registers.length:Int))))||(decide (20 < (x0.Actions.length:Int))))||(decide (16 < (x0.Tables.length:Int))))||(decide (16 < (x0.States.length:Int))))||(decide (16 < (x0.Deparser.length:Int))))=false){K2:Unit->Bool}
 (b3:K2 ()=res->PX Tryz.prog 2 S (QR Tryz.prog [(2,none)] (RF27 res)) [(1,.fp v0)] ⟨0,[]⟩):
 ∀{m:Nat}{a0:Int}(a9:m=Int.toNat ((x0.Registers.length:Int)-a0))(a2:0<=a0),my x0 K2 m a0=res->RC Tryz.prog (.loop cp1) S (QR Tryz.prog [(2,none)] (RF27 res)) [(4,vi a0),(1,.fp v0)] ⟨0,[]⟩:=by
 have a1:=a4;try simp only[qa]at a1
 intro m;induction m with
 |zero=>
  intro a0 a9 a2 z;rw[my]at z;refine bv (am (sR (mV O (gL (ae.g_Registers r0) O O O λb2 a7=>(af (cp O (ca a7 Tryz.underlying24 _)) (bN cn O O (nS ?_)))))));refine bp O ?_ ?_<;>intro c<;>try simp only[qa]at c
  ·omega
  refine dg (dq (dc ?_));exact wP (b3 z) O
 |succ m ih=>
  intro a0 a9 a2 z;rw[my]at z;refine bv (am (sR (mV O (gL (ae.g_Registers r0) O O O λb1 a3=>(af (cp O (ca a3 Tryz.underlying24 _)) (bN cn O O (nS ?_)))))));refine bp O ?_ ?_<;>intro c<;>try simp only[qa]at c
  rotate_left
  ·omega
  refine ax (ap (am (bf (sR (gL (ae.g_Registers r0) O O O λb4 a6=>(mV O ?_))))));obtain⟨b0,a5,a8⟩:=de (i:=a0) a6 V V;refine af (bd O O a5) (fL O (cq.g_Name a8) O O (af (cp O (pn Tryz.underlying9)) (bN jr O O (nS ?_))));refine cd z O ?_ ?_<;>clear z<;>intro c z<;>try simp only[qa]at c
  ·refine sR (mB O (nS ?_));exact rR z O O O
  ·refine ax (cy (ap (av (mV O (bN dp O O (mV O (bn (cv ?_))))))));have s:=da a3;have o:wr (a0+1)=a0+1:=dj V V;erw[o];exact wC (ih V V z) O
theorem ab8{S:List Fr}{res:Bool}{x0:ae}{v0:PV}(r0:ae.t.R x0 v0)(a5:((((((((decide (40 < (x0.Name.length:Int)))||(decide (12 < (x0.Headers.length:Int))))||(!(dz x0.Metadata)))||(decide (8 < (x0.Registers.length:Int))))||(decide (20 < (x0.Actions.length:Int))))||(decide (16 < (x0.Tables.length:Int))))||(decide (16 < (x0.States.length:Int))))||(decide (16 < (x0.Deparser.length:Int))))=false){K4:Unit->Bool}
 (b6:K4 ()=res->PX Tryz.prog 4 S (QR Tryz.prog [(2,none)] (RF27 res)) [(1,.fp v0)] ⟨0,[]⟩):
 ∀{m:Nat}{a0:Int}(b1:m=Int.toNat ((x0.Actions.length:Int)-a0))(a6:0<=a0),mu x0 K4 m a0=res->RC Tryz.prog (.loop cn9) S (QR Tryz.prog [(2,none)] (RF27 res)) [(5,vi a0),(1,.fp v0)] ⟨0,[]⟩:=by
 have a2:=a5;try simp only[qa]at a2
 intro m;induction m with
 |zero=>
  intro a0 b1 a6 z;rw[mu]at z;refine bv (am (sR (mV O (gL (ae.g_Actions r0) O O O λb7 b0=>(af (cp O (ca b0 Tryz.underlying25 _)) (bN cn O O (nS ?_)))))));refine bp O ?_ ?_<;>intro c<;>try simp only[qa]at c
  ·omega
  refine dg (dq (dc ?_));exact wP (b6 z) O
 |succ m ih=>
  intro a0 b1 a6 z;rw[mu]at z;refine bv (am (sR (mV O (gL (ae.g_Actions r0) O O O λb5 a3=>(af (cp O (ca a3 Tryz.underlying25 _)) (bN cn O O (nS ?_)))))));refine bp O ?_ ?_<;>intro c<;>try simp only[qa]at c
  rotate_left
  ·omega
  refine ax (ap (am (bf (sR (gL (ae.g_Actions r0) O O O λb3 a9=>(mV O ?_))))));obtain⟨b4,a8,a1⟩:=de (i:=a0) a9 V V;refine af (bd O O a8) (lD a1 O O O ?_);obtain⟨b2,a7,z⟩:=br z;have a4:=dk0 a1;rw[a7]at a4;refine cL a4 O O (aj (TR.clo bm.t a1) bh) (af (ju O) (nS ?_));refine cd z O ?_ ?_<;>clear z<;>intro c z<;>try simp only[qa]at c
  ·refine sR (mB O (nS ?_));exact rR z O O O
  ·refine ax (cy (ap (av (mV O (bN dp O O (mV O (bn (cv ?_))))))));have s:=da a3;have o:wr (a0+1)=a0+1:=dj V V;erw[o];exact wC (ih V V z) O
theorem ac0{S:List Fr}{res:Bool}{x0:ae}{v0:PV}(r0:ae.t.R x0 v0)(b0:((((((((decide (40 < (x0.Name.length:Int)))||(decide (12 < (x0.Headers.length:Int))))||(!(dz x0.Metadata)))||(decide (8 < (x0.Registers.length:Int))))||(decide (20 < (x0.Actions.length:Int))))||(decide (16 < (x0.Tables.length:Int))))||(decide (16 < (x0.States.length:Int))))||(decide (16 < (x0.Deparser.length:Int))))=false){K6:Unit->Bool}
 (d4:∀{h:Heap}(M0:Mem h []),K6 ()=res->PX Tryz.prog 6 S (QR Tryz.prog [(2,none)] (RF27 res)) [(1,.fp v0)] h):
 ∀{m:Nat}{a0:Int}(d1:m=Int.toNat ((x0.Tables.length:Int)-a0))(b2:0<=a0){h:Heap}(M0:Mem h []),od x0 K6 m a0=res->RC Tryz.prog (.loop ct8) S (QR Tryz.prog [(2,none)] (RF27 res)) [(6,vi a0),(1,.fp v0)] h:=by
 have a4:=b0;try simp only[qa]at a4
 intro m;induction m with
 |zero=>
  intro a0 d1 b2 h M0 z;rw[od]at z;refine bv (am (sR (mV O (gL (ae.g_Tables r0) O O O λd5 c2=>(af (cp O (ca c2 Tryz.underlying26 _)) (bN cn O O (nS ?_)))))));refine bp O ?_ ?_<;>intro c<;>try simp only[qa]at c
  ·omega
  refine dg (dq (dc ?_));exact wP (d4 (Mem.sub M0 .slnil) z) O
 |succ m ih=>
  intro a0 d1 b2 h M0 z;rw[od]at z;refine bv (am (sR (mV O (gL (ae.g_Tables r0) O O O λd2 a7=>(af (cp O (ca a7 Tryz.underlying26 _)) (bN cn O O (nS ?_)))))));refine bp O ?_ ?_<;>intro c<;>try simp only[qa]at c
  rotate_left
  ·omega
  refine ax (ap (am (bf (sR (gL (ae.g_Tables r0) O O O λd9 b8=>(mV O ?_))))));obtain⟨a8,c7,a2⟩:=de (i:=a0) b8 V V;refine af (bd O O c7) (lD a2 O O O ?_);refine fa (x:= .agg [vs [],nilS,nilS,vi 0,nilS,vi 0]) M0 O O (λc8 c4 d6 c5=>?_);refine ek (k:=0) (v:=a8) c5 O O O (TR.cnt bw.t a2) (λb6 a1=>?_);replace a1:Mem b6 [⟨.op c8 c4 0,59,6,[a8]⟩]:=a1;refine nR (af (bg O) (af (cg (k:=0) a1 O O (bw.g_Name a2)) (af (cp O (pn Tryz.underlying9)) (bN jr O O (mV O ?_)))));refine cm 5 (d:=130) (v:=vb ((decide (40 < (((ix x0.Tables a0).Name).length:Int)))||(decide (10 < (((ix x0.Tables a0).Keys).length:Int))))) ?_ ?_
  ·intro S Q r;cases b3:(decide (40 < (((ix x0.Tables a0).Name).length:Int)))
   ·intro k;have a5:=b3;try simp only[qa]at a5
    refine ai O O (bg O) ?_;obtain⟨d3,c3,b7⟩:=bw.g_Keys a2;refine ai O O (cg (k:=0) a1 O O c3) (ai O O (cp O (ca b7 Tryz.underlying57 _)) (ai O O (ct O O jr) ?_));exact gK O O O O O k
   ·exact gN 4 O O O O O O
  refine mV O ?_;refine cm 5 (d:=136) (v:=vb (((decide (40 < (((ix x0.Tables a0).Name).length:Int)))||(decide (10 < (((ix x0.Tables a0).Keys).length:Int))))||(decide (24 < (((ix x0.Tables a0).Actions).length:Int))))) ?_ ?_
  ·intro S Q r;cases a9:((decide (40 < (((ix x0.Tables a0).Name).length:Int)))||(decide (10 < (((ix x0.Tables a0).Keys).length:Int))))
   ·intro k;have a3:=a9;try simp only[qa]at a3
    refine ai O O (bg O) ?_;obtain⟨d8,d0,c6⟩:=bw.g_Actions a2;refine ai O O (cg (k:=0) a1 O O d0) (ai O O (cp O (ca c6 Tryz.underlying29 _)) (ai O O (ct O O jr) ?_));exact gK O O O O O k
   ·exact gN 4 O O O O O O
  refine mV O ?_;refine cm 6 (d:=143) (v:=vb ((((decide (40 < (((ix x0.Tables a0).Name).length:Int)))||(decide (10 < (((ix x0.Tables a0).Keys).length:Int))))||(decide (24 < (((ix x0.Tables a0).Actions).length:Int))))||(decide (10 < ((((ix x0.Tables a0).Default).Args).length:Int))))) ?_ ?_
  ·intro S Q r;cases b1:(((decide (40 < (((ix x0.Tables a0).Name).length:Int)))||(decide (10 < (((ix x0.Tables a0).Keys).length:Int))))||(decide (24 < (((ix x0.Tables a0).Actions).length:Int))))
   ·intro k;have a6:=b1;try simp only[qa]at a6
    refine ai O O (bg O) (ai O O (bg O) ?_);obtain⟨d7,c9,b9⟩:=bw.g_Default a2;obtain⟨e0,b4,b5⟩:=ga.g_Args b9;refine ai O O (cg (k:=0) a1 O O (sb c9 b4)) (ai O O (cp O (ca b5 Tryz.underlying43 _)) (ai O O (ct O O jr) ?_));exact gK O O O O O k
   ·exact gN 5 O O O O O O
  refine nS ?_;refine cd z O ?_ ?_<;>clear z<;>intro c z<;>try simp only[qa]at c
  ·refine sR (mB O (nS ?_));exact rR z O O O
  ·refine ax (cy (ap (av (mV O (bN dp O O (mV O (bn (cv ?_))))))));have s:=da a7;have o:wr (a0+1)=a0+1:=dj V V;erw[o];exact wC (ih V V (Mem.sub a1 (.cons _ .slnil)) z) O
theorem zq{S:List Fr}{res:Bool}{x0:ae}{v0:PV}(r0:ae.t.R x0 v0)(b1:((((((((decide (40 < (x0.Name.length:Int)))||(decide (12 < (x0.Headers.length:Int))))||(!(dz x0.Metadata)))||(decide (8 < (x0.Registers.length:Int))))||(decide (20 < (x0.Actions.length:Int))))||(decide (16 < (x0.Tables.length:Int))))||(decide (16 < (x0.States.length:Int))))||(decide (16 < (x0.Deparser.length:Int))))=false){K8:Unit->Bool}
 (d6:∀{h:Heap}(M0:Mem h []),K8 ()=res->PX Tryz.prog 8 S (QR Tryz.prog [(2,none)] (RF27 res)) [] h):
 ∀{m:Nat}{a0:Int}(c7:m=Int.toNat ((x0.States.length:Int)-a0))(a9:0<=a0){h:Heap}(M0:Mem h []),qj x0 K8 m a0=res->RC Tryz.prog (.loop cw5) S (QR Tryz.prog [(2,none)] (RF27 res)) [(8,vi a0),(1,.fp v0)] h:=by
 have a3:=b1;try simp only[qa]at a3
 intro m;induction m with
 |zero=>
  intro a0 c7 a9 h M0 z;rw[qj]at z;refine bv (am (sR (mV O (gL (ae.g_States r0) O O O λd5 b4=>(af (cp O (ca b4 Tryz.underlying27 _)) (bN cn O O (nS ?_)))))));refine bp O ?_ ?_<;>intro c<;>try simp only[qa]at c
  ·omega
  refine dg (dq (dc ?_));exact wP (d6 (Mem.sub M0 .slnil) z) O
 |succ m ih=>
  intro a0 c7 a9 h M0 z;rw[qj]at z;refine bv (am (sR (mV O (gL (ae.g_States r0) O O O λd3 b2=>(af (cp O (ca b2 Tryz.underlying27 _)) (bN cn O O (nS ?_)))))));refine bp O ?_ ?_<;>intro c<;>try simp only[qa]at c
  rotate_left
  ·omega
  refine ax (ap (am (bf (sR (gL (ae.g_States r0) O O O λd2 c3=>(mV O ?_))))));obtain⟨d7,c2,b6⟩:=de (i:=a0) c3 V V;refine af (bd O O c2) (fL O (bt.g_Name b6) O O (af (cp O (pn Tryz.underlying9)) (bN jr O O (mV O ?_))));refine cm 9 (d:=168) (v:=vb ((decide (40 < (((ix x0.States a0).Name).length:Int)))||(decide (8 < (((ix x0.States a0).Extract).length:Int))))) ?_ ?_
  ·intro S Q r;cases a8:(decide (40 < (((ix x0.States a0).Name).length:Int)))
   ·intro k;have a2:=a8;try simp only[qa]at a2
    obtain⟨c8,b7,a5⟩:=ae.g_States r0;refine ai O O (co O b7) (ai O O (ck O (TR.cnt (tSl bt.t) a5) (TR.agg (tSl bt.t) a5)) (ai O O (ay O) ?_));obtain⟨d8,c4,c5⟩:=de (i:=a0) a5 V V;refine ai O O (bd O O c4) ?_;obtain⟨c9,b5,a7⟩:=bt.g_Extract c5;refine ai O O (co O b5) (ai O O (ck O (TR.cnt (tSl tI) a7) (TR.agg (tSl tI) a7)) (ai O O (cp O (ca a7 Tryz.underlying29 _)) (ai O O (ct O O jr) ?_)));exact gK O O O O O k
   ·exact gN 8 O O O O O O
  refine mV O ?_;refine cm 9 (d:=178) (v:=vb (((decide (40 < (((ix x0.States a0).Name).length:Int)))||(decide (8 < (((ix x0.States a0).Extract).length:Int))))||(decide (16 < (((ix x0.States a0).Cases).length:Int))))) ?_ ?_
  ·intro S Q r;cases b0:((decide (40 < (((ix x0.States a0).Name).length:Int)))||(decide (8 < (((ix x0.States a0).Extract).length:Int))))
   ·intro k;have a6:=b0;try simp only[qa]at a6
    obtain⟨d1,c6,a1⟩:=ae.g_States r0;refine ai O O (co O c6) (ai O O (ck O (TR.cnt (tSl bt.t) a1) (TR.agg (tSl bt.t) a1)) (ai O O (ay O) ?_));obtain⟨d4,b8,b3⟩:=de (i:=a0) a1 V V;refine ai O O (bd O O b8) ?_;obtain⟨d0,b9,a4⟩:=bt.g_Cases b3;refine ai O O (co O b9) (ai O O (ck O (TR.cnt (tSl fx.t) a4) (TR.agg (tSl fx.t) a4)) (ai O O (cp O (ca a4 Tryz.underlying108 _)) (ai O O (ct O O jr) ?_)));exact gK O O O O O k
   ·exact gN 8 O O O O O O
  refine nS ?_;refine cd z O ?_ ?_<;>clear z<;>intro c z<;>try simp only[qa]at c
  ·refine sR (mB O (nS ?_));exact rR z O O O
  ·refine ax (cy (ap (av (mV O (bN dp O O (mV O (bn (cv ?_))))))));have s:=da b2;have o:wr (a0+1)=a0+1:=dj V V;erw[o];exact wC (ih V V (Mem.sub M0 .slnil) z) O
theorem dk5{x0:ae}{v0:PV}(r0:ae.t.R x0 v0):FnR Tryz.prog 27 [v0] (vb (rg x0)):=by
 refine fnS (R:=RF27) dm8 (λ_ h=>h) O λres z=>?_;unfold rg at z;refine sR (af (dw O (TR.cnt ae.t r0)) (mB O (nS (am (sR (fL O (ae.g_Name r0) O O (af (cp O (pn Tryz.underlying9)) (bN jr O O ?_))))))));refine mV O ?_;refine cm 5 (d:=18) (v:=vb ((decide (40 < (x0.Name.length:Int)))||(decide (12 < (x0.Headers.length:Int))))) ?_ ?_
 ·intro S Q r;cases c3:(decide (40 < (x0.Name.length:Int)))
  ·intro k;have b4:=c3;try simp only[qa]at b4
   obtain⟨d5,d2,a3⟩:=ae.g_Headers r0;refine ai O O (co O d2) (ai O O (ck O (TR.cnt (tSl bz.t) a3) (TR.agg (tSl bz.t) a3)) (ai O O (cp O (ca a3 Tryz.underlying22 _)) (ai O O (ct O O jr) ?_)));exact gK O O O O O k
  ·exact gN 4 O O O O O O
 refine mV O ?_;refine cm 5 (d:=24) (v:=vb (((decide (40 < (x0.Name.length:Int)))||(decide (12 < (x0.Headers.length:Int))))||(!(dz x0.Metadata)))) ?_ ?_
 ·intro S Q r;cases b9:((decide (40 < (x0.Name.length:Int)))||(decide (12 < (x0.Headers.length:Int))))
  ·intro k;have a5:=b9;try simp only[qa]at a5
   obtain⟨d8,d1,a1⟩:=ae.g_Metadata r0;refine ai O O (co O d1) (ai O O (ck O (TR.cnt (tSl az.t) a1) (TR.agg (tSl az.t) a1)) ?_);have d3:=bf1 a1;refine lf O O (rl O O (aj (TR.clo (tSl az.t) a1) bh) d3) (ai O O (ju O) ?_);exact gK O O O O O k
  ·exact gN 4 O O O O O O
 refine mV O ?_;refine cm 5 (d:=30) (v:=vb ((((decide (40 < (x0.Name.length:Int)))||(decide (12 < (x0.Headers.length:Int))))||(!(dz x0.Metadata)))||(decide (8 < (x0.Registers.length:Int))))) ?_ ?_
 ·intro S Q r;cases b7:(((decide (40 < (x0.Name.length:Int)))||(decide (12 < (x0.Headers.length:Int))))||(!(dz x0.Metadata)))
  ·intro k;have b1:=b7;try simp only[qa]at b1
   obtain⟨e1,c8,a7⟩:=ae.g_Registers r0;refine ai O O (co O c8) (ai O O (ck O (TR.cnt (tSl cq.t) a7) (TR.agg (tSl cq.t) a7)) (ai O O (cp O (ca a7 Tryz.underlying24 _)) (ai O O (ct O O jr) ?_)));exact gK O O O O O k
  ·exact gN 4 O O O O O O
 refine mV O ?_;refine cm 5 (d:=36) (v:=vb (((((decide (40 < (x0.Name.length:Int)))||(decide (12 < (x0.Headers.length:Int))))||(!(dz x0.Metadata)))||(decide (8 < (x0.Registers.length:Int))))||(decide (20 < (x0.Actions.length:Int))))) ?_ ?_
 ·intro S Q r;cases b8:((((decide (40 < (x0.Name.length:Int)))||(decide (12 < (x0.Headers.length:Int))))||(!(dz x0.Metadata)))||(decide (8 < (x0.Registers.length:Int))))
  ·intro k;have a4:=b8;try simp only[qa]at a4
   obtain⟨d9,c5,b5⟩:=ae.g_Actions r0;refine ai O O (co O c5) (ai O O (ck O (TR.cnt (tSl bm.t) b5) (TR.agg (tSl bm.t) b5)) (ai O O (cp O (ca b5 Tryz.underlying25 _)) (ai O O (ct O O jr) ?_)));exact gK O O O O O k
  ·exact gN 4 O O O O O O
 refine mV O ?_;refine cm 5 (d:=42) (v:=vb ((((((decide (40 < (x0.Name.length:Int)))||(decide (12 < (x0.Headers.length:Int))))||(!(dz x0.Metadata)))||(decide (8 < (x0.Registers.length:Int))))||(decide (20 < (x0.Actions.length:Int))))||(decide (16 < (x0.Tables.length:Int))))) ?_ ?_
 ·intro S Q r;cases c4:(((((decide (40 < (x0.Name.length:Int)))||(decide (12 < (x0.Headers.length:Int))))||(!(dz x0.Metadata)))||(decide (8 < (x0.Registers.length:Int))))||(decide (20 < (x0.Actions.length:Int))))
  ·intro k;have a8:=c4;try simp only[qa]at a8
   obtain⟨e0,c7,a6⟩:=ae.g_Tables r0;refine ai O O (co O c7) (ai O O (ck O (TR.cnt (tSl bw.t) a6) (TR.agg (tSl bw.t) a6)) (ai O O (cp O (ca a6 Tryz.underlying26 _)) (ai O O (ct O O jr) ?_)));exact gK O O O O O k
  ·exact gN 4 O O O O O O
 refine mV O ?_;refine cm 5 (d:=48) (v:=vb (((((((decide (40 < (x0.Name.length:Int)))||(decide (12 < (x0.Headers.length:Int))))||(!(dz x0.Metadata)))||(decide (8 < (x0.Registers.length:Int))))||(decide (20 < (x0.Actions.length:Int))))||(decide (16 < (x0.Tables.length:Int))))||(decide (16 < (x0.States.length:Int))))) ?_ ?_
 ·intro S Q r;cases b6:((((((decide (40 < (x0.Name.length:Int)))||(decide (12 < (x0.Headers.length:Int))))||(!(dz x0.Metadata)))||(decide (8 < (x0.Registers.length:Int))))||(decide (20 < (x0.Actions.length:Int))))||(decide (16 < (x0.Tables.length:Int))))
  ·intro k;have b2:=b6;try simp only[qa]at b2
   obtain⟨d6,c9,b3⟩:=ae.g_States r0;refine ai O O (co O c9) (ai O O (ck O (TR.cnt (tSl bt.t) b3) (TR.agg (tSl bt.t) b3)) (ai O O (cp O (ca b3 Tryz.underlying27 _)) (ai O O (ct O O jr) ?_)));exact gK O O O O O k
  ·exact gN 4 O O O O O O
 refine mV O ?_;refine cm 5 (d:=54) (v:=vb ((((((((decide (40 < (x0.Name.length:Int)))||(decide (12 < (x0.Headers.length:Int))))||(!(dz x0.Metadata)))||(decide (8 < (x0.Registers.length:Int))))||(decide (20 < (x0.Actions.length:Int))))||(decide (16 < (x0.Tables.length:Int))))||(decide (16 < (x0.States.length:Int))))||(decide (16 < (x0.Deparser.length:Int))))) ?_ ?_
 ·intro S Q r;cases c2:(((((((decide (40 < (x0.Name.length:Int)))||(decide (12 < (x0.Headers.length:Int))))||(!(dz x0.Metadata)))||(decide (8 < (x0.Registers.length:Int))))||(decide (20 < (x0.Actions.length:Int))))||(decide (16 < (x0.Tables.length:Int))))||(decide (16 < (x0.States.length:Int))))
  ·intro k;have a2:=c2;try simp only[qa]at a2
   obtain⟨e2,d0,b0⟩:=ae.g_Deparser r0;refine ai O O (co O d0) (ai O O (ck O (TR.cnt (tSl tI) b0) (TR.agg (tSl tI) b0)) (ai O O (cp O (ca b0 Tryz.underlying29 _)) (ai O O (ct O O jr) ?_)));exact gK O O O O O k
  ·exact gN 4 O O O O O O
 refine nS ?_;refine cd z O ?_ ?_<;>clear z<;>intro a0 z<;>have a9:=a0<;>try simp only[qa]at a9
 ·refine sR (mB O (nS ?_));exact rR z O O O
 ·refine ax (ap (am (sR (mI O (nS (bf ?_))))));refine wC (zy r0 a0 ?_ O V z) O
  ·intro z;refine dy (ap (am (sR (mI O (nS (bf ?_))))));refine wC (zk r0 a0 ?_ O V z) O
   ·intro z;refine dy (ap (am (sR (mI O (nS (bf ?_))))));refine wC (ab8 r0 a0 ?_ O V z) O
    ·intro z;refine dy (ap (am (sR (mI O (nS (bf ?_))))));refine wC (ac0 r0 a0 ?_ O V (Mem.sub (Mem.nil ⟨0,[]⟩) .slnil) z) O
     ·intro e3 c6 z;refine dy (ap (am (sR (mI O (nS (bf ?_))))));refine wC (zq r0 a0 ?_ O V (Mem.sub c6 .slnil) z) O
      ·intro d4 d7 z;refine dy (ap (sR (mB O (nS ?_))));exact rR z O O O
def RF28(res:Bool)(r:PV):Prop:=r=vb res
theorem ul{S:List Fr}{res:Bool}{x0:List ba}{v0:PV}(r0:(tSl ba.t).R x0 v0)(a6:(decide (24 < (x0.length:Int)))=false){K0:Unit->Bool}
 (b6:K0 ()=res->PX Tryz.prog 0 S (QR Tryz.prog [(2,none)] (RF28 res)) [] ⟨0,[]⟩):
 ∀{m:Nat}{a0:Int}(b3:m=Int.toNat ((x0.length:Int)-a0))(a5:0<=a0),jw x0 K0 m a0=res->RC Tryz.prog (.loop ch5) S (QR Tryz.prog [(2,none)] (RF28 res)) [(3,vi a0),(0,v0)] ⟨0,[]⟩:=by
 have a3:=a6;try simp only[qa]at a3
 intro m;induction m with
 |zero=>
  intro a0 b3 a5 z;rw[jw]at z;refine bv (am (sR (mV O (mV O (af (cp O (ca r0 Tryz.underlying68 _)) (bN cn O O (nS ?_)))))));refine bp O ?_ ?_<;>intro c<;>try simp only[qa]at c
  ·omega
  refine dg (dq (dc ?_));exact wP (b6 z) O
 |succ m ih=>
  intro a0 b3 a5 z;rw[jw]at z;refine bv (am (sR (mV O (mV O (af (cp O (ca r0 Tryz.underlying68 _)) (bN cn O O (nS ?_)))))));refine bp O ?_ ?_<;>intro c<;>try simp only[qa]at c
  rotate_left
  ·omega
  refine ax (ap (am (bf (sR (mV O (mV O ?_))))));obtain⟨b4,b1,b0⟩:=de (i:=a0) r0 V V;refine af (bd O O b1) (gL (ba.g_Cond b0) O O O λb7 b2=>(af (cp O (ca b2 Tryz.underlying32 _)) (bN jr O O (mV O ?_))));refine cm 8 (d:=28) (v:=vb ((decide (40 < (((ix x0 a0).Cond).length:Int)))||(decide (10 < (((ix x0 a0).Guards).length:Int))))) ?_ ?_
  ·intro S Q r;cases a4:(decide (40 < (((ix x0 a0).Cond).length:Int)))
   ·intro k;have a1:=a4;try simp only[qa]at a1
    refine ai O O (ay O) (ai O O (ay O) ?_);obtain⟨b5,a8,a9⟩:=de (i:=a0) r0 V V;refine ai O O (bd O O a8) ?_;obtain⟨b8,a7,a2⟩:=ba.g_Guards a9;refine ai O O (co O a7) (ai O O (ck O (TR.cnt (tSl bq.t) a2) (TR.agg (tSl bq.t) a2)) (ai O O (cp O (ca a2 Tryz.underlying33 _)) (ai O O (ct O O jr) ?_)));exact gK O O O O O k
   ·exact gN 7 O O O O O O
  refine nS ?_;refine cd z O ?_ ?_<;>clear z<;>intro c z<;>try simp only[qa]at c
  ·refine sR (mB O (nS ?_));exact rR z O O O
  ·refine ax (cy (ap (av (mV O (bN dp O O (mV O (bn (cv ?_))))))));have s:=da r0;have o:wr (a0+1)=a0+1:=dj V V;erw[o];exact wC (ih V V z) O
theorem dl8{x0:List ba}{v0:PV}(r0:(tSl ba.t).R x0 v0):FnR Tryz.prog 28 [v0] (vb (ma x0)):=by
 refine fnS (R:=RF28) dp2 (λ_ h=>h) O λres z=>?_;unfold ma at z;refine sR (mB O (nS (am (sR (mV O (af (cp O (ca r0 Tryz.underlying68 _)) (bN jr O O (nS ?_))))))));refine cd z O ?_ ?_<;>clear z<;>intro a0 z<;>have a1:=a0<;>try simp only[qa]at a1
 ·refine sR (mB O (nS ?_));exact rR z O O O
 ·refine ax (ap (am (sR (mI O (nS (bf ?_))))));refine wC (ul r0 a0 ?_ O V z) O
  ·intro z;refine dy (ap (sR (mB O (nS ?_))));exact rR z O O O
theorem by8:FnR Tryz.prog 29 [] (vb wc):=ec8
def RF206(res:Bool)(r:PV):Prop:=r=vb res
theorem bi6{x0:Int}:FnR Tryz.prog 206 [vi x0] (vb (qv x0)):=by
 refine fnS (R:=RF206) cr4 (λ_ h=>h) O λres z=>?_;unfold qv at z;refine sR (mB O (nR (mV O (mV O (bN lx O O (mV O (nS ?_)))))));exact rR z O O O
def RF141(res:Int)(r:PV):Prop:=r=vi res
theorem ai1{x0 x1:Int}:FnR Tryz.prog 141 [vi x0,vi x1] (vi (lg x0 x1)):=by
 refine fnS (R:=RF141) ch7 (λ_ h=>h) O λres z=>?_;unfold lg at z;refine sR (mI O (nR (mV O ?_)));obtain⟨a4,a3,z⟩:=br z;have a1:=bi6 (x0:=x0);rw[a3]at a1;refine cL a1 O O (aj O bh) (mV O (nR (mV O ?_)));obtain⟨a5,a2,z⟩:=br z;have a0:=bi6 (x0:=x1);rw[a2]at a0;refine cL a0 O O (aj O bh) (mV O (nS (am (sR (mV O (nS ?_))))));refine cd z O ?_ ?_<;>clear z<;>intro c z<;>try simp only[qa]at c
 ·refine am (sR (mV O (nS ?_)));refine cd z O ?_ ?_<;>clear z<;>intro c z<;>try simp only[qa]at c
  ·refine sR (mI O (nS ?_));exact rR z O O O
  ·refine ax (ap (sR (mI O (nS ?_))));exact rR z O O O
 ·refine ax (ap (am (sR (mV O (nS ?_)))));refine cd z O ?_ ?_<;>clear z<;>intro c z<;>try simp only[qa]at c
  ·refine sR (mI O (nS ?_));exact rR z O O O
  ·refine ax (ap (am (sR (mV O (mV O (bN cn O O (nS ?_)))))));refine cd z O ?_ ?_<;>clear z<;>intro c z<;>try simp only[qa]at c
   ·refine sR (mI O (nS ?_));exact rR z O O O
   ·refine ax (ap (am (sR (mV O (mV O (bN jr O O (nS ?_)))))));refine cd z O ?_ ?_<;>clear z<;>intro c z<;>try simp only[qa]at c
    ·refine sR (mI O (nS ?_));exact rR z O O O
    ·refine ax (ap (sR (mI O (nS ?_))));exact rR z O O O
end Go.Proofs.YtmonnlkagniolaaGreat
