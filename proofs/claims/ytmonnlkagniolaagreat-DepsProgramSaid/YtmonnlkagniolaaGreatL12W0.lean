/-
 The code of each function does what its plain program says.
-/
import Derived.Test.YtmonnlkagniolaaGreatKDef
import Derived.Test.YtmonnlkagniolaaGreatL12Text
import Derived.Test.YtmonnlkagniolaaGreatPbV
import Derived.Test.YtmonnlkagniolaaGreatKSzUnDpDq
import Derived.Test.YtmonnlkagniolaaGreatKVisClU
import Derived.Test.YtmonnlkagniolaaGreatKVisClU
import Derived.Test.YtmonnlkagniolaaGreatKSimCellsGaAuDl
import Derived.Test.YtmonnlkagniolaaGreatKSimCellsGaAuDl
import Derived.Test.YtmonnlkagniolaaGreatKExAExFcFrBdDbCkFe
import Derived.Test.YtmonnlkagniolaaGreatKExAExFcFrBdDbCkFe
import Derived.Test.YtmonnlkagniolaaGreatKExAExFcFrBdDbCkFe
import Derived.Test.YtmonnlkagniolaaGreatKExAExFcFrBdDbCkFe
import Derived.Test.YtmonnlkagniolaaGreatKExAExFcFrBdDbCkFe
import Derived.Test.YtmonnlkagniolaaGreatKCoFo
import Derived.Test.YtmonnlkagniolaaGreatKLy
import Derived.Test.YtmonnlkagniolaaGreatKCoFo
import Derived.Test.YtmonnlkagniolaaGreatL12Run
set_option linter.unusedVariables false
set_option linter.unusedSimpArgs false
set_option maxRecDepth 100000
namespace Go.Proofs.YtmonnlkagniolaaGreat
open Go Go.Pb Go.RowKit
def RF94(res:Bool)(r:PV):Prop:=r=vb res
theorem ad1{S:List Fr}{res:Bool}{x0:List bg}{v0:PV}(r0:(tSl bg.t).R x0 v0)(a2:(decide (16 < (x0.length:Int)))=false){K0:Unit->Bool}
 (a8:K0 ()=res->PX Tryz.prog 0 S (QR Tryz.prog [(2,none)] (RF94 res)) [] ⟨0,[]⟩):
 ∀{m:Nat}{a0:Int}(a6:m=Int.toNat ((x0.length:Int)-a0))(a3:0<=a0),rd x0 K0 m a0=res->RC Tryz.prog (.loop df5) S (QR Tryz.prog [(2,none)] (RF94 res)) [(3,vi a0),(0,v0)] ⟨0,[]⟩:=by
 have a1:=a2;try simp only[qa]at a1
 intro m;induction m with
 |zero=>
  intro a0 a6 a3 z;rw[rd]at z;refine cg (am (sR (mV O (mV O (ah (da O (co r0 Tryz.underlying23 _)) (bN cx O O (nS ?_)))))));refine bv O ?_ ?_<;>intro c<;>try simp only[qa]at c
  ·omega
  refine dl (ee (dh ?_));exact wP (a8 z) O
 |succ m ih=>
  intro a0 a6 a3 z;rw[rd]at z;refine cg (am (sR (mV O (mV O (ah (da O (co r0 Tryz.underlying23 _)) (bN cx O O (nS ?_)))))));refine bv O ?_ ?_<;>intro c<;>try simp only[qa]at c
  rotate_left
  ·omega
  refine bc (aq (am (bm (sR (mV O (mV O ?_))))));obtain⟨a7,a5,a4⟩:=dn (i:=a0) r0 V V;refine ah (bn O O a5) (fL O (bg.g_Name a4) O O (ah (da O (qz Tryz.underlying9)) (bN kh O O (nS ?_))));refine ck z O ?_ ?_<;>clear z<;>intro c z<;>try simp only[qa]at c
  ·refine sR (mB O (nS ?_));exact rR z O O O
  ·refine bc (de (aq (ax (mV O (bN dt O O (mV O (bq (cy ?_))))))));have s:=df r0;have o:wr (a0+1)=a0+1:=db V V;erw[o];exact wC (ih V V z) O
theorem bp7{x0:List bg}{v0:PV}(r0:(tSl bg.t).R x0 v0):FnR Tryz.prog 94 [v0] (vb (ep x0)):=by
 refine fnS (R:=RF94) eg6 (λ_ h=>h) O λres z=>?_;unfold ep at z;refine sR (mB O (nS (am (sR (mV O (ah (da O (co r0 Tryz.underlying23 _)) (bN kh O O (nS ?_))))))));refine ck z O ?_ ?_<;>clear z<;>intro a0 z<;>have a1:=a0<;>try simp only[qa]at a1
 ·refine sR (mB O (nS ?_));exact rR z O O O
 ·refine bc (aq (am (sR (mI O (nS (bm ?_))))));refine wC (ad1 r0 a0 ?_ O V z) O
  ·intro z;refine em (aq (sR (mB O (nS ?_))));exact rR z O O O
def RF95(res:Bool)(r:PV):Prop:=r=vb res
theorem am4{S:List Fr}{res:Bool}{x0:bt}{v0:PV}(r0:bt.t.R x0 v0)(a6:(((decide (40 < (x0.Name.length:Int)))||(!(ep x0.Params)))||(decide (16 < (x0.Body.length:Int))))=false){K0:Unit->Bool}
 (c7:K0 ()=res->PX Tryz.prog 0 S (QR Tryz.prog [(2,none)] (RF95 res)) [] ⟨0,[]⟩):
 ∀{m:Nat}{a0:Int}(b8:m=Int.toNat ((x0.Body.length:Int)-a0))(a7:0<=a0),sf x0 K0 m a0=res->RC Tryz.prog (.loop dn6) S (QR Tryz.prog [(2,none)] (RF95 res)) [(3,vi a0),(1,.fp v0)] ⟨0,[]⟩:=by
 have a3:=a6;try simp only[qa]at a3
 intro m;induction m with
 |zero=>
  intro a0 b8 a7 z;rw[sf]at z;refine cg (am (sR (mV O (gL (bt.g_Body r0) O O O λd0 b3=>(ah (da O (co b3 Tryz.underlying95 _)) (bN cx O O (nS ?_)))))));refine bv O ?_ ?_<;>intro c<;>try simp only[qa]at c
  ·omega
  refine dl (ee (dh ?_));exact wP (c7 z) O
 |succ m ih=>
  intro a0 b8 a7 z;rw[sf]at z;refine cg (am (sR (mV O (gL (bt.g_Body r0) O O O λc5 a5=>(ah (da O (co a5 Tryz.underlying95 _)) (bN cx O O (nS ?_)))))));refine bv O ?_ ?_<;>intro c<;>try simp only[qa]at c
  rotate_left
  ·omega
  refine bc (aq (am (bm (sR (gL (bt.g_Body r0) O O O λc9 b2=>(mV O ?_))))));obtain⟨d1,b4,b7⟩:=dn (i:=a0) b2 V V;refine ah (bn O O b4) (gL (aw.g_Index b7) O O O λc6 a9=>(ah (da O (co a9 Tryz.underlying32 _)) (bN kh O O (mV O ?_))));refine cq 9 (d:=44) (v:=vb ((decide (40 < (((ix x0.Body a0).Index).length:Int)))||(decide (40 < (((ix x0.Body a0).Value).length:Int))))) ?_ ?_
  ·intro S Q r;cases a8:(decide (40 < (((ix x0.Body a0).Index).length:Int)))
   ·intro k;have a4:=a8;try simp only[qa]at a4
    obtain⟨c8,b5,a1⟩:=bt.g_Body r0;refine aj O O (cw O b5) (aj O O (cp O (TR.cnt (tSl aw.t) a1) (TR.agg (tSl aw.t) a1)) (aj O O (ba O) ?_));obtain⟨b9,b6,b1⟩:=dn (i:=a0) a1 V V;refine aj O O (bn O O b6) ?_;obtain⟨c4,b0,a2⟩:=aw.g_Value b1;refine aj O O (cw O b0) (aj O O (cp O (TR.cnt (tSl ai.t) a2) (TR.agg (tSl ai.t) a2)) (aj O O (da O (co a2 Tryz.underlying32 _)) (aj O O (ct O O kh) ?_)));exact gK O O O O O k
   ·exact gN 8 O O O O O O
  refine nS ?_;refine ck z O ?_ ?_<;>clear z<;>intro c z<;>try simp only[qa]at c
  ·refine sR (mB O (nS ?_));exact rR z O O O
  ·refine bc (de (aq (ax (mV O (bN dt O O (mV O (bq (cy ?_))))))));have s:=df a5;have o:wr (a0+1)=a0+1:=db V V;erw[o];exact wC (ih V V z) O
theorem dx7{x0:bt}{v0:PV}(r0:bt.t.R x0 v0):FnR Tryz.prog 95 [v0] (vb (ab4 x0)):=by
 refine fnS (R:=RF95) dx5 (λ_ h=>h) O λres z=>?_;unfold ab4 at z;refine sR (ah (ej O (TR.cnt bt.t r0)) (mB O (nS (am (sR (fL O (bt.g_Name r0) O O (ah (da O (qz Tryz.underlying9)) (bN kh O O ?_))))))));refine mV O ?_;refine cq 5 (d:=13) (v:=vb ((decide (40 < (x0.Name.length:Int)))||(!(ep x0.Params)))) ?_ ?_
 ·intro S Q r;cases a6:(decide (40 < (x0.Name.length:Int)))
  ·intro k;have a4:=a6;try simp only[qa]at a4
   obtain⟨b2,b0,a0⟩:=bt.g_Params r0;refine aj O O (cw O b0) (aj O O (cp O (TR.cnt (tSl bg.t) a0) (TR.agg (tSl bg.t) a0)) ?_);have a8:=bp7 a0;refine ow O O (ur O O (ak (TR.clo (tSl bg.t) a0) bp) a8) (aj O O (ku O) ?_);exact gK O O O O O k
  ·exact gN 4 O O O O O O
 refine mV O ?_;refine cq 5 (d:=19) (v:=vb (((decide (40 < (x0.Name.length:Int)))||(!(ep x0.Params)))||(decide (16 < (x0.Body.length:Int))))) ?_ ?_
 ·intro S Q r;cases a7:((decide (40 < (x0.Name.length:Int)))||(!(ep x0.Params)))
  ·intro k;have a5:=a7;try simp only[qa]at a5
   obtain⟨b1,a9,a3⟩:=bt.g_Body r0;refine aj O O (cw O a9) (aj O O (cp O (TR.cnt (tSl aw.t) a3) (TR.agg (tSl aw.t) a3)) (aj O O (da O (co a3 Tryz.underlying95 _)) (aj O O (ct O O kh) ?_)));exact gK O O O O O k
  ·exact gN 4 O O O O O O
 refine nS ?_;refine ck z O ?_ ?_<;>clear z<;>intro a1 z<;>have a2:=a1<;>try simp only[qa]at a2
 ·refine sR (mB O (nS ?_));exact rR z O O O
 ·refine bc (aq (am (sR (mI O (nS (bm ?_))))));refine wC (am4 r0 a1 ?_ O V z) O
  ·intro z;refine em (aq (sR (mB O (nS ?_))));exact rR z O O O
def RF27(res:Bool)(r:PV):Prop:=r=vb res
theorem af6{S:List Fr}{res:Bool}{x0:af}{v0:PV}(r0:af.t.R x0 v0)(a8:((((((((decide (40 < (x0.Name.length:Int)))||(decide (12 < (x0.Headers.length:Int))))||(!(ep x0.Metadata)))||(decide (8 < (x0.Registers.length:Int))))||(decide (20 < (x0.Actions.length:Int))))||(decide (16 < (x0.Tables.length:Int))))||(decide (16 < (x0.States.length:Int))))||(decide (16 < (x0.Deparser.length:Int))))=false){K0:Unit->Bool}
 (c9:K0 ()=res->PX Tryz.prog 0 S (QR Tryz.prog [(2,none)] (RF27 res)) [(1,.fp v0)] ⟨0,[]⟩):
 ∀{m:Nat}{a0:Int}(b8:m=Int.toNat ((x0.Headers.length:Int)-a0))(a7:0<=a0),oc x0 K0 m a0=res->RC Tryz.prog (.loop de6) S (QR Tryz.prog [(2,none)] (RF27 res)) [(3,vi a0),(1,.fp v0)] ⟨0,[]⟩:=by
 have a3:=a8;try simp only[qa]at a3
 intro m;induction m with
 |zero=>
  intro a0 b8 a7 z;rw[oc]at z;refine cg (am (sR (mV O (gL (af.g_Headers r0) O O O λc6 b0=>(ah (da O (co b0 Tryz.underlying22 _)) (bN cx O O (nS ?_)))))));refine bv O ?_ ?_<;>intro c<;>try simp only[qa]at c
  ·omega
  refine dl (ee (dh ?_));exact wP (c9 z) O
 |succ m ih=>
  intro a0 b8 a7 z;rw[oc]at z;refine cg (am (sR (mV O (gL (af.g_Headers r0) O O O λc5 a5=>(ah (da O (co a5 Tryz.underlying22 _)) (bN cx O O (nS ?_)))))));refine bv O ?_ ?_<;>intro c<;>try simp only[qa]at c
  rotate_left
  ·omega
  refine bc (aq (am (bm (sR (gL (af.g_Headers r0) O O O λc4 b1=>(mV O ?_))))));obtain⟨d0,a9,b2⟩:=dn (i:=a0) b1 V V;refine ah (bn O O a9) (fL O (cm.g_Name b2) O O (ah (da O (qz Tryz.underlying9)) (bN kh O O (mV O ?_))));refine cq 9 (d:=79) (v:=vb ((decide (40 < (((ix x0.Headers a0).Name).length:Int)))||(!(ep ((ix x0.Headers a0).Fields))))) ?_ ?_
  ·intro S Q r;cases a6:(decide (40 < (((ix x0.Headers a0).Name).length:Int)))
   ·intro k;have a2:=a6;try simp only[qa]at a2
    obtain⟨c7,b3,a4⟩:=af.g_Headers r0;refine aj O O (cw O b3) (aj O O (cp O (TR.cnt (tSl cm.t) a4) (TR.agg (tSl cm.t) a4)) (aj O O (ba O) ?_));obtain⟨b9,b5,b6⟩:=dn (i:=a0) a4 V V;refine aj O O (bn O O b5) ?_;obtain⟨c8,b7,a1⟩:=cm.g_Fields b6;refine aj O O (cw O b7) (aj O O (cp O (TR.cnt (tSl bg.t) a1) (TR.agg (tSl bg.t) a1)) ?_);have b4:=bp7 a1;refine ow O O (ur O O (ak (TR.clo (tSl bg.t) a1) bp) b4) (aj O O (ku O) ?_);exact gK O O O O O k
   ·exact gN 8 O O O O O O
  refine nS ?_;refine ck z O ?_ ?_<;>clear z<;>intro c z<;>try simp only[qa]at c
  ·refine sR (mB O (nS ?_));exact rR z O O O
  ·refine bc (de (aq (ax (mV O (bN dt O O (mV O (bq (cy ?_))))))));have s:=df a5;have o:wr (a0+1)=a0+1:=db V V;erw[o];exact wC (ih V V z) O
theorem ai5{S:List Fr}{res:Bool}{x0:af}{v0:PV}(r0:af.t.R x0 v0)(a3:((((((((decide (40 < (x0.Name.length:Int)))||(decide (12 < (x0.Headers.length:Int))))||(!(ep x0.Metadata)))||(decide (8 < (x0.Registers.length:Int))))||(decide (20 < (x0.Actions.length:Int))))||(decide (16 < (x0.Tables.length:Int))))||(decide (16 < (x0.States.length:Int))))||(decide (16 < (x0.Deparser.length:Int))))=false){K2:Unit->Bool}
 (b2:K2 ()=res->PX Tryz.prog 2 S (QR Tryz.prog [(2,none)] (RF27 res)) [(1,.fp v0)] ⟨0,[]⟩):
 ∀{m:Nat}{a0:Int}(a9:m=Int.toNat ((x0.Registers.length:Int)-a0))(a4:0<=a0),nt x0 K2 m a0=res->RC Tryz.prog (.loop dg2) S (QR Tryz.prog [(2,none)] (RF27 res)) [(4,vi a0),(1,.fp v0)] ⟨0,[]⟩:=by
 have a1:=a3;try simp only[qa]at a1
 intro m;induction m with
 |zero=>
  intro a0 a9 a4 z;rw[nt]at z;refine cg (am (sR (mV O (gL (af.g_Registers r0) O O O λb1 a5=>(ah (da O (co a5 Tryz.underlying24 _)) (bN cx O O (nS ?_)))))));refine bv O ?_ ?_<;>intro c<;>try simp only[qa]at c
  ·omega
  refine dl (ee (dh ?_));exact wP (b2 z) O
 |succ m ih=>
  intro a0 a9 a4 z;rw[nt]at z;refine cg (am (sR (mV O (gL (af.g_Registers r0) O O O λb4 a2=>(ah (da O (co a2 Tryz.underlying24 _)) (bN cx O O (nS ?_)))))));refine bv O ?_ ?_<;>intro c<;>try simp only[qa]at c
  rotate_left
  ·omega
  refine bc (aq (am (bm (sR (gL (af.g_Registers r0) O O O λb3 a6=>(mV O ?_))))));obtain⟨b0,a7,a8⟩:=dn (i:=a0) a6 V V;refine ah (bn O O a7) (fL O (cz.g_Name a8) O O (ah (da O (qz Tryz.underlying9)) (bN kh O O (nS ?_))));refine ck z O ?_ ?_<;>clear z<;>intro c z<;>try simp only[qa]at c
  ·refine sR (mB O (nS ?_));exact rR z O O O
  ·refine bc (de (aq (ax (mV O (bN dt O O (mV O (bq (cy ?_))))))));have s:=df a2;have o:wr (a0+1)=a0+1:=db V V;erw[o];exact wC (ih V V z) O
theorem ah4{S:List Fr}{res:Bool}{x0:af}{v0:PV}(r0:af.t.R x0 v0)(a7:((((((((decide (40 < (x0.Name.length:Int)))||(decide (12 < (x0.Headers.length:Int))))||(!(ep x0.Metadata)))||(decide (8 < (x0.Registers.length:Int))))||(decide (20 < (x0.Actions.length:Int))))||(decide (16 < (x0.Tables.length:Int))))||(decide (16 < (x0.States.length:Int))))||(decide (16 < (x0.Deparser.length:Int))))=false){K4:Unit->Bool}
 (b2:K4 ()=res->PX Tryz.prog 4 S (QR Tryz.prog [(2,none)] (RF27 res)) [(1,.fp v0)] ⟨0,[]⟩):
 ∀{m:Nat}{a0:Int}(b1:m=Int.toNat ((x0.Actions.length:Int)-a0))(a3:0<=a0),oe x0 K4 m a0=res->RC Tryz.prog (.loop dn0) S (QR Tryz.prog [(2,none)] (RF27 res)) [(5,vi a0),(1,.fp v0)] ⟨0,[]⟩:=by
 have a2:=a7;try simp only[qa]at a2
 intro m;induction m with
 |zero=>
  intro a0 b1 a3 z;rw[oe]at z;refine cg (am (sR (mV O (gL (af.g_Actions r0) O O O λb5 a9=>(ah (da O (co a9 Tryz.underlying25 _)) (bN cx O O (nS ?_)))))));refine bv O ?_ ?_<;>intro c<;>try simp only[qa]at c
  ·omega
  refine dl (ee (dh ?_));exact wP (b2 z) O
 |succ m ih=>
  intro a0 b1 a3 z;rw[oe]at z;refine cg (am (sR (mV O (gL (af.g_Actions r0) O O O λb4 a6=>(ah (da O (co a6 Tryz.underlying25 _)) (bN cx O O (nS ?_)))))));refine bv O ?_ ?_<;>intro c<;>try simp only[qa]at c
  rotate_left
  ·omega
  refine bc (aq (am (bm (sR (gL (af.g_Actions r0) O O O λb6 a8=>(mV O ?_))))));obtain⟨b7,b0,a1⟩:=dn (i:=a0) a8 V V;refine ah (bn O O b0) (lD a1 O O O ?_);obtain⟨b3,a5,z⟩:=br z;have a4:=dx7 a1;rw[a5]at a4;refine cL a4 O O (ak (TR.clo bt.t a1) bp) (ah (ku O) (nS ?_));refine ck z O ?_ ?_<;>clear z<;>intro c z<;>try simp only[qa]at c
  ·refine sR (mB O (nS ?_));exact rR z O O O
  ·refine bc (de (aq (ax (mV O (bN dt O O (mV O (bq (cy ?_))))))));have s:=df a6;have o:wr (a0+1)=a0+1:=db V V;erw[o];exact wC (ih V V z) O
theorem ai2{S:List Fr}{res:Bool}{x0:af}{v0:PV}(r0:af.t.R x0 v0)(b0:((((((((decide (40 < (x0.Name.length:Int)))||(decide (12 < (x0.Headers.length:Int))))||(!(ep x0.Metadata)))||(decide (8 < (x0.Registers.length:Int))))||(decide (20 < (x0.Actions.length:Int))))||(decide (16 < (x0.Tables.length:Int))))||(decide (16 < (x0.States.length:Int))))||(decide (16 < (x0.Deparser.length:Int))))=false){K6:Unit->Bool}
 (d6:∀{h:Heap}(M0:Mem h []),K6 ()=res->PX Tryz.prog 6 S (QR Tryz.prog [(2,none)] (RF27 res)) [(1,.fp v0)] h):
 ∀{m:Nat}{a0:Int}(d3:m=Int.toNat ((x0.Tables.length:Int)-a0))(a8:0<=a0){h:Heap}(M0:Mem h []),pp x0 K6 m a0=res->RC Tryz.prog (.loop cv8) S (QR Tryz.prog [(2,none)] (RF27 res)) [(6,vi a0),(1,.fp v0)] h:=by
 have a5:=b0;try simp only[qa]at a5
 intro m;induction m with
 |zero=>
  intro a0 d3 a8 h M0 z;rw[pp]at z;refine cg (am (sR (mV O (gL (af.g_Tables r0) O O O λe2 c7=>(ah (da O (co c7 Tryz.underlying26 _)) (bN cx O O (nS ?_)))))));refine bv O ?_ ?_<;>intro c<;>try simp only[qa]at c
  ·omega
  refine dl (ee (dh ?_));exact wP (d6 (Mem.sub M0 .slnil) z) O
 |succ m ih=>
  intro a0 d3 a8 h M0 z;rw[pp]at z;refine cg (am (sR (mV O (gL (af.g_Tables r0) O O O λd9 a9=>(ah (da O (co a9 Tryz.underlying26 _)) (bN cx O O (nS ?_)))))));refine bv O ?_ ?_<;>intro c<;>try simp only[qa]at c
  rotate_left
  ·omega
  refine bc (aq (am (bm (sR (gL (af.g_Tables r0) O O O λe1 c6=>(mV O ?_))))));obtain⟨b1,d1,a2⟩:=dn (i:=a0) c6 V V;refine ah (bn O O d1) (lD a2 O O O ?_);refine dz (x:= .agg [vs [],nilS,nilS,vi 0,nilS,vi 0]) M0 O O (λc8 b4 d4 d0=>?_);refine dm (k:=0) (v:=b1) d0 O O O (TR.cnt ca.t a2) (λb8 a1=>?_);replace a1:Mem b8 [⟨.op c8 b4 0,59,6,[b1]⟩]:=a1;refine nR (ah (bh O) (ah (ci (k:=0) a1 O O (ca.g_Name a2)) (ah (da O (qz Tryz.underlying9)) (bN kh O O (mV O ?_)))));refine cq 5 (d:=130) (v:=vb ((decide (40 < (((ix x0.Tables a0).Name).length:Int)))||(decide (10 < (((ix x0.Tables a0).Keys).length:Int))))) ?_ ?_
  ·intro S Q r;cases b3:(decide (40 < (((ix x0.Tables a0).Name).length:Int)))
   ·intro k;have a3:=b3;try simp only[qa]at a3
    refine aj O O (bh O) ?_;obtain⟨d8,c9,b9⟩:=ca.g_Keys a2;refine aj O O (ci (k:=0) a1 O O c9) (aj O O (da O (co b9 Tryz.underlying57 _)) (aj O O (ct O O kh) ?_));exact gK O O O O O k
   ·exact gN 4 O O O O O O
  refine mV O ?_;refine cq 5 (d:=136) (v:=vb (((decide (40 < (((ix x0.Tables a0).Name).length:Int)))||(decide (10 < (((ix x0.Tables a0).Keys).length:Int))))||(decide (24 < (((ix x0.Tables a0).Actions).length:Int))))) ?_ ?_
  ·intro S Q r;cases a7:((decide (40 < (((ix x0.Tables a0).Name).length:Int)))||(decide (10 < (((ix x0.Tables a0).Keys).length:Int))))
   ·intro k;have a4:=a7;try simp only[qa]at a4
    refine aj O O (bh O) ?_;obtain⟨d7,d2,b6⟩:=ca.g_Actions a2;refine aj O O (ci (k:=0) a1 O O d2) (aj O O (da O (co b6 Tryz.underlying29 _)) (aj O O (ct O O kh) ?_));exact gK O O O O O k
   ·exact gN 4 O O O O O O
  refine mV O ?_;refine cq 6 (d:=143) (v:=vb ((((decide (40 < (((ix x0.Tables a0).Name).length:Int)))||(decide (10 < (((ix x0.Tables a0).Keys).length:Int))))||(decide (24 < (((ix x0.Tables a0).Actions).length:Int))))||(decide (10 < ((((ix x0.Tables a0).Default).Args).length:Int))))) ?_ ?_
  ·intro S Q r;cases b2:(((decide (40 < (((ix x0.Tables a0).Name).length:Int)))||(decide (10 < (((ix x0.Tables a0).Keys).length:Int))))||(decide (24 < (((ix x0.Tables a0).Actions).length:Int))))
   ·intro k;have a6:=b2;try simp only[qa]at a6
    refine aj O O (bh O) (aj O O (bh O) ?_);obtain⟨d5,b5,c5⟩:=ca.g_Default a2;obtain⟨e0,c4,b7⟩:=gw.g_Args c5;refine aj O O (ci (k:=0) a1 O O (ug b5 c4)) (aj O O (da O (co b7 Tryz.underlying43 _)) (aj O O (ct O O kh) ?_));exact gK O O O O O k
   ·exact gN 5 O O O O O O
  refine nS ?_;refine ck z O ?_ ?_<;>clear z<;>intro c z<;>try simp only[qa]at c
  ·refine sR (mB O (nS ?_));exact rR z O O O
  ·refine bc (de (aq (ax (mV O (bN dt O O (mV O (bq (cy ?_))))))));have s:=df a9;have o:wr (a0+1)=a0+1:=db V V;erw[o];exact wC (ih V V (Mem.sub a1 (.cons _ .slnil)) z) O
theorem af7{S:List Fr}{res:Bool}{x0:af}{v0:PV}(r0:af.t.R x0 v0)(b0:((((((((decide (40 < (x0.Name.length:Int)))||(decide (12 < (x0.Headers.length:Int))))||(!(ep x0.Metadata)))||(decide (8 < (x0.Registers.length:Int))))||(decide (20 < (x0.Actions.length:Int))))||(decide (16 < (x0.Tables.length:Int))))||(decide (16 < (x0.States.length:Int))))||(decide (16 < (x0.Deparser.length:Int))))=false){K8:Unit->Bool}
 (e0:∀{h:Heap}(M0:Mem h []),K8 ()=res->PX Tryz.prog 8 S (QR Tryz.prog [(2,none)] (RF27 res)) [] h):
 ∀{m:Nat}{a0:Int}(c9:m=Int.toNat ((x0.States.length:Int)-a0))(a8:0<=a0){h:Heap}(M0:Mem h []),ro x0 K8 m a0=res->RC Tryz.prog (.loop do5) S (QR Tryz.prog [(2,none)] (RF27 res)) [(8,vi a0),(1,.fp v0)] h:=by
 have a7:=b0;try simp only[qa]at a7
 intro m;induction m with
 |zero=>
  intro a0 c9 a8 h M0 z;rw[ro]at z;refine cg (am (sR (mV O (gL (af.g_States r0) O O O λd3 c7=>(ah (da O (co c7 Tryz.underlying27 _)) (bN cx O O (nS ?_)))))));refine bv O ?_ ?_<;>intro c<;>try simp only[qa]at c
  ·omega
  refine dl (ee (dh ?_));exact wP (e0 (Mem.sub M0 .slnil) z) O
 |succ m ih=>
  intro a0 c9 a8 h M0 z;rw[ro]at z;refine cg (am (sR (mV O (gL (af.g_States r0) O O O λd0 b2=>(ah (da O (co b2 Tryz.underlying27 _)) (bN cx O O (nS ?_)))))));refine bv O ?_ ?_<;>intro c<;>try simp only[qa]at c
  rotate_left
  ·omega
  refine bc (aq (am (bm (sR (gL (af.g_States r0) O O O λd8 b8=>(mV O ?_))))));obtain⟨d4,b5,b4⟩:=dn (i:=a0) b8 V V;refine ah (bn O O b5) (fL O (cd.g_Name b4) O O (ah (da O (qz Tryz.underlying9)) (bN kh O O (mV O ?_))));refine cq 9 (d:=168) (v:=vb ((decide (40 < (((ix x0.States a0).Name).length:Int)))||(decide (8 < (((ix x0.States a0).Extract).length:Int))))) ?_ ?_
  ·intro S Q r;cases a9:(decide (40 < (((ix x0.States a0).Name).length:Int)))
   ·intro k;have a6:=a9;try simp only[qa]at a6
    obtain⟨d5,b7,a4⟩:=af.g_States r0;refine aj O O (cw O b7) (aj O O (cp O (TR.cnt (tSl cd.t) a4) (TR.agg (tSl cd.t) a4)) (aj O O (ba O) ?_));obtain⟨d9,c4,b9⟩:=dn (i:=a0) a4 V V;refine aj O O (bn O O c4) ?_;obtain⟨d7,c5,a3⟩:=cd.g_Extract b9;refine aj O O (cw O c5) (aj O O (cp O (TR.cnt (tSl tI) a3) (TR.agg (tSl tI) a3)) (aj O O (da O (co a3 Tryz.underlying29 _)) (aj O O (ct O O kh) ?_)));exact gK O O O O O k
   ·exact gN 8 O O O O O O
  refine mV O ?_;refine cq 9 (d:=178) (v:=vb (((decide (40 < (((ix x0.States a0).Name).length:Int)))||(decide (8 < (((ix x0.States a0).Extract).length:Int))))||(decide (16 < (((ix x0.States a0).Cases).length:Int))))) ?_ ?_
  ·intro S Q r;cases b1:((decide (40 < (((ix x0.States a0).Name).length:Int)))||(decide (8 < (((ix x0.States a0).Extract).length:Int))))
   ·intro k;have a1:=b1;try simp only[qa]at a1
    obtain⟨d2,c8,a5⟩:=af.g_States r0;refine aj O O (cw O c8) (aj O O (cp O (TR.cnt (tSl cd.t) a5) (TR.agg (tSl cd.t) a5)) (aj O O (ba O) ?_));obtain⟨d6,b6,b3⟩:=dn (i:=a0) a5 V V;refine aj O O (bn O O b6) ?_;obtain⟨d1,c6,a2⟩:=cd.g_Cases b3;refine aj O O (cw O c6) (aj O O (cp O (TR.cnt (tSl gv.t) a2) (TR.agg (tSl gv.t) a2)) (aj O O (da O (co a2 Tryz.underlying108 _)) (aj O O (ct O O kh) ?_)));exact gK O O O O O k
   ·exact gN 8 O O O O O O
  refine nS ?_;refine ck z O ?_ ?_<;>clear z<;>intro c z<;>try simp only[qa]at c
  ·refine sR (mB O (nS ?_));exact rR z O O O
  ·refine bc (de (aq (ax (mV O (bN dt O O (mV O (bq (cy ?_))))))));have s:=df b2;have o:wr (a0+1)=a0+1:=db V V;erw[o];exact wC (ih V V (Mem.sub M0 .slnil) z) O
theorem dw3{x0:af}{v0:PV}(r0:af.t.R x0 v0):FnR Tryz.prog 27 [v0] (vb (pf x0)):=by
 refine fnS (R:=RF27) dv3 (λ_ h=>h) O λres z=>?_;unfold pf at z;refine sR (ah (ej O (TR.cnt af.t r0)) (mB O (nS (am (sR (fL O (af.g_Name r0) O O (ah (da O (qz Tryz.underlying9)) (bN kh O O ?_))))))));refine mV O ?_;refine cq 5 (d:=18) (v:=vb ((decide (40 < (x0.Name.length:Int)))||(decide (12 < (x0.Headers.length:Int))))) ?_ ?_
 ·intro S Q r;cases b8:(decide (40 < (x0.Name.length:Int)))
  ·intro k;have b5:=b8;try simp only[qa]at b5
   obtain⟨e4,d2,b0⟩:=af.g_Headers r0;refine aj O O (cw O d2) (aj O O (cp O (TR.cnt (tSl cm.t) b0) (TR.agg (tSl cm.t) b0)) (aj O O (da O (co b0 Tryz.underlying22 _)) (aj O O (ct O O kh) ?_)));exact gK O O O O O k
  ·exact gN 4 O O O O O O
 refine mV O ?_;refine cq 5 (d:=24) (v:=vb (((decide (40 < (x0.Name.length:Int)))||(decide (12 < (x0.Headers.length:Int))))||(!(ep x0.Metadata)))) ?_ ?_
 ·intro S Q r;cases b7:((decide (40 < (x0.Name.length:Int)))||(decide (12 < (x0.Headers.length:Int))))
  ·intro k;have a5:=b7;try simp only[qa]at a5
   obtain⟨e0,d5,a1⟩:=af.g_Metadata r0;refine aj O O (cw O d5) (aj O O (cp O (TR.cnt (tSl bg.t) a1) (TR.agg (tSl bg.t) a1)) ?_);have d3:=bp7 a1;refine ow O O (ur O O (ak (TR.clo (tSl bg.t) a1) bp) d3) (aj O O (ku O) ?_);exact gK O O O O O k
  ·exact gN 4 O O O O O O
 refine mV O ?_;refine cq 5 (d:=30) (v:=vb ((((decide (40 < (x0.Name.length:Int)))||(decide (12 < (x0.Headers.length:Int))))||(!(ep x0.Metadata)))||(decide (8 < (x0.Registers.length:Int))))) ?_ ?_
 ·intro S Q r;cases c5:(((decide (40 < (x0.Name.length:Int)))||(decide (12 < (x0.Headers.length:Int))))||(!(ep x0.Metadata)))
  ·intro k;have a7:=c5;try simp only[qa]at a7
   obtain⟨e5,d1,a9⟩:=af.g_Registers r0;refine aj O O (cw O d1) (aj O O (cp O (TR.cnt (tSl cz.t) a9) (TR.agg (tSl cz.t) a9)) (aj O O (da O (co a9 Tryz.underlying24 _)) (aj O O (ct O O kh) ?_)));exact gK O O O O O k
  ·exact gN 4 O O O O O O
 refine mV O ?_;refine cq 5 (d:=36) (v:=vb (((((decide (40 < (x0.Name.length:Int)))||(decide (12 < (x0.Headers.length:Int))))||(!(ep x0.Metadata)))||(decide (8 < (x0.Registers.length:Int))))||(decide (20 < (x0.Actions.length:Int))))) ?_ ?_
 ·intro S Q r;cases c4:((((decide (40 < (x0.Name.length:Int)))||(decide (12 < (x0.Headers.length:Int))))||(!(ep x0.Metadata)))||(decide (8 < (x0.Registers.length:Int))))
  ·intro k;have b3:=c4;try simp only[qa]at b3
   obtain⟨d6,c9,a3⟩:=af.g_Actions r0;refine aj O O (cw O c9) (aj O O (cp O (TR.cnt (tSl bt.t) a3) (TR.agg (tSl bt.t) a3)) (aj O O (da O (co a3 Tryz.underlying25 _)) (aj O O (ct O O kh) ?_)));exact gK O O O O O k
  ·exact gN 4 O O O O O O
 refine mV O ?_;refine cq 5 (d:=42) (v:=vb ((((((decide (40 < (x0.Name.length:Int)))||(decide (12 < (x0.Headers.length:Int))))||(!(ep x0.Metadata)))||(decide (8 < (x0.Registers.length:Int))))||(decide (20 < (x0.Actions.length:Int))))||(decide (16 < (x0.Tables.length:Int))))) ?_ ?_
 ·intro S Q r;cases b9:(((((decide (40 < (x0.Name.length:Int)))||(decide (12 < (x0.Headers.length:Int))))||(!(ep x0.Metadata)))||(decide (8 < (x0.Registers.length:Int))))||(decide (20 < (x0.Actions.length:Int))))
  ·intro k;have a6:=b9;try simp only[qa]at a6
   obtain⟨e3,c8,a8⟩:=af.g_Tables r0;refine aj O O (cw O c8) (aj O O (cp O (TR.cnt (tSl ca.t) a8) (TR.agg (tSl ca.t) a8)) (aj O O (da O (co a8 Tryz.underlying26 _)) (aj O O (ct O O kh) ?_)));exact gK O O O O O k
  ·exact gN 4 O O O O O O
 refine mV O ?_;refine cq 5 (d:=48) (v:=vb (((((((decide (40 < (x0.Name.length:Int)))||(decide (12 < (x0.Headers.length:Int))))||(!(ep x0.Metadata)))||(decide (8 < (x0.Registers.length:Int))))||(decide (20 < (x0.Actions.length:Int))))||(decide (16 < (x0.Tables.length:Int))))||(decide (16 < (x0.States.length:Int))))) ?_ ?_
 ·intro S Q r;cases b6:((((((decide (40 < (x0.Name.length:Int)))||(decide (12 < (x0.Headers.length:Int))))||(!(ep x0.Metadata)))||(decide (8 < (x0.Registers.length:Int))))||(decide (20 < (x0.Actions.length:Int))))||(decide (16 < (x0.Tables.length:Int))))
  ·intro k;have b2:=b6;try simp only[qa]at b2
   obtain⟨d9,d0,a2⟩:=af.g_States r0;refine aj O O (cw O d0) (aj O O (cp O (TR.cnt (tSl cd.t) a2) (TR.agg (tSl cd.t) a2)) (aj O O (da O (co a2 Tryz.underlying27 _)) (aj O O (ct O O kh) ?_)));exact gK O O O O O k
  ·exact gN 4 O O O O O O
 refine mV O ?_;refine cq 5 (d:=54) (v:=vb ((((((((decide (40 < (x0.Name.length:Int)))||(decide (12 < (x0.Headers.length:Int))))||(!(ep x0.Metadata)))||(decide (8 < (x0.Registers.length:Int))))||(decide (20 < (x0.Actions.length:Int))))||(decide (16 < (x0.Tables.length:Int))))||(decide (16 < (x0.States.length:Int))))||(decide (16 < (x0.Deparser.length:Int))))) ?_ ?_
 ·intro S Q r;cases c6:(((((((decide (40 < (x0.Name.length:Int)))||(decide (12 < (x0.Headers.length:Int))))||(!(ep x0.Metadata)))||(decide (8 < (x0.Registers.length:Int))))||(decide (20 < (x0.Actions.length:Int))))||(decide (16 < (x0.Tables.length:Int))))||(decide (16 < (x0.States.length:Int))))
  ·intro k;have b4:=c6;try simp only[qa]at b4
   obtain⟨e1,d4,a4⟩:=af.g_Deparser r0;refine aj O O (cw O d4) (aj O O (cp O (TR.cnt (tSl tI) a4) (TR.agg (tSl tI) a4)) (aj O O (da O (co a4 Tryz.underlying29 _)) (aj O O (ct O O kh) ?_)));exact gK O O O O O k
  ·exact gN 4 O O O O O O
 refine nS ?_;refine ck z O ?_ ?_<;>clear z<;>intro a0 z<;>have b1:=a0<;>try simp only[qa]at b1
 ·refine sR (mB O (nS ?_));exact rR z O O O
 ·refine bc (aq (am (sR (mI O (nS (bm ?_))))));refine wC (af6 r0 a0 ?_ O V z) O
  ·intro z;refine em (aq (am (sR (mI O (nS (bm ?_))))));refine wC (ai5 r0 a0 ?_ O V z) O
   ·intro z;refine em (aq (am (sR (mI O (nS (bm ?_))))));refine wC (ah4 r0 a0 ?_ O V z) O
    ·intro z;refine em (aq (am (sR (mI O (nS (bm ?_))))));refine wC (ai2 r0 a0 ?_ O V (Mem.sub (Mem.nil ⟨0,[]⟩) .slnil) z) O
     ·intro d8 c7 z;refine em (aq (am (sR (mI O (nS (bm ?_))))));refine wC (af7 r0 a0 ?_ O V (Mem.sub c7 .slnil) z) O
      ·intro e2 d7 z;refine em (aq (sR (mB O (nS ?_))));exact rR z O O O
def RF125(res:Int)(r:PV):Prop:=r=vi res
theorem al6{S:List Fr}{res:Int}{x0:List ae}{x1 x2:Int}{rec_:(List ae)->Int->Int->Int}{mu_:Nat}{v0:PV}(r0:(tSl ae.t).R x0 v0)(ihR:∀{z0:List ae}{z1 z2:Int}{c9:PV}(d7:(tSl ae.t).R z0 c9),csl z0 < mu_->FnR Tryz.prog 125 [c9,vi z1,vi z2] (vi (rec_ z0 z1 z2)))(hmu:mu_=csl x0){K0:Int->Int}
 (d1:∀{a1:Int},K0 a1=res->PX Tryz.prog 0 S (QR Tryz.prog [(6,none)] (RF125 res)) [(7,vi a1)] ⟨0,[]⟩):
 ∀{m:Nat}{a1 a0:Int}(d0:m=Int.toNat ((x0.length:Int)-a0))(b0:0<=a0),kj x0 x1 x2 rec_ K0 m a1 a0=res->RC Tryz.prog (.loop cm3) S (QR Tryz.prog [(6,none)] (RF125 res)) [(8,vi a0),(7,vi a1),(2,vi x2),(1,vi x1),(0,v0)] ⟨0,[]⟩:=by
 intro m;induction m with
 |zero=>
  intro a1 a0 d0 b0 z;rw[kj]at z;refine cg (am (sR (mV O (mV O (ah (da O (co r0 Tryz.underlying28 _)) (bN cx O O (mV O ?_)))))));refine cq 4 (d:=17) (v:=vb ((decide (a0 < (x0.length:Int)))&&(decide (a1<=x1)))) ?_ ?_
  ·intro S Q r;cases a8:(decide (a0 < (x0.length:Int)))
   ·exact gN 3 O O O O O O
   ·intro k;have a4:=a8;try simp only[qa]at a4
    refine aj O O (ba O) (aj O O (ba O) (aj O O (ct O O ag5) ?_));exact gK O O O O O k
  refine nS ?_;refine bv O ?_ ?_<;>intro c<;>try simp only[qa]at c
  ·omega
  refine dl (ee (dh ?_));exact wP (d1 z) O
 |succ m ih=>
  intro a1 a0 d0 b0 z;rw[kj]at z;refine cg (am (sR (mV O (mV O (ah (da O (co r0 Tryz.underlying28 _)) (bN cx O O (mV O ?_)))))));refine cq 4 (d:=17) (v:=vb ((decide (a0 < (x0.length:Int)))&&(decide (a1<=x1)))) ?_ ?_
  ·intro S Q r;cases a7:(decide (a0 < (x0.length:Int)))
   ·exact gN 3 O O O O O O
   ·intro k;have a2:=a7;try simp only[qa]at a2
    refine aj O O (ba O) (aj O O (ba O) (aj O O (ct O O ag5) ?_));exact gK O O O O O k
  refine nS ?_;refine ck z O ?_ ?_<;>clear z<;>intro c z<;>try simp only[qa]at c
  ·refine bc (aq (am (bm (sR (mV O (bN dt O O (mV O (nS ?_))))))));refine am (sR (mV O (mV O ?_)));obtain⟨c5,b8,c4⟩:=dn (i:=a0) r0 V V;refine ah (bn O O b8) (gL (ae.g_Cond c4) O O O λa6 c8=>(ah (da O (co c8 Tryz.underlying32 _)) (bN kh O O (mV O (xl (E0:=[(29,vb (decide (40 < (((ix x0 a0).Cond).length:Int)))),(28,vb (decide (40 < (((ix x0 a0).Cond).length:Int)))),(27,vi (((ix x0 a0).Cond).length:Int)),(26,a6),(25,.fp a6),(24,.fp c5),(23,vi a0),(22,v0),(7,vi (wr (a1+1))),(21,vi (wr (a1+1))),(20,vi a1),(17,vb ((decide (a0 < (x0.length:Int)))&&(decide (a1<=x1)))),(13,vb (decide (a0 < (x0.length:Int)))),(12,vb (decide (a0 < (x0.length:Int)))),(11,vi (x0.length:Int)),(10,v0),(9,vi a0),(8,vi a0),(2,vi x2),(1,vi x1),(0,v0)]) (sB O) ?_)))));refine cq 3 (d:=32) (v:=vb ((decide (40 < (((ix x0 a0).Cond).length:Int)))||(decide (x2=0)))) ?_ ?_
   ·intro S Q r;cases b3:(decide (40 < (((ix x0 a0).Cond).length:Int)))
    ·intro k;have a3:=b3;try simp only[qa]at a3
     refine aj O O (ba O) (aj O O (ct O O dy) ?_);exact gK O O O O O k
    ·exact gN 2 O O O O O O
   refine nS ?_;refine ck z O ?_ ?_<;>clear z<;>intro c z<;>try simp only[qa]at c
   ·refine sR (mV O (bN dt O O (mV O (nS ?_))));exact rR z O O O
   ·refine bc (aq (sR (mV O (mV O (mV O ?_)))));obtain⟨d4,b9,b7⟩:=dn (i:=a0) r0 V V;refine ah (bn O O b9) (gL (ae.g_Then b7) O O O λd2 a9=>(mV O (mV O (bN vm O O (mV O (bN vm O O ?_))))));obtain⟨c7,b1,z⟩:=br z;have a5:=ihR (z0:=(ix x0 a0).Then) (z1:=(wr (x1-(wr (a1+1))))) (z2:=(wr (x2-1))) a9 (by(have hk:=kt (l:=x0) V V;omega));rw[b1]at a5;refine cL a5 O O (ak (TR.clo (tSl ae.t) a9) (ak O (ak O bp))) (bN dt O O (mV O (nR (mV O (mV O (bN ag5 O O (nS ?_)))))));refine ck z O ?_ ?_<;>clear z<;>intro c z<;>try simp only[qa]at c
    ·refine ax (mV O (mV O (mV O ?_)));obtain⟨d6,c6,b6⟩:=dn (i:=a0) r0 V V;refine ah (bn O O c6) (gL (ae.g_Else b6) O O O λd5 b4=>(mV O (mV O (bN vm O O (mV O (bN vm O O ?_))))));obtain⟨d3,b5,z⟩:=br z;have b2:=ihR (z0:=(ix x0 a0).Else) (z1:=(wr (x1-(wr ((wr (a1+1))+c7))))) (z2:=(wr (x2-1))) b4 (by(have hk:=kt (l:=x0) V V;omega));rw[b5]at b2;refine cL b2 O O (ak (TR.clo (tSl ae.t) b4) (ak O (ak O bp))) (bN dt O O (mV O (bq (de (aq (ax (mV O (bN dt O O ?_))))))));refine mV O (bq (cy ?_));have s:=df r0;have o:wr (a0+1)=a0+1:=db V V;erw[o];exact wC (ih V V z) O
    ·refine bc (de (aq (ax (mV O (bN dt O O (mV O (bq (cy ?_))))))));have s:=df r0;have o:wr (a0+1)=a0+1:=db V V;erw[o];exact wC (ih V V z) O
  ·refine dl (ee (dh ?_));exact wP (d1 z) O
theorem co6{rec_:(List ae)->Int->Int->Int}{mu_:Nat}{x0:List ae}{x1 x2:Int}{v0:PV}(r0:(tSl ae.t).R x0 v0)(hmu:mu_=csl x0)(ihR:∀{z0:List ae}{z1 z2:Int}{a1:PV}(a2:(tSl ae.t).R z0 a1),csl z0 < mu_->FnR Tryz.prog 125 [a1,vi z1,vi z2] (vi (rec_ z0 z1 z2))):FnR Tryz.prog 125 [v0,vi x1,vi x2] (vi (tj rec_ x0 x1 x2)):=by
 refine fnS (R:=RF125) da9 (λ_ h=>h) O λres z=>?_;unfold tj at z;refine sR (mI O (nR (mI O (nS (am (sR (mI O (nS ?_))))))));refine bm ?_;refine wC (al6 r0 ihR hmu ?_ O V z) O
 ·intro a0 z;refine em (aq (sR (mV O (mV O (nS ?_)))));exact rR z O O O
theorem ch5:∀(n_:Nat){x0:List ae}{x1 x2:Int}{v0:PV}(r0:(tSl ae.t).R x0 v0),csl x0 < n_->FnR Tryz.prog 125 [v0,vi x1,vi x2] (vi (pa n_ x0 x1 x2)):=by
 intro n_;induction n_ with
 |zero=>intros;rename_i hlt;exact absurd hlt (Nat.not_lt_zero _)
 |succ n_ ihn=>
  intro x0 x1 x2 v0 r0 hlt;have e_:pa (n_+1) x0 x1 x2=tj (pa n_) x0 x1 x2:=by rw[pa]
  rw[e_];exact co6 r0 O (λ{z0}{z1}{z2}{zv0} zr0 hz=>ihn zr0 V)
theorem cx6{x0:List ae}{x1 x2:Int}{v0:PV}(r0:(tSl ae.t).R x0 v0):FnR Tryz.prog 125 [v0,vi x1,vi x2] (vi (af0 x0 x1 x2)):=ch5 _ r0 (Nat.lt_succ_self _)
def RF53(res:Bool)(r:PV):Prop:=r=vb res
theorem du1{x0:List ae}{x1:Int}{v0:PV}(r0:(tSl ae.t).R x0 v0):FnR Tryz.prog 53 [v0,vi x1] (vb (lu x0 x1)):=by
 refine fnS (R:=RF53) dx9 (λ_ h=>h) O λres z=>?_;unfold lu at z;refine sR (mB O (nR (mV O (mV O ?_))));obtain⟨a2,a1,z⟩:=br z;have a0:=cx6 (x1:=x1) (x2:=12) r0;rw[a1]at a0;refine cL a0 O O (ak (TR.clo (tSl ae.t) r0) (ak O (ak O bp))) (mV O (bN ag5 O O (mV O (nS ?_))));exact rR z O O O
theorem bn2:FnR Tryz.prog 29 [] (vb sx):=em7
def RF232(i1_ w1_:Nat)(R_:List Ent)(res:Bool×Int)(r:PV)(h:Heap):Prop:=Mem h (⟨.op i1_ w1_ 0,3,1,[vi res.2]⟩::R_)/\r=vb res.1
theorem di0{x0:ae}{c0:Int}{v0:PV}{R_:List Ent}{h_:Heap}{a1 a2:Nat}(r0:ae.t.R x0 v0)(M_:Mem h_ (⟨.op a1 a2 0,3,1,[vi c0]⟩::R_)):∃r a5,FnX Tryz.prog 232 [v0,.op a1 a2 0] h_ r a5/\RF232 a1 a2 R_ (sh x0 c0) r a5:=by
 refine fnXX (R:=RF232 a1 a2 R_) db9 O λres z=>?_;unfold sh at z;refine sR (ah (ej O (TR.cnt ae.t r0)) (mB O (nR (ah (gq (k:=0) M_ O O O) (bN dt O O ?_)))));refine dm (k:=0) (v:=vi (wr (c0+1))) M_ O O O O (λa3 a0=>?_);replace a0:Mem a3 (⟨.op a1 a2 0,3,1,[vi (wr (c0+1))]⟩::R_):=a0;refine nR (mB O (nS ?_));have a4:Mem a3 (⟨.op a1 a2 0,3,1,[vi (wr (c0+1))]⟩::R_):=(Mem.front (k:=0) a0 O);subst z;exact pw (.tmp O .nil) ⟨Mem.sub a4 (.cons_cons _ (List.Sublist.refl R_)),O⟩
def ME232(i1_ w1_ k_:Nat)(s_:Int)(L_:List Ent):Prop:=(L_=(⟨.op i1_ w1_ 0,3,1,[vi s_]⟩::[]))/\(True)
theorem dc1(a0 a1:Nat):∀k_ s_ L_,ME232 a0 a1 (k_+1) s_ L_->ME232 a0 a1 k_ s_ L_:=λk_ s_ L_ h_=>⟨h_.1,by have hi_:=h_.2;trivial⟩
theorem er2{a1 a0:Nat}:VIS Tryz.prog 232 [.op a1 a0 0] (λa_ s_=>sh a_ s_) (ME232 a1 a0) (λ_=>True):=by
 intro k_ a_ va_ s_ L_ R_ h_ hg_ ra_ hE_ M_;obtain⟨hL_,hi_⟩:=hE_;subst hL_;obtain⟨r_,a3,hX_,hZ_⟩:=di0 (x0:=a_) (c0:=s_) ra_ M_;obtain⟨a2,hr_⟩:=hZ_;subst hr_;exact⟨a3,_,hX_,⟨O,by trivial⟩,a2⟩
end Go.Proofs.YtmonnlkagniolaaGreat
