/-
 The code of each function does what its plain program says.
-/
import Derived.Test.YtmonnlkagniolaaGreatL4W3
set_option linter.all false
set_option maxRecDepth 100000
namespace Go.Proofs.YtmonnlkagniolaaGreat
open Go Go.Pb Go.RowKit
def RF253(res:Int)(r:PV):Prop:=r=vi res
theorem dg6{x0:aa}{x1:ae}{v0 v1:PV}(r0:aa.t.R x0 v0)(r1:ae.t.R x1 v1):FnR Tryz.prog 253 [v0,v1] (vi (ab4 x0 x1)):=by
 refine fnS (R:=RF253) dp3 (λ_ h=>h) O λres s=>?_;unfold ab4 at s;refine sR (ah (di O (TR.cnt aa.t r0)) (ah (di O (TR.cnt ae.t r1)) (mI O (nR ?_))));obtain⟨c9,b3,a9⟩:=aa.g_Metadata r0;refine fA O b3 (lD a9 O O O (mV O (nS (am (sR (fL O (ae.g_Header r1) O O (bN iz O O (nS ?_))))))));obtain⟨c5,b0,s⟩:=bp s;refine kp (F:=λb S Q=>∀(a0:List av)(a2:PV)(a1:(tSl av.t).R a0 a2),c5 a0=res->RC Tryz.prog b S Q [(5,a2),(3,.fp v1)] ⟨0,[]⟩) ?_ ?_
 ·intro a0 a2 a1 s;rw[<-b0]at s;refine am (sR (fL O (ae.g_Header r1) O O (bN (cn (b:= -1)) O O (mV O ?_))));refine bw 4 (d:=31) (v:=vb ((decide (x1.Header < (-1)))||(decide (x1.Field < 0)))) ?_ ?_
  ·intro S Q r;cases b2:(decide (x1.Header < (-1)))
   ·intro k;have a5:=b2;try simp only[qa]at a5
    refine ai O O (bt O (ae.g_Field r1)) (ai O O (bq O O O) (ai O O (br O O cn) ?_));exact gK O O O O O k
   ·exact gN 3 O O O O O O
  refine mV O ?_;refine bw 6 (d:=38) (v:=vb (((decide (x1.Header < (-1)))||(decide (x1.Field < 0)))||(decide ((a0.length:Int)<=x1.Field)))) ?_ ?_
  ·intro S Q r;cases a8:((decide (x1.Header < (-1)))||(decide (x1.Field < 0)))
   ·intro k;have a6:=a8;try simp only[qa]at a6
    refine ai O O (bt O (ae.g_Field r1)) (ai O O (bq O O O) (ai O O (ba O) (ai O O (co O (ca a1 Tryz.underlying23 _)) (ai O O (br O O iz) ?_))));exact gK O O O O O k
   ·exact gN 5 O O O O O O
  refine mV O ?_;refine bw 8 (d:=47) (v:=vb ((((decide (x1.Header < (-1)))||(decide (x1.Field < 0)))||(decide ((a0.length:Int)<=x1.Field)))||(decide (((ix a0 x1.Field).Width) < 1)))) ?_ ?_
  ·intro S Q r;cases b1:(((decide (x1.Header < (-1)))||(decide (x1.Field < 0)))||(decide ((a0.length:Int)<=x1.Field)))
   ·intro k;have a4:=b1;try simp only[qa]at a4
    refine ai O O (ba O) (ai O O (bt O (ae.g_Field r1)) (ai O O (bq O O O) ?_));obtain⟨d3,b6,c4⟩:=cv (i:=x1.Field) a1 Y Y;refine ai O O (bd O O b6) (ai O O (bt O (av.g_Width c4)) (ai O O (bq O O O) (ai O O (br O O cn) ?_)));exact gK O O O O O k
   ·exact gN 7 O O O O O O
  refine mV O ?_;refine bw 8 (d:=56) (v:=vb (((((decide (x1.Header < (-1)))||(decide (x1.Field < 0)))||(decide ((a0.length:Int)<=x1.Field)))||(decide (((ix a0 x1.Field).Width) < 1)))||(decide (32 < ((ix a0 x1.Field).Width))))) ?_ ?_
  ·intro S Q r;cases a7:((((decide (x1.Header < (-1)))||(decide (x1.Field < 0)))||(decide ((a0.length:Int)<=x1.Field)))||(decide (((ix a0 x1.Field).Width) < 1)))
   ·intro k;have a3:=a7;try simp only[qa]at a3
    refine ai O O (ba O) (ai O O (bt O (ae.g_Field r1)) (ai O O (bq O O O) ?_));obtain⟨d5,c7,b7⟩:=cv (i:=x1.Field) a1 Y Y;refine ai O O (bd O O c7) (ai O O (bt O (av.g_Width b7)) (ai O O (bq O O O) (ai O O (br O O fu) ?_)));exact gK O O O O O k
   ·exact gN 7 O O O O O O
  refine nS ?_;refine bv s O ?_ ?_<;>clear s<;>intro c s<;>try simp only[qa]at c
  ·refine sR (mI O (nS ?_));exact rR s O O O
  ·refine aw (aq (sR (mV O (fL O (ae.g_Field r1) O O ?_))));obtain⟨d2,c6,b4⟩:=cv (i:=x1.Field) a1 Y Y;refine ah (bd O O c6) (fL O (av.g_Width b4) O O (mV O (nS ?_)));exact rR s O O O
 ·intro J;refine bv s O ?_ ?_<;>clear s<;>intro c s<;>try simp only[qa]at c
  ·refine am (sR (fL O (ae.g_Header r1) O O (gL (aa.g_Headers r0) O O O λd6 b5=>(ah (co O (ca b5 Tryz.underlying22 _)) (bN iz O O (nS ?_))))));refine bv s O ?_ ?_<;>clear s<;>intro c s<;>try simp only[qa]at c
   ·refine sR (mI O (nS ?_));exact rR s O O O
   ·refine aw (aq (az (gL (aa.g_Headers r0) O O O λd1 b8=>(fL O (ae.g_Header r1) O O ?_))));obtain⟨d0,c1,c8⟩:=cv (i:=x1.Header) b8 Y Y;refine ah (bd O O c1) (gL (bm.g_Fields c8) O O O λd4 b9=>(mV O (cd ?_)));refine aq (wC (J _ _ b9 s) O)
  ·refine aw ?_;refine aq (wC (J _ _ a9 s) O)
def RF209(res:Int×Int)(r:PV):Prop:=r= .tup [vi res.1,vi res.2]
theorem ap6{S:List Fr}{res:Int×Int}{x0:aa}{x1:bz}{v0 v1:PV}(r0:aa.t.R x0 v0)(r1:bz.t.R x1 v1){K0:Int->Int->(Int×Int)}
 (c6:∀{a4 a2:Int},K0 a4 a2=res->PX Tryz.prog 0 S (QR Tryz.prog [(4,none),(5,none)] (RF209 res)) [(6,vi a4),(7,vi a2)] ⟨0,[]⟩):
 ∀{m:Nat}{a4 a2 a0:Int}(b9:m=Int.toNat ((x1.Keys.length:Int)-a0))(a6:0<=a0),px x0 x1 K0 m a4 a2 a0=res->RC Tryz.prog (.loop cw5) S (QR Tryz.prog [(4,none),(5,none)] (RF209 res)) [(8,vi a0),(7,vi a2),(6,vi a4),(3,.fp v1),(2,.fp v0)] ⟨0,[]⟩:=by
 intro m;induction m with
 |zero=>
  intro a4 a2 a0 b9 a6 s;rw[px]at s;refine ck (am (sR (mV O (gL (bz.g_Keys r1) O O O λc1 b6=>(ah (co O (ca b6 Tryz.underlying57 _)) (bN cn O O (nS ?_)))))));refine ci O ?_ ?_<;>intro c<;>try simp only[qa]at c
  ·omega
  refine dg (dx (da ?_));exact wP (c6 s) O
 |succ m ih=>
  intro a4 a2 a0 b9 a6 s;rw[px]at s;refine ck (am (sR (mV O (gL (bz.g_Keys r1) O O O λd1 a5=>(ah (co O (ca a5 Tryz.underlying57 _)) (bN cn O O (nS ?_)))))));refine ci O ?_ ?_<;>intro c<;>try simp only[qa]at c
  rotate_left
  ·omega
  refine aw (aq (am (bg (sR (lD r0 O O O (gL (bz.g_Keys r1) O O O λc4 b2=>(mV O ?_)))))));obtain⟨c5,b7,b3⟩:=cv (i:=a0) b2 Y Y;refine ah (bd O O b7) (gL (gb.g_Field b3) O O O λc9 a9=>?_);obtain⟨c7,a7,s⟩:=bp s;have b0:=dg6 r0 a9;rw[a7]at b0;refine cL b0 O O (aj (TR.clo aa.t r0) (aj (TR.clo ae.t a9) bc)) (mV O (nR (gL (bz.g_Keys r1) O O O λd0 b4=>(mV O ?_))));obtain⟨c8,b8,b5⟩:=cv (i:=a0) b4 Y Y;refine ah (bd O O b8) (fL O (gb.g_Kind b5) O O (mV O (nS (am (bg (sR (mV O (bN du O O ?_))))))));refine mV O (nS ?_);refine bv s O ?_ ?_<;>clear s<;>intro c s<;>try simp only[qa]at c
  ·refine sR (mV O (mV O (mI O (nS ?_))));exact rT s O O O O O
  ·refine sR (mV O (bN ie O O (mV O ?_)));refine bw 3 (d:=42) (v:=vb ((!decide (((ix x1.Keys a0).Kind)=1))&&(!decide (((ix x1.Keys a0).Kind)=2)))) ?_ ?_
   ·intro S Q r;cases b1:(!decide (((ix x1.Keys a0).Kind)=1))
    ·exact gN 2 O O O O O O
    ·intro k;have a3:=b1;try simp only[qa]at a3
     refine ai O O (ba O) (ai O O (br O O ie) ?_);exact gK O O O O O k
   refine mV O ?_;refine bw 3 (d:=46) (v:=vb (((!decide (((ix x1.Keys a0).Kind)=1))&&(!decide (((ix x1.Keys a0).Kind)=2)))&&(!decide (((ix x1.Keys a0).Kind)=3)))) ?_ ?_
   ·intro S Q r;cases a8:((!decide (((ix x1.Keys a0).Kind)=1))&&(!decide (((ix x1.Keys a0).Kind)=2)))
    ·exact gN 2 O O O O O O
    ·intro k;have a1:=a8;try simp only[qa]at a1
     refine ai O O (ba O) (ai O O (br O O ie) ?_);exact gK O O O O O k
   refine mV O (nS ?_);refine bv s O ?_ ?_<;>clear s<;>intro c s<;>try simp only[qa]at c
   ·refine sR (mV O (mV O (mI O (nS ?_))));exact rT s O O O O O
   ·refine sR (mV O (bN du O O (mV O (nS ?_))));refine bv s O ?_ ?_<;>clear s<;>intro c s<;>try simp only[qa]at c
    ·refine az (mV O (bN dw O O (mV O (cd (db (aq (az (mV O ?_))))))));refine mV O (bN dw O O (mV O (cd (db (aq (az (mV O (bN dw O O ?_))))))));refine mV O (cd (cy ?_));have hbd:=dn a5;have hinc:wr (a0+1)=a0+1:=cz Y Y;erw[hinc];exact wC (ih Y Y s) O
    ·refine aw (db (aq (az (mV O (mV O (bN dw O O (mV O (cd ?_))))))));refine db (aq (az (mV O (bN dw O O (mV O (cd (cy ?_)))))));have hbd:=dn a5;have hinc:wr (a0+1)=a0+1:=cz Y Y;erw[hinc];exact wC (ih Y Y s) O
theorem df6{x0:aa}{x1:bz}{v0 v1:PV}(r0:aa.t.R x0 v0)(r1:bz.t.R x1 v1):FnR Tryz.prog 209 [v0,v1] (.tup [vi ((ym x0 x1).1),vi ((ym x0 x1).2)]):=by
 refine fnS (R:=RF209) dq4 (λ_ h=>h) O λres s=>?_;unfold ym at s;refine sR (ah (di O (TR.cnt aa.t r0)) (ah (di O (TR.cnt bz.t r1)) (mI O (mI O (nR (mI O (nR (mI O ?_))))))));refine nS (am (sR (mI O (nS (bg ?_)))));refine wC (ap6 r0 r1 ?_ O Y s) O
 ·intro a0 a1 s;refine ek (aq (am (bg (sR (mV O (bN fu O O (mV O (nS ?_))))))));refine bv s O ?_ ?_<;>clear s<;>intro c s<;>try simp only[qa]at c
  ·refine sR (mI O (mI O (nS ?_)));exact rT s O O O O O
  ·refine sR (mV O (bN fu O O (mV O (nS ?_))));refine bv s O ?_ ?_<;>clear s<;>intro c s<;>try simp only[qa]at c
   ·refine sR (mI O (mI O (nS ?_)));exact rT s O O O O O
   ·refine aw (db (aq (sR (mI O (mI O (nS ?_))))));exact rT s O O O O O
def RF254(res:Int)(r:PV):Prop:=r=vi res
theorem ak0{S:List Fr}{res:Int}{x0:List Int}{x1:Int}{v0:PV}(r0:(tSl tI).R x0 v0){K0:Unit->Int}
 (a3:K0 ()=res->PX Tryz.prog 0 S (QR Tryz.prog [(4,none)] (RF254 res)) [] ⟨0,[]⟩):
 ∀{m:Nat}{a0:Int}(a2:m=Int.toNat ((x0.length:Int)-a0))(a1:0<=a0),qn x0 x1 K0 m a0=res->RC Tryz.prog (.loop ch5) S (QR Tryz.prog [(4,none)] (RF254 res)) [(5,vi a0),(1,vi x1),(0,v0)] ⟨0,[]⟩:=by
 intro m;induction m with
 |zero=>
  intro a0 a2 a1 s;rw[qn]at s;refine ck (am (sR (mV O (mV O (ah (co O (ca r0 Tryz.underlying29 _)) (bN cn O O (nS ?_)))))));refine ci O ?_ ?_<;>intro c<;>try simp only[qa]at c
  ·omega
  refine dg (dx (da ?_));exact wP (a3 s) O
 |succ m ih=>
  intro a0 a2 a1 s;rw[qn]at s;refine ck (am (sR (mV O (mV O (ah (co O (ca r0 Tryz.underlying29 _)) (bN cn O O (nS ?_)))))));refine ci O ?_ ?_<;>intro c<;>try simp only[qa]at c
  rotate_left
  ·omega
  refine aw (aq (am (bg (sR (mV O (mV O (ah (bd O O (slI r0 Y Y)) (lR O O O ?_))))))));refine mV O (bN du O O (nS ?_));refine bv s O ?_ ?_<;>clear s<;>intro c s<;>try simp only[qa]at c
  ·refine sR (mV O (mV O (nS ?_)));exact rR s O O O
  ·refine aw (db (aq (az (mV O (bN dw O O (mV O (cd (cy ?_))))))));have hbd:=dn r0;have hinc:wr (a0+1)=a0+1:=cz Y Y;erw[hinc];exact wC (ih Y Y s) O
theorem cb3{x0:List Int}{x1:Int}{v0:PV}(r0:(tSl tI).R x0 v0):FnR Tryz.prog 254 [v0,vi x1] (vi (xe x0 x1)):=by
 refine fnS (R:=RF254) cz8 (λ_ h=>h) O λres s=>?_;unfold xe at s;refine sR (mI O (nS (am (sR (mI O (nS (bg ?_)))))));refine wC (ak0 r0 ?_ O Y s) O
 ·intro s;refine ek (aq (sR (mI O (nS ?_))));exact rR s O O O
def RF115(res:Bool)(r:PV):Prop:=r=vb res
theorem da0{x0:BitVec 32}{x1:Int}:FnR Tryz.prog 115 [de x0,vi x1] (vb (ah4 x0 x1)):=by
 refine fnS (R:=RF115) df4 (λ_ h=>h) O λres s=>?_;unfold ah4 at s;refine sR (mB O (nR (mV O ?_)));obtain⟨a2,a3,s⟩:=bp s;have a1:=yx (x0:=x1);rw[a3]at a1;refine cL a1 O O (aj O bc) (mV O ?_);refine bw 6 (d:=13) (v:=vb (a2&&(decide ((BitVec.setWidth 64 x0) < (ju x1))))) ?_ ?_
 ·intro S Q r;cases a4:a2
  ·exact gN 5 O O O O O O
  ·intro k;have a0:=a4;try simp only[qa]at a0
   refine ai O O (ba O) (ai O O (jb (a:=de x0) O (c_wd Tryz.underlying89 Tryz.underlying201)) (ai O O (ba O) ?_));have a5:=ad5 (x0:=x1) (by(have hk:=rval OY OY;omega));refine ik O O (og O O (aj O bc) a5) (ai O O (br (a:=jg (BitVec.setWidth 64 x0)) (b:=jg (ju x1)) O O ea1) ?_);exact gK O O O O O k
 refine mV O (nS ?_);exact rR s O O O
def RF42(res:Int)(r:PV):Prop:=r=vi res
theorem zl{S:List Fr}{res:Int}{x0:aa}{x1:cp}{v1 a5:PV}(r1:cp.t.R x1 v1)(a8:((decide (x1.Action < 0))||(decide ((x0.Actions.length:Int)<=x1.Action)))=false)(a1:(tSl av.t).R ((ix x0.Actions x1.Action).Params) a5)(b0:(!decide ((x1.Args.length:Int)=(((ix x0.Actions x1.Action).Params).length:Int)))=false){K0:Unit->Int}
 (b5:K0 ()=res->PX Tryz.prog 0 S (QR Tryz.prog [(4,none)] (RF42 res)) [] ⟨0,[]⟩):
 ∀{m:Nat}{a0:Int}(b4:m=Int.toNat ((((ix x0.Actions x1.Action).Params).length:Int)-a0))(a4:0<=a0),nh x0 x1 K0 m a0=res->RC Tryz.prog (.loop dw3) S (QR Tryz.prog [(4,none)] (RF42 res)) [(6,vi a0),(5,a5),(3,.fp v1)] ⟨0,[]⟩:=by
 have a2:=a8;try simp only[qa]at a2
 have a3:=b0;try simp only[qa]at a3
 intro m;induction m with
 |zero=>
  intro a0 b4 a4 s;rw[nh]at s;refine ck (am (sR (mV O (mV O (ah (co O (ca a1 Tryz.underlying23 _)) (bN cn O O (nS ?_)))))));refine ci O ?_ ?_<;>intro c<;>try simp only[qa]at c
  ·omega
  refine dg (dx (da ?_));exact wP (b5 s) O
 |succ m ih=>
  intro a0 b4 a4 s;rw[nh]at s;refine ck (am (sR (mV O (mV O (ah (co O (ca a1 Tryz.underlying23 _)) (bN cn O O (nS ?_)))))));refine ci O ?_ ?_<;>intro c<;>try simp only[qa]at c
  rotate_left
  ·omega
  refine aw (aq (am (bg (sR ?_))));obtain⟨b7,b3,a9⟩:=cp.g_Args r1;refine fA O b3 (lD a9 O O O (mV O (ah (bd O O (af5 a9 Y Y)) (lR O O O (mV O (mV O ?_))))));obtain⟨b6,b1,b2⟩:=cv (i:=a0) a1 Y Y;refine ah (bd O O b1) (fL O (av.g_Width b2) O O ?_);obtain⟨b8,a6,s⟩:=bp s;have a7:=da0 (x0:=(ix x1.Args a0)) (x1:=(ix ((ix x0.Actions x1.Action).Params) a0).Width);rw[a6]at a7;refine cL a7 O O (aj O (aj O bc)) (ah (fw O) (nS ?_));refine bv s O ?_ ?_<;>clear s<;>intro c s<;>try simp only[qa]at c
  ·refine sR (mI O (nS ?_));exact rR s O O O
  ·refine aw (db (aq (az (mV O (bN dw O O (mV O (cd (cy ?_))))))));have hbd:=dn a1;have hinc:wr (a0+1)=a0+1:=cz Y Y;erw[hinc];exact wC (ih Y Y s) O
theorem cm9{x0:aa}{x1:cp}{v0 v1:PV}(r0:aa.t.R x0 v0)(r1:cp.t.R x1 v1):FnR Tryz.prog 42 [v0,v1] (vi (iy x0 x1)):=by
 refine fnS (R:=RF42) eo1 (λ_ h=>h) O λres s=>?_;unfold iy at s;refine sR (ah (di O (TR.cnt aa.t r0)) (ah (di O (TR.cnt cp.t r1)) (mI O (nS (am (sR (fL O (cp.g_Action r1) O O (bN cn O O ?_))))))));refine mV O ?_;refine bw 7 (d:=17) (v:=vb ((decide (x1.Action < 0))||(decide ((x0.Actions.length:Int)<=x1.Action)))) ?_ ?_
 ·intro S Q r;cases a8:(decide (x1.Action < 0))
  ·intro k;have a3:=a8;try simp only[qa]at a3
   refine ai O O (bt O (cp.g_Action r1)) (ai O O (bq O O O) ?_);obtain⟨b7,b3,a5⟩:=aa.g_Actions r0;refine ai O O (bt O b3) (ai O O (bq O (TR.cnt (tSl cm.t) a5) (TR.agg (tSl cm.t) a5)) (ai O O (co O (ca a5 Tryz.underlying25 _)) (ai O O (br O O iz) ?_)));exact gK O O O O O k
  ·exact gN 6 O O O O O O
 refine nS ?_;refine bv s O ?_ ?_<;>clear s<;>intro a0 s<;>have a2:=a0<;>try simp only[qa]at a2
 ·refine sR (mI O (nS ?_));exact rR s O O O
 ·refine aw (aq (sR ?_));obtain⟨b9,b1,a9⟩:=aa.g_Actions r0;refine fA O b1 (lD a9 O O O (fL O (cp.g_Action r1) O O ?_));obtain⟨b5,b4,b0⟩:=cv (i:=x1.Action) a9 Y Y;refine ah (bd O O b4) (gL (cm.g_Params b0) O O O λb6 a6=>(mV O (nS (am (sR ?_)))));obtain⟨b8,b2,a7⟩:=cp.g_Args r1;refine fA O b2 (lD a7 O O O (ah (co O (ca a7 Tryz.underlying43 _)) (mV O (ah (co O (ca a6 Tryz.underlying23 _)) (bN ie O O (nS ?_))))));refine bv s O ?_ ?_<;>clear s<;>intro a1 s<;>have a4:=a1<;>try simp only[qa]at a4
  ·refine sR (mI O (nS ?_));exact rR s O O O
  ·refine aw (aq (am (sR (mI O (nS (bg ?_))))));refine wC (zl r1 a0 a6 a1 ?_ O Y s) O
   ·intro s;refine ek (aq (sR (mI O (nS ?_))));exact rR s O O O
def RF210(res:Int)(r:PV):Prop:=r=vi res
theorem ad8{S:List Fr}{res:Int}{x0:aa}{x1:bz}{v0 v1:PV}(r0:aa.t.R x0 v0)(r1:bz.t.R x1 v1){K0:Unit->Int}
 (c1:K0 ()=res->PX Tryz.prog 0 S (QR Tryz.prog [(4,none)] (RF210 res)) [(2,.fp v0),(3,.fp v1)] ⟨0,[]⟩):
 ∀{m:Nat}{a0:Int}(b7:m=Int.toNat ((x1.Actions.length:Int)-a0))(a4:0<=a0),pb x0 x1 K0 m a0=res->RC Tryz.prog (.loop cu6) S (QR Tryz.prog [(4,none)] (RF210 res)) [(5,vi a0),(3,.fp v1),(2,.fp v0)] ⟨0,[]⟩:=by
 intro m;induction m with
 |zero=>
  intro a0 b7 a4 s;rw[pb]at s;refine ck (am (sR (mV O (gL (bz.g_Actions r1) O O O λb8 b4=>(ah (co O (ca b4 Tryz.underlying29 _)) (bN cn O O (nS ?_)))))));refine ci O ?_ ?_<;>intro c<;>try simp only[qa]at c
  ·omega
  refine dg (dx (da ?_));exact wP (c1 s) O
 |succ m ih=>
  intro a0 b7 a4 s;rw[pb]at s;refine ck (am (sR (mV O (gL (bz.g_Actions r1) O O O λc9 b1=>(ah (co O (ca b1 Tryz.underlying29 _)) (bN cn O O (nS ?_)))))));refine ci O ?_ ?_<;>intro c<;>try simp only[qa]at c
  rotate_left
  ·omega
  refine aw (aq (am (bg (bg (sR ?_)))));obtain⟨b9,b5,a5⟩:=bz.g_Actions r1;refine fA O b5 (lD a5 O O O (mV O (ah (bd O O (slI a5 Y Y)) (lR O O O (bN cn O O (mV O ?_))))));refine bw 10 (d:=30) (v:=vb ((decide ((ix x1.Actions a0) < 0))||(decide ((x0.Actions.length:Int)<=(ix x1.Actions a0))))) ?_ ?_
  ·intro S Q r;cases a8:(decide ((ix x1.Actions a0) < 0))
   ·intro k;have a1:=a8;try simp only[qa]at a1
    obtain⟨c8,b2,a2⟩:=bz.g_Actions r1;refine ai O O (bt O b2) (ai O O (bq O (TR.cnt (tSl tI) a2) (TR.agg (tSl tI) a2)) (ai O O (ba O) (ai O O (bd O O (slI a2 Y Y)) (ai O O (bq O O O) ?_))));obtain⟨c4,b3,a3⟩:=aa.g_Actions r0;refine ai O O (bt O b3) (ai O O (bq O (TR.cnt (tSl cm.t) a3) (TR.agg (tSl cm.t) a3)) (ai O O (co O (ca a3 Tryz.underlying25 _)) (ai O O (br O O iz) ?_)));exact gK O O O O O k
   ·exact gN 9 O O O O O O
  refine mV O (nS ?_);refine bv s O ?_ ?_<;>clear s<;>intro c s<;>try simp only[qa]at c
  ·refine sR (mI O (nS ?_));exact rR s O O O
  ·refine sR (gL (bz.g_Actions r1) O O O λc5 a9=>?_);obtain⟨c6,b6,a7⟩:=bz.g_Actions r1;refine fA O b6 (lD a7 O O O (mV O (ah (bd O O (slI a7 Y Y)) (lR O O O ?_))));obtain⟨c7,a6,s⟩:=bp s;have b0:=cb3 (x1:=(ix x1.Actions a0)) a9;rw[a6]at b0;refine cL b0 O O (aj (TR.clo (tSl tI) a9) (aj O bc)) (mV O (bN cn O O (mV O (nS ?_))));refine bv s O ?_ ?_<;>clear s<;>intro c s<;>try simp only[qa]at c
   ·refine sR (mI O (nS ?_));exact rR s O O O
   ·refine aw (db (db (aq (az (mV O (bN dw O O (mV O (cd ?_))))))));refine cy ?_;have hbd:=dn b1;have hinc:wr (a0+1)=a0+1:=cz Y Y;erw[hinc];exact wC (ih Y Y s) O
theorem dl9{x0:aa}{x1:bz}{v0 v1:PV}(r0:aa.t.R x0 v0)(r1:bz.t.R x1 v1):FnR Tryz.prog 210 [v0,v1] (vi (xi x0 x1)):=by
 refine fnS (R:=RF210) dn0 (λ_ h=>h) O λres s=>?_;unfold xi at s;refine sR (ah (di O (TR.cnt aa.t r0)) (ah (di O (TR.cnt bz.t r1)) (mI O (nS (am (sR (mI O (nS ?_))))))));refine bg ?_;refine wC (ad8 r0 r1 ?_ O Y s) O
 ·intro s;refine ek (aq (am (sR ?_)));obtain⟨b3,a7,a0⟩:=bz.g_Actions r1;refine fA O a7 (lD a0 O O O ?_);obtain⟨b1,a8,a6⟩:=bz.g_Default r1;refine fA O a8 (fL O (cp.g_Action a6) O O ?_);obtain⟨a9,a1,s⟩:=bp s;have a4:=cb3 (x1:=x1.Default.Action) a0;rw[a1]at a4;refine cL a4 O O (aj (TR.clo (tSl tI) a0) (aj O bc)) (bN cn O O (nS ?_));refine bv s O ?_ ?_<;>clear s<;>intro c s<;>try simp only[qa]at c
  ·refine sR (mI O (nS ?_));exact rR s O O O
  ·refine aw (aq (sR (lD r0 O O O (gL (bz.g_Default r1) O O O λb0 a5=>?_))));obtain⟨b2,a3,s⟩:=bp s;have a2:=cm9 r0 a5;rw[a3]at a2;refine cL a2 O O (aj (TR.clo aa.t r0) (aj (TR.clo cp.t a5) bc)) (mV O (nS ?_));exact rR s O O O
def RF152(res:Int×Int)(r:PV):Prop:=r= .tup [vi res.1,vi res.2]
theorem dq8{x0:aa}{x1:Int}{v0:PV}(r0:aa.t.R x0 v0):FnR Tryz.prog 152 [v0,vi x1] (.tup [vi ((um x0 x1).1),vi ((um x0 x1).2)]):=by
 refine fnS (R:=RF152) di3 (λ_ h=>h) O λres s=>?_;unfold um at s;refine sR (ah (di O (TR.cnt aa.t r0)) (mI O (mI O (nS (am (sR (mV O (bN cn O O ?_))))))));refine mV O ?_;refine bw 6 (d:=17) (v:=vb ((decide (x1 < 0))||(decide ((x0.Tables.length:Int)<=x1)))) ?_ ?_
 ·intro S Q r;cases b2:(decide (x1 < 0))
  ·intro k;have a2:=b2;try simp only[qa]at a2
   refine ai O O (ba O) ?_;obtain⟨d2,b9,a4⟩:=aa.g_Tables r0;refine ai O O (bt O b9) (ai O O (bq O (TR.cnt (tSl bz.t) a4) (TR.agg (tSl bz.t) a4)) (ai O O (co O (ca a4 Tryz.underlying26 _)) (ai O O (br O O iz) ?_)));exact gK O O O O O k
  ·exact gN 5 O O O O O O
 refine nS ?_;refine bv s O ?_ ?_<;>clear s<;>intro c s<;>try simp only[qa]at c
 ·refine sR (mI O (mI O (nS ?_)));exact rT s O O O O O
 ·refine aw (aq (sR (gL (aa.g_Tables r0) O O O λd6 c6=>(mV O ?_))));obtain⟨a6,c4,a0⟩:=cv (i:=x1) c6 Y Y;refine ah (bd O O c4) (lD a0 O O O ?_);refine dv (x:= .agg [vs [],nilS,nilS,vi 0,nilS,vi 0]) (Mem.nil ⟨0,[]⟩) O O (λc1 c7 d0 b7=>?_);refine cx (k:=0) (v:=a6) b7 O O O (TR.cnt bz.t a0) (λc8 a1=>?_);replace a1:Mem c8 [⟨.op c1 c7 0,59,6,[a6]⟩]:=a1;refine nS (am (bg (sR (ah (cg O) (ah (ct (k:=0) a1 O O (bz.g_Name a0)) ?_)))));obtain⟨d4,b1,s⟩:=bp s;have b3:=vh (x0:=(ix x0.Tables x1).Name);rw[b1]at b3;refine cL b3 O O (aj O bc) (ah (fw O) (mV O (nS ?_)));refine bv s O ?_ ?_<;>clear s<;>intro c s<;>try simp only[qa]at c
  ·refine sR (mI O (mI O (nS ?_)));exact rT s O O O O O
  ·refine sR (ah (cg O) ?_);obtain⟨d5,c5,b8⟩:=bz.g_Keys a0;refine ah (ct (k:=0) a1 O O c5) (ah (co O (ca b8 Tryz.underlying57 _)) (bN fu O O (mV O ?_)));refine bw 5 (d:=38) (v:=vb ((decide (6 < (((ix x0.Tables x1).Keys).length:Int)))||(decide (16 < (((ix x0.Tables x1).Actions).length:Int))))) ?_ ?_
   ·intro S Q r;cases b4:(decide (6 < (((ix x0.Tables x1).Keys).length:Int)))
    ·intro k;have a3:=b4;try simp only[qa]at a3
     refine ai O O (cg O) ?_;obtain⟨d7,b6,c9⟩:=bz.g_Actions a0;refine ai O O (ct (k:=0) a1 O O b6) (ai O O (co O (ca c9 Tryz.underlying29 _)) (ai O O (br O O fu) ?_));exact gK O O O O O k
    ·exact gN 4 O O O O O O
   refine mV O (nS ?_);refine bv s O ?_ ?_<;>clear s<;>intro c s<;>try simp only[qa]at c
   ·refine sR (mI O (mI O (nS ?_)));exact rT s O O O O O
   ·refine sR (ah (cg O) (ah (ct (k:=0) a1 O O (bz.g_Size a0)) (bN cn O O (mV O ?_))));refine bw 4 (d:=47) (v:=vb ((decide (((ix x0.Tables x1).Size) < 1))||(decide (256 < ((ix x0.Tables x1).Size))))) ?_ ?_
    ·intro S Q r;cases b5:(decide (((ix x0.Tables x1).Size) < 1))
     ·intro k;have a5:=b5;try simp only[qa]at a5
      refine ai O O (cg O) (ai O O (ct (k:=0) a1 O O (bz.g_Size a0)) (ai O O (br O O fu) ?_));exact gK O O O O O k
     ·exact gN 3 O O O O O O
    refine mV O (nS ?_);refine bv s O ?_ ?_<;>clear s<;>intro c s<;>try simp only[qa]at c
    ·refine sR (mI O (mI O (nS ?_)));exact rT s O O O O O
    ·refine aw (db (aq (sR (lD r0 O O O (ah (gx (k:=0) a1 O O (TR.agg bz.t a0)) ?_)))));obtain⟨d3,a7,s⟩:=bp s;have a8:=df6 r0 a0;rw[a7]at a8;refine cL a8 O O (aj (TR.clo aa.t r0) (aj (TR.clo bz.t a0) bc)) (mV O (xT O O (xT O O (mV O (mV O (nS (am (sR ?_))))))));refine mV O (bN ie O O (nS ?_));refine bv s O ?_ ?_<;>clear s<;>intro c s<;>try simp only[qa]at c
     ·refine sR (mV O (mV O (mV O (mV O (nS ?_)))));exact rT s O O O O O
     ·refine aw (aq (sR (lD r0 O O O (ah (gx (k:=0) a1 O O (TR.agg bz.t a0)) ?_))));obtain⟨d1,a9,s⟩:=bp s;have b0:=dl9 r0 a0;rw[a9]at b0;refine cL b0 O O (aj (TR.clo aa.t r0) (aj (TR.clo bz.t a0) bc)) (mV O (nS (am (sR (mV O (bN ie O O (nS ?_)))))));refine bv s O ?_ ?_<;>clear s<;>intro c s<;>try simp only[qa]at c
      ·refine sR (mV O (mI O (mV O (nS ?_))));exact rT s O O O O O
      ·refine aw (aq (sR (mI O (mI O (nS ?_)))));exact rT s O O O O O
def RF80(res:af)(r:PV):Prop:=af.t.R res r
theorem ah2{S:List Fr}{res:af}{x0:aa}{a7:Int}{b4:Int×Int}{v0:PV}{a4 a3:Nat}(r0:aa.t.R x0 v0)(d7:x0.Tables.length<=1000)(d0:0<=a7)(b5:(decide (a7 < (x0.Tables.length:Int)))=true)(c9:um x0 a7=b4)(b6:(!decide (b4.2=0))=false){K2:af->af}
 (d1:∀{a1:af}{a0:PV}(a2:af.t.R a1 a0){h:Heap}(M0:Mem h [⟨.op a4 a3 0,53,4,[a0]⟩]),K2 a1=res->PX Tryz.prog 2 S (QR Tryz.prog [(2,some (4,true))] (RF80 res)) [(1,.fp v0),(2,.op a4 a3 0),(3,vi a7)] h):
 ∀{m:Nat}{a6:Int}{a1:af}{a0:PV}(a2:af.t.R a1 a0)(c8:m=Int.toNat (a7-a6))(b2:0<=a6){h:Heap}(M0:Mem h [⟨.op a4 a3 0,53,4,[a0]⟩]),pw x0 a7 K2 m a6 a1=res->RC Tryz.prog (.loop df8) S (QR Tryz.prog [(2,some (4,true))] (RF80 res)) [(6,vi a6),(3,vi a7),(2,.op a4 a3 0),(1,.fp v0)] h:=by
 have a9:=b5;try simp only[qa]at a9
 have b0:=b6;try simp only[qa]at b0
 intro m;induction m with
 |zero=>
  intro a6 a1 a0 a2 c8 b2 h M0 s;rw[pw]at s;refine ck (am (sR (mV O (mV O (bN cn O O (nS ?_))))));refine ci O ?_ ?_<;>intro c<;>try simp only[qa]at c
  ·omega
  refine dg (dx (da ?_));exact wP (d1 a2 (Mem.sub M0 (.cons_cons _ .slnil)) s) O
 |succ m ih=>
  intro a6 a1 a0 a2 c8 b2 h M0 s;rw[pw]at s;refine ck (am (sR (mV O (mV O (bN cn O O (nS ?_))))));refine ci O ?_ ?_<;>intro c<;>try simp only[qa]at c
  rotate_left
  ·omega
  refine aw (aq (am (bg (sR (gL (aa.g_Tables r0) O O O λd4 c4=>(mV O ?_))))));obtain⟨d6,c7,b8⟩:=cv (i:=a6) c4 Y Y;refine ah (bd O O c7) (fL O (bz.g_Name b8) O O (gL (aa.g_Tables r0) O O O λd3 b7=>(mV O ?_)));obtain⟨d5,b9,c1⟩:=cv (i:=a7) b7 Y Y;refine ah (bd O O b9) (fL O (bz.g_Name c1) O O (ah (br (a:=vs ((ix x0.Tables a6).Name)) (b:=vs ((ix x0.Tables a7).Name)) O O tk) (nS ?_)));refine bv s O ?_ ?_<;>clear s<;>intro c s<;>try simp only[qa]at c
  ·refine sR (mV O ?_);obtain⟨d2,b3,s⟩:=bp s;obtain⟨b1,c5,a5⟩:=nw (x0:=7) (x1:=5) (x2:=a7) (x3:=0);rw[b3]at a5;refine cL c5 O O (aj O (aj O (aj O (aj O bc)))) ?_;refine cx (k:=0) (v:=b1) M0 O O O (TR.cnt af.t a5) (λc6 a8=>?_);replace a8:Mem c6 [⟨.op a4 a3 0,53,4,[b1]⟩]:=a8;refine nS ?_;subst s;exact fa (.cell O (dq (k:=0) a8 O (TR.agg af.t a5)) .nil) (cw (TR.clo af.t a5)) a5
  ·refine aw (db (aq (az (mV O (bN dw O O (mV O (cd (cy ?_))))))));have hinc:wr (a6+1)=a6+1:=cz Y Y;erw[hinc];exact wC (ih a2 Y Y (Mem.sub M0 (.cons_cons _ .slnil)) s) O
theorem ag0{S:List Fr}{res:af}{x0:aa}{v0:PV}{a5 a4:Nat}(r0:aa.t.R x0 v0)(d4:x0.Tables.length<=1000){K0:af->af}
 (d2:∀{a1:af}{a0:PV}(a2:af.t.R a1 a0){h:Heap}(M0:Mem h [⟨.op a5 a4 0,53,4,[a0]⟩]),K0 a1=res->PX Tryz.prog 0 S (QR Tryz.prog [(2,some (4,true))] (RF80 res)) [(2,.op a5 a4 0)] h):
 ∀{m:Nat}{a8:Int}{a1:af}{a0:PV}(a2:af.t.R a1 a0)(c9:m=Int.toNat ((x0.Tables.length:Int)-a8))(b2:0<=a8){h:Heap}(M0:Mem h [⟨.op a5 a4 0,53,4,[a0]⟩]),pu x0 K0 m a8 a1=res->RC Tryz.prog (.loop dd9) S (QR Tryz.prog [(2,some (4,true))] (RF80 res)) [(3,vi a8),(2,.op a5 a4 0),(1,.fp v0)] h:=by
 intro m;induction m with
 |zero=>
  intro a8 a1 a0 a2 c9 b2 h M0 s;rw[pu]at s;refine ck (am (sR (mV O (gL (aa.g_Tables r0) O O O λd5 c8=>(ah (co O (ca c8 Tryz.underlying26 _)) (bN cn O O (nS ?_)))))));refine ci O ?_ ?_<;>intro c<;>try simp only[qa]at c
  ·omega
  refine dg (dx (da ?_));exact wP (d2 a2 (Mem.sub M0 (.cons_cons _ .slnil)) s) O
 |succ m ih=>
  intro a8 a1 a0 a2 c9 b2 h M0 s;rw[pu]at s;refine ck (am (sR (mV O (gL (aa.g_Tables r0) O O O λd0 b6=>(ah (co O (ca b6 Tryz.underlying26 _)) (bN cn O O (nS ?_)))))));refine ci O (λa3=>?_) (λa3=>?_)
  ·have hgo:=s;have b3:=a3;try simp only[qa]at b3
   refine aw (aq (am (bg (sR (lD r0 O O O (mV O ?_))))));obtain⟨c1,a9,s⟩:=bp s;have c4:=dq8 (x1:=a8) r0;rw[a9]at c4;refine cL c4 O O (aj (TR.clo aa.t r0) (aj O bc)) (mV O (xT O O (xT O O (mV O (mV O (nS (am (sR ?_))))))));refine mV O (bN ie O O (nS ?_));refine bv s O ?_ ?_<;>clear s<;>intro b1 s<;>have b4:=b1<;>try simp only[qa]at b4
   ·refine sR (mV O (mV O (mV O ?_)));obtain⟨d3,b9,s⟩:=bp s;obtain⟨b8,c7,a6⟩:=nw (x0:=c1.2) (x1:=5) (x2:=a8) (x3:=c1.1);rw[b9]at a6;refine cL c7 O O (aj O (aj O (aj O (aj O bc)))) ?_;refine cx (k:=0) (v:=b8) M0 O O O (TR.cnt af.t a6) (λc6 b5=>?_);replace b5:Mem c6 [⟨.op a5 a4 0,53,4,[b8]⟩]:=b5;refine nS ?_;subst s;exact fa (.cell O (dq (k:=0) b5 O (TR.agg af.t a6)) .nil) (cw (TR.clo af.t a6)) a6
   ·refine aw (aq (sR (mI O (nS (bg ?_)))));refine wC (ah2 r0 d4 b2 a3 a9 b1 ?_ a2 O Y (Mem.sub M0 (.cons_cons _ .slnil)) s) O
    ·intro b0 b7 a7 d1 c5 s;refine ek (db (aq (az (mV O (bN dw O O (mV O (cd (cy ?_))))))));have hbd:=dn b6;have hinc:wr (a8+1)=a8+1:=cz Y Y;erw[hinc];exact wC (ih a7 Y Y (Mem.sub c5 (.cons_cons _ .slnil)) s) O
  ·exfalso;try simp only[qa]at a3
   omega
theorem el8{x0:aa}{v0:PV}(r0:aa.t.R x0 v0)(b0:x0.Tables.length<=1000):∃r,FnR Tryz.prog 80 [v0] r/\af.t.R (yq x0) r:=by
 refine fnT (R:=RF80) ep8 O λres s=>?_;unfold yq at s;refine sR (ah (di O (TR.cnt aa.t r0)) ?_);refine dv (x:= .agg [vi 0,vi 0,vi 0,vi 0]) (Mem.nil ⟨0,[]⟩) O O (λa8 a5 b1 a6=>?_);refine nS (am (sR (mI O (nS (bg ?_)))));refine wC (ag0 r0 b0 ?_ O O Y (Mem.sub a6 (.cons_cons _ .slnil)) s) O
 ·intro a1 a3 a2 a9 a7 s;refine ek (aq (sR (ah (v:= .agg [vi 0,vi 0,vi 0,vi 0]) (gm (cs:=[vi 0,vi 0,vi 0,vi 0]) O O) ?_)));refine cx (k:=0) (v:= .agg [vi 0,vi 0,vi 0,vi 0]) a7 O O O O (λa4 a0=>?_);replace a0:Mem a4 [⟨.op a8 a5 0,53,4,[.agg [vi 0,vi 0,vi 0,vi 0]]⟩]:=a0;refine nS ?_;subst s;exact fa (.cell O (dq (k:=0) a0 O O) .nil) (cw (TR.clo af.t (show af.t.R ({Code:=0,Part:=0,Item:=0,Sub:=0}:af) (.agg [vi 0,vi 0,vi 0,vi 0]) from O))) (show af.t.R ({Code:=0,Part:=0,Item:=0,Sub:=0}:af) (.agg [vi 0,vi 0,vi 0,vi 0]) from O)
end Go.Proofs.YtmonnlkagniolaaGreat
