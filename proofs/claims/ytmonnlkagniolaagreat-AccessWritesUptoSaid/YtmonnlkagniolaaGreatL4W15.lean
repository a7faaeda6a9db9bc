/-
 The code of each function does what its plain program says.
-/
import Derived.Test.YtmonnlkagniolaaGreatL4W14
set_option linter.all false
set_option maxRecDepth 100000
namespace Go.Proofs.YtmonnlkagniolaaGreat
open Go Go.Pb Go.RowKit
def RF24(res:Bool)(r:PV):Prop:=r=vb res
theorem yd{S:List Fr}{res:Bool}{x0:List (BitVec 32)}{x1:List (BitVec 32)}{v0 v1:PV}(r0:(tSl gv).R x0 v0)(r1:(tSl gv).R x1 v1)(a3:(!decide ((x0.length:Int)=(x1.length:Int)))=false){K0:Unit->Bool}
 (a5:K0 ()=res->PX Tryz.prog 0 S (QR Tryz.prog [(4,none)] (RF24 res)) [] ⟨0,[]⟩):
 ∀{m:Nat}{a0:Int}(a4:m=Int.toNat ((x0.length:Int)-a0))(a2:0<=a0),ji x0 x1 K0 m a0=res->RC Tryz.prog (.loop dp0) S (QR Tryz.prog [(4,none)] (RF24 res)) [(5,vi a0),(1,v1),(0,v0)] ⟨0,[]⟩:=by
 have a1:=a3;try simp only[qa]at a1
 intro m;induction m with
 |zero=>
  intro a0 a4 a2 s;rw[ji]at s;refine ck (am (sR (mV O (mV O (ah (co O (ca r0 Tryz.underlying43 _)) (bN cn O O (nS ?_)))))));refine ci O ?_ ?_<;>intro c<;>try simp only[qa]at c
  ·omega
  refine dg (dx (da ?_));exact wP (a5 s) O
 |succ m ih=>
  intro a0 a4 a2 s;rw[ji]at s;refine ck (am (sR (mV O (mV O (ah (co O (ca r0 Tryz.underlying43 _)) (bN cn O O (nS ?_)))))));refine ci O ?_ ?_<;>intro c<;>try simp only[qa]at c
  rotate_left
  ·omega
  refine aw (aq (am (bg (sR (mV O (mV O (ah (bd O O (af5 r0 Y Y)) (lR O O O ?_))))))));refine mV O (mV O (ah (bd O O (af5 r1 Y Y)) (lR O O O (ah (br (a:=de (ix x0 a0)) (b:=de (ix x1 a0)) O O bk6) (nS ?_)))));refine bv s O ?_ ?_<;>clear s<;>intro c s<;>try simp only[qa]at c
  ·refine sR (mB O (nS ?_));exact rR s O O O
  ·refine aw (db (aq (az (mV O (bN dw O O (mV O (cd (cy ?_))))))));have hbd:=dn r0;have hinc:wr (a0+1)=a0+1:=cz Y Y;erw[hinc];exact wC (ih Y Y s) O
theorem ek5{x0:List (BitVec 32)}{x1:List (BitVec 32)}{v0 v1:PV}(r0:(tSl gv).R x0 v0)(r1:(tSl gv).R x1 v1):FnR Tryz.prog 24 [v0,v1] (vb (oe x0 x1)):=by
 refine fnS (R:=RF24) ek1 (λ_ h=>h) O λres s=>?_;unfold oe at s;refine sR (mB O (nS (am (sR (mV O (ah (co O (ca r0 Tryz.underlying43 _)) (mV O (ah (co O (ca r1 Tryz.underlying43 _)) ?_))))))));refine bN ie O O (nS ?_);refine bv s O ?_ ?_<;>clear s<;>intro a0 s<;>have a1:=a0<;>try simp only[qa]at a1
 ·refine sR (mB O (nS ?_));exact rR s O O O
 ·refine aw (aq (am (sR (mI O (nS (bg ?_))))));refine wC (yd r0 r1 a0 ?_ O Y s) O
  ·intro s;refine ek (aq (sR (mB O (nS ?_))));exact rR s O O O
def RF26(res:Bool)(r:PV):Prop:=r=vb res
theorem ae4{S:List Fr}{res:Bool}{x0:aa}{x1:ax}{x2:ax}{x3:List Int}{a1:Int}{b1 b0:Bool}{v0 v1 v2 v3:PV}(r0:aa.t.R x0 v0)(r1:ax.t.R x1 v1)(r2:ax.t.R x2 v2)(r3:(tSl tI).R x3 v3)(d8:0<=a1)(b7:(decide (a1 < (x0.Headers.length:Int)))=true)(d6:lp x1 a1=b1)(d7:lp x2 a1=b0)(a9:((!decide (b1=b0))&&(!(gu x3 (ga x0 a1))))=false){K2:Unit->Bool}
 (d9:∀{h:Heap}(M0:Mem h []),K2 ()=res->PX Tryz.prog 2 S (QR Tryz.prog [(8,none)] (RF26 res)) [(3,v3),(4,.fp v0),(5,.fp v1),(6,.fp v2),(9,vi a1)] h):
 ∀{m:Nat}{a0:Int}(d5:m=Int.toNat ((((ix x0.Headers a1).Fields).length:Int)-a0))(b3:0<=a0){h:Heap}(M0:Mem h []),km x0 x1 x2 x3 a1 K2 m a0=res->RC Tryz.prog (.loop dk8) S (QR Tryz.prog [(8,none)] (RF26 res)) [(10,vi a0),(9,vi a1),(6,.fp v2),(5,.fp v1),(4,.fp v0),(3,v3)] h:=by
 have a6:=b7;try simp only[qa]at a6
 have a3:=a9;try simp only[qa]at a3
 intro m;induction m with
 |zero=>
  intro a0 d5 b3 h M0 s;rw[km]at s;refine ck (am (sR (mV O (gL (aa.g_Headers r0) O O O λe2 c5=>(mV O ?_)))));obtain⟨e1,c6,c9⟩:=cv (i:=a1) c5 Y Y;refine ah (bd O O c6) (gL (bm.g_Fields c9) O O O λe3 d4=>(ah (co O (ca d4 Tryz.underlying23 _)) (bN cn O O (nS ?_))));refine ci O ?_ ?_<;>intro c<;>try simp only[qa]at c
  ·omega
  refine dg (dx (da ?_));exact wP (d9 (Mem.sub M0 .slnil) s) O
 |succ m ih=>
  intro a0 d5 b3 h M0 s;rw[km]at s;refine ck (am (sR (mV O (gL (aa.g_Headers r0) O O O λe6 c1=>(mV O ?_)))));obtain⟨e0,d3,c8⟩:=cv (i:=a1) c1 Y Y;refine ah (bd O O d3) (gL (bm.g_Fields c8) O O O λe4 b4=>(ah (co O (ca b4 Tryz.underlying23 _)) (bN cn O O (nS ?_))));refine ci O ?_ ?_<;>intro c<;>try simp only[qa]at c
  rotate_left
  ·omega
  refine aw (aq (am (bg (sR (mV O (mV O (ah (v:= .agg [vi a1,vi a0]) (gm (cs:=[vi a1,vi a0]) O O) ?_)))))));refine dv (x:= .agg [vi 0,vi 0]) M0 O O (λb9 c4 e5 d2=>?_);refine cx (k:=0) (v:= .agg [vi a1,vi a0]) d2 O O O O (λd1 a2=>?_);replace a2:Mem d1 [⟨.op b9 c4 0,87,2,[.agg [vi a1,vi a0]]⟩]:=a2;refine nR (lD r1 O O O (ah (gx (k:=0) a2 O O O) ?_));obtain⟨a5,b6,s⟩:=bp s;have b2:=ay0 r1 (show ae.t.R ({Header:=a1,Field:=a0}:ae) (.agg [vi a1,vi a0]) from O);rw[b6]at b2;refine cL b2 O O (aj (TR.clo ax.t r1) (aj (TR.clo ae.t (show ae.t.R ({Header:=a1,Field:=a0}:ae) (.agg [vi a1,vi a0]) from O)) bc)) (lD r2 O O O (ah (gx (k:=0) a2 O O O) ?_));obtain⟨a7,b5,s⟩:=bp s;have a8:=ay0 r2 (show ae.t.R ({Header:=a1,Field:=a0}:ae) (.agg [vi a1,vi a0]) from O);rw[b5]at a8;refine cL a8 O O (aj (TR.clo ax.t r2) (aj (TR.clo ae.t (show ae.t.R ({Header:=a1,Field:=a0}:ae) (.agg [vi a1,vi a0]) from O)) bc)) (ah (br (a:=de a5) (b:=de a7) O O bk6) (mV O ?_));refine bw 7 (d:=64) (v:=vb ((!decide (a5=a7))&&(!(gu x3 (fd x0 ({Header:=a1,Field:=a0}:ae)))))) ?_ ?_
  ·intro S Q r;cases b8:(!decide (a5=a7))
   ·exact gN 6 O O O O O O
   ·intro k;have a4:=b8;try simp only[qa]at a4
    refine ai O O (ba O) (ai O O (bq O (TR.cnt aa.t r0) (TR.agg aa.t r0)) (ai O O (gx (k:=0) a2 O O O) ?_));have d0:=bs0 r0 (show ae.t.R ({Header:=a1,Field:=a0}:ae) (.agg [vi a1,vi a0]) from O);refine ik O O (og O O (aj (TR.clo aa.t r0) (aj (TR.clo ae.t (show ae.t.R ({Header:=a1,Field:=a0}:ae) (.agg [vi a1,vi a0]) from O)) bc)) d0) ?_;have c7:=av2 (x1:=(fd x0 ({Header:=a1,Field:=a0}:ae))) r3;refine ik O O (og O O (aj (TR.clo (tSl tI) r3) (aj O bc)) c7) (ai O O (fw O) ?_);exact gK O O O O O k
  refine nS ?_;refine bv s O ?_ ?_<;>clear s<;>intro c s<;>try simp only[qa]at c
  ·refine sR (mB O (nS ?_));exact rR s O O O
  ·refine aw (db (aq (az (mV O (bN dw O O (mV O (cd (cy ?_))))))));have hbd:=dn b4;have hinc:wr (a0+1)=a0+1:=cz Y Y;erw[hinc];exact wC (ih Y Y (Mem.sub a2 (.cons _ .slnil)) s) O
theorem ae1{S:List Fr}{res:Bool}{x0:aa}{x1:ax}{x2:ax}{x3:List Int}{v0 v1 v2 v3:PV}(r0:aa.t.R x0 v0)(r1:ax.t.R x1 v1)(r2:ax.t.R x2 v2)(r3:(tSl tI).R x3 v3){K0:Unit->Bool}
 (c5:∀{h:Heap}(M0:Mem h []),K0 ()=res->PX Tryz.prog 0 S (QR Tryz.prog [(8,none)] (RF26 res)) [(3,v3),(4,.fp v0),(5,.fp v1),(6,.fp v2)] h):
 ∀{m:Nat}{a1:Int}(b9:m=Int.toNat ((x0.Headers.length:Int)-a1))(a5:0<=a1){h:Heap}(M0:Mem h []),kf x0 x1 x2 x3 K0 m a1=res->RC Tryz.prog (.loop dg2) S (QR Tryz.prog [(8,none)] (RF26 res)) [(9,vi a1),(6,.fp v2),(5,.fp v1),(4,.fp v0),(3,v3)] h:=by
 intro m;induction m with
 |zero=>
  intro a1 b9 a5 h M0 s;rw[kf]at s;refine ck (am (sR (mV O (gL (aa.g_Headers r0) O O O λc1 b7=>(ah (co O (ca b7 Tryz.underlying22 _)) (bN cn O O (nS ?_)))))));refine ci O ?_ ?_<;>intro c<;>try simp only[qa]at c
  ·omega
  refine dg (dx (da ?_));exact wP (c5 (Mem.sub M0 .slnil) s) O
 |succ m ih=>
  intro a1 b9 a5 h M0 s;rw[kf]at s;refine ck (am (sR (mV O (gL (aa.g_Headers r0) O O O λc6 b4=>(ah (co O (ca b4 Tryz.underlying22 _)) (bN cn O O (nS ?_)))))));refine ci O (λa0=>?_) (λa0=>?_)
  ·have hgo:=s;have a7:=a0;try simp only[qa]at a7
   refine aw (aq (am (bg (am (sR (lD r1 O O O (mV O ?_)))))));obtain⟨b0,a3,s⟩:=bp s;have b2:=bf8 (x1:=a1) r1;rw[a3]at b2;refine cL b2 O O (aj (TR.clo ax.t r1) (aj O bc)) (lD r2 O O O (mV O ?_));obtain⟨a9,a4,s⟩:=bp s;have b3:=bf8 (x1:=a1) r2;rw[a4]at b3;refine cL b3 O O (aj (TR.clo ax.t r2) (aj O bc)) (bN (bk0 (by rw[Tryz.underlying4];rfl)) O O (mV O ?_));refine bw 7 (d:=35) (v:=vb ((!decide (b0=a9))&&(!(gu x3 (ga x0 a1))))) ?_ ?_
   ·intro S Q r;cases b1:(!decide (b0=a9))
    ·exact gN 6 O O O O O O
    ·intro k;have a8:=b1;try simp only[qa]at a8
     refine ai O O (ba O) (ai O O (bq O (TR.cnt aa.t r0) (TR.agg aa.t r0)) (ai O O (ba O) ?_));have b6:=cu8 (x1:=a1) r0;refine ik O O (og O O (aj (TR.clo aa.t r0) (aj O bc)) b6) ?_;have b8:=av2 (x1:=(ga x0 a1)) r3;refine ik O O (og O O (aj (TR.clo (tSl tI) r3) (aj O bc)) b8) (ai O O (fw O) ?_);exact gK O O O O O k
   refine nS ?_;refine bv s O ?_ ?_<;>clear s<;>intro a2 s<;>have a6:=a2<;>try simp only[qa]at a6
   ·refine sR (mB O (nS ?_));exact rR s O O O
   ·refine aw (aq (sR (mI O (nS (bg ?_)))));refine wC (ae4 r0 r1 r2 r3 a5 a0 a3 a4 a2 ?_ O Y (Mem.sub M0 .slnil) s) O
    ·intro c4 b5 s;refine ek (db (aq (az (mV O (bN dw O O (mV O (cd (cy ?_))))))));have hbd:=dn b4;have hinc:wr (a1+1)=a1+1:=cz Y Y;erw[hinc];exact wC (ih Y Y (Mem.sub b5 .slnil) s) O
  ·exfalso;try simp only[qa]at a0
   omega
theorem ad7{S:List Fr}{res:Bool}{x0:aa}{x1:ax}{x2:ax}{x3:List Int}{v0 v1 v2 v3:PV}(r0:aa.t.R x0 v0)(r1:ax.t.R x1 v1)(r2:ax.t.R x2 v2)(r3:(tSl tI).R x3 v3){K4:Unit->Bool}
 (c7:∀{h:Heap}(M0:Mem h []),K4 ()=res->PX Tryz.prog 4 S (QR Tryz.prog [(8,none)] (RF26 res)) [] h):
 ∀{m:Nat}{a0:Int}(c4:m=Int.toNat ((x0.Metadata.length:Int)-a0))(a8:0<=a0){h:Heap}(M0:Mem h []),ke x0 x1 x2 x3 K4 m a0=res->RC Tryz.prog (.loop dp5) S (QR Tryz.prog [(8,none)] (RF26 res)) [(12,vi a0),(6,.fp v2),(5,.fp v1),(4,.fp v0),(3,v3)] h:=by
 intro m;induction m with
 |zero=>
  intro a0 c4 a8 h M0 s;rw[ke]at s;refine ck (am (sR (mV O ?_)));obtain⟨c6,b8,a9⟩:=aa.g_Metadata r0;refine fA O b8 (lD a9 O O O (ah (co O (ca a9 Tryz.underlying23 _)) (bN cn O O (nS ?_))));refine ci O ?_ ?_<;>intro c<;>try simp only[qa]at c
  ·omega
  refine dg (dx (da ?_));exact wP (c7 (Mem.sub M0 .slnil) s) O
 |succ m ih=>
  intro a0 c4 a8 h M0 s;rw[ke]at s;refine ck (am (sR (mV O ?_)));obtain⟨c8,b6,a5⟩:=aa.g_Metadata r0;refine fA O b6 (lD a5 O O O (ah (co O (ca a5 Tryz.underlying23 _)) (bN cn O O (nS ?_))));refine ci O ?_ ?_<;>intro c<;>try simp only[qa]at c
  rotate_left
  ·omega
  refine aw (aq (am (bg (sR (mV O (ah (v:= .agg [vi (-1),vi a0]) (gm (cs:=[vi (-1),vi a0]) O O) ?_))))));refine dv (x:= .agg [vi 0,vi 0]) M0 O O (λb7 b4 c5 b5=>?_);refine cx (k:=0) (v:= .agg [vi (-1),vi a0]) b5 O O O O (λc1 a1=>?_);replace a1:Mem c1 [⟨.op b7 b4 0,87,2,[.agg [vi (-1),vi a0]]⟩]:=a1;refine nR (lD r1 O O O (ah (gx (k:=0) a1 O O O) ?_));obtain⟨a2,b1,s⟩:=bp s;have a7:=ay0 r1 (show ae.t.R ({Header:=(-1),Field:=a0}:ae) (.agg [vi (-1),vi a0]) from O);rw[b1]at a7;refine cL a7 O O (aj (TR.clo ax.t r1) (aj (TR.clo ae.t (show ae.t.R ({Header:=(-1),Field:=a0}:ae) (.agg [vi (-1),vi a0]) from O)) bc)) (lD r2 O O O (ah (gx (k:=0) a1 O O O) ?_));obtain⟨a3,b2,s⟩:=bp s;have b0:=ay0 r2 (show ae.t.R ({Header:=(-1),Field:=a0}:ae) (.agg [vi (-1),vi a0]) from O);rw[b2]at b0;refine cL b0 O O (aj (TR.clo ax.t r2) (aj (TR.clo ae.t (show ae.t.R ({Header:=(-1),Field:=a0}:ae) (.agg [vi (-1),vi a0]) from O)) bc)) (ah (br (a:=de a2) (b:=de a3) O O bk6) (mV O ?_));refine bw 7 (d:=88) (v:=vb ((!decide (a2=a3))&&(!(gu x3 (fd x0 ({Header:=(-1),Field:=a0}:ae)))))) ?_ ?_
  ·intro S Q r;cases a6:(!decide (a2=a3))
   ·exact gN 6 O O O O O O
   ·intro k;have a4:=a6;try simp only[qa]at a4
    refine ai O O (ba O) (ai O O (bq O (TR.cnt aa.t r0) (TR.agg aa.t r0)) (ai O O (gx (k:=0) a1 O O O) ?_));have b3:=bs0 r0 (show ae.t.R ({Header:=(-1),Field:=a0}:ae) (.agg [vi (-1),vi a0]) from O);refine ik O O (og O O (aj (TR.clo aa.t r0) (aj (TR.clo ae.t (show ae.t.R ({Header:=(-1),Field:=a0}:ae) (.agg [vi (-1),vi a0]) from O)) bc)) b3) ?_;have b9:=av2 (x1:=(fd x0 ({Header:=(-1),Field:=a0}:ae))) r3;refine ik O O (og O O (aj (TR.clo (tSl tI) r3) (aj O bc)) b9) (ai O O (fw O) ?_);exact gK O O O O O k
  refine nS ?_;refine bv s O ?_ ?_<;>clear s<;>intro c s<;>try simp only[qa]at c
  ·refine sR (mB O (nS ?_));exact rR s O O O
  ·refine aw (db (aq (az (mV O (bN dw O O (mV O (cd (cy ?_))))))));have hbd:=dn a5;have hinc:wr (a0+1)=a0+1:=cz Y Y;erw[hinc];exact wC (ih Y Y (Mem.sub a1 (.cons _ .slnil)) s) O
theorem ek3{x0:aa}{x1:ax}{x2:ax}{x3:List Int}{v0 v1 v2 v3:PV}(r0:aa.t.R x0 v0)(r1:ax.t.R x1 v1)(r2:ax.t.R x2 v2)(r3:(tSl tI).R x3 v3):FnR Tryz.prog 26 [v0,v1,v2,v3] (vb (si x0 x1 x2 x3)):=by
 refine fnS (R:=RF26) ej9 (λ_ h=>h) O λres s=>?_;unfold si at s;refine sR (ah (di O (TR.cnt aa.t r0)) (ah (di O (TR.cnt ax.t r1)) (ah (di O (TR.cnt ax.t r2)) (mB O (nS (am (sR (mI O ?_))))))));refine nS (bg ?_);refine wC (ae1 r0 r1 r2 r3 ?_ O Y (Mem.sub (Mem.nil ⟨0,[]⟩) .slnil) s) O
 ·intro a2 a0 s;refine ek (aq (am (sR (mI O (nS (bg ?_))))));refine wC (ad7 r0 r1 r2 r3 ?_ O Y (Mem.sub a0 .slnil) s) O
  ·intro a1 a3 s;refine ek (aq (sR (mB O (nS ?_))));exact rR s O O O
def RF4(res:Bool)(r:PV):Prop:=r=vb res
theorem xr{S:List Fr}{res:Bool}{x0:aa}{x1:Int}{x2:dj}{a7:Bool}{v0 v2:PV}(r0:aa.t.R x0 v0)(r2:dj.t.R x2 v2)(hs:csl x0.Control<=1048576)(hE:EB x2.Env)(hR:RB x2.Registers)(b6:jk x0=a7)(a6:((((((((a7||(decide (x1 < 0)))||(decide ((x0.Tables.length:Int)<=x1)))||(decide (600 < (x2.Env.Payload.length:Int))))||(decide (10 < (x2.Call.Args.length:Int))))||(!decide (((lk x0).Code)=0)))||(!decide ((mr x0 x2.Env)=0)))||(!(gu ((ix x0.Tables x1).Actions) x2.Call.Action)))||(!decide ((x2.Registers.length:Int)=(x0.Registers.length:Int))))=false){K0:Unit->Bool}
 (c5:K0 ()=res->PX Tryz.prog 0 S (QR Tryz.prog [(6,none)] (RF4 res)) [(1,vi x1),(3,.fp v0),(5,.fp v2)] ⟨0,[]⟩):
 ∀{m:Nat}{a0:Int}(b5:m=Int.toNat ((x2.Registers.length:Int)-a0))(a2:0<=a0),im x0 x2 K0 m a0=res->RC Tryz.prog (.loop ei3) S (QR Tryz.prog [(6,none)] (RF4 res)) [(7,vi a0),(5,.fp v2),(3,.fp v0),(1,vi x1)] ⟨0,[]⟩:=by
 have a1:=a6;try simp only[qa]at a1
 intro m;induction m with
 |zero=>
  intro a0 b5 a2 s;rw[im]at s;refine ck (am (sR (mV O (gL (dj.g_Registers r2) O O O λb9 a9=>(ah (co O (ca a9 Tryz.underlying42 _)) (bN cn O O (nS ?_)))))));refine ci O ?_ ?_<;>intro c<;>try simp only[qa]at c
  ·omega
  refine dg (dx (da ?_));exact wP (c5 s) O
 |succ m ih=>
  intro a0 b5 a2 s;rw[im]at s;refine ck (am (sR (mV O (gL (dj.g_Registers r2) O O O λb8 a5=>(ah (co O (ca a5 Tryz.underlying42 _)) (bN cn O O (nS ?_)))))));refine ci O ?_ ?_<;>intro c<;>try simp only[qa]at c
  rotate_left
  ·omega
  refine aw (aq (am (bg (sR (gL (dj.g_Registers r2) O O O λc1 b4=>(mV O ?_))))));obtain⟨c6,b1,a4⟩:=cv (i:=a0) b4 Y Y;refine ah (bd O O b1) (lD a4 O O O (ah (co O (ca a4 Tryz.underlying43 _)) (gL (aa.g_Registers r0) O O O λb7 b3=>(mV O ?_))));obtain⟨c7,b2,b0⟩:=cv (i:=a0) b3 Y Y;refine ah (bd O O b2) (fL O (cj.g_Size b0) O O (bN ie O O (nS ?_)));refine bv s O ?_ ?_<;>clear s<;>intro c s<;>try simp only[qa]at c
  ·refine sR ?_;obtain⟨c4,a8,s⟩:=bp s;have a3:=bq3;rw[a8]at a3;refine cL a3 O O bc (mV O (nS ?_));exact rR s O O O
  ·refine aw (db (aq (az (mV O (bN dw O O (mV O (cd (cy ?_))))))));have hbd:=dn a5;have hinc:wr (a0+1)=a0+1:=cz Y Y;erw[hinc];exact wC (ih Y Y s) O
theorem xm{S:List Fr}{res:Bool}{x0:aa}{x1:Int}{x2:dj}{c1:Bool}{a5:(List Int)}{a1:ax×(List (List (BitVec 32)))}{v0 v2 a9 b3 b9:PV}{a2 a3:Nat}(r0:aa.t.R x0 v0)(r2:dj.t.R x2 v2)(hs:csl x0.Control<=1048576)(hE:EB x2.Env)(hR:RB x2.Registers)(d2:jk x0=c1)(b8:((((((((c1||(decide (x1 < 0)))||(decide ((x0.Tables.length:Int)<=x1)))||(decide (600 < (x2.Env.Payload.length:Int))))||(decide (10 < (x2.Call.Args.length:Int))))||(!decide (((lk x0).Code)=0)))||(!decide ((mr x0 x2.Env)=0)))||(!(gu ((ix x0.Tables x1).Actions) x2.Call.Action)))||(!decide ((x2.Registers.length:Int)=(x0.Registers.length:Int))))=false)(d1:mn x0 ({Table:=x1,Cond:=([]:List ak),Guards:=([]:List oz)}:ia)=a5)(b4:(tSl tI).R a5 a9)(d3:jm x0 x2.Call x2.Env x2.Registers=a1)(a4:(tSl (tSl gv)).R a1.2 b9)(d0:a1.2.length=x2.Registers.length){K2:Unit->Bool}
 (d4:∀{h:Heap}(M0:Mem h [⟨.op a2 a3 0,46,4,[b3]⟩]),K2 ()=res->PX Tryz.prog 2 S (QR Tryz.prog [(6,none)] (RF4 res)) [(3,.fp v0),(5,.fp v2),(8,a9),(9,.op a2 a3 0)] h):
 ∀{m:Nat}{a0:Int}(c9:m=Int.toNat ((a1.2.length:Int)-a0))(b6:0<=a0){h:Heap}(M0:Mem h [⟨.op a2 a3 0,46,4,[b3]⟩]),ip x0 x2 a5 a1 K2 m a0=res->RC Tryz.prog (.loop es7) S (QR Tryz.prog [(6,none)] (RF4 res)) [(11,vi a0),(10,b9),(9,.op a2 a3 0),(8,a9),(5,.fp v2),(3,.fp v0)] h:=by
 have b0:=b8;try simp only[qa]at b0
 intro m;induction m with
 |zero=>
  intro a0 c9 b6 h M0 s;rw[ip]at s;refine ck (am (sR (mV O (mV O (ah (co O (ca a4 Tryz.underlying42 _)) (bN cn O O (nS ?_)))))));refine ci O ?_ ?_<;>intro c<;>try simp only[qa]at c
  ·omega
  refine dg (dx (da ?_));exact wP (d4 (Mem.sub M0 (.cons_cons _ .slnil)) s) O
 |succ m ih=>
  intro a0 c9 b6 h M0 s;rw[ip]at s;refine ck (am (sR (mV O (mV O (ah (co O (ca a4 Tryz.underlying42 _)) (bN cn O O (nS ?_)))))));refine ci O ?_ ?_<;>intro c<;>try simp only[qa]at c
  rotate_left
  ·omega
  refine aw (aq (am (bg (sR (mV O (mV O ?_))))));obtain⟨d5,c8,a6⟩:=cv (i:=a0) a4 Y Y;refine ah (bd O O c8) (lD a6 O O O (gL (dj.g_Registers r2) O O O λd7 c7=>(mV O ?_)));obtain⟨d6,c4,a8⟩:=cv (i:=a0) c7 Y Y;refine ah (bd O O c4) (lD a8 O O O ?_);obtain⟨b1,b7,s⟩:=bp s;have b5:=ek5 a6 a8;rw[b7]at b5;refine cL b5 O O (aj (TR.clo (tSl gv) a6) (aj (TR.clo (tSl gv) a8) bc)) (ah (fw O) (mV O ?_));refine bw 7 (d:=135) (v:=vb ((!b1)&&(!(gu a5 (fk x0 a0))))) ?_ ?_
  ·intro S Q r;cases b2:(!b1)
   ·exact gN 6 O O O O O O
   ·intro k;have a7:=b2;try simp only[qa]at a7
    refine ai O O (ba O) (ai O O (bq O (TR.cnt aa.t r0) (TR.agg aa.t r0)) (ai O O (ba O) ?_));have c6:=cl4 (x1:=a0) r0;refine ik O O (og O O (aj (TR.clo aa.t r0) (aj O bc)) c6) ?_;have c5:=av2 (x1:=(fk x0 a0)) b4;refine ik O O (og O O (aj (TR.clo (tSl tI) b4) (aj O bc)) c5) (ai O O (fw O) ?_);exact gK O O O O O k
  refine nS ?_;refine bv s O ?_ ?_<;>clear s<;>intro c s<;>try simp only[qa]at c
  ·refine sR (mB O (nS ?_));exact rR s O O O
  ·refine aw (db (aq (az (mV O (bN dw O O (mV O (cd (cy ?_))))))));have hbd:=dn a4;have hinc:wr (a0+1)=a0+1:=cz Y Y;erw[hinc];exact wC (ih Y Y (Mem.sub M0 (.cons_cons _ .slnil)) s) O
theorem fc7{x0:aa}{x1:Int}{x2:dj}{v0 v2:PV}(r0:aa.t.R x0 v0)(r2:dj.t.R x2 v2)(hs:csl x0.Control<=1048576)(hE:EB x2.Env)(hR:RB x2.Registers):FnR Tryz.prog 4 [v0,vi x1,v2] (vb (nk x0 x1 x2)):=by
 refine fnS (R:=RF4) ew9 (λ_ h=>h) O λres s=>?_;unfold nk at s;refine sR (ah (di O (TR.cnt aa.t r0)) (ah (di O (TR.cnt dj.t r2)) (mB O (nS (am (sR (lD r0 O O O ?_)))))));obtain⟨a0,a2,s⟩:=bp s;have d4:=ee3 r0;rw[a2]at d4;refine cL d4 O O (aj (TR.clo aa.t r0) bc) (mV O ?_);refine bw 3 (d:=17) (v:=vb (a0||(decide (x1 < 0)))) ?_ ?_
 ·intro S Q r;cases e1:a0
  ·intro k;have b3:=e1;try simp only[qa]at b3
   refine ai O O (ba O) (ai O O (br O O cn) ?_);exact gK O O O O O k
  ·exact gN 2 O O O O O O
 refine mV O ?_;refine bw 6 (d:=24) (v:=vb ((a0||(decide (x1 < 0)))||(decide ((x0.Tables.length:Int)<=x1)))) ?_ ?_
 ·intro S Q r;cases d5:(a0||(decide (x1 < 0)))
  ·intro k;have b2:=d5;try simp only[qa]at b2
   refine ai O O (ba O) ?_;obtain⟨i9,f2,c1⟩:=aa.g_Tables r0;refine ai O O (bt O f2) (ai O O (bq O (TR.cnt (tSl bz.t) c1) (TR.agg (tSl bz.t) c1)) (ai O O (co O (ca c1 Tryz.underlying26 _)) (ai O O (br O O iz) ?_)));exact gK O O O O O k
  ·exact gN 5 O O O O O O
 refine mV O ?_;refine bw 6 (d:=31) (v:=vb (((a0||(decide (x1 < 0)))||(decide ((x0.Tables.length:Int)<=x1)))||(decide (600 < (x2.Env.Payload.length:Int))))) ?_ ?_
 ·intro S Q r;cases e8:((a0||(decide (x1 < 0)))||(decide ((x0.Tables.length:Int)<=x1)))
  ·intro k;have c8:=e8;try simp only[qa]at c8
   obtain⟨j4,g4,g9⟩:=dj.g_Env r2;refine ai O O (bt O g4) ?_;obtain⟨k3,h5,b4⟩:=ax.g_Payload g9;refine ai O O (bt O h5) (ai O O (bq O (TR.cnt (tSl tU8) b4) (TR.agg (tSl tU8) b4)) (ai O O (co O (ca b4 Tryz.underlying44 _)) (ai O O (br O O fu) ?_)));exact gK O O O O O k
  ·exact gN 5 O O O O O O
 refine mV O ?_;refine bw 6 (d:=38) (v:=vb ((((a0||(decide (x1 < 0)))||(decide ((x0.Tables.length:Int)<=x1)))||(decide (600 < (x2.Env.Payload.length:Int))))||(decide (10 < (x2.Call.Args.length:Int))))) ?_ ?_
 ·intro S Q r;cases d7:(((a0||(decide (x1 < 0)))||(decide ((x0.Tables.length:Int)<=x1)))||(decide (600 < (x2.Env.Payload.length:Int))))
  ·intro k;have b0:=d7;try simp only[qa]at b0
   obtain⟨i6,g1,f3⟩:=dj.g_Call r2;refine ai O O (bt O g1) ?_;obtain⟨j8,f8,b5⟩:=cp.g_Args f3;refine ai O O (bt O f8) (ai O O (bq O (TR.cnt (tSl gv) b5) (TR.agg (tSl gv) b5)) (ai O O (co O (ca b5 Tryz.underlying43 _)) (ai O O (br O O fu) ?_)));exact gK O O O O O k
  ·exact gN 5 O O O O O O
 refine mV O ?_;refine bw 5 (d:=44) (v:=vb (((((a0||(decide (x1 < 0)))||(decide ((x0.Tables.length:Int)<=x1)))||(decide (600 < (x2.Env.Payload.length:Int))))||(decide (10 < (x2.Call.Args.length:Int))))||(!decide (((lk x0).Code)=0)))) ?_ ?_
 ·intro S Q r;cases f1:((((a0||(decide (x1 < 0)))||(decide ((x0.Tables.length:Int)<=x1)))||(decide (600 < (x2.Env.Payload.length:Int))))||(decide (10 < (x2.Call.Args.length:Int))))
  ·intro k;have c5:=f1;try simp only[qa]at c5
   refine ai O O (bq O (TR.cnt aa.t r0) (TR.agg aa.t r0)) ?_;obtain⟨i5,f6,f9⟩:=es8 r0 (by first|assumption|omega|exact tlb OY OY|exact tlb OY (And.left OY)|exact tlb OY (And.left (And.left OY))|exact tlb OY (And.left (And.left (And.left OY)))|exact tlb OY (And.left (And.left (And.left (And.left OY))))|exact tlb OY (And.left (And.left (And.left (And.left (And.left OY)))))|exact tlb OY (And.left (And.left (And.left (And.left (And.left (And.left OY))))))|exact tlb OY (And.left (And.left (And.left (And.left (And.left (And.left (And.left OY)))))))|exact tlb OY (And.left (And.left (And.left (And.left (And.left (And.left (And.left (And.left OY))))))))|exact tlAB OY OY|exact tlAB OY (And.left OY)|exact tlAB OY (And.left (And.left OY))|exact tlAB OY (And.left (And.left (And.left OY)))|exact tlAB OY (And.left (And.left (And.left (And.left OY))))|exact tlAB OY (And.left (And.left (And.left (And.left (And.left OY)))))|exact tlAB OY (And.left (And.left (And.left (And.left (And.left (And.left OY))))))|exact tlAB OY (And.left (And.left (And.left (And.left (And.left (And.left (And.left OY)))))))|exact tlAB OY (And.left (And.left (And.left (And.left (And.left (And.left (And.left (And.left OY))))))))|(have hk:=tlb OY OY;have a1:=hk.hh;omega)|(have hk:=tlb OY (And.left OY);have a1:=hk.hh;omega)|(have hk:=tlb OY (And.left (And.left OY));have a1:=hk.hh;omega)|(have hk:=tlb OY (And.left (And.left (And.left OY)));have a1:=hk.hh;omega)|(have hk:=tlb OY (And.left (And.left (And.left (And.left OY))));have a1:=hk.hh;omega)|(have hk:=tlb OY (And.left (And.left (And.left (And.left (And.left OY)))));have a1:=hk.hh;omega)|(have hk:=tlb OY (And.left (And.left (And.left (And.left (And.left (And.left OY))))));have a1:=hk.hh;omega)|(have hk:=tlb OY (And.left (And.left (And.left (And.left (And.left (And.left (And.left OY)))))));have a1:=hk.hh;omega)|(have hk:=tlb OY (And.left (And.left (And.left (And.left (And.left (And.left (And.left (And.left OY))))))));have a1:=hk.hh;omega)) (by first|assumption|omega|exact tlb OY OY|exact tlb OY (And.left OY)|exact tlb OY (And.left (And.left OY))|exact tlb OY (And.left (And.left (And.left OY)))|exact tlb OY (And.left (And.left (And.left (And.left OY))))|exact tlb OY (And.left (And.left (And.left (And.left (And.left OY)))))|exact tlb OY (And.left (And.left (And.left (And.left (And.left (And.left OY))))))|exact tlb OY (And.left (And.left (And.left (And.left (And.left (And.left (And.left OY)))))))|exact tlb OY (And.left (And.left (And.left (And.left (And.left (And.left (And.left (And.left OY))))))))|exact tlAB OY OY|exact tlAB OY (And.left OY)|exact tlAB OY (And.left (And.left OY))|exact tlAB OY (And.left (And.left (And.left OY)))|exact tlAB OY (And.left (And.left (And.left (And.left OY))))|exact tlAB OY (And.left (And.left (And.left (And.left (And.left OY)))))|exact tlAB OY (And.left (And.left (And.left (And.left (And.left (And.left OY))))))|exact tlAB OY (And.left (And.left (And.left (And.left (And.left (And.left (And.left OY)))))))|exact tlAB OY (And.left (And.left (And.left (And.left (And.left (And.left (And.left (And.left OY))))))))|(have hk:=tlb OY OY;have a1:=hk.hh;omega)|(have hk:=tlb OY (And.left OY);have a1:=hk.hh;omega)|(have hk:=tlb OY (And.left (And.left OY));have a1:=hk.hh;omega)|(have hk:=tlb OY (And.left (And.left (And.left OY)));have a1:=hk.hh;omega)|(have hk:=tlb OY (And.left (And.left (And.left (And.left OY))));have a1:=hk.hh;omega)|(have hk:=tlb OY (And.left (And.left (And.left (And.left (And.left OY)))));have a1:=hk.hh;omega)|(have hk:=tlb OY (And.left (And.left (And.left (And.left (And.left (And.left OY))))));have a1:=hk.hh;omega)|(have hk:=tlb OY (And.left (And.left (And.left (And.left (And.left (And.left (And.left OY)))))));have a1:=hk.hh;omega)|(have hk:=tlb OY (And.left (And.left (And.left (And.left (And.left (And.left (And.left (And.left OY))))))));have a1:=hk.hh;omega));refine ik O O (og O O (aj (TR.clo aa.t r0) bc) f6) (ai O O (bm0 O (af.g_Code f9)) (ai O O (br O O ie) ?_));exact gK O O O O O k
  ·exact gN 4 O O O O O O
 refine mV O ?_;refine bw 6 (d:=51) (v:=vb ((((((a0||(decide (x1 < 0)))||(decide ((x0.Tables.length:Int)<=x1)))||(decide (600 < (x2.Env.Payload.length:Int))))||(decide (10 < (x2.Call.Args.length:Int))))||(!decide (((lk x0).Code)=0)))||(!decide ((mr x0 x2.Env)=0)))) ?_ ?_
 ·intro S Q r;cases d9:(((((a0||(decide (x1 < 0)))||(decide ((x0.Tables.length:Int)<=x1)))||(decide (600 < (x2.Env.Payload.length:Int))))||(decide (10 < (x2.Call.Args.length:Int))))||(!decide (((lk x0).Code)=0)))
  ·intro k;have c9:=d9;try simp only[qa]at c9
   refine ai O O (bq O (TR.cnt aa.t r0) (TR.agg aa.t r0)) ?_;obtain⟨i7,g5,a6⟩:=dj.g_Env r2;refine ai O O (bt O g5) (ai O O (bq O (TR.cnt ax.t a6) (TR.agg ax.t a6)) ?_);have i0:=ep4 r0 a6;refine ik O O (og O O (aj (TR.clo aa.t r0) (aj (TR.clo ax.t a6) bc)) i0) (ai O O (br O O ie) ?_);exact gK O O O O O k
  ·exact gN 5 O O O O O O
 refine mV O ?_;refine bw 12 (d:=64) (v:=vb (((((((a0||(decide (x1 < 0)))||(decide ((x0.Tables.length:Int)<=x1)))||(decide (600 < (x2.Env.Payload.length:Int))))||(decide (10 < (x2.Call.Args.length:Int))))||(!decide (((lk x0).Code)=0)))||(!decide ((mr x0 x2.Env)=0)))||(!(gu ((ix x0.Tables x1).Actions) x2.Call.Action)))) ?_ ?_
 ·intro S Q r;cases f0:((((((a0||(decide (x1 < 0)))||(decide ((x0.Tables.length:Int)<=x1)))||(decide (600 < (x2.Env.Payload.length:Int))))||(decide (10 < (x2.Call.Args.length:Int))))||(!decide (((lk x0).Code)=0)))||(!decide ((mr x0 x2.Env)=0)))
  ·intro k;have c6:=f0;try simp only[qa]at c6
   obtain⟨j3,h7,c7⟩:=aa.g_Tables r0;refine ai O O (bt O h7) (ai O O (bq O (TR.cnt (tSl bz.t) c7) (TR.agg (tSl bz.t) c7)) (ai O O (ba O) ?_));obtain⟨j7,h2,g6⟩:=cv (i:=x1) c7 Y Y;refine ai O O (bd O O h2) ?_;obtain⟨j6,h9,a7⟩:=bz.g_Actions g6;refine ai O O (bt O h9) (ai O O (bq O (TR.cnt (tSl tI) a7) (TR.agg (tSl tI) a7)) ?_);obtain⟨j5,f7,g0⟩:=dj.g_Call r2;refine ai O O (bt O f7) (ai O O (bt O (cp.g_Action g0)) (ai O O (bq O O O) ?_));have g8:=av2 (x1:=x2.Call.Action) a7;refine ik O O (og O O (aj (TR.clo (tSl tI) a7) (aj O bc)) g8) (ai O O (fw O) ?_);exact gK O O O O O k
  ·exact gN 11 O O O O O O
 refine mV O ?_;refine bw 8 (d:=73) (v:=vb ((((((((a0||(decide (x1 < 0)))||(decide ((x0.Tables.length:Int)<=x1)))||(decide (600 < (x2.Env.Payload.length:Int))))||(decide (10 < (x2.Call.Args.length:Int))))||(!decide (((lk x0).Code)=0)))||(!decide ((mr x0 x2.Env)=0)))||(!(gu ((ix x0.Tables x1).Actions) x2.Call.Action)))||(!decide ((x2.Registers.length:Int)=(x0.Registers.length:Int))))) ?_ ?_
 ·intro S Q r;cases e2:(((((((a0||(decide (x1 < 0)))||(decide ((x0.Tables.length:Int)<=x1)))||(decide (600 < (x2.Env.Payload.length:Int))))||(decide (10 < (x2.Call.Args.length:Int))))||(!decide (((lk x0).Code)=0)))||(!decide ((mr x0 x2.Env)=0)))||(!(gu ((ix x0.Tables x1).Actions) x2.Call.Action)))
  ·intro k;have b1:=e2;try simp only[qa]at b1
   obtain⟨i1,h0,c4⟩:=dj.g_Registers r2;refine ai O O (bt O h0) (ai O O (bq O (TR.cnt (tSl (tSl gv)) c4) (TR.agg (tSl (tSl gv)) c4)) (ai O O (co O (ca c4 Tryz.underlying42 _)) ?_));obtain⟨j9,g7,b6⟩:=aa.g_Registers r0;refine ai O O (bt O g7) (ai O O (bq O (TR.cnt (tSl cj.t) b6) (TR.agg (tSl cj.t) b6)) (ai O O (co O (ca b6 Tryz.underlying24 _)) (ai O O (br O O ie) ?_)));exact gK O O O O O k
  ·exact gN 7 O O O O O O
 refine nS ?_;refine bv s O ?_ ?_<;>clear s<;>intro a4 s<;>have b9:=a4<;>try simp only[qa]at b9
 ·refine sR ?_;obtain⟨i8,e7,s⟩:=bp s;have e4:=bq3;rw[e7]at e4;refine cL e4 O O bc (mV O (nS ?_));exact rR s O O O
 ·refine aw (aq (am (sR (mI O (nS (bg ?_))))));refine wC (xr r0 r2 hs hE hR a2 a4 ?_ O Y s) O
  ·intro s;refine ek (aq (sR (lD r0 O O O (mV O (ah (v:= .agg [vi x1,nilS,nilS]) (gm (cs:=[vi x1,nilS,nilS]) O O) ?_)))));obtain⟨i4,a9,s⟩:=bp s;obtain⟨k0,g2,a8⟩:=eo7 r0 (show ia.t.R ({Table:=x1,Cond:=([]:List ak),Guards:=([]:List oz)}:ia) (.agg [vi x1,nilS,nilS]) from⟨nilS,nilS,O,pa,pa⟩) (by first|assumption|omega|exact tlb OY OY|exact tlb OY (And.left OY)|exact tlb OY (And.left (And.left OY))|exact tlb OY (And.left (And.left (And.left OY)))|exact tlb OY (And.left (And.left (And.left (And.left OY))))|exact tlb OY (And.left (And.left (And.left (And.left (And.left OY)))))|exact tlb OY (And.left (And.left (And.left (And.left (And.left (And.left OY))))))|exact tlb OY (And.left (And.left (And.left (And.left (And.left (And.left (And.left OY)))))))|exact tlb OY (And.left (And.left (And.left (And.left (And.left (And.left (And.left (And.left OY))))))))|exact tlAB OY OY|exact tlAB OY (And.left OY)|exact tlAB OY (And.left (And.left OY))|exact tlAB OY (And.left (And.left (And.left OY)))|exact tlAB OY (And.left (And.left (And.left (And.left OY))))|exact tlAB OY (And.left (And.left (And.left (And.left (And.left OY)))))|exact tlAB OY (And.left (And.left (And.left (And.left (And.left (And.left OY))))))|exact tlAB OY (And.left (And.left (And.left (And.left (And.left (And.left (And.left OY)))))))|exact tlAB OY (And.left (And.left (And.left (And.left (And.left (And.left (And.left (And.left OY))))))))|(have hk:=tlb OY OY;have a1:=hk.hh;omega)|(have hk:=tlb OY (And.left OY);have a1:=hk.hh;omega)|(have hk:=tlb OY (And.left (And.left OY));have a1:=hk.hh;omega)|(have hk:=tlb OY (And.left (And.left (And.left OY)));have a1:=hk.hh;omega)|(have hk:=tlb OY (And.left (And.left (And.left (And.left OY))));have a1:=hk.hh;omega)|(have hk:=tlb OY (And.left (And.left (And.left (And.left (And.left OY)))));have a1:=hk.hh;omega)|(have hk:=tlb OY (And.left (And.left (And.left (And.left (And.left (And.left OY))))));have a1:=hk.hh;omega)|(have hk:=tlb OY (And.left (And.left (And.left (And.left (And.left (And.left (And.left OY)))))));have a1:=hk.hh;omega)|(have hk:=tlb OY (And.left (And.left (And.left (And.left (And.left (And.left (And.left (And.left OY))))))));have a1:=hk.hh;omega));rw[a9]at a8;refine cL g2 O O (aj (TR.clo aa.t r0) (aj (TR.clo ia.t (show ia.t.R ({Table:=x1,Cond:=([]:List ak),Guards:=([]:List oz)}:ia) (.agg [vi x1,nilS,nilS]) from⟨nilS,nilS,O,pa,pa⟩)) bc)) (mV O (nR (lD r0 O O O (gL (dj.g_Call r2) O O O λj2 e0=>(gL (dj.g_Env r2) O O O λj0 d1=>(gL (dj.g_Registers r2) O O O λi3 d6=>?_))))));obtain⟨h8,a5,s⟩:=bp s;obtain⟨d0,k4,h3,a3,d8⟩:=eh3 r0 e0 d1 d6 (by first|assumption|omega|(rw[cz Y Y];omega)|(have hk:=rval rfl (And.right (And.left OY));omega)|(have hk:=rval OY OY;omega)|(have hk:=rval OY (And.left OY);omega)|(have hk:=rval OY (And.left (And.left OY));have hz:=rslc OY;omega)|(simp;done)|(simp only[List.length_append,List.length_nil,List.length_cons];omega)|(have hk:=(cq OY OY).1;omega)|(simp only[List.length_cons,List.length_nil];omega)|(simp only[List.length_append];have hk:=(cq OY OY).1;omega)|(simp only[List.length_append,List.length_nil];have hk:=(cq OY OY).1;omega)) (by first|assumption|omega|(rw[cz Y Y];omega)|(have hk:=rval rfl (And.right (And.left OY));omega)|(have hk:=rval OY OY;omega)|(have hk:=rval OY (And.left OY);omega)|(have hk:=rval OY (And.left (And.left OY));have hz:=rslc OY;omega)|(simp;done)|(simp only[List.length_append,List.length_nil,List.length_cons];omega)|(have hk:=(cq OY OY).1;omega)|(simp only[List.length_cons,List.length_nil];omega)|(simp only[List.length_append];have hk:=(cq OY OY).1;omega)|(simp only[List.length_append,List.length_nil];have hk:=(cq OY OY).1;omega));rw[a5]at a3 d8;have e5:h8.2.length=x2.Registers.length:=cy8 a5;refine cL h3 O O (aj (TR.clo aa.t r0) (aj (TR.clo cp.t e0) (aj (TR.clo ax.t d1) (aj (TR.clo (tSl (tSl gv)) d6) bc)))) (mV O (xT O O (xT O O ?_)));refine dv (x:= .agg [nilS,nilS,nilS,nilS]) (Mem.nil ⟨0,[]⟩) O O (λh4 h6 k5 f4=>?_);refine cx (k:=0) (v:=d0) f4 O O O (TR.cnt ax.t a3) (λf5 b8=>?_);replace b8:Mem f5 [⟨.op h4 h6 0,46,4,[d0]⟩]:=b8;refine mV O (nS (am (sR (mI O (nS (bg ?_))))));refine wC (xm r0 r2 hs hE hR a2 a4 a9 a8 a5 d8 e5 ?_ O Y (Mem.sub b8 (.cons_cons _ .slnil)) s) O
   ·intro i2 g3 s;refine ek (aq (sR (lD r0 O O O (gL (dj.g_Env r2) O O O λj1 d2=>(ah (gx (k:=0) g3 O O (TR.agg ax.t a3)) (mV O ?_))))));obtain⟨e3,d3,s⟩:=bp s;have e6:=ek3 r0 d2 a3 a8;rw[d3]at e6;refine cL e6 O O (aj (TR.clo aa.t r0) (aj (TR.clo ax.t d2) (aj (TR.clo ax.t a3) (aj (TR.clo (tSl tI) a8) bc)))) (ah (fw O) (mV O ?_));refine bw 2 (d:=145) (v:=vb ((!e3)&&(ul))) ?_ ?_
    ·intro S Q r;cases e9:(!e3)
     ·exact gN 1 O O O O O O
     ·intro k;have b7:=e9;try simp only[qa]at b7
      have h1:=bq3;refine ik O O (og O O bc h1) ?_;exact gK O O O O O k
    refine mV O (nS ?_);exact rR s O O O
end Go.Proofs.YtmonnlkagniolaaGreat
