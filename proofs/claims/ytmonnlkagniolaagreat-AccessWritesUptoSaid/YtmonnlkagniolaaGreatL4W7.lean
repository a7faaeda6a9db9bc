/-
 The code of each function does what its plain program says.
-/
import Derived.Test.YtmonnlkagniolaaGreatL4W6
set_option linter.all false
set_option maxRecDepth 100000
namespace Go.Proofs.YtmonnlkagniolaaGreat
open Go Go.Pb Go.RowKit
def RF82(res:Bool)(r:PV):Prop:=r=vb res
theorem ai1{S:List Fr}{res:Bool}{x0:aa}{x1:ax}{v0 v1:PV}(r0:aa.t.R x0 v0)(r1:ax.t.R x1 v1)(a6:(((!decide ((x1.Valid.length:Int)=(x0.Headers.length:Int)))||(!decide ((x1.Fields.length:Int)=(x0.Headers.length:Int))))||(!decide ((x1.Metd.length:Int)=(x0.Metadata.length:Int))))=false){K0:Unit->Bool}
 (b6:K0 ()=res->PX Tryz.prog 0 S (QR Tryz.prog [(4,none)] (RF82 res)) [] ⟨0,[]⟩):
 ∀{m:Nat}{a0:Int}(b5:m=Int.toNat ((x0.Headers.length:Int)-a0))(a2:0<=a0),qy x0 x1 K0 m a0=res->RC Tryz.prog (.loop dd2) S (QR Tryz.prog [(4,none)] (RF82 res)) [(5,vi a0),(3,.fp v1),(2,.fp v0)] ⟨0,[]⟩:=by
 have a1:=a6;try simp only[qa]at a1
 intro m;induction m with
 |zero=>
  intro a0 b5 a2 s;rw[qy]at s;refine ck (am (sR (mV O ?_)));obtain⟨b8,b2,a4⟩:=aa.g_Headers r0;refine fA O b2 (lD a4 O O O (ah (co O (ca a4 Tryz.underlying22 _)) (bN cn O O (nS ?_))));refine ci O ?_ ?_<;>intro c<;>try simp only[qa]at c
  ·omega
  refine dg (dx (da ?_));exact wP (b6 s) O
 |succ m ih=>
  intro a0 b5 a2 s;rw[qy]at s;refine ck (am (sR (mV O (gL (aa.g_Headers r0) O O O λb9 a7=>(ah (co O (ca a7 Tryz.underlying22 _)) (bN cn O O (nS ?_)))))));refine ci O ?_ ?_<;>intro c<;>try simp only[qa]at c
  rotate_left
  ·omega
  refine aw (aq (am (bg (sR ?_))));obtain⟨c1,b4,a5⟩:=ax.g_Fields r1;refine fA O b4 (lD a5 O O O (mV O ?_));obtain⟨c6,b3,a3⟩:=cv (i:=a0) a5 Y Y;refine ah (bd O O b3) (lD a3 O O O (ah (co O (ca a3 Tryz.underlying43 _)) (gL (aa.g_Headers r0) O O O λb7 a8=>(mV O ?_))));obtain⟨c4,a9,b1⟩:=cv (i:=a0) a8 Y Y;refine ah (bd O O a9) (gL (bm.g_Fields b1) O O O λc5 b0=>(ah (co O (ca b0 Tryz.underlying23 _)) (bN ie O O (nS ?_))));refine bv s O ?_ ?_<;>clear s<;>intro c s<;>try simp only[qa]at c
  ·refine sR (mB O (nS ?_));exact rR s O O O
  ·refine aw (db (aq (az (mV O (bN dw O O (mV O (cd (cy ?_))))))));have hbd:=dn a7;have hinc:wr (a0+1)=a0+1:=cz Y Y;erw[hinc];exact wC (ih Y Y s) O
theorem eq5{x0:aa}{x1:ax}{v0 v1:PV}(r0:aa.t.R x0 v0)(r1:ax.t.R x1 v1):FnR Tryz.prog 82 [v0,v1] (vb (mq x0 x1)):=by
 refine fnS (R:=RF82) ed6 (λ_ h=>h) O λres s=>?_;unfold mq at s;refine sR (ah (di O (TR.cnt aa.t r0)) (ah (di O (TR.cnt ax.t r1)) (mB O (nS (am (sR (gL (ax.g_Valid r1) O O O λb6 b3=>(ah (co O (ca b3 Tryz.underlying41 _)) ?_))))))));refine gL (aa.g_Headers r0) O O O λb8 b5=>(ah (co O (ca b5 Tryz.underlying22 _)) (bN ie O O (mV O ?_)));refine bw 8 (d:=21) (v:=vb ((!decide ((x1.Valid.length:Int)=(x0.Headers.length:Int)))||(!decide ((x1.Fields.length:Int)=(x0.Headers.length:Int))))) ?_ ?_
 ·intro S Q r;cases a9:(!decide ((x1.Valid.length:Int)=(x0.Headers.length:Int)))
  ·intro k;have a4:=a9;try simp only[qa]at a4
   obtain⟨c4,b0,a7⟩:=ax.g_Fields r1;refine ai O O (bt O b0) (ai O O (bq O (TR.cnt (tSl (tSl gv)) a7) (TR.agg (tSl (tSl gv)) a7)) (ai O O (co O (ca a7 Tryz.underlying42 _)) ?_));obtain⟨b7,b4,a1⟩:=aa.g_Headers r0;refine ai O O (bt O b4) (ai O O (bq O (TR.cnt (tSl bm.t) a1) (TR.agg (tSl bm.t) a1)) (ai O O (co O (ca a1 Tryz.underlying22 _)) (ai O O (br O O ie) ?_)));exact gK O O O O O k
  ·exact gN 7 O O O O O O
 refine mV O ?_;refine bw 8 (d:=30) (v:=vb (((!decide ((x1.Valid.length:Int)=(x0.Headers.length:Int)))||(!decide ((x1.Fields.length:Int)=(x0.Headers.length:Int))))||(!decide ((x1.Metd.length:Int)=(x0.Metadata.length:Int))))) ?_ ?_
 ·intro S Q r;cases a8:((!decide ((x1.Valid.length:Int)=(x0.Headers.length:Int)))||(!decide ((x1.Fields.length:Int)=(x0.Headers.length:Int))))
  ·intro k;have a3:=a8;try simp only[qa]at a3
   obtain⟨c1,b1,a5⟩:=ax.g_Meta r1;refine ai O O (bt O b1) (ai O O (bq O (TR.cnt (tSl gv) a5) (TR.agg (tSl gv) a5)) (ai O O (co O (ca a5 Tryz.underlying43 _)) ?_));obtain⟨b9,b2,a6⟩:=aa.g_Metadata r0;refine ai O O (bt O b2) (ai O O (bq O (TR.cnt (tSl av.t) a6) (TR.agg (tSl av.t) a6)) (ai O O (co O (ca a6 Tryz.underlying23 _)) (ai O O (br O O ie) ?_)));exact gK O O O O O k
  ·exact gN 7 O O O O O O
 refine nS ?_;refine bv s O ?_ ?_<;>clear s<;>intro a0 s<;>have a2:=a0<;>try simp only[qa]at a2
 ·refine sR (mB O (nS ?_));exact rR s O O O
 ·refine aw (aq (am (sR (mI O (nS (bg ?_))))));refine wC (ai1 r0 r1 a0 ?_ O Y s) O
  ·intro s;refine ek (aq (sR (mB O (nS ?_))));exact rR s O O O
def RF21(res:Int)(r:PV):Prop:=r=vi res
theorem ai5{S:List Fr}{res:Int}{x0:aa}{x1:ax}{b4:Bool}{a0:Int}{v0 v1:PV}(r0:aa.t.R x0 v0)(r1:ax.t.R x1 v1)(c7:mq x0 x1=b4)(a6:(!b4)=false)(c8:0<=a0)(b3:(decide (a0 < (x1.Fields.length:Int)))=true){K2:Unit->Int}
 (c9:K2 ()=res->PX Tryz.prog 2 S (QR Tryz.prog [(4,none)] (RF21 res)) [(2,.fp v0),(3,.fp v1),(5,vi a0)] ⟨0,[]⟩):
 ∀{m:Nat}{a1:Int}(c5:m=Int.toNat (((ix x1.Fields a0).length:Int)-a1))(a7:0<=a1),qr x0 x1 a0 K2 m a1=res->RC Tryz.prog (.loop dj1) S (QR Tryz.prog [(4,none)] (RF21 res)) [(6,vi a1),(5,vi a0),(3,.fp v1),(2,.fp v0)] ⟨0,[]⟩:=by
 have a5:=a6;try simp only[qa]at a5
 have a4:=b3;try simp only[qa]at a4
 intro m;induction m with
 |zero=>
  intro a1 c5 a7 s;rw[qr]at s;refine ck (am (sR (mV O (gL (ax.g_Fields r1) O O O λd3 b8=>(mV O ?_)))));obtain⟨d0,b7,b1⟩:=cv (i:=a0) b8 (by first|omega|(have hk:=ka OY OY;omega)) (by first|omega|(have hk:=ka OY OY;omega));refine ah (bd O O b7) (lD b1 O O O (ah (co O (ca b1 Tryz.underlying43 _)) (bN cn O O (nS ?_))));refine ci O ?_ ?_<;>intro c<;>try simp only[qa]at c
  ·omega
  refine dg (dx (da ?_));exact wP (c9 s) O
 |succ m ih=>
  intro a1 c5 a7 s;rw[qr]at s;refine ck (am (sR (mV O (gL (ax.g_Fields r1) O O O λd1 b6=>(mV O ?_)))));obtain⟨d2,b9,a3⟩:=cv (i:=a0) b6 (by first|omega|(have hk:=ka OY OY;omega)) (by first|omega|(have hk:=ka OY OY;omega));refine ah (bd O O b9) (lD a3 O O O (ah (co O (ca a3 Tryz.underlying43 _)) (bN cn O O (nS ?_))));refine ci O ?_ ?_<;>intro c<;>try simp only[qa]at c
  rotate_left
  ·omega
  refine aw (aq (am (bg (sR (gL (ax.g_Fields r1) O O O λd4 c4=>(mV O ?_))))));obtain⟨d5,c1,b0⟩:=cv (i:=a0) c4 (by first|omega|(have hk:=ka OY OY;omega)) (by first|omega|(have hk:=ka OY OY;omega));refine ah (bd O O c1) (lD b0 O O O (mV O (ah (bd O O (af5 b0 (by first|omega|(have hk:=ka OY OY;omega)) (by first|omega|(have hk:=ka OY OY;omega)))) (lR O O O (lD r0 O O O (mV O (mV O (ah (v:= .agg [vi a0,vi a1]) (gm (cs:=[vi a0,vi a1]) O O) ?_))))))));obtain⟨a9,a2,s⟩:=bp s;have b2:=aw4 r0 (show ae.t.R ({Header:=a0,Field:=a1}:ae) (.agg [vi a0,vi a1]) from O);rw[a2]at b2;have c6:a9<=32:=bw3 a2;refine cL b2 O O (aj (TR.clo aa.t r0) (aj (TR.clo ae.t (show ae.t.R ({Header:=a0,Field:=a1}:ae) (.agg [vi a0,vi a1]) from O)) bc)) ?_;obtain⟨d6,a8,s⟩:=bp s;have b5:=be0 (x0:=(ix (ix x1.Fields a0) a1)) (x1:=a9) (by first|assumption|omega|(rw[cz Y Y];omega)|(have hk:=rval rfl (And.right (And.left OY));omega)|(have hk:=rval OY OY;omega)|(have hk:=rval OY (And.left OY);omega)|(have hk:=rval OY (And.left (And.left OY));have hz:=rslc OY;omega)|(simp;done)|(simp only[List.length_append,List.length_nil,List.length_cons];omega)|(have hk:=(cq OY OY).1;omega)|(simp only[List.length_cons,List.length_nil];omega)|(simp only[List.length_append];have hk:=(cq OY OY).1;omega)|(simp only[List.length_append,List.length_nil];have hk:=(cq OY OY).1;omega));rw[a8]at b5;refine cL b5 O O (aj O (aj O bc)) (ah (fw O) (nS ?_));refine bv s O ?_ ?_<;>clear s<;>intro c s<;>try simp only[qa]at c
  ·refine sR (mI O (nS ?_));exact rR s O O O
  ·refine aw (db (aq (az (mV O (bN dw O O (mV O (cd (cy ?_))))))));have hbd:=dn a3;have hinc:wr (a1+1)=a1+1:=cz Y Y;erw[hinc];exact wC (ih Y Y s) O
theorem al3{S:List Fr}{res:Int}{x0:aa}{x1:ax}{a8:Bool}{v0 v1:PV}(r0:aa.t.R x0 v0)(r1:ax.t.R x1 v1)(a7:mq x0 x1=a8)(a1:(!a8)=false){K0:Unit->Int}
 (b2:K0 ()=res->PX Tryz.prog 0 S (QR Tryz.prog [(4,none)] (RF21 res)) [(2,.fp v0),(3,.fp v1)] ⟨0,[]⟩):
 ∀{m:Nat}{a2:Int}(b0:m=Int.toNat ((x1.Fields.length:Int)-a2))(a3:0<=a2),rg x0 x1 K0 m a2=res->RC Tryz.prog (.loop ds9) S (QR Tryz.prog [(4,none)] (RF21 res)) [(5,vi a2),(3,.fp v1),(2,.fp v0)] ⟨0,[]⟩:=by
 have a5:=a1;try simp only[qa]at a5
 intro m;induction m with
 |zero=>
  intro a2 b0 a3 s;rw[rg]at s;refine ck (am (sR (mV O (gL (ax.g_Fields r1) O O O λb3 a9=>(ah (co O (ca a9 Tryz.underlying42 _)) (bN cn O O (nS ?_)))))));refine ci O ?_ ?_<;>intro c<;>try simp only[qa]at c
  ·omega
  refine dg (dx (da ?_));exact wP (b2 s) O
 |succ m ih=>
  intro a2 b0 a3 s;rw[rg]at s;refine ck (am (sR (mV O (gL (ax.g_Fields r1) O O O λb1 a6=>(ah (co O (ca a6 Tryz.underlying42 _)) (bN cn O O (nS ?_)))))));refine ci O (λa0=>?_) (λa0=>?_)
  ·have hgo:=s;have a4:=a0;try simp only[qa]at a4
   refine aw (aq (am (bg (sR (mI O (nS (bg ?_)))))));refine wC (ai5 r0 r1 a7 a1 a3 a0 ?_ O Y s) O
   ·intro s;refine ek (db (aq (az (mV O (bN dw O O (mV O (cd (cy ?_))))))));have hbd:=dn a6;have hinc:wr (a2+1)=a2+1:=cz Y Y;erw[hinc];exact wC (ih Y Y s) O
  ·exfalso;try simp only[qa]at a0
   omega
theorem ak4{S:List Fr}{res:Int}{x0:aa}{x1:ax}{a9:Bool}{v0 v1:PV}(r0:aa.t.R x0 v0)(r1:ax.t.R x1 v1)(b4:mq x0 x1=a9)(a3:(!a9)=false){K4:Unit->Int}
 (b6:K4 ()=res->PX Tryz.prog 4 S (QR Tryz.prog [(4,none)] (RF21 res)) [(3,.fp v1)] ⟨0,[]⟩):
 ∀{m:Nat}{a0:Int}(b5:m=Int.toNat ((x1.Metd.length:Int)-a0))(a6:0<=a0),rd x0 x1 K4 m a0=res->RC Tryz.prog (.loop dr3) S (QR Tryz.prog [(4,none)] (RF21 res)) [(7,vi a0),(3,.fp v1),(2,.fp v0)] ⟨0,[]⟩:=by
 have a2:=a3;try simp only[qa]at a2
 intro m;induction m with
 |zero=>
  intro a0 b5 a6 s;rw[rd]at s;refine ck (am (sR (mV O (gL (ax.g_Meta r1) O O O λb7 b1=>(ah (co O (ca b1 Tryz.underlying43 _)) (bN cn O O (nS ?_)))))));refine ci O ?_ ?_<;>intro c<;>try simp only[qa]at c
  ·omega
  refine dg (dx (da ?_));exact wP (b6 s) O
 |succ m ih=>
  intro a0 b5 a6 s;rw[rd]at s;refine ck (am (sR (mV O (gL (ax.g_Meta r1) O O O λc1 a7=>(ah (co O (ca a7 Tryz.underlying43 _)) (bN cn O O (nS ?_)))))));refine ci O ?_ ?_<;>intro c<;>try simp only[qa]at c
  rotate_left
  ·omega
  refine aw (aq (am (bg (sR (gL (ax.g_Meta r1) O O O λb8 b2=>(mV O (ah (bd O O (af5 b2 (by first|omega|(have hk:=ka OY OY;omega)) (by first|omega|(have hk:=ka OY OY;omega)))) (lR O O O ?_))))))));refine lD r0 O O O (mV O (ah (v:= .agg [vi (-1),vi a0]) (gm (cs:=[vi (-1),vi a0]) O O) ?_));obtain⟨a4,a1,s⟩:=bp s;have b0:=aw4 r0 (show ae.t.R ({Header:=(-1),Field:=a0}:ae) (.agg [vi (-1),vi a0]) from O);rw[a1]at b0;have b3:a4<=32:=bw3 a1;refine cL b0 O O (aj (TR.clo aa.t r0) (aj (TR.clo ae.t (show ae.t.R ({Header:=(-1),Field:=a0}:ae) (.agg [vi (-1),vi a0]) from O)) bc)) ?_;obtain⟨b9,a8,s⟩:=bp s;have a5:=be0 (x0:=(ix x1.Metd a0)) (x1:=a4) (by first|assumption|omega|(rw[cz Y Y];omega)|(have hk:=rval rfl (And.right (And.left OY));omega)|(have hk:=rval OY OY;omega)|(have hk:=rval OY (And.left OY);omega)|(have hk:=rval OY (And.left (And.left OY));have hz:=rslc OY;omega)|(simp;done)|(simp only[List.length_append,List.length_nil,List.length_cons];omega)|(have hk:=(cq OY OY).1;omega)|(simp only[List.length_cons,List.length_nil];omega)|(simp only[List.length_append];have hk:=(cq OY OY).1;omega)|(simp only[List.length_append,List.length_nil];have hk:=(cq OY OY).1;omega));rw[a8]at a5;refine cL a5 O O (aj O (aj O bc)) (ah (fw O) (nS ?_));refine bv s O ?_ ?_<;>clear s<;>intro c s<;>try simp only[qa]at c
  ·refine sR (mI O (nS ?_));exact rR s O O O
  ·refine aw (db (aq (az (mV O (bN dw O O (mV O (cd (cy ?_))))))));have hbd:=dn a7;have hinc:wr (a0+1)=a0+1:=cz Y Y;erw[hinc];exact wC (ih Y Y s) O
theorem ak1{S:List Fr}{res:Int}{x0:aa}{x1:ax}{b3:Bool}{a0:Int}{v1:PV}(r1:ax.t.R x1 v1)(c5:mq x0 x1=b3)(a8:(!b3)=false)(d1:0<=a0)(b0:(decide (a0 < (x1.Fields.length:Int)))=true){K8:Unit->Int}
 (d3:K8 ()=res->PX Tryz.prog 8 S (QR Tryz.prog [(4,none)] (RF21 res)) [(3,.fp v1),(8,vi a0)] ⟨0,[]⟩):
 ∀{m:Nat}{a1:Int}(c4:m=Int.toNat (((ix x1.Fields a0).length:Int)-a1))(a9:0<=a1),qq x1 a0 K8 m a1=res->RC Tryz.prog (.loop dt2) S (QR Tryz.prog [(4,none)] (RF21 res)) [(9,vi a1),(8,vi a0),(3,.fp v1)] ⟨0,[]⟩:=by
 have a7:=a8;try simp only[qa]at a7
 have a6:=b0;try simp only[qa]at a6
 intro m;induction m with
 |zero=>
  intro a1 c4 a9 s;rw[qq]at s;refine ck (am (sR (mV O (gL (ax.g_Fields r1) O O O λc8 b6=>(mV O ?_)))));obtain⟨c6,b9,b1⟩:=cv (i:=a0) b6 (by first|omega|(have hk:=ka OY OY;omega)) (by first|omega|(have hk:=ka OY OY;omega));refine ah (bd O O b9) (lD b1 O O O (ah (co O (ca b1 Tryz.underlying43 _)) (bN cn O O (nS ?_))));refine ci O ?_ ?_<;>intro c<;>try simp only[qa]at c
  ·omega
  refine dg (dx (da ?_));exact wP (d3 s) O
 |succ m ih=>
  intro a1 c4 a9 s;rw[qq]at s;refine ck (am (sR (mV O (gL (ax.g_Fields r1) O O O λc9 b7=>(mV O ?_)))));obtain⟨d2,b8,a3⟩:=cv (i:=a0) b7 (by first|omega|(have hk:=ka OY OY;omega)) (by first|omega|(have hk:=ka OY OY;omega));refine ah (bd O O b8) (lD a3 O O O (ah (co O (ca a3 Tryz.underlying43 _)) (bN cn O O (nS ?_))));refine ci O ?_ ?_<;>intro c<;>try simp only[qa]at c
  rotate_left
  ·omega
  refine aw (aq (am (bg (sR (gL (ax.g_Valid r1) O O O λd0 c1=>(mV O (ah (bd O O (slB c1 (by first|omega|(have hk:=ka OY OY;omega)) (by first|omega|(have hk:=ka OY OY;omega)))) (lR O O O ?_))))))));refine ah (fw O) (mV O ?_);refine bw 10 (d:=97) (v:=vb ((!(ix x1.Valid a0))&&(!decide ((ix (ix x1.Fields a0) a1)=0#32)))) ?_ ?_
  ·intro S Q r;cases b2:(!(ix x1.Valid a0))
   ·exact gN 9 O O O O O O
   ·intro k;have a2:=b2;try simp only[qa]at a2
    obtain⟨c7,b5,a5⟩:=ax.g_Fields r1;refine ai O O (bt O b5) (ai O O (bq O (TR.cnt (tSl (tSl gv)) a5) (TR.agg (tSl (tSl gv)) a5)) (ai O O (ba O) ?_));obtain⟨d4,b4,a4⟩:=cv (i:=a0) a5 (by first|omega|(have hk:=ka OY OY;omega)) (by first|omega|(have hk:=ka OY OY;omega));refine ai O O (bd O O b4) (ai O O (bq O (TR.cnt (tSl gv) a4) (TR.agg (tSl gv) a4)) (ai O O (ba O) (ai O O (bd O O (af5 a4 (by first|omega|(have hk:=ka OY OY;omega)) (by first|omega|(have hk:=ka OY OY;omega)))) (ai O O (bq O O O) (ai O O (br (a:=de (ix (ix x1.Fields a0) a1)) (b:=de 0#32) O O bk6) ?_)))));exact gK O O O O O k
  refine nS ?_;refine bv s O ?_ ?_<;>clear s<;>intro c s<;>try simp only[qa]at c
  ·refine sR (mI O (nS ?_));exact rR s O O O
  ·refine aw (db (aq (az (mV O (bN dw O O (mV O (cd (cy ?_))))))));have hbd:=dn a3;have hinc:wr (a1+1)=a1+1:=cz Y Y;erw[hinc];exact wC (ih Y Y s) O
theorem an3{S:List Fr}{res:Int}{x0:aa}{x1:ax}{a8:Bool}{v1:PV}(r1:ax.t.R x1 v1)(a7:mq x0 x1=a8)(a1:(!a8)=false){K6:Unit->Int}
 (b2:K6 ()=res->PX Tryz.prog 6 S (QR Tryz.prog [(4,none)] (RF21 res)) [] ⟨0,[]⟩):
 ∀{m:Nat}{a2:Int}(b0:m=Int.toNat ((x1.Fields.length:Int)-a2))(a3:0<=a2),re x1 K6 m a2=res->RC Tryz.prog (.loop do4) S (QR Tryz.prog [(4,none)] (RF21 res)) [(8,vi a2),(3,.fp v1)] ⟨0,[]⟩:=by
 have a5:=a1;try simp only[qa]at a5
 intro m;induction m with
 |zero=>
  intro a2 b0 a3 s;rw[re]at s;refine ck (am (sR (mV O (gL (ax.g_Fields r1) O O O λb3 a9=>(ah (co O (ca a9 Tryz.underlying42 _)) (bN cn O O (nS ?_)))))));refine ci O ?_ ?_<;>intro c<;>try simp only[qa]at c
  ·omega
  refine dg (dx (da ?_));exact wP (b2 s) O
 |succ m ih=>
  intro a2 b0 a3 s;rw[re]at s;refine ck (am (sR (mV O (gL (ax.g_Fields r1) O O O λb1 a6=>(ah (co O (ca a6 Tryz.underlying42 _)) (bN cn O O (nS ?_)))))));refine ci O (λa0=>?_) (λa0=>?_)
  ·have hgo:=s;have a4:=a0;try simp only[qa]at a4
   refine aw (aq (am (bg (sR (mI O (nS (bg ?_)))))));refine wC (ak1 r1 a7 a1 a3 a0 ?_ O Y s) O
   ·intro s;refine ek (db (aq (az (mV O (bN dw O O (mV O (cd (cy ?_))))))));have hbd:=dn a6;have hinc:wr (a2+1)=a2+1:=cz Y Y;erw[hinc];exact wC (ih Y Y s) O
  ·exfalso;try simp only[qa]at a0
   omega
theorem ep4{x0:aa}{x1:ax}{v0 v1:PV}(r0:aa.t.R x0 v0)(r1:ax.t.R x1 v1):FnR Tryz.prog 21 [v0,v1] (vi (mr x0 x1)):=by
 refine fnS (R:=RF21) eg3 (λ_ h=>h) O λres s=>?_;unfold mr at s;refine sR (ah (di O (TR.cnt aa.t r0)) (ah (di O (TR.cnt ax.t r1)) (mI O (nS (am (sR (lD r0 O O O (lD r1 O O O ?_))))))));obtain⟨a4,a1,s⟩:=bp s;have a3:=eq5 r0 r1;rw[a1]at a3;refine cL a3 O O (aj (TR.clo aa.t r0) (aj (TR.clo ax.t r1) bc)) (ah (fw O) (nS ?_));refine bv s O ?_ ?_<;>clear s<;>intro a0 s<;>have a2:=a0<;>try simp only[qa]at a2
 ·refine sR (mI O (nS ?_));exact rR s O O O
 ·refine aw (aq (am (sR (mI O (nS (bg ?_))))));refine wC (al3 r0 r1 a1 a0 ?_ O Y s) O
  ·intro s;refine ek (aq (am (sR (mI O (nS (bg ?_))))));refine wC (ak4 r0 r1 a1 a0 ?_ O Y s) O
   ·intro s;refine ek (aq (am (sR (mI O (nS (bg ?_))))));refine wC (an3 r1 a1 a0 ?_ O Y s) O
    ·intro s;refine ek (aq (sR (mI O (nS ?_))));exact rR s O O O
def RF22(res:Bool)(r:PV):Prop:=r=vb res
theorem ai8{S:List Fr}{res:Bool}{x0:List Int}{x1:Int}{v0:PV}(r0:(tSl tI).R x0 v0){K0:Unit->Bool}
 (a3:K0 ()=res->PX Tryz.prog 0 S (QR Tryz.prog [(4,none)] (RF22 res)) [] ⟨0,[]⟩):
 ∀{m:Nat}{a0:Int}(a2:m=Int.toNat ((x0.length:Int)-a0))(a1:0<=a0),jv x0 x1 K0 m a0=res->RC Tryz.prog (.loop dm9) S (QR Tryz.prog [(4,none)] (RF22 res)) [(5,vi a0),(1,vi x1),(0,v0)] ⟨0,[]⟩:=by
 intro m;induction m with
 |zero=>
  intro a0 a2 a1 s;rw[jv]at s;refine ck (am (sR (mV O (mV O (ah (co O (ca r0 Tryz.underlying29 _)) (bN cn O O (nS ?_)))))));refine ci O ?_ ?_<;>intro c<;>try simp only[qa]at c
  ·omega
  refine dg (dx (da ?_));exact wP (a3 s) O
 |succ m ih=>
  intro a0 a2 a1 s;rw[jv]at s;refine ck (am (sR (mV O (mV O (ah (co O (ca r0 Tryz.underlying29 _)) (bN cn O O (nS ?_)))))));refine ci O ?_ ?_<;>intro c<;>try simp only[qa]at c
  rotate_left
  ·omega
  refine aw (aq (am (bg (sR (mV O (mV O (ah (bd O O (slI r0 Y Y)) (lR O O O ?_))))))));refine mV O (bN du O O (nS ?_));refine bv s O ?_ ?_<;>clear s<;>intro c s<;>try simp only[qa]at c
  ·refine sR (mB O (nS ?_));exact rR s O O O
  ·refine aw (db (aq (az (mV O (bN dw O O (mV O (cd (cy ?_))))))));have hbd:=dn r0;have hinc:wr (a0+1)=a0+1:=cz Y Y;erw[hinc];exact wC (ih Y Y s) O
theorem av2{x0:List Int}{x1:Int}{v0:PV}(r0:(tSl tI).R x0 v0):FnR Tryz.prog 22 [v0,vi x1] (vb (gu x0 x1)):=by
 refine fnS (R:=RF22) eq4 (λ_ h=>h) O λres s=>?_;unfold gu at s;refine sR (mB O (nS (am (sR (mI O (nS (bg ?_)))))));refine wC (ai8 r0 ?_ O Y s) O
 ·intro s;refine ek (aq (sR (mB O (nS ?_))));exact rR s O O O
theorem bq3:FnR Tryz.prog 14 [] (vb ul):=ex7
def RF69(res:bz×Bool)(r:PV):Prop:=∃c0,r= .tup [c0,vb res.2]/\bz.t.R res.1 c0
theorem eo0{x0:aa}{x1:ia}{v0 v1:PV}(r0:aa.t.R x0 v0)(r1:ia.t.R x1 v1):∃c0,FnR Tryz.prog 69 [v0,v1] (.tup [c0,vb ((jx x0 x1).2)])/\bz.t.R (jx x0 x1).1 c0:=by
 obtain⟨res,s⟩:∃res,jx x0 x1=res:=⟨_,O⟩;suffices H:RC Tryz.prog ey3 [] (QR Tryz.prog [(4,some (6,true)),(5,none)] (RF69 res)) (argE 0 [v0,v1]) ⟨0,[]⟩ by
  rw[s];obtain⟨r,h1,c0,rfl,b5⟩:=fnE cl5 OZ H;exact⟨c0,h1,b5⟩
 unfold jx at s;refine sR (ah (di O (TR.cnt aa.t r0)) (ah (di O (TR.cnt ia.t r1)) ?_));refine dv (x:= .agg [vs [],nilS,nilS,vi 0,nilS,vi 0]) (Mem.nil ⟨0,[]⟩) O O (λa7 a6 b6 a9=>?_);refine mB O (nS (am (sR (fL O (ia.g_Table r1) O O (bN cn O O (mV O ?_))))));refine bw 7 (d:=16) (v:=vb ((decide (x1.Table < 0))||(decide ((x0.Tables.length:Int)<=x1.Table)))) ?_ ?_
 ·intro S Q r;cases a8:(decide (x1.Table < 0))
  ·intro k;have a4:=a8;try simp only[qa]at a4
   refine ai O O (bt O (ia.g_Table r1)) (ai O O (bq O O O) ?_);obtain⟨b8,b1,a5⟩:=aa.g_Tables r0;refine ai O O (bt O b1) (ai O O (bq O (TR.cnt (tSl bz.t) a5) (TR.agg (tSl bz.t) a5)) (ai O O (co O (ca a5 Tryz.underlying26 _)) (ai O O (br O O iz) ?_)));exact gK O O O O O k
  ·exact gN 6 O O O O O O
 refine nS ?_;refine bv s O ?_ ?_<;>clear s<;>intro c s<;>try simp only[qa]at c
 ·refine sR (ah (v:= .agg [vs [],nilS,nilS,vi 0,nilS,vi 0]) (gm (cs:=[vs [],nilS,nilS,vi 0,nilS,vi 0]) O O) ?_);refine cx (k:=0) (v:= .agg [vs [],nilS,nilS,vi 0,nilS,vi 0]) a9 O O O O (λb0 a2=>?_);replace a2:Mem b0 [⟨.op a7 a6 0,59,6,[.agg [vs [],nilS,nilS,vi 0,nilS,vi 0]]⟩]:=a2;refine mB O (nS ?_);subst s;exact fa (.cell O (dq (k:=0) a2 O O) (.tmp O .nil)) (cw (show closed (.tup _)=true from(aj (TR.clo bz.t (show bz.t.R ({Name:=([]:List UInt8),Keys:=([]:List gb),Actions:=([]:List Int),Default:=({Action:=0,Args:=([]:List (BitVec 32))}:cp),Size:=0}:bz) (.agg [vs [],nilS,nilS,vi 0,nilS,vi 0]) from⟨nilS,nilS,nilS,O,pa,pa,pa⟩)) (aj O bc)))) ⟨.agg [vs [],nilS,nilS,vi 0,nilS,vi 0],O,⟨nilS,nilS,nilS,O,pa,pa,pa⟩⟩
 ·refine aw (aq (sR (gL (aa.g_Tables r0) O O O λb7 b4=>(fL O (ia.g_Table r1) O O ?_))));obtain⟨a3,b3,a0⟩:=cv (i:=x1.Table) b4 Y Y;refine ah (bd O O b3) (lD a0 O O O ?_);refine cx (k:=0) (v:=a3) a9 O O O (TR.cnt bz.t a0) (λb2 a1=>?_);replace a1:Mem b2 [⟨.op a7 a6 0,59,6,[a3]⟩]:=a1;refine mB O (nS ?_);subst s;exact fa (.cell O (dq (k:=0) a1 O (TR.agg bz.t a0)) (.tmp O .nil)) (cw (show closed (.tup _)=true from(aj (TR.clo bz.t a0) (aj O bc)))) ⟨a3,O,a0⟩
def RF221(res:Bool)(r:PV):Prop:=r=vb res
theorem by4{x0:UInt8}:FnR Tryz.prog 221 [vu8 x0] (vb (mc x0)):=by
 refine fnS (R:=RF221) ca7 (λ_ h=>h) O λres s=>?_;unfold mc at s;refine sR (mB O (nR (mV O (ah (br (a:=vu8 x0) (b:=vu8 (97:UInt8)) O O az4) (mV O ?_)))));refine bw 3 (d:=8) (v:=vb ((decide ((97:UInt8)<=x0))&&(decide (x0<=(122:UInt8))))) ?_ ?_
 ·intro S Q r;cases a4:(decide ((97:UInt8)<=x0))
  ·exact gN 2 O O O O O O
  ·intro k;have a1:=a4;try simp only[qa]at a1
   refine ai O O (ba O) (ai O O (br (a:=vu8 x0) (b:=vu8 (122:UInt8)) O O ba4) ?_);exact gK O O O O O k
 refine mV O ?_;refine bw 7 (d:=16) (v:=vb (((decide ((97:UInt8)<=x0))&&(decide (x0<=(122:UInt8))))||((decide ((65:UInt8)<=x0))&&(decide (x0<=(90:UInt8)))))) ?_ ?_
 ·intro S Q r;cases a5:((decide ((97:UInt8)<=x0))&&(decide (x0<=(122:UInt8))))
  ·intro k;have a2:=a5;try simp only[qa]at a2
   refine ai O O (ba O) (ai O O (br (a:=vu8 x0) (b:=vu8 (65:UInt8)) O O az4) (ai O O (ba O) ?_));refine bw 3 (d:=15) (v:=vb ((decide ((65:UInt8)<=x0))&&(decide (x0<=(90:UInt8))))) ?_ ?_
   ·intro S Q r;cases a3:(decide ((65:UInt8)<=x0))
    ·intro k;refine kr O O (kr O O (ai (v:=vb false) O O (pp O O O O) ?_));exact wD k O
    ·intro k;have a0:=a3;try simp only[qa]at a0
     refine ai O O (ba O) (ai O O (br (a:=vu8 x0) (b:=vu8 (90:UInt8)) O O ba4) (ai (v:=vb (decide (x0<=(90:UInt8)))) O O (pp O O O O) ?_));exact wD k O
   exact gK O O O O O k
  ·exact gN 6 O O O O O O
 refine mV O (nS ?_);exact rR s O O O
def RF222(res:Int)(r:PV):Prop:=r=vi res
theorem ag4{S:List Fr}{res:Int}{x0:List UInt8}{x1:UInt8->Bool}{v1:PV}(r1:(tFn Tryz.prog tU8 tB).R x1 v1)(hs:x0.length<=1000){K0:Int->Int}
 (b1:∀{a0:Int},K0 a0=res->PX Tryz.prog 0 S (QR Tryz.prog [(4,none)] (RF222 res)) [(5,vi a0)] ⟨0,[]⟩):
 ∀{m:Nat}{a0:Int}(b0:m=Int.toNat ((x0.length:Int)-a0))(a5:0<=a0),mi x0 x1 K0 m a0=res->RC Tryz.prog (.loop ct6) S (QR Tryz.prog [(4,none)] (RF222 res)) [(5,vi a0),(1,v1),(0,vs x0)] ⟨0,[]⟩:=by
 intro m;induction m with
 |zero=>
  intro a0 b0 a5 s;rw[mi]at s;refine ck (am (sR (mV O (mV O (ah (co O (qe Tryz.underlying9)) (bN cn O O (mV O ?_)))))));refine bw 6 (d:=16) (v:=vb ((decide (a0 < (x0.length:Int)))&&(x1 (ix x0 a0)))) ?_ ?_
  ·intro S Q r;cases a6:(decide (a0 < (x0.length:Int)))
   ·exact gN 5 O O O O O O
   ·intro k;have a2:=a6;try simp only[qa]at a2
    refine ai O O (ba O) (ai O O (ba O) (ai O O (ba O) (ai O O (ub O O (yt Tryz.underlying9 Y Y)) ?_)));refine az8 O O O r1 O (show tU8.R (ix x0 a0) (vu8 (ix x0 a0)) from O) (λa9 a4=>?_);have a4:a9=vb (x1 (ix x0 a0)):=a4;subst a4;exact gK O O O O O k
  refine nS ?_;refine ci O ?_ ?_<;>intro c<;>try simp only[qa]at c
  ·omega
  refine dg (dx (da ?_));exact wP (b1 s) O
 |succ m ih=>
  intro a0 b0 a5 s;rw[mi]at s;refine ck (am (sR (mV O (mV O (ah (co O (qe Tryz.underlying9)) (bN cn O O (mV O ?_)))))));refine bw 6 (d:=16) (v:=vb ((decide (a0 < (x0.length:Int)))&&(x1 (ix x0 a0)))) ?_ ?_
  ·intro S Q r;cases a7:(decide (a0 < (x0.length:Int)))
   ·exact gN 5 O O O O O O
   ·intro k;have a3:=a7;try simp only[qa]at a3
    refine ai O O (ba O) (ai O O (ba O) (ai O O (ba O) (ai O O (ub O O (yt Tryz.underlying9 Y Y)) ?_)));refine az8 O O O r1 O (show tU8.R (ix x0 a0) (vu8 (ix x0 a0)) from O) (λa8 a1=>?_);have a1:a8=vb (x1 (ix x0 a0)):=a1;subst a1;exact gK O O O O O k
  refine nS ?_;refine bv s O ?_ ?_<;>clear s<;>intro c s<;>try simp only[qa]at c
  ·refine aw (aq (bg (az (mV O (bN dw O O (mV O (cd (db ?_))))))));refine cy ?_;have hinc:wr (a0+1)=a0+1:=cz Y Y;erw[hinc];exact wC (ih Y Y s) O
  ·refine dg (dx (da ?_));exact wP (b1 s) O
theorem dj2{x0:List UInt8}{x1:UInt8->Bool}{v1:PV}(r1:(tFn Tryz.prog tU8 tB).R x1 v1)(hs:x0.length<=1000):FnR Tryz.prog 222 [vs x0,v1] (vi (vo x0 x1)):=by
 refine fnS (R:=RF222) cb5 (λ_ h=>h) O λres s=>?_;unfold vo at s;refine sR (mI O (nR (mI O (nS (am (bg ?_))))));refine wC (ag4 r1 hs ?_ O Y s) O
 ·intro a0 s;refine ek (aq (sR (mV O (mV O (nS ?_)))));exact rR s O O O
def RF224(res:Bool)(r:PV):Prop:=r=vb res
theorem cz5{x0:UInt8}:FnR Tryz.prog 224 [vu8 x0] (vb (mm x0)):=by
 refine fnS (R:=RF224) bu3 (λ_ h=>h) O λres s=>?_;unfold mm at s;refine sR (mB O (nR (mV O (ah (br (a:=vu8 x0) (b:=vu8 (48:UInt8)) O O az4) (mV O ?_)))));refine bw 3 (d:=8) (v:=vb ((decide ((48:UInt8)<=x0))&&(decide (x0<=(57:UInt8))))) ?_ ?_
 ·intro S Q r;cases a1:(decide ((48:UInt8)<=x0))
  ·exact gN 2 O O O O O O
  ·intro k;have a0:=a1;try simp only[qa]at a0
   refine ai O O (ba O) (ai O O (br (a:=vu8 x0) (b:=vu8 (57:UInt8)) O O ba4) ?_);exact gK O O O O O k
 refine mV O (nS ?_);exact rR s O O O
def RF223(res:Bool)(r:PV):Prop:=r=vb res
theorem dr8{x0:UInt8}:FnR Tryz.prog 223 [vu8 x0] (vb (ki x0)):=by
 refine fnS (R:=RF223) bv8 (λ_ h=>h) O λres s=>?_;unfold ki at s;refine sR (mB O (nR (mV O ?_)));obtain⟨a0,a5,s⟩:=bp s;have a3:=by4 (x0:=x0);rw[a5]at a3;refine cL a3 O O (aj O bc) (mV O ?_);refine bw 3 (d:=8) (v:=vb (a0||(mm x0))) ?_ ?_
 ·intro S Q r;cases a4:a0
  ·intro k;have a2:=a4;try simp only[qa]at a2
   refine ai O O (ba O) ?_;have a7:=cz5 (x0:=x0);refine ik O O (og O O (aj O bc) a7) ?_;exact gK O O O O O k
  ·exact gN 2 O O O O O O
 refine mV O ?_;refine bw 3 (d:=12) (v:=vb ((a0||(mm x0))||(decide (x0=(95:UInt8))))) ?_ ?_
 ·intro S Q r;cases a6:(a0||(mm x0))
  ·intro k;have a1:=a6;try simp only[qa]at a1
   refine ai O O (ba O) (ai O O (br (a:=vu8 x0) (b:=vu8 (95:UInt8)) O O ff4) ?_);exact gK O O O O O k
  ·exact gN 2 O O O O O O
 refine mV O (nS ?_);exact rR s O O O
theorem ek9:(tFn Tryz.prog tU8 tB).R ki (.fn (.func 223) [] []):=eq8 λa va ra=>by obtain rfl:=ra;exact⟨_,dr8,O⟩
def RF169(res:Bool)(r:PV):Prop:=r=vb res
theorem ca9{x0:List UInt8}:FnR Tryz.prog 169 [vs x0] (vb (jy x0)):=by
 refine fnS (R:=RF169) bw4 (λ_ h=>h) O λres s=>?_;unfold jy at s;refine sR (mB O (nS (am (sR (mV O (ah (co O (qe Tryz.underlying9)) (bN du O O (mV O ?_))))))));refine bw 4 (d:=10) (v:=vb ((decide ((x0.length:Int)=0))||(decide (16 < (x0.length:Int))))) ?_ ?_
 ·intro S Q r;cases a4:(decide ((x0.length:Int)=0))
  ·intro k;have a0:=a4;try simp only[qa]at a0
   refine ai O O (ba O) (ai O O (co O (qe Tryz.underlying9)) (ai O O (br O O fu) ?_));exact gK O O O O O k
  ·exact gN 3 O O O O O O
 refine mV O ?_;refine bw 5 (d:=16) (v:=vb (((decide ((x0.length:Int)=0))||(decide (16 < (x0.length:Int))))||(!(mc (ix x0 0))))) ?_ ?_
 ·intro S Q r;cases a5:((decide ((x0.length:Int)=0))||(decide (16 < (x0.length:Int))))
  ·intro k;have a1:=a5;try simp only[qa]at a1
   refine ai O O (ba O) (ai O O (ub O O (yt (i:=0) Tryz.underlying9 Y Y)) ?_);have a6:=by4 (x0:=(ix x0 0));refine ik O O (og O O (aj O bc) a6) (ai O O (fw O) ?_);exact gK O O O O O k
  ·exact gN 4 O O O O O O
 refine nS ?_;refine bv s O ?_ ?_<;>clear s<;>intro c s<;>try simp only[qa]at c
 ·refine sR (mB O (nS ?_));exact rR s O O O
 ·refine aw (aq (sR (mV O ?_)));obtain⟨a7,a2,s⟩:=bp s;have a3:=dj2 (x0:=x0) ek9 (by first|assumption|omega|(rw[cz Y Y];omega)|(have hk:=rval rfl (And.right (And.left OY));omega)|(have hk:=rval OY OY;omega)|(have hk:=rval OY (And.left OY);omega)|(have hk:=rval OY (And.left (And.left OY));have hz:=rslc OY;omega)|(simp;done)|(simp only[List.length_append,List.length_nil,List.length_cons];omega)|(have hk:=(cq OY OY).1;omega)|(simp only[List.length_cons,List.length_nil];omega)|(simp only[List.length_append];have hk:=(cq OY OY).1;omega)|(simp only[List.length_append,List.length_nil];have hk:=(cq OY OY).1;omega));rw[a2]at a3;refine cL a3 O O (aj O (aj O bc)) (mV O (ah (co O (qe Tryz.underlying9)) (bN du O O (mV O (nS ?_)))));exact rR s O O O
def RF171(res:Bool)(r:PV):Prop:=r=vb res
theorem do8{x0:av}{c0:av}{v0 w0:PV}(r0:av.t.R x0 v0)(a0:av.t.R c0 w0):FnR Tryz.prog 171 [v0,.fp w0] (vb (gq x0 c0)):=by
 refine fnS (R:=RF171) by5 (λ_ h=>h) O λres s=>?_;unfold gq at s;refine sR (ah (di O (TR.cnt av.t r0)) (mB O (nR (fL O (av.g_Name r0) O O (fL O (av.g_Name a0) O O (ah (br (a:=vs x0.Name) (b:=vs c0.Name) O O tk) (mV O (nS ?_))))))));exact rR s O O O
def RF225(res:Int)(r:PV):Prop:=r=vi res
theorem pe{S:List Fr}{res:Int}{x0:List av}{x1:av->Bool}{v0 v1:PV}(r0:(tSl av.t).R x0 v0)(r1:(tFn Tryz.prog av.t tB).R x1 v1){K0:Unit->Int}
 (a8:K0 ()=res->PX Tryz.prog 0 S (QR Tryz.prog [(4,none)] (RF225 res)) [] ⟨0,[]⟩):
 ∀{m:Nat}{a0:Int}(a7:m=Int.toNat ((x0.length:Int)-a0))(a2:0<=a0),ee x0 x1 K0 m a0=res->RC Tryz.prog (.loop cp3) S (QR Tryz.prog [(4,none)] (RF225 res)) [(8,vi a0),(7,vi (x0.length:Int)),(1,v1),(0,v0)] ⟨0,[]⟩:=by
 intro m;induction m with
 |zero=>
  intro a0 a7 a2 s;rw[ee]at s;refine ck (sR (bN cn O O (nS (am ?_))));refine ci O ?_ ?_<;>intro c<;>try simp only[qa]at c
  ·omega
  refine dg (dx (da ?_));exact wP (a8 s) O
 |succ m ih=>
  intro a0 a7 a2 s;rw[ee]at s;refine ck (sR (bN cn O O (nS (am ?_))));refine ci O ?_ ?_<;>intro c<;>try simp only[qa]at c
  rotate_left
  ·omega
  refine aw (aq (am (bg (sR (mV O (mV O (nR (mV O ?_))))))));refine mV O (mV O ?_);obtain⟨a6,a4,a3⟩:=cv (i:=a0) r0 Y Y;refine ah (bd O O a4) (lD a3 O O O ?_);refine cu1 O r1 O (show av.t.R (ix x0 a0) a6 from a3) (λa5 a1=>?_);have a1:a5=vb (x1 (ix x0 a0)):=a1;subst a1;refine nS ?_;refine bv s O ?_ ?_<;>clear s<;>intro c s<;>try simp only[qa]at c
  ·refine sR (mV O (mV O (nS ?_)));exact rR s O O O
  ·refine aw (db (aq (az (bN dw O O (mV O (cd (cy ?_)))))));have hbd:=dn r0;have hinc:wr (a0+1)=a0+1:=cz Y Y;erw[hinc];exact wC (ih Y Y s) O
theorem dv8{x0:List av}{x1:av->Bool}{v0 v1:PV}(r0:(tSl av.t).R x0 v0)(r1:(tFn Tryz.prog av.t tB).R x1 v1):FnR Tryz.prog 225 [v0,v1] (vi (il x0 x1)):=by
 refine fnS (R:=RF225) bz4 (λ_ h=>h) O λres s=>?_;unfold il at s;refine sR (mI O (nS (am (sR (mV O (ah (co O (ca r0 Tryz.underlying23 _)) (mI O (nS ?_))))))));refine bg ?_;refine wC (pe r0 r1 ?_ O Y s) O
 ·intro s;refine ek (aq (sR (mI O (nS ?_))));exact rR s O O O
def RF170(res:Bool)(r:PV):Prop:=r=vb res
theorem dj7{x0:List av}{x1:av->Bool}{v0 v1:PV}(r0:(tSl av.t).R x0 v0)(r1:(tFn Tryz.prog av.t tB).R x1 v1):FnR Tryz.prog 170 [v0,v1] (vb (gw x0 x1)):=by
 refine fnS (R:=RF170) bx7 (λ_ h=>h) O λres s=>?_;unfold gw at s;refine sR (mB O (nR (mV O (mV O ?_))));obtain⟨a2,a1,s⟩:=bp s;have a0:=dv8 r0 r1;rw[a1]at a0;refine cL a0 O O (aj (TR.clo (tSl av.t) r0) (aj (TR.clo (tFn Tryz.prog av.t tB) r1) bc)) (bN iz O O (mV O (nS ?_)));exact rR s O O O
def RF103(res:Int)(r:PV):Prop:=r=vi res
theorem xw{S:List Fr}{res:Int}{x0:cm}{c5:Bool}{v0 a4:PV}(r0:cm.t.R x0 v0)(d7:jy x0.Name=c5)(b2:(!c5)=false)(b9:((decide (4 < (x0.Params.length:Int)))||(decide (12 < (x0.Body.length:Int))))=false)(b8:(tSl av.t).R x0.Params a4){K1:Unit->Int}
 (e0:∀{h:Heap}(M0:Mem h []),K1 ()=res->PX Tryz.prog 1 S (QR Tryz.prog [(2,none)] (RF103 res)) [] h):
 ∀{m:Nat}{a0:Int}(d6:m=Int.toNat ((x0.Params.length:Int)-a0))(b1:0<=a0){h:Heap}(M0:Mem h []),io x0 K1 m a0=res->RC Tryz.prog (.loop cs4) S (QR Tryz.prog [(2,none)] (RF103 res)) [(24,vi a0),(23,vi (x0.Params.length:Int)),(22,a4),(1,.fp v0)] h:=by
 have b0:=b2;try simp only[qa]at b0
 have a9:=b9;try simp only[qa]at a9
 intro m;induction m with
 |zero=>
  intro a0 d6 b1 h M0 s;rw[io]at s;refine ck (sR (bN cn O O (nS (am ?_))));refine ci O ?_ ?_<;>intro c<;>try simp only[qa]at c
  ·omega
  refine dg (dx (da ?_));exact wP (e0 (Mem.sub M0 .slnil) s) O
 |succ m ih=>
  intro a0 d6 b1 h M0 s;rw[io]at s;refine ck (sR (bN cn O O (nS (am ?_))));refine ci O ?_ ?_<;>intro c<;>try simp only[qa]at c
  rotate_left
  ·omega
  refine aw (aq (am (bg (sR (mV O ?_)))));obtain⟨a1,d1,a3⟩:=cv (i:=a0) b8 Y Y;refine ah (bd O O d1) (lD a3 O O O ?_);refine dv (x:= .agg [vs [],vi 0]) M0 O O (λc8 d0 d9 d4=>?_);refine mV O ?_;refine cx (k:=0) (v:=a1) d4 O O O (TR.cnt av.t a3) (λc9 a6=>?_);replace a6:Mem c9 [⟨.op c8 d0 0,166,2,[a1]⟩]:=a6;refine nS (bg (am (jq (dy (ah (cg O) (dz (dy (ah (ct (k:=0) a6 O O (av.g_Name a3)) ?_))))))));refine dz (dy ?_);obtain⟨a2,c4,s⟩:=bp s;have b4:=ca9 (x0:=(ix x0.Params a0).Name);rw[c4]at b4;refine cL b4 O O (aj O bc) (dz (dy (ah (fw O) (dz (dy (mV O (dz ?_)))))));refine ax6 (k:=0) (E':=[(29,vb (!a2)),(33,vb (!a2)),(32,vb a2),(31,vs ((ix x0.Params a0).Name)),(3,vi a0),(4,.fp a1),(28,a1),(27,.fp a1),(26,vi a0),(25,vb (decide (a0 < (x0.Params.length:Int)))),(24,vi a0),(23,vi (x0.Params.length:Int)),(22,a4),(1,.fp v0)]) a6 O (ml O (ml O (ml O (ml O (ml O (bk5 O (ml O (ml O (ml O (ml O (ml O (ml O (ml O (ml O bx4)))))))))))))) (λb5 a7=>?_);replace a7:Mem b5 []:=a7;refine qo (aq ?_);refine bv s O ?_ ?_<;>clear s<;>intro c s<;>try simp only[qa]at c
  ·refine sR (mI O (nS ?_));exact rR s O O O
  ·refine sR (fL O (av.g_Width a3) O O (bN cn O O (mV O ?_)));refine bw 4 (d:=42) (v:=vb ((decide (((ix x0.Params a0).Width) < 1))||(decide (32 < ((ix x0.Params a0).Width))))) ?_ ?_
   ·intro S Q r;cases c1:(decide (((ix x0.Params a0).Width) < 1))
    ·intro k;have a8:=c1;try simp only[qa]at a8
     refine ai O O (bt O (av.g_Width a3)) (ai O O (bq O O O) (ai O O (br O O fu) ?_));exact gK O O O O O k
    ·exact gN 3 O O O O O O
   refine mV O (nS ?_);refine bv s O ?_ ?_<;>clear s<;>intro c s<;>try simp only[qa]at c
   ·refine sR (mI O (nS ?_));exact rR s O O O
   ·refine sR (gL (cm.g_Params r0) O O O λa5 d3=>(mV O (ar9 (E0:=[(46,vi a0),(45,a5),(44,.fp a5),(34,vb ((decide (((ix x0.Params a0).Width) < 1))||(decide (32 < ((ix x0.Params a0).Width))))),(42,vb ((decide (((ix x0.Params a0).Width) < 1))||(decide (32 < ((ix x0.Params a0).Width))))),(38,vb (decide (((ix x0.Params a0).Width) < 1))),(37,vb (decide (((ix x0.Params a0).Width) < 1))),(36,vi ((ix x0.Params a0).Width)),(35,.fp (vi ((ix x0.Params a0).Width))),(29,vb (!a2)),(33,vb (!a2)),(32,vb a2),(31,vs ((ix x0.Params a0).Name)),(3,vi a0),(4,.fp a1),(28,a1),(27,.fp a1),(26,vi a0),(25,vb (decide (a0 < (x0.Params.length:Int)))),(24,vi a0),(23,vi (x0.Params.length:Int)),(22,a4),(1,.fp v0)]) (sB O) ?_)));obtain⟨c7,d2,b6⟩:=cr4 (P:=Tryz.prog) (hf:=false) (E:=[(46,vi a0),(45,a5),(44,.fp a5),(34,vb ((decide (((ix x0.Params a0).Width) < 1))||(decide (32 < ((ix x0.Params a0).Width))))),(42,vb ((decide (((ix x0.Params a0).Width) < 1))||(decide (32 < ((ix x0.Params a0).Width))))),(38,vb (decide (((ix x0.Params a0).Width) < 1))),(37,vb (decide (((ix x0.Params a0).Width) < 1))),(36,vi ((ix x0.Params a0).Width)),(35,.fp (vi ((ix x0.Params a0).Width))),(29,vb (!a2)),(33,vb (!a2)),(32,vb a2),(31,vs ((ix x0.Params a0).Name)),(3,vi a0),(4,.fp a1),(28,a1),(27,.fp a1),(26,vi a0),(25,vb (decide (a0 < (x0.Params.length:Int)))),(24,vi a0),(23,vi (x0.Params.length:Int)),(22,a4),(1,.fp v0)]) (h:=b5) (t:=av.t) (tt:=23) (x:=(.tmp 45)) (lo:=none) (hi:=(some (.tmp 46))) (a:=0) (b:=a0) d3 O O O (show 0<=0 by omega) (show 0<=a0 by omega) (show a0<=(x0.Params.length:Int) by omega) (λad=>by kernel_rfl);have d5:=as6 (l:=x0.Params) (show 0<=0 by omega) (show 0<=a0 by omega) (show a0<=(x0.Params.length:Int) by omega);refine ah (v:=c7) (d2) ?_;have c6:(tFn Tryz.prog av.t tB).R (λa_=>gq a_ (ix x0.Params a0)) (.fn (.func 171) [] [.fp a1]):=dw4 (aj (eo6 (TR.clo av.t a3)) bc) λa va ra=>by exact⟨_,do8 ra a3,O⟩
    refine ah (v:= .fn (.func 171) [] [.fp a1]) (ba6 O O) ?_;obtain⟨d8,b7,s⟩:=bp s;have b3:=dj7 b6 c6;rw[b7]at b3;refine cL b3 O O (aj (TR.clo (tSl av.t) b6) (aj (TR.clo (tFn Tryz.prog av.t tB) c6) bc)) (mV O (nS ?_));refine bv s O ?_ ?_<;>clear s<;>intro c s<;>try simp only[qa]at c
    ·refine sR (mI O (nS ?_));exact rR s O O O
    ·refine aw (db (db (aq (az (bN dw O O (mV O (cd (cy ?_))))))));have hbd:=dn b8;have hinc:wr (a0+1)=a0+1:=cz Y Y;erw[hinc];exact wC (ih Y Y (Mem.sub a7 .slnil) s) O
theorem dt9{x0:cm}{v0:PV}(r0:cm.t.R x0 v0):FnR Tryz.prog 103 [v0] (vi (jz x0)):=by
 refine fnS (R:=RF103) bt2 (λ_ h=>h) O λres s=>?_;unfold jz at s;refine sR (ah (di O (TR.cnt cm.t r0)) (mI O (nS (am (bg (sR (fL O (cm.g_Name r0) O O ?_)))))));obtain⟨b6,a2,s⟩:=bp s;have a8:=ca9 (x0:=x0.Name);rw[a2]at a8;refine cL a8 O O (aj O bc) (ah (fw O) (mV O (nS ?_)));refine bv s O ?_ ?_<;>clear s<;>intro a0 s<;>have a6:=a0<;>try simp only[qa]at a6
 ·refine sR (mI O (nS ?_));exact rR s O O O
 ·refine sR (gL (cm.g_Params r0) O O O λb7 b1=>(ah (co O (ca b1 Tryz.underlying23 _)) (bN fu O O (mV O ?_))));refine bw 5 (d:=20) (v:=vb ((decide (4 < (x0.Params.length:Int)))||(decide (12 < (x0.Body.length:Int))))) ?_ ?_
  ·intro S Q r;cases a9:(decide (4 < (x0.Params.length:Int)))
   ·intro k;have a5:=a9;try simp only[qa]at a5
    obtain⟨b2,b0,a3⟩:=cm.g_Body r0;refine ai O O (bt O b0) (ai O O (bq O (TR.cnt (tSl bf.t) a3) (TR.agg (tSl bf.t) a3)) (ai O O (co O (ca a3 Tryz.underlying95 _)) (ai O O (br O O fu) ?_)));exact gK O O O O O k
   ·exact gN 4 O O O O O O
  refine mV O (nS ?_);refine bv s O ?_ ?_<;>clear s<;>intro a1 s<;>have a4:=a1<;>try simp only[qa]at a4
  ·refine sR (mI O (nS ?_));exact rR s O O O
  ·refine aw (db (aq (am (sR (gL (cm.g_Params r0) O O O λb5 a7=>(ah (co O (ca a7 Tryz.underlying23 _)) (mI O (nS ?_))))))));refine bg ?_;refine wC (xw r0 a2 a0 a1 a7 ?_ O Y (Mem.sub (Mem.nil ⟨0,[]⟩) .slnil) s) O
   ·intro b3 b4 s;refine ek (aq (sR (mI O (nS ?_))));exact rR s O O O
end Go.Proofs.YtmonnlkagniolaaGreat
