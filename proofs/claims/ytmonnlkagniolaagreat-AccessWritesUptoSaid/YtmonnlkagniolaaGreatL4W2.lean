/-
 The code of each function does what its plain program says.
-/
import Derived.Test.YtmonnlkagniolaaGreatL4W1
set_option linter.all false
set_option maxRecDepth 100000
namespace Go.Proofs.YtmonnlkagniolaaGreat
open Go Go.Pb Go.RowKit
def RF151(res:Int)(r:PV):Prop:=r=vi res
theorem df9{x0:cj}{v0:PV}(r0:cj.t.R x0 v0):FnR Tryz.prog 151 [v0] (vi (wq x0)):=by
 refine fnS (R:=RF151) cy6 (λ_ h=>h) O λres s=>?_;unfold wq at s;refine sR (ah (di O (TR.cnt cj.t r0)) (mI O (nS (am (sR (fL O (cj.g_Name r0) O O ?_))))));obtain⟨a6,a4,s⟩:=bp s;have a3:=vh (x0:=x0.Name);rw[a4]at a3;refine cL a3 O O (aj O bc) (ah (fw O) (nS ?_));refine bv s O ?_ ?_<;>clear s<;>intro c s<;>try simp only[qa]at c
 ·refine sR (mI O (nS ?_));exact rR s O O O
 ·refine aw (aq (am (sR (fL O (cj.g_Width r0) O O (bN cn O O (mV O ?_))))));refine bw 4 (d:=14) (v:=vb ((decide (x0.Width < 1))||(decide (32 < x0.Width)))) ?_ ?_
  ·intro S Q r;cases a5:(decide (x0.Width < 1))
   ·intro k;have a0:=a5;try simp only[qa]at a0
    refine ai O O (bt O (cj.g_Width r0)) (ai O O (bq O O O) (ai O O (br O O fu) ?_));exact gK O O O O O k
   ·exact gN 3 O O O O O O
  refine nS ?_;refine bv s O ?_ ?_<;>clear s<;>intro c s<;>try simp only[qa]at c
  ·refine sR (mI O (nS ?_));exact rR s O O O
  ·refine aw (aq (am (sR (fL O (cj.g_Size r0) O O (bN cn O O (mV O ?_))))));refine bw 4 (d:=22) (v:=vb ((decide (x0.Size < 1))||(decide (64 < x0.Size)))) ?_ ?_
   ·intro S Q r;cases a2:(decide (x0.Size < 1))
    ·intro k;have a1:=a2;try simp only[qa]at a1
     refine ai O O (bt O (cj.g_Size r0)) (ai O O (bq O O O) (ai O O (br O O fu) ?_));exact gK O O O O O k
    ·exact gN 3 O O O O O O
   refine nS ?_;refine bv s O ?_ ?_<;>clear s<;>intro c s<;>try simp only[qa]at c
   ·refine sR (mI O (nS ?_));exact rR s O O O
   ·refine aw (aq (sR (mI O (nS ?_))));exact rR s O O O
def RF78(res:af)(r:PV):Prop:=af.t.R res r
theorem zj{S:List Fr}{res:af}{x0:aa}{a1 b7:Int}{v0 a5:PV}{a3 a2:Nat}(r0:aa.t.R x0 v0)(d1:x0.Registers.length<=1000)(c6:0<=a1)(b1:(decide (a1 < (x0.Registers.length:Int)))=true)(c5:wq (ix x0.Registers a1)=b7){K2:Int->af}
 (c1:∀{a4:Int}{h:Heap}(M0:Mem h [⟨.op a3 a2 0,53,4,[a5]⟩]),K2 a4=res->PX Tryz.prog 2 S (QR Tryz.prog [(2,some (4,true))] (RF78 res)) [(1,.fp v0),(2,.op a3 a2 0),(3,vi a1),(4,vi a4)] h):
 ∀{m:Nat}{a4 a0:Int}(c4:m=Int.toNat (a1-a0))(a9:0<=a0){h:Heap}(M0:Mem h [⟨.op a3 a2 0,53,4,[a5]⟩]),lv x0 a1 K2 m a4 a0=res->RC Tryz.prog (.loop ds6) S (QR Tryz.prog [(2,some (4,true))] (RF78 res)) [(5,vi a0),(4,vi a4),(3,vi a1),(2,.op a3 a2 0),(1,.fp v0)] h:=by
 have a6:=b1;try simp only[qa]at a6
 intro m;induction m with
 |zero=>
  intro a4 a0 c4 a9 h M0 s;rw[lv]at s;refine ck (am (sR (mV O (mV O (bN cn O O (mV O ?_))))));refine bw 3 (d:=25) (v:=vb ((decide (a0 < a1))&&(decide (a4=0)))) ?_ ?_
  ·intro S Q r;cases b0:(decide (a0 < a1))
   ·exact gN 2 O O O O O O
   ·intro k;have a7:=b0;try simp only[qa]at a7
    refine ai O O (ba O) (ai O O (br O O du) ?_);exact gK O O O O O k
  refine nS ?_;refine ci O ?_ ?_<;>intro c<;>try simp only[qa]at c
  ·omega
  refine dg (dx (da ?_));exact wP (c1 (Mem.sub M0 (.cons_cons _ .slnil)) s) O
 |succ m ih=>
  intro a4 a0 c4 a9 h M0 s;rw[lv]at s;refine ck (am (sR (mV O (mV O (bN cn O O (mV O ?_))))));refine bw 3 (d:=25) (v:=vb ((decide (a0 < a1))&&(decide (a4=0)))) ?_ ?_
  ·intro S Q r;cases b2:(decide (a0 < a1))
   ·exact gN 2 O O O O O O
   ·intro k;have a8:=b2;try simp only[qa]at a8
    refine ai O O (ba O) (ai O O (br O O du) ?_);exact gK O O O O O k
  refine nS ?_;refine bv s O ?_ ?_<;>clear s<;>intro c s<;>try simp only[qa]at c
  ·refine aw (aq (am (bg (sR (gL (aa.g_Registers r0) O O O λc8 b8=>(mV O ?_))))));obtain⟨d0,b9,b4⟩:=cv (i:=a0) b8 Y Y;refine ah (bd O O b9) (fL O (cj.g_Name b4) O O (gL (aa.g_Registers r0) O O O λc7 b3=>(mV O ?_)));obtain⟨c9,b5,b6⟩:=cv (i:=a1) b3 Y Y;refine ah (bd O O b5) (fL O (cj.g_Name b6) O O (ah (br (a:=vs ((ix x0.Registers a0).Name)) (b:=vs ((ix x0.Registers a1).Name)) O O tk) (nS ?_)));refine bv s O ?_ ?_<;>clear s<;>intro c s<;>try simp only[qa]at c
   ·refine az (mI O (cd (db (aq (az (mV O (bN dw O O (mV O ?_))))))));refine cd (cy ?_);have hinc:wr (a0+1)=a0+1:=cz Y Y;erw[hinc];exact wC (ih Y Y (Mem.sub M0 (.cons_cons _ .slnil)) s) O
   ·refine aw (db (aq (az (mV O (bN dw O O (mV O (cd (cy ?_))))))));have hinc:wr (a0+1)=a0+1:=cz Y Y;erw[hinc];exact wC (ih Y Y (Mem.sub M0 (.cons_cons _ .slnil)) s) O
  ·refine dg (dx (da ?_));exact wP (c1 (Mem.sub M0 (.cons_cons _ .slnil)) s) O
theorem zk{S:List Fr}{res:af}{x0:aa}{v0:PV}{a5 a4:Nat}(r0:aa.t.R x0 v0)(d5:x0.Registers.length<=1000){K0:af->af}
 (d1:∀{a1:af}{a0:PV}(a2:af.t.R a1 a0){h:Heap}(M0:Mem h [⟨.op a5 a4 0,53,4,[a0]⟩]),K0 a1=res->PX Tryz.prog 0 S (QR Tryz.prog [(2,some (4,true))] (RF78 res)) [(2,.op a5 a4 0)] h):
 ∀{m:Nat}{a7:Int}{a1:af}{a0:PV}(a2:af.t.R a1 a0)(c9:m=Int.toNat ((x0.Registers.length:Int)-a7))(a9:0<=a7){h:Heap}(M0:Mem h [⟨.op a5 a4 0,53,4,[a0]⟩]),nj x0 K0 m a7 a1=res->RC Tryz.prog (.loop cz2) S (QR Tryz.prog [(2,some (4,true))] (RF78 res)) [(3,vi a7),(2,.op a5 a4 0),(1,.fp v0)] h:=by
 intro m;induction m with
 |zero=>
  intro a7 a1 a0 a2 c9 a9 h M0 s;rw[nj]at s;refine ck (am (sR (mV O ?_)));obtain⟨d8,c8,b9⟩:=aa.g_Registers r0;refine fA O c8 (lD b9 O O O (ah (co O (ca b9 Tryz.underlying24 _)) (bN cn O O (nS ?_))));refine ci O ?_ ?_<;>intro c<;>try simp only[qa]at c
  ·omega
  refine dg (dx (da ?_));exact wP (d1 a2 (Mem.sub M0 (.cons_cons _ .slnil)) s) O
 |succ m ih=>
  intro a7 a1 a0 a2 c9 a9 h M0 s;rw[nj]at s;refine ck (am (sR (mV O ?_)));obtain⟨d0,c6,b0⟩:=aa.g_Registers r0;refine fA O c6 (lD b0 O O O (ah (co O (ca b0 Tryz.underlying24 _)) (bN cn O O (nS ?_))));refine ci O (λa3=>?_) (λa3=>?_)
  ·have hgo:=s;have b1:=a3;try simp only[qa]at b1
   refine aw (aq (am (bg (sR (gL (aa.g_Registers r0) O O O λd6 c5=>(mV O ?_))))));obtain⟨d4,c4,b3⟩:=cv (i:=a7) c5 Y Y;refine ah (bd O O c4) (lD b3 O O O ?_);obtain⟨d3,a8,s⟩:=bp s;have b6:=df9 b3;rw[a8]at b6;refine cL b6 O O (aj (TR.clo cj.t b3) bc) (mV O (nS (am (sR (mI O (nS (bg ?_)))))));refine wC (zj r0 d5 a9 a3 a8 ?_ O Y (Mem.sub M0 (.cons_cons _ .slnil)) s) O
   ·intro b4 d7 b8 s;refine ek (aq (sR (mV O (bN ie O O (nS ?_)))));refine bv s O ?_ ?_<;>clear s<;>intro c s<;>try simp only[qa]at c
    ·refine sR (mV O (mV O ?_));obtain⟨d2,b5,s⟩:=bp s;obtain⟨b7,c1,a6⟩:=nw (x0:=b4) (x1:=3) (x2:=a7) (x3:=0);rw[b5]at a6;refine cL c1 O O (aj O (aj O (aj O (aj O bc)))) ?_;refine cx (k:=0) (v:=b7) b8 O O O (TR.cnt af.t a6) (λc7 b2=>?_);replace b2:Mem c7 [⟨.op a5 a4 0,53,4,[b7]⟩]:=b2;refine nS ?_;subst s;exact fa (.cell O (dq (k:=0) b2 O (TR.agg af.t a6)) .nil) (cw (TR.clo af.t a6)) a6
    ·refine aw (db (aq (az (mV O (bN dw O O (mV O (cd (cy ?_))))))));have hbd:=dn b0;have hinc:wr (a7+1)=a7+1:=cz Y Y;erw[hinc];exact wC (ih a2 Y Y (Mem.sub b8 (.cons_cons _ .slnil)) s) O
  ·exfalso;try simp only[qa]at a3
   omega
theorem eo2{x0:aa}{v0:PV}(r0:aa.t.R x0 v0)(b0:x0.Registers.length<=1000):∃r,FnR Tryz.prog 78 [v0] r/\af.t.R (uy x0) r:=by
 refine fnT (R:=RF78) ee2 O λres s=>?_;unfold uy at s;refine sR (ah (di O (TR.cnt aa.t r0)) ?_);refine dv (x:= .agg [vi 0,vi 0,vi 0,vi 0]) (Mem.nil ⟨0,[]⟩) O O (λa8 a5 b1 a6=>?_);refine nS (am (sR (mI O (nS (bg ?_)))));refine wC (zk r0 b0 ?_ O O Y (Mem.sub a6 (.cons_cons _ .slnil)) s) O
 ·intro a1 a3 a2 a9 a4 s;refine ek (aq (sR (ah (v:= .agg [vi 0,vi 0,vi 0,vi 0]) (gm (cs:=[vi 0,vi 0,vi 0,vi 0]) O O) ?_)));refine cx (k:=0) (v:= .agg [vi 0,vi 0,vi 0,vi 0]) a4 O O O O (λa7 a0=>?_);replace a0:Mem a7 [⟨.op a8 a5 0,53,4,[.agg [vi 0,vi 0,vi 0,vi 0]]⟩]:=a0;refine nS ?_;subst s;exact fa (.cell O (dq (k:=0) a0 O O) .nil) (cw (TR.clo af.t (show af.t.R ({Code:=0,Part:=0,Item:=0,Sub:=0}:af) (.agg [vi 0,vi 0,vi 0,vi 0]) from O))) (show af.t.R ({Code:=0,Part:=0,Item:=0,Sub:=0}:af) (.agg [vi 0,vi 0,vi 0,vi 0]) from O)
def RF106(res:Int)(r:PV):Prop:=r=vi res
theorem ag6{S:List Fr}{res:Int}{x0:List av}{a0:Int}{a5:Bool}{v0:PV}(r0:(tSl av.t).R x0 v0)(b6:0<=a0)(a6:(decide (a0 < (x0.length:Int)))=true)(b5:fb ((ix x0 a0).Name)=a5)(a8:(!a5)=false)(a9:((decide (((ix x0 a0).Width) < 1))||(decide (32 < ((ix x0 a0).Width))))=false){K3:Unit->Int}
 (b9:K3 ()=res->PX Tryz.prog 3 S (QR Tryz.prog [(2,none)] (RF106 res)) [(0,v0),(3,vi a0)] ⟨0,[]⟩):
 ∀{m:Nat}{a1:Int}(b4:m=Int.toNat (a0-a1))(a7:0<=a1),lh x0 a0 K3 m a1=res->RC Tryz.prog (.loop cn2) S (QR Tryz.prog [(2,none)] (RF106 res)) [(4,vi a1),(3,vi a0),(0,v0)] ⟨0,[]⟩:=by
 have a4:=a6;try simp only[qa]at a4
 have a3:=a8;try simp only[qa]at a3
 have a2:=a9;try simp only[qa]at a2
 intro m;induction m with
 |zero=>
  intro a1 b4 a7 s;rw[lh]at s;refine ck (am (sR (mV O (mV O (bN cn O O (nS ?_))))));refine ci O ?_ ?_<;>intro c<;>try simp only[qa]at c
  ·omega
  refine dg (dx (da ?_));exact wP (b9 s) O
 |succ m ih=>
  intro a1 b4 a7 s;rw[lh]at s;refine ck (am (sR (mV O (mV O (bN cn O O (nS ?_))))));refine ci O ?_ ?_<;>intro c<;>try simp only[qa]at c
  rotate_left
  ·omega
  refine aw (aq (am (bg (sR (mV O (mV O ?_))))));obtain⟨b7,b1,b2⟩:=cv (i:=a1) r0 Y Y;refine ah (bd O O b1) (fL O (av.g_Name b2) O O (mV O (mV O ?_)));obtain⟨b8,b0,b3⟩:=cv (i:=a0) r0 Y Y;refine ah (bd O O b0) (fL O (av.g_Name b3) O O (ah (br (a:=vs ((ix x0 a1).Name)) (b:=vs ((ix x0 a0).Name)) O O tk) (nS ?_)));refine bv s O ?_ ?_<;>clear s<;>intro c s<;>try simp only[qa]at c
  ·refine sR (mI O (nS ?_));exact rR s O O O
  ·refine aw (db (aq (az (mV O (bN dw O O (mV O (cd (cy ?_))))))));have hinc:wr (a1+1)=a1+1:=cz Y (by first|omega|(have hbd:=dn r0;omega));erw[hinc];exact wC (ih Y Y s) O
theorem ah3{S:List Fr}{res:Int}{x0:List av}{v0:PV}(r0:(tSl av.t).R x0 v0){K0:Unit->Int}
 (c4:K0 ()=res->PX Tryz.prog 0 S (QR Tryz.prog [(2,none)] (RF106 res)) [] ⟨0,[]⟩):
 ∀{m:Nat}{a0:Int}(b8:m=Int.toNat ((x0.length:Int)-a0))(a5:0<=a0),lj x0 K0 m a0=res->RC Tryz.prog (.loop cg6) S (QR Tryz.prog [(2,none)] (RF106 res)) [(3,vi a0),(0,v0)] ⟨0,[]⟩:=by
 intro m;induction m with
 |zero=>
  intro a0 b8 a5 s;rw[lj]at s;refine ck (am (sR (mV O (mV O (ah (co O (ca r0 Tryz.underlying23 _)) (bN cn O O (nS ?_)))))));refine ci O ?_ ?_<;>intro c<;>try simp only[qa]at c
  ·omega
  refine dg (dx (da ?_));exact wP (c4 s) O
 |succ m ih=>
  intro a0 b8 a5 s;rw[lj]at s;refine ck (am (sR (mV O (mV O (ah (co O (ca r0 Tryz.underlying23 _)) (bN cn O O (nS ?_)))))));refine ci O (λa1=>?_) (λa1=>?_)
  ·have hgo:=s;have a8:=a1;try simp only[qa]at a8
   refine aw (aq (am (bg (am (bg (sR (mV O (mV O ?_))))))));obtain⟨c6,b5,b6⟩:=cv (i:=a0) r0 Y Y;refine ah (bd O O b5) (fL O (av.g_Name b6) O O ?_);obtain⟨b9,a2,s⟩:=bp s;have b0:=vh (x0:=(ix x0 a0).Name);rw[a2]at b0;refine cL b0 O O (aj O bc) (ah (fw O) (mV O (nS ?_)));refine bv s O ?_ ?_<;>clear s<;>intro a3 s<;>have a7:=a3<;>try simp only[qa]at a7
   ·refine sR (mI O (nS ?_));exact rR s O O O
   ·refine sR (mV O (mV O ?_));obtain⟨c1,b7,b2⟩:=cv (i:=a0) r0 Y Y;refine ah (bd O O b7) (fL O (av.g_Width b2) O O (bN cn O O (mV O ?_)));refine bw 7 (d:=33) (v:=vb ((decide (((ix x0 a0).Width) < 1))||(decide (32 < ((ix x0 a0).Width))))) ?_ ?_
    ·intro S Q r;cases b1:(decide (((ix x0 a0).Width) < 1))
     ·intro k;have a9:=b1;try simp only[qa]at a9
      refine ai O O (ba O) (ai O O (ba O) ?_);obtain⟨c5,b3,b4⟩:=cv (i:=a0) r0 Y Y;refine ai O O (bd O O b3) (ai O O (bt O (av.g_Width b4)) (ai O O (bq O O O) (ai O O (br O O fu) ?_)));exact gK O O O O O k
     ·exact gN 6 O O O O O O
    refine mV O (nS ?_);refine bv s O ?_ ?_<;>clear s<;>intro a4 s<;>have a6:=a4<;>try simp only[qa]at a6
    ·refine sR (mI O (nS ?_));exact rR s O O O
    ·refine aw (db (aq (sR (mI O (nS (bg ?_))))));refine wC (ag6 r0 a5 a1 a2 a3 a4 ?_ O Y s) O
     ·intro s;refine ek (db (aq (az (mV O (bN dw O O (mV O (cd (cy ?_))))))));have hbd:=dn r0;have hinc:wr (a0+1)=a0+1:=cz Y (by first|omega|(have hbd:=dn r0;omega));erw[hinc];exact wC (ih Y Y s) O
  ·exfalso;try simp only[qa]at a1
   omega
theorem cb9{x0:List av}{v0:PV}(r0:(tSl av.t).R x0 v0):FnR Tryz.prog 106 [v0] (vi (sa x0)):=by
 refine fnS (R:=RF106) dh2 (λ_ h=>h) O λres s=>?_;unfold sa at s;refine sR (mI O (nS (am (sR (mI O (nS (bg ?_)))))));refine wC (ah3 r0 ?_ O Y s) O
 ·intro s;refine ek (aq (sR (mI O (nS ?_))));exact rR s O O O
def RF85(res:au)(r:PV):Prop:=au.t.R res r
theorem cv3{x0:aa}{x1:Int}{v0:PV}(r0:aa.t.R x0 v0)(hi:0<=x1/\x1 < (x0.Actions.length:Int)):∃r,FnR Tryz.prog 85 [v0,vi x1] r/\au.t.R (qk x0 x1) r:=by
 refine fnT (R:=RF85) eh6 O λres s=>?_;unfold qk at s;refine sR (ah (di O (TR.cnt aa.t r0)) ?_);refine dv (x:= .agg [vs [],nilS,nilS,nilS,nilS,nilS,nilS,nilS,nilS,nilS]) (Mem.nil ⟨0,[]⟩) O O (λc1 b9 d0 c6=>?_);refine nR (lD r0 O O O (gL (aa.g_Actions r0) O O O λd2 c9=>(mV O ?_)));obtain⟨d1,c4,c8⟩:=cv (i:=x1) c9 Y Y;refine ah (bd O O c4) (gL (cm.g_Params c8) O O O λa8 b7=>?_);obtain⟨a5,a2,a6,a7,a3,a1,a4,a0,c5,b5,b6,b4,a9,b3,b2,b0,b1⟩:=r0;subst c5;refine ah (v:= .agg [vs x0.Name,a5,a2,a6,a7,a3,a1,a4,a0,a8]) (gm (cs:=[vs x0.Name,a5,a2,a6,a7,a3,a1,a4,a0,a8]) O (by simp only[buildV,bc3 (TR.cnt (tSl av.t) b7) (TR.agg (tSl av.t) b7)];rfl)) ?_;refine cx (k:=0) (v:= .agg [vs x0.Name,a5,a2,a6,a7,a3,a1,a4,a0,a8]) c6 O O O O (λc7 b8=>?_);replace b8:Mem c7 [⟨.op c1 b9 0,132,10,[.agg [vs x0.Name,a5,a2,a6,a7,a3,a1,a4,a0,a8]]⟩]:=b8;refine nS ?_;subst s;exact fa (.cell O (dq (k:=0) b8 O O) .nil) (cw (TR.clo au.t (show au.t.R ({Program:=x0,Params:=(ix x0.Actions x1).Params}:au) (.agg [vs x0.Name,a5,a2,a6,a7,a3,a1,a4,a0,a8]) from⟨a5,a2,a6,a7,a3,a1,a4,a0,a8,O,b5,b6,b4,a9,b3,b2,b0,b1,b7⟩))) (show au.t.R ({Program:=x0,Params:=(ix x0.Actions x1).Params}:au) (.agg [vs x0.Name,a5,a2,a6,a7,a3,a1,a4,a0,a8]) from⟨a5,a2,a6,a7,a3,a1,a4,a0,a8,O,b5,b6,b4,a9,b3,b2,b0,b1,b7⟩)
def RF177(res:Int×Bool)(r:PV):Prop:=r= .tup [vi res.1,vb res.2]
theorem cc0{x0:aa}{x1:ae}{v0 v1:PV}(r0:aa.t.R x0 v0)(r1:ae.t.R x1 v1):FnR Tryz.prog 177 [v0,v1] (.tup [vi ((ni x0 x1).1),vb ((ni x0 x1).2)]):=by
 refine fnS (R:=RF177) du8 (λ_ h=>h) O λres s=>?_;unfold ni at s;refine sR (ah (di O (TR.cnt aa.t r0)) (ah (di O (TR.cnt ae.t r1)) (mI O (mB O (nR (gL (aa.g_Metadata r0) O O O λb8 b4=>(mV O (nS ?_))))))));refine am (sR (fL O (ae.g_Header r1) O O (bN (ie (b:= -1)) O O (nS ?_))));obtain⟨a9,a6,s⟩:=bp s;refine kp (F:=λb S Q=>∀(a0:List av)(a1:PV)(a2:(tSl av.t).R a0 a1),a9 a0=res->RC Tryz.prog b S Q [(6,a1),(3,.fp v1)] ⟨0,[]⟩) ?_ ?_
 ·intro a0 a1 a2 s;rw[<-a6]at s;refine am (sR (fL O (ae.g_Field r1) O O (bN cn O O (mV O ?_))));refine bw 6 (d:=39) (v:=vb ((decide (x1.Field < 0))||(decide ((a0.length:Int)<=x1.Field)))) ?_ ?_
  ·intro S Q r;cases a8:(decide (x1.Field < 0))
   ·intro k;have a4:=a8;try simp only[qa]at a4
    refine ai O O (bt O (ae.g_Field r1)) (ai O O (bq O O O) (ai O O (ba O) (ai O O (co O (ca a2 Tryz.underlying23 _)) (ai O O (br O O iz) ?_))));exact gK O O O O O k
   ·exact gN 5 O O O O O O
  refine nS ?_;refine bv s O ?_ ?_<;>clear s<;>intro c s<;>try simp only[qa]at c
  ·refine sR (mI O (mB O (nS ?_)));exact rT s O O O O O
  ·refine aw (aq (sR (mV O (fL O (ae.g_Field r1) O O ?_))));obtain⟨c1,b2,b5⟩:=cv (i:=x1.Field) a2 Y Y;refine ah (bd O O b2) (fL O (av.g_Width b5) O O (mV O (mB O (nS ?_))));exact rT s O O O O O
 ·intro J;refine bv s O ?_ ?_<;>clear s<;>intro c s<;>try simp only[qa]at c
  ·refine am (sR (fL O (ae.g_Header r1) O O (bN cn O O (mV O ?_))));refine bw 7 (d:=22) (v:=vb ((decide (x1.Header < 0))||(decide ((x0.Headers.length:Int)<=x1.Header)))) ?_ ?_
   ·intro S Q r;cases a7:(decide (x1.Header < 0))
    ·intro k;have a5:=a7;try simp only[qa]at a5
     refine ai O O (bt O (ae.g_Header r1)) (ai O O (bq O O O) ?_);obtain⟨c6,b6,a3⟩:=aa.g_Headers r0;refine ai O O (bt O b6) (ai O O (bq O (TR.cnt (tSl bm.t) a3) (TR.agg (tSl bm.t) a3)) (ai O O (co O (ca a3 Tryz.underlying22 _)) (ai O O (br O O iz) ?_)));exact gK O O O O O k
    ·exact gN 6 O O O O O O
   refine nS ?_;refine bv s O ?_ ?_<;>clear s<;>intro c s<;>try simp only[qa]at c
   ·refine sR (mI O (mB O (nS ?_)));exact rT s O O O O O
   ·refine aw (aq (az (gL (aa.g_Headers r0) O O O λc4 b0=>(fL O (ae.g_Header r1) O O ?_))));obtain⟨c5,b3,b1⟩:=cv (i:=x1.Header) b0 Y Y;refine ah (bd O O b3) (gL (bm.g_Fields b1) O O O λb9 b7=>(mV O (cd ?_)));refine aq (wC (J _ _ b7 s) O)
  ·refine aw ?_;refine aq (wC (J _ _ b4 s) O)
def RF219(res:Int)(r:PV):Prop:=r=vi res
theorem bg4{x0:Int}:FnR Tryz.prog 219 [vi x0] (vi (gi x0)):=by
 refine fnS (R:=RF219) dk6 (λ_ h=>h) O λres s=>?_;unfold gi at s;refine sR (mI O (nS (am (bg (sR (mV O (bN iz O O (mV O ?_))))))));refine bw 3 (d:=9) (v:=vb ((decide (1<=x0))&&(decide (x0<=4)))) ?_ ?_
 ·intro S Q r;cases a4:(decide (1<=x0))
  ·exact gN 2 O O O O O O
  ·intro k;have a2:=a4;try simp only[qa]at a2
   refine ai O O (ba O) (ai O O (br O O cb2) ?_);exact gK O O O O O k
 refine mV O (nS ?_);refine bv s O ?_ ?_<;>clear s<;>intro c s<;>try simp only[qa]at c
 ·refine sR (mI O (nS ?_));exact rR s O O O
 ·refine sR (mV O (bN iz O O (mV O ?_)));refine bw 3 (d:=16) (v:=vb ((decide (5<=x0))&&(decide (x0<=8)))) ?_ ?_
  ·intro S Q r;cases a3:(decide (5<=x0))
   ·exact gN 2 O O O O O O
   ·intro k;have a1:=a3;try simp only[qa]at a1
    refine ai O O (ba O) (ai O O (br O O cb2) ?_);exact gK O O O O O k
  refine mV O (nS ?_);refine bv s O ?_ ?_<;>clear s<;>intro c s<;>try simp only[qa]at c
  ·refine sR (mI O (nS ?_));exact rR s O O O
  ·refine sR (mV O (bN iz O O (mV O ?_)));refine bw 3 (d:=23) (v:=vb ((decide (9<=x0))&&(decide (x0<=16)))) ?_ ?_
   ·intro S Q r;cases a5:(decide (9<=x0))
    ·exact gN 2 O O O O O O
    ·intro k;have a0:=a5;try simp only[qa]at a0
     refine ai O O (ba O) (ai O O (br O O cb2) ?_);exact gK O O O O O k
   refine mV O (nS ?_);refine bv s O ?_ ?_<;>clear s<;>intro c s<;>try simp only[qa]at c
   ·refine sR (mI O (nS ?_));exact rR s O O O
   ·refine sR (mV O (bN du O O (mV O (nS ?_))));refine bv s O ?_ ?_<;>clear s<;>intro c s<;>try simp only[qa]at c
    ·refine sR (mI O (nS ?_));exact rR s O O O
    ·refine aw (db (aq (sR (mI O (nS ?_)))));exact rR s O O O
def RF285(res:Int×Int)(r:PV):Prop:=r= .tup [vi res.1,vi res.2]
theorem at6{x0:Int}:FnR Tryz.prog 285 [vi x0] (.tup [vi ((qs x0).1),vi ((qs x0).2)]):=by
 refine fnS (R:=RF285) dl4 (λ_ h=>h) O λres s=>?_;unfold qs at s;refine sR (mI O (mI O (nS (am (sR (mV O (bN cn O O (mV O ?_))))))));refine bw 3 (d:=9) (v:=vb ((decide (x0 < 1))||(decide (32 < x0)))) ?_ ?_
 ·intro S Q r;cases a1:(decide (x0 < 1))
  ·intro k;have a0:=a1;try simp only[qa]at a0
   refine ai O O (ba O) (ai O O (br O O fu) ?_);exact gK O O O O O k
  ·exact gN 2 O O O O O O
 refine nS ?_;refine bv s O ?_ ?_<;>clear s<;>intro c s<;>try simp only[qa]at c
 ·refine sR (mI O (mI O (nS ?_)));exact rT s O O O O O
 ·refine aw (aq (sR (mV O (mV O (mI O (nS ?_))))));exact rT s O O O O O
def RF183(res:Bool)(r:PV):Prop:=r=vb res
theorem yx{x0:Int}:FnR Tryz.prog 183 [vi x0] (vb (iu x0)):=by
 refine fnS (R:=RF183) dl3 (λ_ h=>h) O λres s=>?_;unfold iu at s;refine sR (mB O (nR (mV O (bN iz O O (mV O ?_)))));refine bw 3 (d:=8) (v:=vb ((decide (1<=x0))&&(decide (x0<=32)))) ?_ ?_
 ·intro S Q r;cases a1:(decide (1<=x0))
  ·exact gN 2 O O O O O O
  ·intro k;have a0:=a1;try simp only[qa]at a0
   refine ai O O (ba O) (ai O O (br O O cb2) ?_);exact gK O O O O O k
 refine mV O (nS ?_);exact rR s O O O
def RF184(res:(BitVec 64))(r:PV):Prop:=r=jg res
theorem ai3{S:List Fr}{res:(BitVec 64)}{x0:Int}(hp:x0<=64){K0:(BitVec 64)->(BitVec 64)}
 (a4:∀{a1:BitVec 64},K0 a1=res->PX Tryz.prog 0 S (QR Tryz.prog [(2,none)] (RF184 res)) [(3,jg a1)] ⟨0,[]⟩):
 ∀{m:Nat}{a1:BitVec 64}{a0:Int}(a3:m=Int.toNat (x0-a0))(a2:0<=a0),ri K0 m a1 a0=res->RC Tryz.prog (.loop ci8) S (QR Tryz.prog [(2,none)] (RF184 res)) [(4,vi a0),(3,jg a1),(0,vi x0)] ⟨0,[]⟩:=by
 intro m;induction m with
 |zero=>
  intro a1 a0 a3 a2 s;rw[ri]at s;refine ck (am (sR (mV O (mV O (bN cn O O (nS ?_))))));refine ci O ?_ ?_<;>intro c<;>try simp only[qa]at c
  ·omega
  refine dg (dx (da ?_));exact wP (a4 s) O
 |succ m ih=>
  intro a1 a0 a3 a2 s;rw[ri]at s;refine ck (am (sR (mV O (mV O (bN cn O O (nS ?_))))));refine ci O ?_ ?_<;>intro c<;>try simp only[qa]at c
  rotate_left
  ·omega
  refine aw (aq (am (bg (az (mV O (ah (br (a:=jg 2#64) (b:=jg a1) O O az2) (mV O (cd ?_))))))));refine db (aq (az (mV O (bN dw O O (mV O (cd (cy ?_)))))));have hinc:wr (a0+1)=a0+1:=cz Y Y;erw[hinc];exact wC (ih Y Y s) O
theorem ad5{x0:Int}(hp:x0<=64):FnR Tryz.prog 184 [vi x0] (jg (ju x0)):=by
 refine fnS (R:=RF184) dv2 (λ_ h=>h) O λres s=>?_;unfold ju at s;refine sR (ah (v:=jg 0#64) (ba O) (nR (ah (v:=jg 1#64) (ba O) (nS (am (sR (mI O (nS ?_))))))));refine bg ?_;refine wC (ai3 hp ?_ O Y s) O
 ·intro a0 s;refine ek (aq (sR (mV O (mV O (nS ?_)))));exact rR s O O O
def RF286(res:(BitVec 32))(r:PV):Prop:=r=de res
theorem cb6{x0:Int}:FnR Tryz.prog 286 [vi x0] (de (ol x0)):=by
 refine fnS (R:=RF286) da9 (λ_ h=>h) O λres s=>?_;unfold ol at s;refine sR (ah (v:=de 0#32) (ba O) (nS (am (sR (mV O ?_)))));obtain⟨a5,a4,s⟩:=bp s;have a2:=yx (x0:=x0);rw[a4]at a2;refine cL a2 O O (aj O bc) (ah (fw O) (nS ?_));refine bv s O ?_ ?_<;>clear s<;>intro c s<;>try simp only[qa]at c
 ·refine sR (ah (v:=de 0#32) (ba O) (nS ?_));exact rR s O O O
 ·refine aw (aq (sR (mV O ?_)));obtain⟨a1,a0,s⟩:=bp s;have a3:=ad5 (x0:=x0) (by(have hk:=rval OY OY;omega));rw[a0]at a3;refine cL a3 O O (aj O bc) (ah (br (a:=jg a1) (b:=jg 1#64) O O dz2) (ah (jb (a:=jg (a1-1#64)) O (c_dw Tryz.underlying201 Tryz.underlying89)) (mV O (nS ?_))));exact rR s O O O
def RF258(res:Int×Int)(r:PV):Prop:=r= .tup [vi res.1,vi res.2]
theorem cz3{x0:ak}{x1:au}{v0 v1:PV}(r0:ak.t.R x0 v0)(r1:au.t.R x1 v1):FnR Tryz.prog 258 [v0,v1] (.tup [vi ((uc x0 x1).1),vi ((uc x0 x1).2)]):=by
 refine fnS (R:=RF258) di5 (λ_ h=>h) O λres s=>?_;unfold uc at s;refine sR (ah (di O (TR.cnt ak.t r0)) (ah (di O (TR.cnt au.t r1)) (mI O (mI O (nS (am (sR (fL O (ak.g_Op r0) O O ?_))))))));refine nS (bg (sR (bN du O O (mV O (nS ?_)))));refine bv s O ?_ ?_<;>clear s<;>intro c s<;>try simp only[qa]at c
 ·refine sR (fL O (ak.g_W r0) O O ?_);obtain⟨a0,b2,s⟩:=bp s;have a7:=at6 (x0:=x0.W);rw[b2]at a7;refine cL a7 O O (aj O bc) (mV O (xT O O (xT O O (mV O (mV O (nS (am (sR ?_))))))));refine mV O (bN du O O (mV O ?_));refine bw 12 (d:=34) (v:=vb ((decide (a0.2=0))&&((decide (x0.N < 0))||(decide (((ol a0.1).toNat:Int) < x0.N))))) ?_ ?_
  ·intro S Q r;cases b7:(decide (a0.2=0))
   ·exact gN 11 O O O O O O
   ·intro k;have a4:=b7;try simp only[qa]at a4
    refine ai O O (bt O (ak.g_N r0)) (ai O O (bq O O O) (ai O O (br O O cn) (ai O O (ba O) ?_)));refine bw 7 (d:=33) (v:=vb ((decide (x0.N < 0))||(decide (((ol a0.1).toNat:Int) < x0.N)))) ?_ ?_
    ·intro S Q r;cases b4:(decide (x0.N < 0))
     ·intro k;have a5:=b4;try simp only[qa]at a5
      refine ai O O (bt O (ak.g_N r0)) (ai O O (bq O O O) (ai O O (ba O) ?_));have c9:=cb6 (x0:=a0.1);refine ik O O (og O O (aj O bc) c9) (ai O O (jb (a:=de (ol a0.1)) O (c_wi Tryz.underlying89 Tryz.underlying3)) (ai O O (br O O fu) (ai (v:=vb (decide (((ol a0.1).toNat:Int) < x0.N))) O O (pp O O O O) ?_)));exact wD k O
     ·intro k;refine kr O O (kr O O (kr O O (kr O O (kr O O (kr O O (ai (v:=vb true) O O (pp O O O O) ?_))))));exact wD k O
    exact gK O O O O O k
  refine nS ?_;refine bv s O ?_ ?_<;>clear s<;>intro c s<;>try simp only[qa]at c
  ·refine sR (mI O (mI O (nS ?_)));exact rT s O O O O O
  ·refine aw (aq (sR (mV O (mV O (mV O (mV O (nS ?_)))))));exact rT s O O O O O
 ·refine sR (bN du O O (mV O (nS ?_)));refine bv s O ?_ ?_<;>clear s<;>intro c s<;>try simp only[qa]at c
  ·refine sR (gL (au.g_Program r1) O O O λd4 b9=>(fL O (ak.g_N r0) O O (fL O (ak.g_W r0) O O (ah (v:= .agg [vi x0.N,vi x0.W]) (gm (cs:=[vi x0.N,vi x0.W]) O O) ?_))));obtain⟨c6,b1,s⟩:=bp s;have b3:=cc0 b9 (show ae.t.R ({Header:=x0.N,Field:=x0.W}:ae) (.agg [vi x0.N,vi x0.W]) from O);rw[b1]at b3;refine cL b3 O O (aj (TR.clo aa.t b9) (aj (TR.clo ae.t (show ae.t.R ({Header:=x0.N,Field:=x0.W}:ae) (.agg [vi x0.N,vi x0.W]) from O)) bc)) (mV O (xT O O (xT O O (mV O (mV O (nS (am (sR ?_))))))));refine mV O (ah (fw O) (nS ?_));refine bv s O ?_ ?_<;>clear s<;>intro c s<;>try simp only[qa]at c
   ·refine sR (mI O (mI O (nS ?_)));exact rT s O O O O O
   ·refine aw (aq (sR (mV O ?_)));obtain⟨d9,a9,s⟩:=bp s;have a8:=at6 (x0:=c6.1);rw[a9]at a8;refine cL a8 O O (aj O bc) (xT O O (xT O O (mV O (mV O (nS ?_)))));exact rT s O O O O O
  ·refine sR (bN du O O (mV O (nS ?_)));refine bv s O ?_ ?_<;>clear s<;>intro c s<;>try simp only[qa]at c
   ·refine am (sR (fL O (ak.g_N r0) O O (bN cn O O (mV O ?_))));refine bw 7 (d:=68) (v:=vb ((decide (x0.N < 0))||(decide ((x1.Params.length:Int)<=x0.N)))) ?_ ?_
    ·intro S Q r;cases b0:(decide (x0.N < 0))
     ·intro k;have a1:=b0;try simp only[qa]at a1
      refine ai O O (bt O (ak.g_N r0)) (ai O O (bq O O O) ?_);obtain⟨d6,d1,a3⟩:=au.g_Params r1;refine ai O O (bt O d1) (ai O O (bq O (TR.cnt (tSl av.t) a3) (TR.agg (tSl av.t) a3)) (ai O O (co O (ca a3 Tryz.underlying23 _)) (ai O O (br O O iz) ?_)));exact gK O O O O O k
     ·exact gN 6 O O O O O O
    refine nS ?_;refine bv s O ?_ ?_<;>clear s<;>intro c s<;>try simp only[qa]at c
    ·refine sR (mI O (mI O (nS ?_)));exact rT s O O O O O
    ·refine aw (aq (sR (gL (au.g_Params r1) O O O λd5 c1=>(fL O (ak.g_N r0) O O ?_))));obtain⟨d7,c4,c5⟩:=cv (i:=x0.N) c1 Y Y;refine ah (bd O O c4) (fL O (av.g_Width c5) O O ?_);obtain⟨d8,b8,s⟩:=bp s;have b5:=at6 (x0:=(ix x1.Params x0.N).Width);rw[b8]at b5;refine cL b5 O O (aj O bc) (xT O O (xT O O (mV O (mV O (nS ?_)))));exact rT s O O O O O
   ·refine aw (db (aq (am (sR (fL O (ak.g_N r0) O O (bN cn O O (mV O ?_)))))));refine bw 8 (d:=90) (v:=vb ((decide (x0.N < 0))||(decide ((x1.Program.Headers.length:Int)<=x0.N)))) ?_ ?_
    ·intro S Q r;cases b6:(decide (x0.N < 0))
     ·intro k;have a2:=b6;try simp only[qa]at a2
      refine ai O O (bt O (ak.g_N r0)) (ai O O (bq O O O) ?_);obtain⟨d3,d0,c7⟩:=au.g_Program r1;refine ai O O (bt O d0) ?_;obtain⟨d2,c8,a6⟩:=aa.g_Headers c7;refine ai O O (bt O c8) (ai O O (bq O (TR.cnt (tSl bm.t) a6) (TR.agg (tSl bm.t) a6)) (ai O O (co O (ca a6 Tryz.underlying22 _)) (ai O O (br O O iz) ?_)));exact gK O O O O O k
     ·exact gN 7 O O O O O O
    refine nS ?_;refine bv s O ?_ ?_<;>clear s<;>intro c s<;>try simp only[qa]at c
    ·refine sR (mI O (mI O (nS ?_)));exact rT s O O O O O
    ·refine aw (aq (sR (mI O (mI O (nS ?_)))));exact rT s O O O O O
def RF259(res:Int×Int)(r:PV):Prop:=r= .tup [vi res.1,vi res.2]
theorem dr7{x0:ak}{x1:List Int}{v0 v1:PV}(r0:ak.t.R x0 v0)(r1:(tSl tI).R x1 v1)(hl:(x1.length:Int)=gi x0.Op)(h1:1<=x1.length):FnR Tryz.prog 259 [v0,v1] (.tup [vi ((iw x0 x1).1),vi ((iw x0 x1).2)]):=by
 refine fnS (R:=RF259) dr0 (λ_ h=>h) O λres s=>?_;unfold iw at s;refine sR (ah (di O (TR.cnt ak.t r0)) (mI O (mI O (nS (am (sR (fL O (ak.g_Op r0) O O (nS ?_))))))));refine bg (sR (bN du O O (mV O (nS ?_))));refine bv s O ?_ ?_<;>clear s<;>intro c s<;>try simp only[qa]at c
 ·refine sR (mV O (ah (bd O O (slI (i:=0) r1 (by first|omega|(have hk:=opl hl;omega)|(have hk:=opl hl;have hj:=jor OY OY;omega)) (by first|omega|(have hk:=opl hl;omega)|(have hk:=opl hl;have hj:=jor OY OY;omega)))) (lR O O O (mV O (mI O (nS ?_))))));exact rT s O O O O O
 ·refine am (sR (bN du O O (mV O (nS ?_))));obtain⟨b7,b0,s⟩:=bp s;refine kp (F:=λb S Q=>∀(a0:Bool)(b4:a0=(if(decide (x0.Op=6))=true then(decide (x0.Op=6))else(decide (x0.Op=7)))),b7 a0=res->RC Tryz.prog b S Q [(13,vb a0),(7,vi x0.Op),(2,.fp v0),(1,v1)] ⟨0,[]⟩) ?_ ?_
  ·intro a0 b4 s;rw[<-b0]at s;refine bv s O ?_ ?_<;>clear s<;>intro c s<;>try simp only[qa]at c
   ·refine am (sR (fL O (ak.g_N r0) O O (bN cn O O (mV O ?_))));refine bw 4 (d:=23) (v:=vb ((decide (x0.N < 0))||(decide (31 < x0.N)))) ?_ ?_
    ·intro S Q r;cases b1:(decide (x0.N < 0))
     ·intro k;have a3:=b1;try simp only[qa]at a3
      refine ai O O (bt O (ak.g_N r0)) (ai O O (bq O O O) (ai O O (br O O fu) ?_));exact gK O O O O O k
     ·exact gN 3 O O O O O O
    refine nS ?_;refine bv s O ?_ ?_<;>clear s<;>intro c s<;>try simp only[qa]at c
    ·refine sR (mI O (mI O (nS ?_)));exact rT s O O O O O
    ·refine aw (aq (sR (mV O (ah (bd O O (slI (i:=0) r1 (by first|omega|(have hk:=opl hl;omega)|(have hk:=opl hl;have hj:=jor OY OY;omega)) (by first|omega|(have hk:=opl hl;omega)|(have hk:=opl hl;have hj:=jor OY OY;omega)))) (lR O O O (mV O (mI O (nS ?_))))))));exact rT s O O O O O
   ·refine sR (bN du O O (mV O (nS ?_)));refine bv s O ?_ ?_<;>clear s<;>intro c s<;>try simp only[qa]at c
    ·refine am (bg (sR (fL O (ak.g_N r0) O O (bN cn O O (mV O (nS ?_))))));refine bv s O ?_ ?_<;>clear s<;>intro c s<;>try simp only[qa]at c
     ·refine sR (mI O (mI O (nS ?_)));exact rT s O O O O O
     ·refine sR (fL O (ak.g_W r0) O O (bN cn O O (mV O ?_)));refine bw 4 (d:=41) (v:=vb ((decide (x0.W < 1))||(decide (32 < x0.W)))) ?_ ?_
      ·intro S Q r;cases b5:(decide (x0.W < 1))
       ·intro k;have a2:=b5;try simp only[qa]at a2
        refine ai O O (bt O (ak.g_W r0)) (ai O O (bq O O O) (ai O O (br O O fu) ?_));exact gK O O O O O k
       ·exact gN 3 O O O O O O
      refine mV O ?_;refine bw 10 (d:=52) (v:=vb (((decide (x0.W < 1))||(decide (32 < x0.W)))||(decide ((wr ((ix x1 0)-x0.W)) < x0.N)))) ?_ ?_
      ·intro S Q r;cases b2:((decide (x0.W < 1))||(decide (32 < x0.W)))
       ·intro k;have a4:=b2;try simp only[qa]at a4
        refine ai O O (bt O (ak.g_N r0)) (ai O O (bq O O O) (ai O O (ba O) (ai O O (bd O O (slI (i:=0) r1 (by first|omega|(have hk:=opl hl;omega)|(have hk:=opl hl;have hj:=jor OY OY;omega)) (by first|omega|(have hk:=opl hl;omega)|(have hk:=opl hl;have hj:=jor OY OY;omega)))) (ai O O (bq O O O) (ai O O (bt O (ak.g_W r0)) (ai O O (bq O O O) (ai O O (br O O af8) (ai O O (br O O fu) ?_))))))));exact gK O O O O O k
       ·exact gN 9 O O O O O O
      refine mV O (nS ?_);refine bv s O ?_ ?_<;>clear s<;>intro c s<;>try simp only[qa]at c
      ·refine sR (mI O (mI O (nS ?_)));exact rT s O O O O O
      ·refine aw (db (aq (sR (fL O (ak.g_W r0) O O (mV O (mI O (nS ?_)))))));exact rT s O O O O O
    ·refine sR (bN du O O (mV O (nS ?_)));refine bv s O ?_ ?_<;>clear s<;>intro c s<;>try simp only[qa]at c
     ·refine sR (mV O (ah (bd O O (slI (i:=0) r1 (by first|omega|(have hk:=opl hl;omega)|(have hk:=opl hl;have hj:=jor OY OY;omega)) (by first|omega|(have hk:=opl hl;omega)|(have hk:=opl hl;have hj:=jor OY OY;omega)))) (lR O O O (mV O (ah (bd O O (slI (i:=1) r1 (by first|omega|(have hk:=opl hl;omega)|(have hk:=opl hl;have hj:=jor OY OY;omega)) (by first|omega|(have hk:=opl hl;omega)|(have hk:=opl hl;have hj:=jor OY OY;omega)))) (lR O O O (bN dw O O ?_)))))));obtain⟨b8,a8,s⟩:=bp s;have a9:=at6 (x0:=(wr ((ix x1 0)+(ix x1 1))));rw[a8]at a9;refine cL a9 O O (aj O bc) (xT O O (xT O O (mV O (mV O (nS ?_)))));exact rT s O O O O O
     ·refine sR (bN du O O (mV O (nS ?_)));refine bv s O ?_ ?_<;>clear s<;>intro c s<;>try simp only[qa]at c
      ·refine am (sR (mV O (ah (bd O O (slI (i:=0) r1 (by first|omega|(have hk:=opl hl;omega)|(have hk:=opl hl;have hj:=jor OY OY;omega)) (by first|omega|(have hk:=opl hl;omega)|(have hk:=opl hl;have hj:=jor OY OY;omega)))) (lR O O O (bN ie O O (mV O ?_))))));refine bw 8 (d:=81) (v:=vb ((!decide ((ix x1 0)=1))||(!decide ((ix x1 1)=(ix x1 2))))) ?_ ?_
       ·intro S Q r;cases b6:(!decide ((ix x1 0)=1))
        ·intro k;have a7:=b6;try simp only[qa]at a7
         refine ai O O (ba O) (ai O O (bd O O (slI (i:=1) r1 (by first|omega|(have hk:=opl hl;omega)|(have hk:=opl hl;have hj:=jor OY OY;omega)) (by first|omega|(have hk:=opl hl;omega)|(have hk:=opl hl;have hj:=jor OY OY;omega)))) (ai O O (bq O O O) (ai O O (ba O) (ai O O (bd O O (slI (i:=2) r1 (by first|omega|(have hk:=opl hl;omega)|(have hk:=opl hl;have hj:=jor OY OY;omega)) (by first|omega|(have hk:=opl hl;omega)|(have hk:=opl hl;have hj:=jor OY OY;omega)))) (ai O O (bq O O O) (ai O O (br O O ie) ?_))))));exact gK O O O O O k
        ·exact gN 7 O O O O O O
       refine nS ?_;refine bv s O ?_ ?_<;>clear s<;>intro c s<;>try simp only[qa]at c
       ·refine sR (mI O (mI O (nS ?_)));exact rT s O O O O O
       ·refine aw (aq (sR (mV O (ah (bd O O (slI (i:=1) r1 (by first|omega|(have hk:=opl hl;omega)|(have hk:=opl hl;have hj:=jor OY OY;omega)) (by first|omega|(have hk:=opl hl;omega)|(have hk:=opl hl;have hj:=jor OY OY;omega)))) (lR O O O (mV O (mI O (nS ?_))))))));exact rT s O O O O O
      ·refine aw (db (aq (am (bg (sR (mV O (ah (bd O O (slI (i:=0) r1 (by first|omega|(have hk:=opl hl;omega)|(have hk:=opl hl;have hj:=jor OY OY;omega)) (by first|omega|(have hk:=opl hl;omega)|(have hk:=opl hl;have hj:=jor OY OY;omega)))) (lR O O O ?_))))))));refine mV O (ah (bd O O (slI (i:=1) r1 (by first|omega|(have hk:=opl hl;omega)|(have hk:=opl hl;have hj:=jor OY OY;omega)) (by first|omega|(have hk:=opl hl;omega)|(have hk:=opl hl;have hj:=jor OY OY;omega)))) (lR O O O (bN ie O O (mV O (nS ?_)))));refine bv s O ?_ ?_<;>clear s<;>intro c s<;>try simp only[qa]at c
       ·refine sR (mI O (mI O (nS ?_)));exact rT s O O O O O
       ·refine sR (fL O (ak.g_Op r0) O O (bN du O O (mV O ?_)));refine bw 4 (d:=101) (v:=vb ((decide (x0.Op=15))||(decide (x0.Op=16)))) ?_ ?_
        ·intro S Q r;cases b3:(decide (x0.Op=15))
         ·intro k;have a5:=b3;try simp only[qa]at a5
          refine ai O O (bt O (ak.g_Op r0)) (ai O O (bq O O O) (ai O O (br O O du) ?_));exact gK O O O O O k
         ·exact gN 3 O O O O O O
        refine mV O (nS ?_);refine bv s O ?_ ?_<;>clear s<;>intro c s<;>try simp only[qa]at c
        ·refine sR (mI O (mI O (nS ?_)));exact rT s O O O O O
        ·refine aw (db (aq (sR (mV O (ah (bd O O (slI (i:=0) r1 (by first|omega|(have hk:=opl hl;omega)|(have hk:=opl hl;have hj:=jor OY OY;omega)) (by first|omega|(have hk:=opl hl;omega)|(have hk:=opl hl;have hj:=jor OY OY;omega)))) (lR O O O (mV O (mI O ?_))))))));refine nS ?_;exact rT s O O O O O
  ·intro J;refine bv s O ?_ ?_<;>clear s<;>intro a1 s<;>have a6:=a1<;>try simp only[qa]at a6
   ·refine aw ?_;refine aq (wC (J _ (bv2 a1).symm s) O)
   ·refine az (bN du O O (mV O (cd ?_)));refine aq (wC (J _ (bs8 a1).symm s) O)
end Go.Proofs.YtmonnlkagniolaaGreat
