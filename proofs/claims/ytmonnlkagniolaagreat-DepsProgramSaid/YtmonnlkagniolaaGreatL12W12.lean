/-
 The code of each function does what its plain program says.
-/
import Derived.Test.YtmonnlkagniolaaGreatL12W11
set_option linter.unusedVariables false
set_option linter.unusedSimpArgs false
set_option maxRecDepth 100000
namespace Go.Proofs.YtmonnlkagniolaaGreat
open Go Go.Pb Go.RowKit
def RF17(res:(List Int))(r:PV):Prop:=(tSl tI).R res r
theorem ag7{S:List Fr}{res:(List Int)}{x0:af}{x1:ay}{v0 b0:PV}{a1 a2:Nat}(r0:af.t.R x0 v0)(hs:x0.Headers.length<=1000)(hA:AB x0)(hc:x1.Cond.length<=1000)(b4:(decide (x1.Table=(-1)))=false)(b8:((decide (x1.Table < 0))||(decide ((x0.Tables.length:Int)<=x1.Table)))=false)(b1:ca.t.R (ix x0.Tables x1.Table) b0){K0:(List Int)->(List Int)}
 (e1:∀{a3:List Int}{a8:PV}(b2:(tSl tI).R a3 a8)(e4:a3.length<=24){h:Heap}(M0:Mem h [⟨.op a1 a2 0,59,6,[b0]⟩]),K0 a3=res->PX Tryz.prog 0 S (QR Tryz.prog [(4,none)] (RF17 res)) [(2,.fp v0),(5,a8),(6,.op a1 a2 0)] h):
 ∀{m:Nat}{a3:List Int}{a0:Int}{a8:PV}(b2:(tSl tI).R a3 a8)(d5:m=Int.toNat ((((ix x0.Tables x1.Table).Keys).length:Int)-a0))(b5:0<=a0)(a4:(a3.length:Int)<=a0)(a6:a0<=24){h:Heap}(M0:Mem h [⟨.op a1 a2 0,59,6,[b0]⟩]),oh x0 x1 K0 m a3 a0=res->RC Tryz.prog (.loop dj9) S (QR Tryz.prog [(4,none)] (RF17 res)) [(7,vi a0),(6,.op a1 a2 0),(5,a8),(2,.fp v0)] h:=by
 have hc':=hc;try simp only[qa]at hc'
 have a7:=b4;try simp only[qa]at a7
 have a9:=b8;try simp only[qa]at a9
 intro m;induction m with
 |zero=>
  intro a3 a0 a8 b2 d5 b5 a4 a6 h M0 z;rw[oh]at z;refine cg (am (sR (mV O (ah (bh O) ?_))));obtain⟨d7,d0,c6⟩:=ca.g_Keys b1;refine ah (ci (k:=0) M0 O O d0) (ah (da O (co c6 Tryz.underlying57 _)) (bN cx O O (nS ?_)));refine bv O ?_ ?_<;>intro c<;>try simp only[qa]at c
  ·omega
  refine dl (ee (dh ?_));exact wP (e1 b2 V (Mem.sub M0 (.cons_cons _ .slnil)) z) O
 |succ m ih=>
  intro a3 a0 a8 b2 d5 b5 a4 a6 h M0 z;rw[oh]at z;refine cg (am (sR (mV O (ah (bh O) ?_))));obtain⟨e0,d1,b7⟩:=ca.g_Keys b1;refine ah (ci (k:=0) M0 O O d1) (ah (da O (co b7 Tryz.underlying57 _)) (bN cx O O (nS ?_)));refine bv O ?_ ?_<;>intro c<;>try simp only[qa]at c
  rotate_left
  ·omega
  refine bc (aq (am (bm (ax (mV O (lD r0 O O O (ah (bh O) ?_)))))));obtain⟨e2,c5,c9⟩:=ca.g_Keys b1;refine ah (ci (k:=0) M0 O O c5) (mV O ?_);obtain⟨d6,c7,d2⟩:=dn (i:=a0) c9 V V;refine ah (bn O O c7) (gL (fq.g_Field d2) O O O λd8 b9=>?_);obtain⟨c8,b3,z⟩:=br z;have c4:=cd2 r0 b9 (by first|assumption|omega|(rw[db V V];omega));rw[b3]at c4;refine cL c4 O O (ak (TR.clo af.t r0) (ak (TR.clo aa.t b9) bp)) ?_;obtain⟨d9,a5,z⟩:=br z;obtain⟨e3,d3,b6⟩:=be5 (x1:=c8) b2 (by first|omega|(have hT:=hA.2 x1.Table V V;omega));rw[a5]at b6;have d4:=xp a5 V;refine cL d3 O O (ak (TR.clo (tSl tI) b2) (ak O bp)) (mV O (bq (de (aq (ax (mV O (bN dt O O (mV O ?_))))))));refine bq (cy ?_);have s:=df b7;have o:wr (a0+1)=a0+1:=db V V;erw[o];exact wC (ih b6 V V (by first|omega|(have hT:=hA.2 x1.Table V V;omega)) (by first|omega|(have hT:=hA.2 x1.Table V V;omega)) (Mem.sub M0 (.cons_cons _ .slnil)) z) O
theorem ak1{S:List Fr}{res:(List Int)}{x0:af}{x1:ay}{b7:List Int}{v0 b0:PV}{a9 b2:Nat}(r0:af.t.R x0 v0)(hs:x0.Headers.length<=1000)(hA:AB x0)(hc:x1.Cond.length<=1000)(c4:(decide (x1.Table=(-1)))=false)(c7:((decide (x1.Table < 0))||(decide ((x0.Tables.length:Int)<=x1.Table)))=false)(b6:ca.t.R (ix x0.Tables x1.Table) b0)(c8:b7.length<=24){K2:(List Int)->(List Int)}
 (e3:∀{a5:List Int}{a7:PV}(b8:(tSl tI).R a5 a7){h:Heap}(M0:Mem h [⟨.op a9 b2 0,59,6,[b0]⟩]),K2 a5=res->PX Tryz.prog 2 S (QR Tryz.prog [(4,none)] (RF17 res)) [(5,a7)] h):
 ∀{m:Nat}{a5:List Int}{a0:Int}{a7:PV}(b8:(tSl tI).R a5 a7)(d7:m=Int.toNat ((((ix x0.Tables x1.Table).Actions).length:Int)-a0))(c6:0<=a0)(a3:(a5.length:Int)<=24+39000*a0)(a2:a0<=24){h:Heap}(M0:Mem h [⟨.op a9 b2 0,59,6,[b0]⟩]),ly x0 x1 K2 m a5 a0=res->RC Tryz.prog (.loop de2) S (QR Tryz.prog [(4,none)] (RF17 res)) [(8,vi a0),(6,.op a9 b2 0),(5,a7),(2,.fp v0)] h:=by
 have hc':=hc;try simp only[qa]at hc'
 have a6:=c4;try simp only[qa]at a6
 have a8:=c7;try simp only[qa]at a8
 intro m;induction m with
 |zero=>
  intro a5 a0 a7 b8 d7 c6 a3 a2 h M0 z;rw[ly]at z;refine cg (am (sR (mV O (ah (bh O) ?_))));obtain⟨e4,d0,d3⟩:=ca.g_Actions b6;refine ah (ci (k:=0) M0 O O d0) (ah (da O (co d3 Tryz.underlying29 _)) (bN cx O O (nS ?_)));refine bv O ?_ ?_<;>intro c<;>try simp only[qa]at c
  ·omega
  refine dl (ee (dh ?_));exact wP (e3 b8 (Mem.sub M0 (.cons_cons _ .slnil)) z) O
 |succ m ih=>
  intro a5 a0 a7 b8 d7 c6 a3 a2 h M0 z;rw[ly]at z;refine cg (am (sR (mV O (ah (bh O) ?_))));obtain⟨e0,c9,b9⟩:=ca.g_Actions b6;refine ah (ci (k:=0) M0 O O c9) (ah (da O (co b9 Tryz.underlying29 _)) (bN cx O O (nS ?_)));refine bv O ?_ ?_<;>intro c<;>try simp only[qa]at c
  rotate_left
  ·omega
  refine bc (aq (am (bm (sR (lD r0 O O O (ah (bh O) ?_))))));obtain⟨e7,d4,d5⟩:=ca.g_Actions b6;refine ah (ci (k:=0) M0 O O d4) (mV O (ah (bn O O (slI d5 V V)) (lR O O O ?_)));obtain⟨b4,a4,z⟩:=br z;obtain⟨e2,e5,e6,d2,b5,b1,b3⟩:=ef2 (x1:=(ix ((ix x0.Tables x1.Table).Actions) a0)) r0;rw[a4]at b5 b1 b3;have d6:b4.1.length<=13000/\b4.2.1.length<=13000/\b4.2.2.length<=13000:=bq4 a4;refine cL d2 O O (ak (TR.clo af.t r0) (ak O bp)) (mV O (xT O O (xT O O (xT O O (mV O (mV O (mV O (nS ?_))))))));refine ax (lD r0 O O O (mV O (mV O (mV O (mV O ?_)))));obtain⟨e1,a1,z⟩:=br z;obtain⟨d9,d1,c5⟩:=bo4 r0 b8 b5 b1 b3 (by first|omega|((try dsimp only);(try simp only[List.length_append,List.length_cons,List.length_nil]);omega)|simp) (by first|omega|((try dsimp only);(try simp only[List.length_append,List.length_cons,List.length_nil]);omega)|simp);rw[a1]at c5;have d8:=ad7 a1 (by first|omega|(simp only[List.length_nil];omega));refine cL d1 O O (ak (TR.clo af.t r0) (ak (TR.clo (tSl tI) b8) (ak (TR.clo (tSl aa.t) b5) (ak (TR.clo (tSl tI) b1) (ak (TR.clo (tSl tI) b3) bp))))) (mV O (bq (de (aq (ax (mV O (bN dt O O (mV O ?_))))))));refine bq (cy ?_);have s:=df b9;have o:wr (a0+1)=a0+1:=db V V;erw[o];exact wC (ih c5 V V (by first|omega|(have hT:=hA.2 x1.Table V V;omega)) (by first|omega|(have hT:=hA.2 x1.Table V V;omega)) (Mem.sub M0 (.cons_cons _ .slnil)) z) O
theorem dz9{x0:af}{x1:ay}{v0 v1:PV}(r0:af.t.R x0 v0)(r1:ay.t.R x1 v1)(hs:x0.Headers.length<=1000)(hA:AB x0)(hc:x1.Cond.length<=1000):∃r,FnR Tryz.prog 17 [v0,v1] r/\(tSl tI).R (rq x0 x1) r:=by
 refine fnT (R:=RF17) dy4 O λres z=>?_;unfold rq at z;refine sR (ah (ej O (TR.cnt af.t r0)) (ah (ej O (TR.cnt ay.t r1)) (ah (v:=nilS) (ba O) (nS (am (sR (fL O (ay.g_Table r1) O O (bN (dy (b:= -1)) O O ?_))))))));refine nS ?_;refine ck z O ?_ ?_<;>clear z<;>intro a0 z<;>have a8:=a0<;>try simp only[qa]at a8
 ·refine sR (lD r0 O O O (gL (ay.g_Cond r1) O O O λf4 c4=>?_));obtain⟨e7,a5,z⟩:=br z;obtain⟨f0,c6,b3⟩:=cq1 c4 (by first|assumption|omega|(rw[db V V];omega));rw[a5]at b3;have e2:=am8 a5;refine cL c6 O O (ak (TR.clo (tSl ai.t) c4) bp) (gL (ay.g_Cond r1) O O O λe6 b8=>?_);obtain⟨f2,a6,z⟩:=br z;obtain⟨f6,c7,b5⟩:=co7 b8 (by first|assumption|omega|(rw[db V V];omega));rw[a6]at b5;have e0:=aj3 a6;refine cL c7 O O (ak (TR.clo (tSl ai.t) b8) bp) ?_;obtain⟨f5,a7,z⟩:=br z;obtain⟨e5,d3,a9⟩:=bo4 r0 fm b3 b5 fm (by first|omega|((try dsimp only);(try simp only[List.length_append,List.length_cons,List.length_nil]);omega)|simp) (by first|omega|((try dsimp only);(try simp only[List.length_append,List.length_cons,List.length_nil]);omega)|simp);rw[a7]at a9;have e1:=ad7 a7 (by first|omega|(simp only[List.length_nil];omega));refine cL d3 O O (ak (TR.clo af.t r0) (ak (TR.clo (tSl tI) fm) (ak (TR.clo (tSl aa.t) b3) (ak (TR.clo (tSl tI) b5) (ak (TR.clo (tSl tI) fm) bp))))) (mV O (nS ?_));exact rR z O (TR.clo (tSl tI) a9) a9
 ·refine bc (aq (am (sR (fL O (ay.g_Table r1) O O (bN cx O O (mV O ?_))))));refine cq 7 (d:=33) (v:=vb ((decide (x1.Table < 0))||(decide ((x0.Tables.length:Int)<=x1.Table)))) ?_ ?_
  ·intro S Q r;cases b7:(decide (x1.Table < 0))
   ·intro k;have b1:=b7;try simp only[qa]at b1
    refine aj O O (cw O (ay.g_Table r1)) (aj O O (cp O O O) ?_);obtain⟨f3,c9,b4⟩:=af.g_Tables r0;refine aj O O (cw O c9) (aj O O (cp O (TR.cnt (tSl ca.t) b4) (TR.agg (tSl ca.t) b4)) (aj O O (da O (co b4 Tryz.underlying26 _)) (aj O O (ct O O lh) ?_)));exact gK O O O O O k
   ·exact gN 6 O O O O O O
  refine nS ?_;refine ck z O ?_ ?_<;>clear z<;>intro a2 z<;>have b2:=a2<;>try simp only[qa]at b2
  ·refine sR (ah (v:=nilS) (ba O) (nS ?_));exact rR z O (TR.clo (tSl tI) fm) fm
  ·refine bc (aq (sR (ah (v:=nilS) (ba O) (nR (gL (af.g_Tables r0) O O O λe9 c5=>(fL O (ay.g_Table r1) O O ?_))))));obtain⟨b9,d4,a4⟩:=dn (i:=x1.Table) c5 V V;refine ah (bn O O d4) (lD a4 O O O ?_);refine dz (x:= .agg [vs [],nilS,nilS,vi 0,nilS,vi 0]) (Mem.nil ⟨0,[]⟩) O O (λd0 d5 e4 d2=>?_);refine dm (k:=0) (v:=b9) d2 O O O (TR.cnt ca.t a4) (λc8 b0=>?_);replace b0:Mem c8 [⟨.op d0 d5 0,59,6,[b9]⟩]:=b0;refine nS (am (sR (mI O (nS (bm ?_)))));refine wC (ag7 r0 hs hA hc a0 a2 a4 ?_ fm O V (by first|omega|((try dsimp only);(try simp only[List.length_append,List.length_cons,List.length_nil]);omega)|simp) (by first|omega|((try dsimp only);(try simp only[List.length_append,List.length_cons,List.length_nil]);omega)|simp) (Mem.sub b0 (.cons_cons _ .slnil)) z) O
   ·intro d8 d1 b6 a3 e3 d7 z;refine em (aq (am (sR (mI O (nS (bm ?_))))));refine wC (ak1 r0 hs hA hc a0 a2 a4 a3 ?_ b6 O V (by first|omega|((try dsimp only);(try simp only[List.length_append,List.length_cons,List.length_nil]);omega)|simp) (by first|omega|((try dsimp only);(try simp only[List.length_append,List.length_cons,List.length_nil]);omega)|simp) (Mem.sub d7 (.cons_cons _ .slnil)) z) O
    ·intro d9 d6 a1 f1 e8 z;refine em (aq (sR (mV O (mV O (nS ?_)))));exact rR z O (TR.clo (tSl tI) a1) a1
def RF12(res:Bool)(r:PV):Prop:=r=vb res
theorem wq{S:List Fr}{res:Bool}{x0:af}{b6:Bool}{a0:(List ay)}{a1:(List (List Int))}{a2:Int}{v0 a9 a5:PV}(e1:pf x0=b6)(b4:((!b6)||(!(lu x0.Control 40)))=false)(e4:lr x0=a0)(a7:(tSl ay.t).R a0 a9)(d9:SU a0)(e0:pm x0 a0=a1)(d1:(tSl (tSl tI)).R a1 a5)(e3:DL a0.length a1)(c6:((decide (24 < (a0.length:Int)))||(!decide ((a1.length:Int)=(a0.length:Int))))=false)(e8:0<=a2)(b9:(decide (a2 < (a0.length:Int)))=true)(b5:(!decide (((ix a1 a2).length:Int)=(a0.length:Int)))=false){K2:Unit->Bool}
 (f1:K2 ()=res->PX Tryz.prog 2 S (QR Tryz.prog [(2,none)] (RF12 res)) [(1,.fp v0),(3,a9),(4,a5),(5,vi a2)] ⟨0,[]⟩):
 ∀{m:Nat}{a3:Int}(e2:m=Int.toNat ((((ix a0 a2).Guards).length:Int)-a3))(c4:0<=a3),jp a0 a1 a2 K2 m a3=res->RC Tryz.prog (.loop cw5) S (QR Tryz.prog [(2,none)] (RF12 res)) [(6,vi a3),(5,vi a2),(4,a5),(3,a9),(1,.fp v0)] ⟨0,[]⟩:=by
 have b3:=b4;try simp only[qa]at b3
 have a8:=c6;try simp only[qa]at a8
 have b1:=b9;try simp only[qa]at b1
 have b0:=b5;try simp only[qa]at b0
 intro m;induction m with
 |zero=>
  intro a3 e2 c4 z;rw[jp]at z;refine cg (am (sR (mV O (mV O (mV O ?_)))));obtain⟨e7,d0,c7⟩:=dn (i:=a2) a7 (by first|omega|(have hn:=(‹DL a0.length a1›).n;first|omega|(rw[(‹DL a0.length a1›).r _ V V];omega))) (by first|omega|(have hn:=(‹DL a0.length a1›).n;first|omega|(rw[(‹DL a0.length a1›).r _ V V];omega)));refine ah (bn O O d0) (gL (ay.g_Guards c7) O O O λf2 d6=>(ah (da O (co d6 Tryz.underlying33 _)) (bN cx O O (nS ?_))));refine bv O ?_ ?_<;>intro c<;>try simp only[qa]at c
  ·omega
  refine dl (ee (dh ?_));exact wP (f1 z) O
 |succ m ih=>
  intro a3 e2 c4 z;rw[jp]at z;refine cg (am (sR (mV O (mV O (mV O ?_)))));obtain⟨f3,c8,d2⟩:=dn (i:=a2) a7 (by first|omega|(have hn:=(‹DL a0.length a1›).n;first|omega|(rw[(‹DL a0.length a1›).r _ V V];omega))) (by first|omega|(have hn:=(‹DL a0.length a1›).n;first|omega|(rw[(‹DL a0.length a1›).r _ V V];omega)));refine ah (bn O O c8) (gL (ay.g_Guards d2) O O O λe5 c5=>(ah (da O (co c5 Tryz.underlying33 _)) (bN cx O O (nS ?_))));refine bv O ?_ ?_<;>intro c<;>try simp only[qa]at c
  rotate_left
  ·omega
  refine bc (aq (am (bm (sR (mV O (mV O ?_))))));obtain⟨e6,d3,d5⟩:=dn (i:=a2) a7 (by first|omega|(have hn:=(‹DL a0.length a1›).n;first|omega|(rw[(‹DL a0.length a1›).r _ V V];omega))) (by first|omega|(have hn:=(‹DL a0.length a1›).n;first|omega|(rw[(‹DL a0.length a1›).r _ V V];omega)));refine ah (bn O O d3) (gL (ay.g_Guards d5) O O O λe9 c9=>(mV O ?_));obtain⟨f4,d7,d8⟩:=dn (i:=a3) c9 (by first|omega|(have hn:=(‹DL a0.length a1›).n;first|omega|(rw[(‹DL a0.length a1›).r _ V V];omega))) (by first|omega|(have hn:=(‹DL a0.length a1›).n;first|omega|(rw[(‹DL a0.length a1›).r _ V V];omega)));refine ah (bn O O d7) (fL O (bd.g_Unit d8) O O (mV O (nR (mV O (bN cx O O (mV O ?_))))));refine cq 4 (d:=83) (v:=vb ((decide (((ix ((ix a0 a2).Guards) a3).Unit) < 0))||(decide (a2<=((ix ((ix a0 a2).Guards) a3).Unit))))) ?_ ?_
  ·intro S Q r;cases b7:(decide (((ix ((ix a0 a2).Guards) a3).Unit) < 0))
   ·intro k;have b2:=b7;try simp only[qa]at b2
    refine aj O O (ba O) (aj O O (ba O) (aj O O (ct O O lh) ?_));exact gK O O O O O k
   ·exact gN 3 O O O O O O
  refine mV O ?_;refine cq 9 (d:=93) (v:=vb (((decide (((ix ((ix a0 a2).Guards) a3).Unit) < 0))||(decide (a2<=((ix ((ix a0 a2).Guards) a3).Unit))))||(!decide ((ix (ix a1 ((ix ((ix a0 a2).Guards) a3).Unit)) a2)=2)))) ?_ ?_
  ·intro S Q r;cases b8:((decide (((ix ((ix a0 a2).Guards) a3).Unit) < 0))||(decide (a2<=((ix ((ix a0 a2).Guards) a3).Unit))))
   ·intro k;have a4:=b8;try simp only[qa]at a4
    refine aj O O (ba O) (aj O O (ba O) ?_);obtain⟨f0,d4,a6⟩:=dn (i:=(ix ((ix a0 a2).Guards) a3).Unit) d1 (by first|omega|(have hn:=(‹DL a0.length a1›).n;first|omega|(rw[(‹DL a0.length a1›).r _ V V];omega))) (by first|omega|(have hn:=(‹DL a0.length a1›).n;first|omega|(rw[(‹DL a0.length a1›).r _ V V];omega)));refine aj O O (bn O O d4) (aj O O (cp O (TR.cnt (tSl tI) a6) (TR.agg (tSl tI) a6)) (aj O O (ba O) (aj O O (bn O O (slI a6 (by first|omega|(have hn:=(‹DL a0.length a1›).n;first|omega|(rw[(‹DL a0.length a1›).r _ V V];omega))) (by first|omega|(have hn:=(‹DL a0.length a1›).n;first|omega|(rw[(‹DL a0.length a1›).r _ V V];omega))))) (aj O O (cp O O O) (aj O O (ct O O kx) ?_)))));exact gK O O O O O k
   ·exact gN 8 O O O O O O
  refine nS ?_;refine ck z O ?_ ?_<;>clear z<;>intro c z<;>try simp only[qa]at c
  ·refine sR (mB O (nS ?_));exact rR z O O O
  ·refine bc (de (aq (ax (mV O (bN dt O O (mV O (bq (cy ?_))))))));have s:=df c5;have o:wr (a3+1)=a3+1:=db V V;erw[o];exact wC (ih V V z) O
theorem xb{S:List Fr}{res:Bool}{x0:af}{d0:Bool}{a0:(List ay)}{a1:(List (List Int))}{a6 a7:Int}{c9:Bool}{a4 a5:(List Int)}{a3:Int}{v0 d2 b2 b7 a9:PV}(e3:pf x0=d0)(c7:((!d0)||(!(lu x0.Control 40)))=false)(e8:lr x0=a0)(e0:SU a0)(e2:pm x0 a0=a1)(d7:(tSl (tSl tI)).R a1 b2)(e6:DL a0.length a1)(d5:((decide (24 < (a0.length:Int)))||(!decide ((a1.length:Int)=(a0.length:Int))))=false)(f1:0<=a6)(d4:(decide (a6 < (a0.length:Int)))=true)(c8:(!decide (((ix a1 a6).length:Int)=(a0.length:Int)))=false)(f0:0<=a7)(d3:(decide (a7 < a6))=true)(e5:ji a0 a7 a6=c9)(d1:c9=false)(e1:qt x0 (ix a0 a7)=a4)(d8:(tSl tI).R a4 b7)(e7:rq x0 (ix a0 a6)=a5)(a8:(tSl tI).R a5 a9)(f2:0<=a3)(c6:(decide (a3 < (a4.length:Int)))=true){K8:Unit->Bool}
 (f3:K8 ()=res->PX Tryz.prog 8 S (QR Tryz.prog [(2,none)] (RF12 res)) [(1,.fp v0),(3,d2),(4,b2),(5,vi a6),(8,vi a7),(9,b7),(10,a9),(11,vi a3)] ⟨0,[]⟩):
 ∀{m:Nat}{a2:Int}(e4:m=Int.toNat ((a5.length:Int)-a2))(c5:0<=a2),jq a1 a6 a7 a4 a5 a3 K8 m a2=res->RC Tryz.prog (.loop dl4) S (QR Tryz.prog [(2,none)] (RF12 res)) [(12,vi a2),(11,vi a3),(10,a9),(9,b7),(8,vi a7),(5,vi a6),(4,b2),(3,d2),(1,.fp v0)] ⟨0,[]⟩:=by
 have c4:=c7;try simp only[qa]at c4
 have b4:=d5;try simp only[qa]at b4
 have b8:=d4;try simp only[qa]at b8
 have b6:=c8;try simp only[qa]at b6
 have b3:=d3;try simp only[qa]at b3
 have b5:=d1;try simp only[qa]at b5
 have b0:=c6;try simp only[qa]at b0
 intro m;induction m with
 |zero=>
  intro a2 e4 c5 z;rw[jq]at z;refine cg (am (sR (mV O (mV O (ah (da O (co a8 Tryz.underlying29 _)) (bN cx O O (nS ?_)))))));refine bv O ?_ ?_<;>intro c<;>try simp only[qa]at c
  ·omega
  refine dl (ee (dh ?_));exact wP (f3 z) O
 |succ m ih=>
  intro a2 e4 c5 z;rw[jq]at z;refine cg (am (sR (mV O (mV O (ah (da O (co a8 Tryz.underlying29 _)) (bN cx O O (nS ?_)))))));refine bv O ?_ ?_<;>intro c<;>try simp only[qa]at c
  rotate_left
  ·omega
  refine bc (aq (am (bm (sR (mV O (mV O (ah (bn O O (slI d8 (by first|omega|(have hn:=(‹DL a0.length a1›).n;first|omega|(rw[(‹DL a0.length a1›).r _ V V];omega))) (by first|omega|(have hn:=(‹DL a0.length a1›).n;first|omega|(rw[(‹DL a0.length a1›).r _ V V];omega))))) (lR O O O ?_))))))));refine mV O (mV O (ah (bn O O (slI a8 (by first|omega|(have hn:=(‹DL a0.length a1›).n;first|omega|(rw[(‹DL a0.length a1›).r _ V V];omega))) (by first|omega|(have hn:=(‹DL a0.length a1›).n;first|omega|(rw[(‹DL a0.length a1›).r _ V V];omega))))) (lR O O O (bN dy O O (mV O ?_)))));refine cq 9 (d:=153) (v:=vb ((decide ((ix a4 a3)=(ix a5 a2)))&&(!decide ((ix (ix a1 a7) a6)=2)))) ?_ ?_
  ·intro S Q r;cases d6:(decide ((ix a4 a3)=(ix a5 a2)))
   ·exact gN 8 O O O O O O
   ·intro k;have b9:=d6;try simp only[qa]at b9
    refine aj O O (ba O) (aj O O (ba O) ?_);obtain⟨e9,d9,b1⟩:=dn (i:=a7) d7 (by first|omega|(have hn:=(‹DL a0.length a1›).n;first|omega|(rw[(‹DL a0.length a1›).r _ V V];omega))) (by first|omega|(have hn:=(‹DL a0.length a1›).n;first|omega|(rw[(‹DL a0.length a1›).r _ V V];omega)));refine aj O O (bn O O d9) (aj O O (cp O (TR.cnt (tSl tI) b1) (TR.agg (tSl tI) b1)) (aj O O (ba O) (aj O O (bn O O (slI b1 (by first|omega|(have hn:=(‹DL a0.length a1›).n;first|omega|(rw[(‹DL a0.length a1›).r _ V V];omega))) (by first|omega|(have hn:=(‹DL a0.length a1›).n;first|omega|(rw[(‹DL a0.length a1›).r _ V V];omega))))) (aj O O (cp O O O) (aj O O (ct O O kx) ?_)))));exact gK O O O O O k
  refine nS ?_;refine ck z O ?_ ?_<;>clear z<;>intro c z<;>try simp only[qa]at c
  ·refine sR (mB O (nS ?_));exact rR z O O O
  ·refine bc (de (aq (ax (mV O (bN dt O O (mV O (bq (cy ?_))))))));have s:=df a8;have o:wr (a2+1)=a2+1:=db V V;erw[o];exact wC (ih V V z) O
theorem xg{S:List Fr}{res:Bool}{x0:af}{d2:Bool}{a0:(List ay)}{a3:(List (List Int))}{a6 b7:Int}{d1:Bool}{a4 c6:(List Int)}{v0 d4 b4 d8 c8:PV}(d5:pf x0=d2)(a7:((!d2)||(!(lu x0.Control 40)))=false)(e0:lr x0=a0)(c9:SU a0)(d3:pm x0 a0=a3)(e2:(tSl (tSl tI)).R a3 b4)(d7:DL a0.length a3)(b2:((decide (24 < (a0.length:Int)))||(!decide ((a3.length:Int)=(a0.length:Int))))=false)(e3:0<=a6)(b1:(decide (a6 < (a0.length:Int)))=true)(a8:(!decide (((ix a3 a6).length:Int)=(a0.length:Int)))=false)(e1:0<=b7)(b0:(decide (b7 < a6))=true)(d6:ji a0 b7 a6=d1)(a9:d1=false)(d0:qt x0 (ix a0 b7)=a4)(a5:(tSl tI).R a4 d8)(d9:rq x0 (ix a0 a6)=c6)(e4:(tSl tI).R c6 c8){K6:Unit->Bool}
 (e6:K6 ()=res->PX Tryz.prog 6 S (QR Tryz.prog [(2,none)] (RF12 res)) [(1,.fp v0),(3,d4),(4,b4),(5,vi a6),(8,vi b7)] ⟨0,[]⟩):
 ∀{m:Nat}{a1:Int}(e5:m=Int.toNat ((a4.length:Int)-a1))(b8:0<=a1),jn a3 a6 b7 a4 c6 K6 m a1=res->RC Tryz.prog (.loop dm1) S (QR Tryz.prog [(2,none)] (RF12 res)) [(11,vi a1),(10,c8),(9,d8),(8,vi b7),(5,vi a6),(4,b4),(3,d4),(1,.fp v0)] ⟨0,[]⟩:=by
 have c7:=a7;try simp only[qa]at c7
 have b6:=b2;try simp only[qa]at b6
 have c5:=b1;try simp only[qa]at c5
 have c4:=a8;try simp only[qa]at c4
 have b5:=b0;try simp only[qa]at b5
 have b9:=a9;try simp only[qa]at b9
 intro m;induction m with
 |zero=>
  intro a1 e5 b8 z;rw[jn]at z;refine cg (am (sR (mV O (mV O (ah (da O (co a5 Tryz.underlying29 _)) (bN cx O O (nS ?_)))))));refine bv O ?_ ?_<;>intro c<;>try simp only[qa]at c
  ·omega
  refine dl (ee (dh ?_));exact wP (e6 z) O
 |succ m ih=>
  intro a1 e5 b8 z;rw[jn]at z;refine cg (am (sR (mV O (mV O (ah (da O (co a5 Tryz.underlying29 _)) (bN cx O O (nS ?_)))))));refine bv O (λa2=>?_) (λa2=>?_)
  ·have hgo:=z;have b3:=a2;try simp only[qa]at b3
   refine bc (aq (am (bm (sR (mI O (nS (bm ?_)))))));refine wC (xb d5 a7 e0 c9 d3 e2 d7 b2 e3 b1 a8 e1 b0 d6 a9 d0 a5 d9 e4 b8 a2 ?_ O V z) O
   ·intro z;refine em (de (aq (ax (mV O (bN dt O O (mV O (bq (cy ?_))))))));have s:=df a5;have o:wr (a1+1)=a1+1:=db V V;erw[o];exact wC (ih V V z) O
  ·exfalso;try simp only[qa]at a2
   omega
theorem xd{S:List Fr}{res:Bool}{x0:af}{d1:Bool}{a0:(List ay)}{a1:(List (List Int))}{a4:Int}{v0 c4 b5:PV}(r0:af.t.R x0 v0)(d3:pf x0=d1)(a6:((!d1)||(!(lu x0.Control 40)))=false)(d9:lr x0=a0)(a5:(tSl ay.t).R a0 c4)(c9:SU a0)(d2:pm x0 a0=a1)(d0:(tSl (tSl tI)).R a1 b5)(d6:DL a0.length a1)(b3:((decide (24 < (a0.length:Int)))||(!decide ((a1.length:Int)=(a0.length:Int))))=false)(e3:0<=a4)(b1:(decide (a4 < (a0.length:Int)))=true)(a7:(!decide (((ix a1 a4).length:Int)=(a0.length:Int)))=false){K4:Unit->Bool}
 (e7:K4 ()=res->PX Tryz.prog 4 S (QR Tryz.prog [(2,none)] (RF12 res)) [(1,.fp v0),(3,c4),(4,b5),(5,vi a4)] ⟨0,[]⟩):
 ∀{m:Nat}{a3:Int}(e6:m=Int.toNat (a4-a3))(b4:0<=a3),iq x0 a0 a1 a4 K4 m a3=res->RC Tryz.prog (.loop db5) S (QR Tryz.prog [(2,none)] (RF12 res)) [(8,vi a3),(5,vi a4),(4,b5),(3,c4),(1,.fp v0)] ⟨0,[]⟩:=by
 have c8:=a6;try simp only[qa]at c8
 have b9:=b3;try simp only[qa]at b9
 have c7:=b1;try simp only[qa]at c7
 have c6:=a7;try simp only[qa]at c6
 intro m;induction m with
 |zero=>
  intro a3 e6 b4 z;rw[iq]at z;refine cg (am (sR (mV O (mV O (bN cx O O (nS ?_))))));refine bv O ?_ ?_<;>intro c<;>try simp only[qa]at c
  ·omega
  refine dl (ee (dh ?_));exact wP (e7 z) O
 |succ m ih=>
  intro a3 e6 b4 z;rw[iq]at z;refine cg (am (sR (mV O (mV O (bN cx O O (nS ?_))))));refine bv O (λa2=>?_) (λa2=>?_)
  ·have hgo:=z;have b7:=a2;try simp only[qa]at b7
   refine bc (aq (am (bm (am (sR (mV O (mV O (mV O ?_))))))));obtain⟨f0,b0,z⟩:=br z;have d4:=cp0 (x1:=a3) (x2:=a4) a5;rw[b0]at d4;refine cL d4 O O (ak (TR.clo (tSl ay.t) a5) (ak O (ak O bp))) (nS ?_);refine ck z O ?_ ?_<;>clear z<;>intro a9 z<;>have c5:=a9<;>try simp only[qa]at c5
   ·refine am (sR (mV O (mV O ?_)));obtain⟨f3,e2,d8⟩:=dn (i:=a3) d0 (by first|omega|(have hn:=(‹DL a0.length a1›).n;first|omega|(rw[(‹DL a0.length a1›).r _ V V];omega))) (by first|omega|(have hn:=(‹DL a0.length a1›).n;first|omega|(rw[(‹DL a0.length a1›).r _ V V];omega)));refine ah (bn O O e2) (lD d8 O O O (mV O (ah (bn O O (slI d8 (by first|omega|(have hn:=(‹DL a0.length a1›).n;first|omega|(rw[(‹DL a0.length a1›).r _ V V];omega))) (by first|omega|(have hn:=(‹DL a0.length a1›).n;first|omega|(rw[(‹DL a0.length a1›).r _ V V];omega))))) (lR O O O (bN kx O O (nS ?_))))));refine ck z O ?_ ?_<;>clear z<;>intro c z<;>try simp only[qa]at c
    ·refine sR (mB O (nS ?_));exact rR z O O O
    ·refine bc (aq (dl (ee (em (aq (ax (mV O (bN dt O O ?_))))))));refine mV O (bq (cy ?_));have o:wr (a3+1)=a3+1:=db V V;erw[o];exact wC (ih V V z) O
   ·refine bc (aq (sR (lD r0 O O O (mV O (mV O ?_)))));obtain⟨e9,e4,b8⟩:=dn (i:=a3) a5 (by first|omega|(have hn:=(‹DL a0.length a1›).n;first|omega|(rw[(‹DL a0.length a1›).r _ V V];omega))) (by first|omega|(have hn:=(‹DL a0.length a1›).n;first|omega|(rw[(‹DL a0.length a1›).r _ V V];omega)));refine ah (bn O O e4) (lD b8 O O O ?_);obtain⟨f1,a8,z⟩:=br z;obtain⟨f2,e5,d5⟩:=ee5 r0 b8 (by first|omega|assumption|exact(s17 OY (And.left OY)).ab|(have hk:=(s17 OY (And.left OY)).hh;omega)) (by first|omega|assumption|exact(s17 OY (And.left OY)).ab|(have hk:=(s17 OY (And.left OY)).hh;omega));rw[a8]at d5;refine cL e5 O O (ak (TR.clo af.t r0) (ak (TR.clo ay.t b8) bp)) (lD r0 O O O (mV O (mV O ?_)));obtain⟨f4,e0,b6⟩:=dn (i:=a4) a5 (by first|omega|(have hn:=(‹DL a0.length a1›).n;first|omega|(rw[(‹DL a0.length a1›).r _ V V];omega))) (by first|omega|(have hn:=(‹DL a0.length a1›).n;first|omega|(rw[(‹DL a0.length a1›).r _ V V];omega)));refine ah (bn O O e0) (lD b6 O O O ?_);obtain⟨f5,b2,z⟩:=br z;obtain⟨e8,e1,d7⟩:=dz9 r0 b6 (by first|omega|assumption|exact(s17 OY (And.left OY)).ab|(have hk:=(s17 OY (And.left OY)).hh;omega)|(have hk:=(‹SU a0›).c a4 V V;omega)) (by first|omega|assumption|exact(s17 OY (And.left OY)).ab|(have hk:=(s17 OY (And.left OY)).hh;omega)|(have hk:=(‹SU a0›).c a4 V V;omega)) (by first|omega|assumption|exact(s17 OY (And.left OY)).ab|(have hk:=(s17 OY (And.left OY)).hh;omega)|(have hk:=(‹SU a0›).c a4 V V;omega));rw[b2]at d7;refine cL e1 O O (ak (TR.clo af.t r0) (ak (TR.clo ay.t b6) bp)) (mV O (mV O (nR (mI O (nS (bm ?_))))));refine wC (xg d3 a6 d9 c9 d2 d0 d6 b3 e3 b1 a7 b4 a2 b0 a9 a8 d5 b2 d7 ?_ O V z) O
    ·intro z;refine em (de (aq (ax (mV O (bN dt O O (mV O (bq (cy ?_))))))));have o:wr (a3+1)=a3+1:=db V V;erw[o];exact wC (ih V V z) O
  ·exfalso;try simp only[qa]at a2
   omega
theorem wo{S:List Fr}{res:Bool}{x0:af}{c5:Bool}{a0:(List ay)}{a1:(List (List Int))}{v0 c6 c4:PV}(r0:af.t.R x0 v0)(b1:pf x0=c5)(a4:((!c5)||(!(lu x0.Control 40)))=false)(b3:lr x0=a0)(a3:(tSl ay.t).R a0 c6)(a9:SU a0)(b0:pm x0 a0=a1)(b4:(tSl (tSl tI)).R a1 c4)(b2:DL a0.length a1)(a6:((decide (24 < (a0.length:Int)))||(!decide ((a1.length:Int)=(a0.length:Int))))=false){K0:Unit->Bool}
 (d0:K0 ()=res->PX Tryz.prog 0 S (QR Tryz.prog [(2,none)] (RF12 res)) [] ⟨0,[]⟩):
 ∀{m:Nat}{a8:Int}(c8:m=Int.toNat ((a0.length:Int)-a8))(a7:0<=a8),jm x0 a0 a1 K0 m a8=res->RC Tryz.prog (.loop dh0) S (QR Tryz.prog [(2,none)] (RF12 res)) [(5,vi a8),(4,c4),(3,c6),(1,.fp v0)] ⟨0,[]⟩:=by
 have b8:=a4;try simp only[qa]at b8
 have b5:=a6;try simp only[qa]at b5
 intro m;induction m with
 |zero=>
  intro a8 c8 a7 z;rw[jm]at z;refine cg (am (sR (mV O (mV O (ah (da O (co a3 Tryz.underlying68 _)) (bN cx O O (nS ?_)))))));refine bv O ?_ ?_<;>intro c<;>try simp only[qa]at c
  ·omega
  refine dl (ee (dh ?_));exact wP (d0 z) O
 |succ m ih=>
  intro a8 c8 a7 z;rw[jm]at z;refine cg (am (sR (mV O (mV O (ah (da O (co a3 Tryz.underlying68 _)) (bN cx O O (nS ?_)))))));refine bv O (λa2=>?_) (λa2=>?_)
  ·have hgo:=z;have b7:=a2;try simp only[qa]at b7
   refine bc (aq (am (bm (am (sR (mV O (mV O ?_)))))));obtain⟨c9,c7,b9⟩:=dn (i:=a8) b4 (by first|omega|(have hn:=(‹DL a0.length a1›).n;first|omega|(rw[(‹DL a0.length a1›).r _ V V];omega))) (by first|omega|(have hn:=(‹DL a0.length a1›).n;first|omega|(rw[(‹DL a0.length a1›).r _ V V];omega)));refine ah (bn O O c7) (lD b9 O O O (ah (da O (co b9 Tryz.underlying29 _)) (mV O (ah (da O (co a3 Tryz.underlying68 _)) (bN kx O O (nS ?_))))));refine ck z O ?_ ?_<;>clear z<;>intro a5 z<;>have b6:=a5<;>try simp only[qa]at b6
   ·refine sR (mB O (nS ?_));exact rR z O O O
   ·refine bc (aq (am (sR (mI O (nS (bm ?_))))));refine wC (wq b1 a4 b3 a3 a9 b0 b4 b2 a6 a7 a2 a5 ?_ O V z) O
    ·intro z;refine em (aq (sR (mI O (nS (bm ?_)))));refine wC (xd r0 b1 a4 b3 a3 a9 b0 b4 b2 a6 a7 a2 a5 ?_ O V z) O
     ·intro z;refine em (de (aq (ax (mV O (bN dt O O (mV O (bq (cy ?_))))))));have s:=df a3;have o:wr (a8+1)=a8+1:=db V V;erw[o];exact wC (ih V V z) O
  ·exfalso;try simp only[qa]at a2
   omega
theorem dw4{x0:af}{v0:PV}(r0:af.t.R x0 v0):FnR Tryz.prog 12 [v0] (vb (qf x0)):=by
 refine fnS (R:=RF12) ee2 (λ_ h=>h) O λres z=>?_;unfold qf at z;refine sR (ah (ej O (TR.cnt af.t r0)) (mB O (nS (am (sR (lD r0 O O O ?_))))));obtain⟨b9,a6,z⟩:=br z;have b8:=dw3 r0;rw[a6]at b8;refine cL b8 O O (ak (TR.clo af.t r0) bp) (ah (ku O) (mV O ?_));refine cq 5 (d:=21) (v:=vb ((!b9)||(!(lu x0.Control 40)))) ?_ ?_
 ·intro S Q r;cases c7:(!b9)
  ·intro k;have b0:=c7;try simp only[qa]at b0
   obtain⟨d9,d1,a4⟩:=af.g_Control r0;refine aj O O (cw O d1) (aj O O (cp O (TR.cnt (tSl ae.t) a4) (TR.agg (tSl ae.t) a4)) ?_);have d4:=du1 (x1:=40) a4;refine ow O O (ur O O (ak (TR.clo (tSl ae.t) a4) (ak O bp)) d4) (aj O O (ku O) ?_);exact gK O O O O O k
  ·exact gN 4 O O O O O O
 refine nS ?_;refine ck z O ?_ ?_<;>clear z<;>intro a5 z<;>have b3:=a5<;>try simp only[qa]at b3
 ·refine sR ?_;obtain⟨d8,b6,z⟩:=br z;have b4:=bn2;rw[b6]at b4;refine cL b4 O O bp (mV O (nS ?_));exact rR z O O O
 ·refine bc (aq (sR (lD r0 O O O ?_)));obtain⟨a1,a2,z⟩:=br z;obtain⟨d7,d3,a0⟩:=ec5 r0 (by first|exact(cp9 (And.right OY)).2.1|(have hk:=(cp9 (And.right OY)).1;omega)) (by first|exact(cp9 (And.right OY)).2.1|(have hk:=(cp9 (And.right OY)).1;omega));rw[a2]at a0;have b5:SU a1:=bm7 (And.right OY) a2;refine cL d3 O O (ak (TR.clo af.t r0) bp) (mV O (nR (lD r0 O O O (mV O ?_))));obtain⟨c4,a3,z⟩:=br z;obtain⟨d5,d2,a8⟩:=ed2 r0 a0 (by first|omega|assumption|exact(s17 OY (And.left OY)).ab|(have hk:=(s17 OY (And.left OY)).hh;omega)) (by first|omega|assumption|exact(s17 OY (And.left OY)).ab|(have hk:=(s17 OY (And.left OY)).hh;omega)) (by first|omega|assumption|exact(s17 OY (And.left OY)).ab|(have hk:=(s17 OY (And.left OY)).hh;omega));rw[a3]at a8;have c8:DL a1.length c4:=dlen OY a3;refine cL d2 O O (ak (TR.clo af.t r0) (ak (TR.clo (tSl ay.t) a0) bp)) (mV O (nS (am (sR (mV O (ah (da O (co a0 Tryz.underlying68 _)) (bN kh O O (mV O ?_))))))));refine cq 6 (d:=37) (v:=vb ((decide (24 < (a1.length:Int)))||(!decide ((c4.length:Int)=(a1.length:Int))))) ?_ ?_
  ·intro S Q r;cases c5:(decide (24 < (a1.length:Int)))
   ·intro k;have b1:=c5;try simp only[qa]at b1
    refine aj O O (ba O) (aj O O (da O (co a8 Tryz.underlying70 _)) (aj O O (ba O) (aj O O (da O (co a0 Tryz.underlying68 _)) (aj O O (ct O O kx) ?_))));exact gK O O O O O k
   ·exact gN 5 O O O O O O
  refine nS ?_;refine ck z O ?_ ?_<;>clear z<;>intro a7 z<;>have a9:=a7<;>try simp only[qa]at a9
  ·refine sR (mV O (ah (da O (co a0 Tryz.underlying68 _)) (bN kh O O (mV O ?_))));refine cq 2 (d:=43) (v:=vb ((decide (24 < (a1.length:Int)))&&(sx))) ?_ ?_
   ·intro S Q r;cases c6:(decide (24 < (a1.length:Int)))
    ·exact gN 1 O O O O O O
    ·intro k;have b2:=c6;try simp only[qa]at b2
     have d0:=bn2;refine ow O O (ur O O bp d0) ?_;exact gK O O O O O k
   refine mV O (nS ?_);exact rR z O O O
  ·refine bc (aq (am (sR (mI O (nS (bm ?_))))));refine wC (wo r0 a6 a5 a2 a0 b5 a3 a8 c8 a7 ?_ O V z) O
   ·intro z;refine em (aq (sR ?_));obtain⟨d6,b7,z⟩:=br z;have c9:=bn2;rw[b7]at c9;refine cL c9 O O bp (mV O (nS ?_));exact rR z O O O
end Go.Proofs.YtmonnlkagniolaaGreat
