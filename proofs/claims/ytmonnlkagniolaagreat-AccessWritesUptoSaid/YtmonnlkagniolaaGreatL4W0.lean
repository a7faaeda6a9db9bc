/-
 The code of each function does what its plain program says.
-/
import Derived.Test.YtmonnlkagniolaaGreatKDef
import Derived.Test.YtmonnlkagniolaaGreatL4Text
import Derived.Test.YtmonnlkagniolaaGreatPbV
import Derived.Test.YtmonnlkagniolaaGreatPbV
import Derived.Test.YtmonnlkagniolaaGreatKEo
import Derived.Test.YtmonnlkagniolaaGreatKPmKpKxWfEv
import Derived.Test.YtmonnlkagniolaaGreatKPmKpKxWfEv
import Derived.Test.YtmonnlkagniolaaGreatKExAExFcFrBdCk
import Derived.Test.YtmonnlkagniolaaGreatKExAExFcFrBdCk
import Derived.Test.YtmonnlkagniolaaGreatKExAExFcFrBdCk
import Derived.Test.YtmonnlkagniolaaGreatKCoFo
import Derived.Test.YtmonnlkagniolaaGreatKLy
import Derived.Test.YtmonnlkagniolaaGreatKCoFo
import Derived.Test.YtmonnlkagniolaaGreatKPmKpKxWfEv
import Derived.Test.YtmonnlkagniolaaGreatL4Run
set_option linter.all false
set_option maxRecDepth 100000
namespace Go.Proofs.YtmonnlkagniolaaGreat
open Go Go.Pb Go.RowKit
def RF56(res:Int)(r:PV):Prop:=r=vi res
theorem ak3{S:List Fr}{res:Int}{x0:List ab}{x1:Int}{rec_:(List ab)->Int->Int}{mu_:Nat}{v0:PV}(r0:(tSl ab.t).R x0 v0)(hd:0<=x1)(d1:x1<=100)(ihR:∀{z0:List ab}{z1:Int}{c9:PV}(d9:(tSl ab.t).R z0 c9)(hd:0<=z1)(d1:z1<=100),z1.toNat < mu_->FnR Tryz.prog 56 [c9,vi z1] (vi (rec_ z0 z1)))(hmu:mu_=x1.toNat){K0:Int->Int}
 (c8:∀{a1:Int},K0 a1=res->PX Tryz.prog 0 S (QR Tryz.prog [(4,none)] (RF56 res)) [(5,vi a1)] ⟨0,[]⟩):
 ∀{m:Nat}{a1 a0:Int}(c7:m=Int.toNat ((x0.length:Int)-a0))(a7:0<=a0),qz x0 x1 rec_ K0 m a1 a0=res->RC Tryz.prog (.loop dl1) S (QR Tryz.prog [(4,none)] (RF56 res)) [(6,vi a0),(5,vi a1),(1,vi x1),(0,v0)] ⟨0,[]⟩:=by
 intro m;induction m with
 |zero=>
  intro a1 a0 c7 a7 s;rw[qz]at s;refine ck (am (sR (mV O (mV O (ah (co O (ca r0 Tryz.underlying28 _)) (bN cn O O (mV O ?_)))))));refine bw 3 (d:=16) (v:=vb ((decide (a0 < (x0.length:Int)))&&(decide (a1 < 100)))) ?_ ?_
  ·intro S Q r;cases b2:(decide (a0 < (x0.length:Int)))
   ·exact gN 2 O O O O O O
   ·intro k;have a3:=b2;try simp only[qa]at a3
    refine ai O O (ba O) (ai O O (br O O cn) ?_);exact gK O O O O O k
  refine nS ?_;refine ci O ?_ ?_<;>intro c<;>try simp only[qa]at c
  ·omega
  refine dg (dx (da ?_));exact wP (c8 s) O
 |succ m ih=>
  intro a1 a0 c7 a7 s;rw[qz]at s;refine ck (am (sR (mV O (mV O (ah (co O (ca r0 Tryz.underlying28 _)) (bN cn O O (mV O ?_)))))));refine bw 3 (d:=16) (v:=vb ((decide (a0 < (x0.length:Int)))&&(decide (a1 < 100)))) ?_ ?_
  ·intro S Q r;cases b3:(decide (a0 < (x0.length:Int)))
   ·exact gN 2 O O O O O O
   ·intro k;have a4:=b3;try simp only[qa]at a4
    refine ai O O (ba O) (ai O O (br O O cn) ?_);exact gK O O O O O k
  refine nS ?_;refine bv s O ?_ ?_<;>clear s<;>intro c s<;>try simp only[qa]at c
  ·refine aw (aq (am (bg (am (sR (mV O (bN du O O (mV O ?_))))))));refine bw 8 (d:=29) (v:=vb ((decide (x1=0))||(decide (40 < (((ix x0 a0).Cond).length:Int))))) ?_ ?_
   ·intro S Q r;cases b1:(decide (x1=0))
    ·intro k;have a6:=b1;try simp only[qa]at a6
     refine ai O O (ba O) (ai O O (ba O) ?_);obtain⟨d0,c5,b7⟩:=cv (i:=a0) r0 Y Y;refine ai O O (bd O O c5) ?_;obtain⟨d5,b8,a5⟩:=ab.g_Cond b7;refine ai O O (bt O b8) (ai O O (bq O (TR.cnt (tSl ak.t) a5) (TR.agg (tSl ak.t) a5)) (ai O O (co O (ca a5 Tryz.underlying32 _)) (ai O O (br O O fu) ?_)));exact gK O O O O O k
    ·exact gN 7 O O O O O O
   refine nS ?_;refine bv s O ?_ ?_<;>clear s<;>intro c s<;>try simp only[qa]at c
   ·refine sR (mI O (nS ?_));exact rR s O O O
   ·refine aw (aq (az (mV O (mV O (mV O ?_)))));obtain⟨d7,b6,b9⟩:=cv (i:=a0) r0 Y Y;refine ah (bd O O b6) ?_;obtain⟨d2,c6,a2⟩:=ab.g_Then b9;refine fA O c6 (lD a2 O O O (mV O (bN af8 O O ?_)));obtain⟨d8,b0,s⟩:=bp s;have a9:=ihR (z0:=(ix x0 a0).Then) (z1:=(wr (x1-1))) a2 (by first|assumption|omega|(rw[cz Y Y];omega)|(have hk:=rval rfl (And.right (And.left OY));omega)|(have hk:=rval OY OY;omega)|(have hk:=rval OY (And.left OY);omega)|(have hk:=rval OY (And.left (And.left OY));have hz:=rslc OY;omega)|(simp;done)|(simp only[List.length_append,List.length_nil,List.length_cons];omega)|(have hk:=(cq OY OY).1;omega)|(simp only[List.length_cons,List.length_nil];omega)|(simp only[List.length_append];have hk:=(cq OY OY).1;omega)|(simp only[List.length_append,List.length_nil];have hk:=(cq OY OY).1;omega)) (by first|assumption|omega|(rw[cz Y Y];omega)|(have hk:=rval rfl (And.right (And.left OY));omega)|(have hk:=rval OY OY;omega)|(have hk:=rval OY (And.left OY);omega)|(have hk:=rval OY (And.left (And.left OY));have hz:=rslc OY;omega)|(simp;done)|(simp only[List.length_append,List.length_nil,List.length_cons];omega)|(have hk:=(cq OY OY).1;omega)|(simp only[List.length_cons,List.length_nil];omega)|(simp only[List.length_append];have hk:=(cq OY OY).1;omega)|(simp only[List.length_append,List.length_nil];have hk:=(cq OY OY).1;omega)) (by(rw[cz Y Y];omega));rw[b0]at a9;refine cL a9 O O (aj (TR.clo (tSl ab.t) a2) (aj O bc)) (bN dw O O (mV O (mV O ?_)));obtain⟨d4,c1,c4⟩:=cv (i:=a0) r0 Y Y;refine ah (bd O O c1) (gL (ab.g_Else c4) O O O λd6 b5=>(mV O (bN af8 O O ?_)));obtain⟨d3,b4,s⟩:=bp s;have a8:=ihR (z0:=(ix x0 a0).Else) (z1:=(wr (x1-1))) b5 (by first|assumption|omega|(rw[cz Y Y];omega)|(have hk:=rval rfl (And.right (And.left OY));omega)|(have hk:=rval OY OY;omega)|(have hk:=rval OY (And.left OY);omega)|(have hk:=rval OY (And.left (And.left OY));have hz:=rslc OY;omega)|(simp;done)|(simp only[List.length_append,List.length_nil,List.length_cons];omega)|(have hk:=(cq OY OY).1;omega)|(simp only[List.length_cons,List.length_nil];omega)|(simp only[List.length_append];have hk:=(cq OY OY).1;omega)|(simp only[List.length_append,List.length_nil];have hk:=(cq OY OY).1;omega)) (by first|assumption|omega|(rw[cz Y Y];omega)|(have hk:=rval rfl (And.right (And.left OY));omega)|(have hk:=rval OY OY;omega)|(have hk:=rval OY (And.left OY);omega)|(have hk:=rval OY (And.left (And.left OY));have hz:=rslc OY;omega)|(simp;done)|(simp only[List.length_append,List.length_nil,List.length_cons];omega)|(have hk:=(cq OY OY).1;omega)|(simp only[List.length_cons,List.length_nil];omega)|(simp only[List.length_append];have hk:=(cq OY OY).1;omega)|(simp only[List.length_append,List.length_nil];have hk:=(cq OY OY).1;omega)) (by(rw[cz Y Y];omega));rw[b4]at a8;refine cL a8 O O (aj (TR.clo (tSl ab.t) b5) (aj O bc)) (bN dw O O (mV O (cd (db (aq (az (mV O (bN dw O O ?_))))))));refine mV O (cd (cy ?_));have hbd:=dn r0;have hinc:wr (a0+1)=a0+1:=cz Y Y;erw[hinc];exact wC (ih Y Y s) O
  ·refine dg (dx (da ?_));exact wP (c8 s) O
theorem dj6{rec_:(List ab)->Int->Int}{mu_:Nat}{x0:List ab}{x1:Int}{v0:PV}(r0:(tSl ab.t).R x0 v0)(hd:0<=x1)(a1:x1<=100)(hmu:mu_=x1.toNat)(ihR:∀{z0:List ab}{z1:Int}{a2:PV}(a3:(tSl ab.t).R z0 a2)(hd:0<=z1)(a1:z1<=100),z1.toNat < mu_->FnR Tryz.prog 56 [a2,vi z1] (vi (rec_ z0 z1))):FnR Tryz.prog 56 [v0,vi x1] (vi (uh rec_ x0 x1)):=by
 refine fnS (R:=RF56) ep7 (λ_ h=>h) O λres s=>?_;unfold uh at s;refine sR (mI O (nR (mV O (ah (co O (ca r0 Tryz.underlying28 _)) (mV O (nS (am (sR ?_))))))));refine mI O (nS (bg ?_));refine wC (ak3 r0 hd a1 ihR hmu ?_ O Y s) O
 ·intro a0 s;refine ek (aq (sR (mV O (mV O (nS ?_)))));exact rR s O O O
theorem dv3:∀(n_:Nat){x0:List ab}{x1:Int}{v0:PV}(r0:(tSl ab.t).R x0 v0)(hd:0<=x1)(a0:x1<=100),x1.toNat < n_->FnR Tryz.prog 56 [v0,vi x1] (vi (py n_ x0 x1)):=by
 intro n_;induction n_ with
 |zero=>intros;rename_i hlt;exact absurd hlt (Nat.not_lt_zero _)
 |succ n_ ihn=>
  intro x0 x1 v0 r0 hd a0 hlt;have e_:py (n_+1) x0 x1=uh (py n_) x0 x1:=by rw[py]
  rw[e_];exact dj6 r0 hd a0 O (λ{z0}{z1}{zv0} zr0 hd a0 hz=>ihn zr0 hd a0 Y)
theorem ei5{x0:List ab}{x1:Int}{v0:PV}(r0:(tSl ab.t).R x0 v0)(hd:0<=x1)(a0:x1<=100):FnR Tryz.prog 56 [v0,vi x1] (vi (ql x0 x1)):=dv3 _ r0 hd a0 (Nat.lt_succ_self _)
def RF57(res:Bool)(r:PV):Prop:=r=vb res
theorem ai6{S:List Fr}{res:Bool}{x0:bm}{v0:PV}(r0:bm.t.R x0 v0)(a4:((decide (30 < (x0.Name.length:Int)))||(decide (20 < (x0.Fields.length:Int))))=false){K0:Unit->Bool}
 (b3:K0 ()=res->PX Tryz.prog 0 S (QR Tryz.prog [(2,none)] (RF57 res)) [] ⟨0,[]⟩):
 ∀{m:Nat}{a0:Int}(b1:m=Int.toNat ((x0.Fields.length:Int)-a0))(a3:0<=a0),qj x0 K0 m a0=res->RC Tryz.prog (.loop db2) S (QR Tryz.prog [(2,none)] (RF57 res)) [(3,vi a0),(1,.fp v0)] ⟨0,[]⟩:=by
 have a2:=a4;try simp only[qa]at a2
 intro m;induction m with
 |zero=>
  intro a0 b1 a3 s;rw[qj]at s;refine ck (am (sR (mV O (gL (bm.g_Fields r0) O O O λb5 b0=>(ah (co O (ca b0 Tryz.underlying23 _)) (bN cn O O (nS ?_)))))));refine ci O ?_ ?_<;>intro c<;>try simp only[qa]at c
  ·omega
  refine dg (dx (da ?_));exact wP (b3 s) O
 |succ m ih=>
  intro a0 b1 a3 s;rw[qj]at s;refine ck (am (sR (mV O ?_)));obtain⟨b2,a9,a1⟩:=bm.g_Fields r0;refine fA O a9 (lD a1 O O O (ah (co O (ca a1 Tryz.underlying23 _)) (bN cn O O (nS ?_))));refine ci O ?_ ?_<;>intro c<;>try simp only[qa]at c
  rotate_left
  ·omega
  refine aw (aq (am (bg (sR ?_))));obtain⟨b4,a8,a5⟩:=bm.g_Fields r0;refine fA O a8 (lD a5 O O O (mV O ?_));obtain⟨b6,a6,a7⟩:=cv (i:=a0) a5 Y Y;refine ah (bd O O a6) (fL O (av.g_Name a7) O O (ah (co O (qe Tryz.underlying9)) (bN fu O O (nS ?_))));refine bv s O ?_ ?_<;>clear s<;>intro c s<;>try simp only[qa]at c
  ·refine sR (mB O (nS ?_));exact rR s O O O
  ·refine aw (db (aq (az (mV O (bN dw O O (mV O (cd (cy ?_))))))));have hbd:=dn a1;have hinc:wr (a0+1)=a0+1:=cz Y Y;erw[hinc];exact wC (ih Y Y s) O
theorem ej6{x0:bm}{v0:PV}(r0:bm.t.R x0 v0):FnR Tryz.prog 57 [v0] (vb (ur x0)):=by
 refine fnS (R:=RF57) ef1 (λ_ h=>h) O λres s=>?_;unfold ur at s;refine sR (ah (di O (TR.cnt bm.t r0)) (mB O (nS (am (sR (fL O (bm.g_Name r0) O O (ah (co O (qe Tryz.underlying9)) (bN fu O O ?_))))))));refine mV O ?_;refine bw 5 (d:=13) (v:=vb ((decide (30 < (x0.Name.length:Int)))||(decide (20 < (x0.Fields.length:Int))))) ?_ ?_
 ·intro S Q r;cases a4:(decide (30 < (x0.Name.length:Int)))
  ·intro k;have a1:=a4;try simp only[qa]at a1
   obtain⟨a6,a5,a3⟩:=bm.g_Fields r0;refine ai O O (bt O a5) (ai O O (bq O (TR.cnt (tSl av.t) a3) (TR.agg (tSl av.t) a3)) (ai O O (co O (ca a3 Tryz.underlying23 _)) (ai O O (br O O fu) ?_)));exact gK O O O O O k
  ·exact gN 4 O O O O O O
 refine nS ?_;refine bv s O ?_ ?_<;>clear s<;>intro a0 s<;>have a2:=a0<;>try simp only[qa]at a2
 ·refine sR (mB O (nS ?_));exact rR s O O O
 ·refine aw (aq (am (sR (mI O (nS (bg ?_))))));refine wC (ai6 r0 a0 ?_ O Y s) O
  ·intro s;refine ek (aq (sR (mB O (nS ?_))));exact rR s O O O
def RF58(res:Bool)(r:PV):Prop:=r=vb res
theorem yc{S:List Fr}{res:Bool}{x0:cm}{v0:PV}(r0:cm.t.R x0 v0)(a7:(((decide (8 < (x0.Params.length:Int)))||(decide (16 < (x0.Body.length:Int))))||(decide (60 < (x0.Name.length:Int))))=false){K0:Unit->Bool}
 (c1:K0 ()=res->PX Tryz.prog 0 S (QR Tryz.prog [(2,none)] (RF58 res)) [] ⟨0,[]⟩):
 ∀{m:Nat}{a0:Int}(b8:m=Int.toNat ((x0.Body.length:Int)-a0))(a5:0<=a0),md x0 K0 m a0=res->RC Tryz.prog (.loop dn8) S (QR Tryz.prog [(2,none)] (RF58 res)) [(3,vi a0),(1,.fp v0)] ⟨0,[]⟩:=by
 have a4:=a7;try simp only[qa]at a4
 intro m;induction m with
 |zero=>
  intro a0 b8 a5 s;rw[md]at s;refine ck (am (sR (mV O (gL (cm.g_Body r0) O O O λb9 b0=>(ah (co O (ca b0 Tryz.underlying95 _)) (bN cn O O (nS ?_)))))));refine ci O ?_ ?_<;>intro c<;>try simp only[qa]at c
  ·omega
  refine dg (dx (da ?_));exact wP (c1 s) O
 |succ m ih=>
  intro a0 b8 a5 s;rw[md]at s;refine ck (am (sR (mV O (gL (cm.g_Body r0) O O O λc4 a8=>(ah (co O (ca a8 Tryz.underlying95 _)) (bN cn O O (nS ?_)))))));refine ci O ?_ ?_<;>intro c<;>try simp only[qa]at c
  rotate_left
  ·omega
  refine aw (aq (am (bg (sR (gL (cm.g_Body r0) O O O λc6 b2=>(mV O ?_))))));obtain⟨c8,b4,b1⟩:=cv (i:=a0) b2 Y Y;refine ah (bd O O b4) (gL (bf.g_Index b1) O O O λc7 b3=>(ah (co O (ca b3 Tryz.underlying32 _)) (bN fu O O (mV O ?_))));refine bw 9 (d:=44) (v:=vb ((decide (40 < (((ix x0.Body a0).Index).length:Int)))||(decide (40 < (((ix x0.Body a0).Value).length:Int))))) ?_ ?_
  ·intro S Q r;cases a6:(decide (40 < (((ix x0.Body a0).Index).length:Int)))
   ·intro k;have a2:=a6;try simp only[qa]at a2
    obtain⟨c9,b7,a3⟩:=cm.g_Body r0;refine ai O O (bt O b7) (ai O O (bq O (TR.cnt (tSl bf.t) a3) (TR.agg (tSl bf.t) a3)) (ai O O (ba O) ?_));obtain⟨d0,b5,a9⟩:=cv (i:=a0) a3 Y Y;refine ai O O (bd O O b5) ?_;obtain⟨c5,b6,a1⟩:=bf.g_Value a9;refine ai O O (bt O b6) (ai O O (bq O (TR.cnt (tSl ak.t) a1) (TR.agg (tSl ak.t) a1)) (ai O O (co O (ca a1 Tryz.underlying32 _)) (ai O O (br O O fu) ?_)));exact gK O O O O O k
   ·exact gN 8 O O O O O O
  refine nS ?_;refine bv s O ?_ ?_<;>clear s<;>intro c s<;>try simp only[qa]at c
  ·refine sR (mB O (nS ?_));exact rR s O O O
  ·refine aw (db (aq (az (mV O (bN dw O O (mV O (cd (cy ?_))))))));have hbd:=dn a8;have hinc:wr (a0+1)=a0+1:=cz Y Y;erw[hinc];exact wC (ih Y Y s) O
theorem er0{x0:cm}{v0:PV}(r0:cm.t.R x0 v0):FnR Tryz.prog 58 [v0] (vb (tu x0)):=by
 refine fnS (R:=RF58) eo4 (λ_ h=>h) O λres s=>?_;unfold tu at s;refine sR (ah (di O (TR.cnt cm.t r0)) (mB O (nS (am (sR ?_)))));obtain⟨b0,a8,a5⟩:=cm.g_Params r0;refine fA O a8 (lD a5 O O O (ah (co O (ca a5 Tryz.underlying23 _)) (bN fu O O (mV O ?_))));refine bw 5 (d:=13) (v:=vb ((decide (8 < (x0.Params.length:Int)))||(decide (16 < (x0.Body.length:Int))))) ?_ ?_
 ·intro S Q r;cases a6:(decide (8 < (x0.Params.length:Int)))
  ·intro k;have a1:=a6;try simp only[qa]at a1
   obtain⟨b1,a9,a4⟩:=cm.g_Body r0;refine ai O O (bt O a9) (ai O O (bq O (TR.cnt (tSl bf.t) a4) (TR.agg (tSl bf.t) a4)) (ai O O (co O (ca a4 Tryz.underlying95 _)) (ai O O (br O O fu) ?_)));exact gK O O O O O k
  ·exact gN 4 O O O O O O
 refine mV O ?_;refine bw 5 (d:=19) (v:=vb (((decide (8 < (x0.Params.length:Int)))||(decide (16 < (x0.Body.length:Int))))||(decide (60 < (x0.Name.length:Int))))) ?_ ?_
 ·intro S Q r;cases a7:((decide (8 < (x0.Params.length:Int)))||(decide (16 < (x0.Body.length:Int))))
  ·intro k;have a2:=a7;try simp only[qa]at a2
   refine ai O O (bt O (cm.g_Name r0)) (ai O O (bq O O O) (ai O O (co O (qe Tryz.underlying9)) (ai O O (br O O fu) ?_)));exact gK O O O O O k
  ·exact gN 4 O O O O O O
 refine nS ?_;refine bv s O ?_ ?_<;>clear s<;>intro a0 s<;>have a3:=a0<;>try simp only[qa]at a3
 ·refine sR (mB O (nS ?_));exact rR s O O O
 ·refine aw (aq (am (sR (mI O (nS (bg ?_))))));refine wC (yc r0 a0 ?_ O Y s) O
  ·intro s;refine ek (aq (sR (mB O (nS ?_))));exact rR s O O O
def RF59(res:Bool)(r:PV):Prop:=r=vb res
theorem eq2{x0:bh}{v0:PV}(r0:bh.t.R x0 v0):FnR Tryz.prog 59 [v0] (vb (ue x0)):=by
 refine fnS (R:=RF59) eh1 (λ_ h=>h) O λres s=>?_;unfold ue at s;refine sR (ah (di O (TR.cnt bh.t r0)) (mB O (nR (gL (bh.g_Extract r0) O O O λa7 a5=>(ah (co O (ca a5 Tryz.underlying29 _)) (bN fu O O (mV O ?_)))))));refine bw 5 (d:=12) (v:=vb ((decide (8 < (x0.Extract.length:Int)))||(decide (12 < (x0.Cases.length:Int))))) ?_ ?_
 ·intro S Q r;cases a3:(decide (8 < (x0.Extract.length:Int)))
  ·intro k;have a0:=a3;try simp only[qa]at a0
   obtain⟨a8,a6,a2⟩:=bh.g_Cases r0;refine ai O O (bt O a6) (ai O O (bq O (TR.cnt (tSl en.t) a2) (TR.agg (tSl en.t) a2)) (ai O O (co O (ca a2 Tryz.underlying108 _)) (ai O O (br O O fu) ?_)));exact gK O O O O O k
  ·exact gN 4 O O O O O O
 refine mV O ?_;refine bw 5 (d:=18) (v:=vb (((decide (8 < (x0.Extract.length:Int)))||(decide (12 < (x0.Cases.length:Int))))||(decide (60 < (x0.Name.length:Int))))) ?_ ?_
 ·intro S Q r;cases a4:((decide (8 < (x0.Extract.length:Int)))||(decide (12 < (x0.Cases.length:Int))))
  ·intro k;have a1:=a4;try simp only[qa]at a1
   refine ai O O (bt O (bh.g_Name r0)) (ai O O (bq O O O) (ai O O (co O (qe Tryz.underlying9)) (ai O O (br O O fu) ?_)));exact gK O O O O O k
  ·exact gN 4 O O O O O O
 refine mV O (nS ?_);exact rR s O O O
def RF13(res:Bool)(r:PV):Prop:=r=vb res
theorem zr{S:List Fr}{res:Bool}{x0:aa}{v0:PV}(r0:aa.t.R x0 v0)(a7:(((((((((decide (60 < (x0.Name.length:Int)))||(decide (16 < (x0.Headers.length:Int))))||(decide (20 < (x0.Metadata.length:Int))))||(decide (8 < (x0.Registers.length:Int))))||(decide (24 < (x0.Actions.length:Int))))||(decide (16 < (x0.Tables.length:Int))))||(decide (16 < (x0.States.length:Int))))||(decide (16 < (x0.Deparser.length:Int))))||(decide (60 < (ql x0.Control 10))))=false){K0:Unit->Bool}
 (b5:K0 ()=res->PX Tryz.prog 0 S (QR Tryz.prog [(2,none)] (RF13 res)) [(1,.fp v0)] ⟨0,[]⟩):
 ∀{m:Nat}{a0:Int}(b1:m=Int.toNat ((x0.Headers.length:Int)-a0))(a3:0<=a0),jt x0 K0 m a0=res->RC Tryz.prog (.loop de3) S (QR Tryz.prog [(2,none)] (RF13 res)) [(3,vi a0),(1,.fp v0)] ⟨0,[]⟩:=by
 have a1:=a7;try simp only[qa]at a1
 intro m;induction m with
 |zero=>
  intro a0 b1 a3 s;rw[jt]at s;refine ck (am (sR (mV O (gL (aa.g_Headers r0) O O O λb6 b0=>(ah (co O (ca b0 Tryz.underlying22 _)) (bN cn O O (nS ?_)))))));refine ci O ?_ ?_<;>intro c<;>try simp only[qa]at c
  ·omega
  refine dg (dx (da ?_));exact wP (b5 s) O
 |succ m ih=>
  intro a0 b1 a3 s;rw[jt]at s;refine ck (am (sR (mV O (gL (aa.g_Headers r0) O O O λb3 a6=>(ah (co O (ca a6 Tryz.underlying22 _)) (bN cn O O (nS ?_)))))));refine ci O ?_ ?_<;>intro c<;>try simp only[qa]at c
  rotate_left
  ·omega
  refine aw (aq (am (bg (sR (gL (aa.g_Headers r0) O O O λb7 a9=>(mV O ?_))))));obtain⟨b4,a8,a2⟩:=cv (i:=a0) a9 Y Y;refine ah (bd O O a8) (lD a2 O O O ?_);obtain⟨b2,a4,s⟩:=bp s;have a5:=ej6 a2;rw[a4]at a5;refine cL a5 O O (aj (TR.clo bm.t a2) bc) (ah (fw O) (nS ?_));refine bv s O ?_ ?_<;>clear s<;>intro c s<;>try simp only[qa]at c
  ·refine sR (mB O (nS ?_));exact rR s O O O
  ·refine aw (db (aq (az (mV O (bN dw O O (mV O (cd (cy ?_))))))));have hbd:=dn a6;have hinc:wr (a0+1)=a0+1:=cz Y Y;erw[hinc];exact wC (ih Y Y s) O
theorem ab9{S:List Fr}{res:Bool}{x0:aa}{v0:PV}(r0:aa.t.R x0 v0)(a7:(((((((((decide (60 < (x0.Name.length:Int)))||(decide (16 < (x0.Headers.length:Int))))||(decide (20 < (x0.Metadata.length:Int))))||(decide (8 < (x0.Registers.length:Int))))||(decide (24 < (x0.Actions.length:Int))))||(decide (16 < (x0.Tables.length:Int))))||(decide (16 < (x0.States.length:Int))))||(decide (16 < (x0.Deparser.length:Int))))||(decide (60 < (ql x0.Control 10))))=false){K2:Unit->Bool}
 (b3:K2 ()=res->PX Tryz.prog 2 S (QR Tryz.prog [(2,none)] (RF13 res)) [(1,.fp v0)] ⟨0,[]⟩):
 ∀{m:Nat}{a0:Int}(b1:m=Int.toNat ((x0.Actions.length:Int)-a0))(a3:0<=a0),js x0 K2 m a0=res->RC Tryz.prog (.loop dm0) S (QR Tryz.prog [(2,none)] (RF13 res)) [(4,vi a0),(1,.fp v0)] ⟨0,[]⟩:=by
 have a1:=a7;try simp only[qa]at a1
 intro m;induction m with
 |zero=>
  intro a0 b1 a3 s;rw[js]at s;refine ck (am (sR (mV O (gL (aa.g_Actions r0) O O O λb5 a8=>(ah (co O (ca a8 Tryz.underlying25 _)) (bN cn O O (nS ?_)))))));refine ci O ?_ ?_<;>intro c<;>try simp only[qa]at c
  ·omega
  refine dg (dx (da ?_));exact wP (b3 s) O
 |succ m ih=>
  intro a0 b1 a3 s;rw[js]at s;refine ck (am (sR (mV O (gL (aa.g_Actions r0) O O O λb2 a5=>(ah (co O (ca a5 Tryz.underlying25 _)) (bN cn O O (nS ?_)))))));refine ci O ?_ ?_<;>intro c<;>try simp only[qa]at c
  rotate_left
  ·omega
  refine aw (aq (am (bg (sR (gL (aa.g_Actions r0) O O O λb4 b0=>(mV O ?_))))));obtain⟨b6,a9,a2⟩:=cv (i:=a0) b0 Y Y;refine ah (bd O O a9) (lD a2 O O O ?_);obtain⟨b7,a4,s⟩:=bp s;have a6:=er0 a2;rw[a4]at a6;refine cL a6 O O (aj (TR.clo cm.t a2) bc) (nS ?_);refine bv s O ?_ ?_<;>clear s<;>intro c s<;>try simp only[qa]at c
  ·refine sR (mB O (nS ?_));exact rR s O O O
  ·refine aw (db (aq (az (mV O (bN dw O O (mV O (cd (cy ?_))))))));have hbd:=dn a5;have hinc:wr (a0+1)=a0+1:=cz Y Y;erw[hinc];exact wC (ih Y Y s) O
theorem aa2{S:List Fr}{res:Bool}{x0:aa}{v0:PV}(r0:aa.t.R x0 v0)(b5:(((((((((decide (60 < (x0.Name.length:Int)))||(decide (16 < (x0.Headers.length:Int))))||(decide (20 < (x0.Metadata.length:Int))))||(decide (8 < (x0.Registers.length:Int))))||(decide (24 < (x0.Actions.length:Int))))||(decide (16 < (x0.Tables.length:Int))))||(decide (16 < (x0.States.length:Int))))||(decide (16 < (x0.Deparser.length:Int))))||(decide (60 < (ql x0.Control 10))))=false){K4:Unit->Bool}
 (d8:K4 ()=res->PX Tryz.prog 4 S (QR Tryz.prog [(2,none)] (RF13 res)) [(1,.fp v0)] ⟨0,[]⟩):
 ∀{m:Nat}{a0:Int}(d7:m=Int.toNat ((x0.Tables.length:Int)-a0))(b0:0<=a0),kw x0 K4 m a0=res->RC Tryz.prog (.loop dm6) S (QR Tryz.prog [(2,none)] (RF13 res)) [(5,vi a0),(1,.fp v0)] ⟨0,[]⟩:=by
 have a3:=b5;try simp only[qa]at a3
 intro m;induction m with
 |zero=>
  intro a0 d7 b0 s;rw[kw]at s;refine ck (am (sR (mV O (gL (aa.g_Tables r0) O O O λe5 b9=>(ah (co O (ca b9 Tryz.underlying26 _)) (bN cn O O (nS ?_)))))));refine ci O ?_ ?_<;>intro c<;>try simp only[qa]at c
  ·omega
  refine dg (dx (da ?_));exact wP (d8 s) O
 |succ m ih=>
  intro a0 d7 b0 s;rw[kw]at s;refine ck (am (sR (mV O (gL (aa.g_Tables r0) O O O λe3 b4=>(ah (co O (ca b4 Tryz.underlying26 _)) (bN cn O O (nS ?_)))))));refine ci O ?_ ?_<;>intro c<;>try simp only[qa]at c
  rotate_left
  ·omega
  refine aw (aq (am (bg (sR (gL (aa.g_Tables r0) O O O λe1 d2=>(mV O ?_))))));obtain⟨f0,b6,c7⟩:=cv (i:=a0) d2 Y Y;refine ah (bd O O b6) (gL (bz.g_Keys c7) O O O λe4 c1=>(ah (co O (ca c1 Tryz.underlying57 _)) (bN fu O O (mV O ?_))));refine bw 9 (d:=110) (v:=vb ((decide (10 < (((ix x0.Tables a0).Keys).length:Int)))||(decide (24 < (((ix x0.Tables a0).Actions).length:Int))))) ?_ ?_
  ·intro S Q r;cases b3:(decide (10 < (((ix x0.Tables a0).Keys).length:Int)))
   ·intro k;have a5:=b3;try simp only[qa]at a5
    obtain⟨e0,b7,a7⟩:=aa.g_Tables r0;refine ai O O (bt O b7) (ai O O (bq O (TR.cnt (tSl bz.t) a7) (TR.agg (tSl bz.t) a7)) (ai O O (ba O) ?_));obtain⟨e9,c8,c9⟩:=cv (i:=a0) a7 Y Y;refine ai O O (bd O O c8) ?_;obtain⟨e7,c5,a8⟩:=bz.g_Actions c9;refine ai O O (bt O c5) (ai O O (bq O (TR.cnt (tSl tI) a8) (TR.agg (tSl tI) a8)) (ai O O (co O (ca a8 Tryz.underlying29 _)) (ai O O (br O O fu) ?_)));exact gK O O O O O k
   ·exact gN 8 O O O O O O
  refine mV O ?_;refine bw 10 (d:=121) (v:=vb (((decide (10 < (((ix x0.Tables a0).Keys).length:Int)))||(decide (24 < (((ix x0.Tables a0).Actions).length:Int))))||(decide (8 < ((((ix x0.Tables a0).Default).Args).length:Int))))) ?_ ?_
  ·intro S Q r;cases b2:((decide (10 < (((ix x0.Tables a0).Keys).length:Int)))||(decide (24 < (((ix x0.Tables a0).Actions).length:Int))))
   ·intro k;have a9:=b2;try simp only[qa]at a9
    obtain⟨e6,b8,a4⟩:=aa.g_Tables r0;refine ai O O (bt O b8) (ai O O (bq O (TR.cnt (tSl bz.t) a4) (TR.agg (tSl bz.t) a4)) (ai O O (ba O) ?_));obtain⟨f1,d3,c6⟩:=cv (i:=a0) a4 Y Y;refine ai O O (bd O O d3) ?_;obtain⟨f2,d0,d1⟩:=bz.g_Default c6;refine ai O O (bt O d0) ?_;obtain⟨d9,d4,a1⟩:=cp.g_Args d1;refine ai O O (bt O d4) (ai O O (bq O (TR.cnt (tSl gv) a1) (TR.agg (tSl gv) a1)) (ai O O (co O (ca a1 Tryz.underlying43 _)) (ai O O (br O O fu) ?_)));exact gK O O O O O k
   ·exact gN 9 O O O O O O
  refine mV O ?_;refine bw 9 (d:=131) (v:=vb ((((decide (10 < (((ix x0.Tables a0).Keys).length:Int)))||(decide (24 < (((ix x0.Tables a0).Actions).length:Int))))||(decide (8 < ((((ix x0.Tables a0).Default).Args).length:Int))))||(decide (60 < (((ix x0.Tables a0).Name).length:Int))))) ?_ ?_
  ·intro S Q r;cases b1:(((decide (10 < (((ix x0.Tables a0).Keys).length:Int)))||(decide (24 < (((ix x0.Tables a0).Actions).length:Int))))||(decide (8 < ((((ix x0.Tables a0).Default).Args).length:Int))))
   ·intro k;have a6:=b1;try simp only[qa]at a6
    obtain⟨e8,c4,a2⟩:=aa.g_Tables r0;refine ai O O (bt O c4) (ai O O (bq O (TR.cnt (tSl bz.t) a2) (TR.agg (tSl bz.t) a2)) (ai O O (ba O) ?_));obtain⟨e2,d6,d5⟩:=cv (i:=a0) a2 Y Y;refine ai O O (bd O O d6) (ai O O (bt O (bz.g_Name d5)) (ai O O (bq O O O) (ai O O (co O (qe Tryz.underlying9)) (ai O O (br O O fu) ?_))));exact gK O O O O O k
   ·exact gN 8 O O O O O O
  refine nS ?_;refine bv s O ?_ ?_<;>clear s<;>intro c s<;>try simp only[qa]at c
  ·refine sR (mB O (nS ?_));exact rR s O O O
  ·refine aw (db (aq (az (mV O (bN dw O O (mV O (cd (cy ?_))))))));have hbd:=dn b4;have hinc:wr (a0+1)=a0+1:=cz Y Y;erw[hinc];exact wC (ih Y Y s) O
theorem zn{S:List Fr}{res:Bool}{x0:aa}{v0:PV}(r0:aa.t.R x0 v0)(a7:(((((((((decide (60 < (x0.Name.length:Int)))||(decide (16 < (x0.Headers.length:Int))))||(decide (20 < (x0.Metadata.length:Int))))||(decide (8 < (x0.Registers.length:Int))))||(decide (24 < (x0.Actions.length:Int))))||(decide (16 < (x0.Tables.length:Int))))||(decide (16 < (x0.States.length:Int))))||(decide (16 < (x0.Deparser.length:Int))))||(decide (60 < (ql x0.Control 10))))=false){K6:Unit->Bool}
 (b6:K6 ()=res->PX Tryz.prog 6 S (QR Tryz.prog [(2,none)] (RF13 res)) [] ⟨0,[]⟩):
 ∀{m:Nat}{a0:Int}(b1:m=Int.toNat ((x0.States.length:Int)-a0))(a5:0<=a0),oh x0 K6 m a0=res->RC Tryz.prog (.loop dn2) S (QR Tryz.prog [(2,none)] (RF13 res)) [(6,vi a0),(1,.fp v0)] ⟨0,[]⟩:=by
 have a1:=a7;try simp only[qa]at a1
 intro m;induction m with
 |zero=>
  intro a0 b1 a5 s;rw[oh]at s;refine ck (am (sR (mV O (gL (aa.g_States r0) O O O λb7 a9=>(ah (co O (ca a9 Tryz.underlying27 _)) (bN cn O O (nS ?_)))))));refine ci O ?_ ?_<;>intro c<;>try simp only[qa]at c
  ·omega
  refine dg (dx (da ?_));exact wP (b6 s) O
 |succ m ih=>
  intro a0 b1 a5 s;rw[oh]at s;refine ck (am (sR (mV O (gL (aa.g_States r0) O O O λb4 a4=>(ah (co O (ca a4 Tryz.underlying27 _)) (bN cn O O (nS ?_)))))));refine ci O ?_ ?_<;>intro c<;>try simp only[qa]at c
  rotate_left
  ·omega
  refine aw (aq (am (bg (sR (gL (aa.g_States r0) O O O λb5 b0=>(mV O ?_))))));obtain⟨b2,a8,a2⟩:=cv (i:=a0) b0 Y Y;refine ah (bd O O a8) (lD a2 O O O ?_);obtain⟨b3,a3,s⟩:=bp s;have a6:=eq2 a2;rw[a3]at a6;refine cL a6 O O (aj (TR.clo bh.t a2) bc) (nS ?_);refine bv s O ?_ ?_<;>clear s<;>intro c s<;>try simp only[qa]at c
  ·refine sR (mB O (nS ?_));exact rR s O O O
  ·refine aw (db (aq (az (mV O (bN dw O O (mV O (cd (cy ?_))))))));have hbd:=dn a4;have hinc:wr (a0+1)=a0+1:=cz Y Y;erw[hinc];exact wC (ih Y Y s) O
theorem ee3{x0:aa}{v0:PV}(r0:aa.t.R x0 v0):FnR Tryz.prog 13 [v0] (vb (jk x0)):=by
 refine fnS (R:=RF13) el7 (λ_ h=>h) O λres s=>?_;unfold jk at s;refine sR (ah (di O (TR.cnt aa.t r0)) (mB O (nS (am (sR (fL O (aa.g_Name r0) O O (ah (co O (qe Tryz.underlying9)) (bN fu O O ?_))))))));refine mV O ?_;refine bw 5 (d:=16) (v:=vb ((decide (60 < (x0.Name.length:Int)))||(decide (16 < (x0.Headers.length:Int))))) ?_ ?_
 ·intro S Q r;cases c1:(decide (60 < (x0.Name.length:Int)))
  ·intro k;have a8:=c1;try simp only[qa]at a8
   obtain⟨d9,d3,b4⟩:=aa.g_Headers r0;refine ai O O (bt O d3) (ai O O (bq O (TR.cnt (tSl bm.t) b4) (TR.agg (tSl bm.t) b4)) (ai O O (co O (ca b4 Tryz.underlying22 _)) (ai O O (br O O fu) ?_)));exact gK O O O O O k
  ·exact gN 4 O O O O O O
 refine mV O ?_;refine bw 5 (d:=22) (v:=vb (((decide (60 < (x0.Name.length:Int)))||(decide (16 < (x0.Headers.length:Int))))||(decide (20 < (x0.Metadata.length:Int))))) ?_ ?_
 ·intro S Q r;cases c4:((decide (60 < (x0.Name.length:Int)))||(decide (16 < (x0.Headers.length:Int))))
  ·intro k;have a9:=c4;try simp only[qa]at a9
   obtain⟨e4,c9,b6⟩:=aa.g_Metadata r0;refine ai O O (bt O c9) (ai O O (bq O (TR.cnt (tSl av.t) b6) (TR.agg (tSl av.t) b6)) (ai O O (co O (ca b6 Tryz.underlying23 _)) (ai O O (br O O fu) ?_)));exact gK O O O O O k
  ·exact gN 4 O O O O O O
 refine mV O ?_;refine bw 5 (d:=28) (v:=vb ((((decide (60 < (x0.Name.length:Int)))||(decide (16 < (x0.Headers.length:Int))))||(decide (20 < (x0.Metadata.length:Int))))||(decide (8 < (x0.Registers.length:Int))))) ?_ ?_
 ·intro S Q r;cases b9:(((decide (60 < (x0.Name.length:Int)))||(decide (16 < (x0.Headers.length:Int))))||(decide (20 < (x0.Metadata.length:Int))))
  ·intro k;have b1:=b9;try simp only[qa]at b1
   obtain⟨d8,d5,a4⟩:=aa.g_Registers r0;refine ai O O (bt O d5) (ai O O (bq O (TR.cnt (tSl cj.t) a4) (TR.agg (tSl cj.t) a4)) (ai O O (co O (ca a4 Tryz.underlying24 _)) (ai O O (br O O fu) ?_)));exact gK O O O O O k
  ·exact gN 4 O O O O O O
 refine mV O ?_;refine bw 5 (d:=34) (v:=vb (((((decide (60 < (x0.Name.length:Int)))||(decide (16 < (x0.Headers.length:Int))))||(decide (20 < (x0.Metadata.length:Int))))||(decide (8 < (x0.Registers.length:Int))))||(decide (24 < (x0.Actions.length:Int))))) ?_ ?_
 ·intro S Q r;cases c8:((((decide (60 < (x0.Name.length:Int)))||(decide (16 < (x0.Headers.length:Int))))||(decide (20 < (x0.Metadata.length:Int))))||(decide (8 < (x0.Registers.length:Int))))
  ·intro k;have b7:=c8;try simp only[qa]at b7
   obtain⟨e0,d2,b2⟩:=aa.g_Actions r0;refine ai O O (bt O d2) (ai O O (bq O (TR.cnt (tSl cm.t) b2) (TR.agg (tSl cm.t) b2)) (ai O O (co O (ca b2 Tryz.underlying25 _)) (ai O O (br O O fu) ?_)));exact gK O O O O O k
  ·exact gN 4 O O O O O O
 refine mV O ?_;refine bw 5 (d:=40) (v:=vb ((((((decide (60 < (x0.Name.length:Int)))||(decide (16 < (x0.Headers.length:Int))))||(decide (20 < (x0.Metadata.length:Int))))||(decide (8 < (x0.Registers.length:Int))))||(decide (24 < (x0.Actions.length:Int))))||(decide (16 < (x0.Tables.length:Int))))) ?_ ?_
 ·intro S Q r;cases c6:(((((decide (60 < (x0.Name.length:Int)))||(decide (16 < (x0.Headers.length:Int))))||(decide (20 < (x0.Metadata.length:Int))))||(decide (8 < (x0.Registers.length:Int))))||(decide (24 < (x0.Actions.length:Int))))
  ·intro k;have b0:=c6;try simp only[qa]at b0
   obtain⟨e2,d7,a5⟩:=aa.g_Tables r0;refine ai O O (bt O d7) (ai O O (bq O (TR.cnt (tSl bz.t) a5) (TR.agg (tSl bz.t) a5)) (ai O O (co O (ca a5 Tryz.underlying26 _)) (ai O O (br O O fu) ?_)));exact gK O O O O O k
  ·exact gN 4 O O O O O O
 refine mV O ?_;refine bw 5 (d:=46) (v:=vb (((((((decide (60 < (x0.Name.length:Int)))||(decide (16 < (x0.Headers.length:Int))))||(decide (20 < (x0.Metadata.length:Int))))||(decide (8 < (x0.Registers.length:Int))))||(decide (24 < (x0.Actions.length:Int))))||(decide (16 < (x0.Tables.length:Int))))||(decide (16 < (x0.States.length:Int))))) ?_ ?_
 ·intro S Q r;cases c5:((((((decide (60 < (x0.Name.length:Int)))||(decide (16 < (x0.Headers.length:Int))))||(decide (20 < (x0.Metadata.length:Int))))||(decide (8 < (x0.Registers.length:Int))))||(decide (24 < (x0.Actions.length:Int))))||(decide (16 < (x0.Tables.length:Int))))
  ·intro k;have a3:=c5;try simp only[qa]at a3
   obtain⟨e3,d1,b3⟩:=aa.g_States r0;refine ai O O (bt O d1) (ai O O (bq O (TR.cnt (tSl bh.t) b3) (TR.agg (tSl bh.t) b3)) (ai O O (co O (ca b3 Tryz.underlying27 _)) (ai O O (br O O fu) ?_)));exact gK O O O O O k
  ·exact gN 4 O O O O O O
 refine mV O ?_;refine bw 5 (d:=52) (v:=vb ((((((((decide (60 < (x0.Name.length:Int)))||(decide (16 < (x0.Headers.length:Int))))||(decide (20 < (x0.Metadata.length:Int))))||(decide (8 < (x0.Registers.length:Int))))||(decide (24 < (x0.Actions.length:Int))))||(decide (16 < (x0.Tables.length:Int))))||(decide (16 < (x0.States.length:Int))))||(decide (16 < (x0.Deparser.length:Int))))) ?_ ?_
 ·intro S Q r;cases b8:(((((((decide (60 < (x0.Name.length:Int)))||(decide (16 < (x0.Headers.length:Int))))||(decide (20 < (x0.Metadata.length:Int))))||(decide (8 < (x0.Registers.length:Int))))||(decide (24 < (x0.Actions.length:Int))))||(decide (16 < (x0.Tables.length:Int))))||(decide (16 < (x0.States.length:Int))))
  ·intro k;have a2:=b8;try simp only[qa]at a2
   obtain⟨e5,d6,a7⟩:=aa.g_Deparser r0;refine ai O O (bt O d6) (ai O O (bq O (TR.cnt (tSl tI) a7) (TR.agg (tSl tI) a7)) (ai O O (co O (ca a7 Tryz.underlying29 _)) (ai O O (br O O fu) ?_)));exact gK O O O O O k
  ·exact gN 4 O O O O O O
 refine mV O ?_;refine bw 5 (d:=58) (v:=vb (((((((((decide (60 < (x0.Name.length:Int)))||(decide (16 < (x0.Headers.length:Int))))||(decide (20 < (x0.Metadata.length:Int))))||(decide (8 < (x0.Registers.length:Int))))||(decide (24 < (x0.Actions.length:Int))))||(decide (16 < (x0.Tables.length:Int))))||(decide (16 < (x0.States.length:Int))))||(decide (16 < (x0.Deparser.length:Int))))||(decide (60 < (ql x0.Control 10))))) ?_ ?_
 ·intro S Q r;cases c7:((((((((decide (60 < (x0.Name.length:Int)))||(decide (16 < (x0.Headers.length:Int))))||(decide (20 < (x0.Metadata.length:Int))))||(decide (8 < (x0.Registers.length:Int))))||(decide (24 < (x0.Actions.length:Int))))||(decide (16 < (x0.Tables.length:Int))))||(decide (16 < (x0.States.length:Int))))||(decide (16 < (x0.Deparser.length:Int))))
  ·intro k;have b5:=c7;try simp only[qa]at b5
   obtain⟨e1,d4,a1⟩:=aa.g_Control r0;refine ai O O (bt O d4) (ai O O (bq O (TR.cnt (tSl ab.t) a1) (TR.agg (tSl ab.t) a1)) ?_);have d0:=ei5 (x1:=10) a1 (by first|assumption|omega|(rw[cz Y Y];omega)|(have hk:=rval rfl (And.right (And.left OY));omega)|(have hk:=rval OY OY;omega)|(have hk:=rval OY (And.left OY);omega)|(have hk:=rval OY (And.left (And.left OY));have hz:=rslc OY;omega)|(simp;done)|(simp only[List.length_append,List.length_nil,List.length_cons];omega)|(have hk:=(cq OY OY).1;omega)|(simp only[List.length_cons,List.length_nil];omega)|(simp only[List.length_append];have hk:=(cq OY OY).1;omega)|(simp only[List.length_append,List.length_nil];have hk:=(cq OY OY).1;omega)) (by first|assumption|omega|(rw[cz Y Y];omega)|(have hk:=rval rfl (And.right (And.left OY));omega)|(have hk:=rval OY OY;omega)|(have hk:=rval OY (And.left OY);omega)|(have hk:=rval OY (And.left (And.left OY));have hz:=rslc OY;omega)|(simp;done)|(simp only[List.length_append,List.length_nil,List.length_cons];omega)|(have hk:=(cq OY OY).1;omega)|(simp only[List.length_cons,List.length_nil];omega)|(simp only[List.length_append];have hk:=(cq OY OY).1;omega)|(simp only[List.length_append,List.length_nil];have hk:=(cq OY OY).1;omega));refine ik O O (og O O (aj (TR.clo (tSl ab.t) a1) (aj O bc)) d0) (ai O O (br O O fu) ?_);exact gK O O O O O k
  ·exact gN 4 O O O O O O
 refine nS ?_;refine bv s O ?_ ?_<;>clear s<;>intro a0 s<;>have a6:=a0<;>try simp only[qa]at a6
 ·refine sR (mB O (nS ?_));exact rR s O O O
 ·refine aw (aq (am (sR (mI O (nS (bg ?_))))));refine wC (zr r0 a0 ?_ O Y s) O
  ·intro s;refine ek (aq (am (sR (mI O (nS (bg ?_))))));refine wC (ab9 r0 a0 ?_ O Y s) O
   ·intro s;refine ek (aq (am (sR (mI O (nS (bg ?_))))));refine wC (aa2 r0 a0 ?_ O Y s) O
    ·intro s;refine ek (aq (am (sR (mI O (nS (bg ?_))))));refine wC (zn r0 a0 ?_ O Y s) O
     ·intro s;refine ek (aq (sR (mB O (nS ?_))));exact rR s O O O
def RF175(res:Bool)(r:PV):Prop:=r=vb res
theorem cb8{x0:UInt8}:FnR Tryz.prog 175 [vu8 x0] (vb (ny x0)):=by
 refine fnS (R:=RF175) dm7 (λ_ h=>h) O λres s=>?_;unfold ny at s;refine sR (mB O (nR (mV O (ah (br (a:=vu8 x0) (b:=vu8 (97:UInt8)) O O az4) (mV O ?_)))));refine bw 3 (d:=8) (v:=vb ((decide ((97:UInt8)<=x0))&&(decide (x0<=(122:UInt8))))) ?_ ?_
 ·intro S Q r;cases a4:(decide ((97:UInt8)<=x0))
  ·exact gN 2 O O O O O O
  ·intro k;have a1:=a4;try simp only[qa]at a1
   refine ai O O (ba O) (ai O O (br (a:=vu8 x0) (b:=vu8 (122:UInt8)) O O ba4) ?_);exact gK O O O O O k
 refine mV O ?_;refine bw 7 (d:=16) (v:=vb (((decide ((97:UInt8)<=x0))&&(decide (x0<=(122:UInt8))))||((decide ((65:UInt8)<=x0))&&(decide (x0<=(90:UInt8)))))) ?_ ?_
 ·intro S Q r;cases a5:((decide ((97:UInt8)<=x0))&&(decide (x0<=(122:UInt8))))
  ·intro k;have a2:=a5;try simp only[qa]at a2
   refine ai O O (ba O) (ai O O (br (a:=vu8 x0) (b:=vu8 (65:UInt8)) O O az4) (ai O O (ba O) ?_));refine bw 3 (d:=15) (v:=vb ((decide ((65:UInt8)<=x0))&&(decide (x0<=(90:UInt8))))) ?_ ?_
   ·intro S Q r;cases a3:(decide ((65:UInt8)<=x0))
    ·intro k;refine kr O O (kr O O (ai (v:=vb false) O O (pp O O O O) ?_));exact wD k O
    ·intro k;have a0:=a3;try simp only[qa]at a0
     refine ai O O (ba O) (ai O O (br (a:=vu8 x0) (b:=vu8 (90:UInt8)) O O ba4) (ai (v:=vb (decide (x0<=(90:UInt8)))) O O (pp O O O O) ?_));exact wD k O
   exact gK O O O O O k
  ·exact gN 6 O O O O O O
 refine mV O (nS ?_);exact rR s O O O
end Go.Proofs.YtmonnlkagniolaaGreat
