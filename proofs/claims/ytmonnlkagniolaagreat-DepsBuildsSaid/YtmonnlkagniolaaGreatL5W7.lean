/-
 The code of each function does what its plain program says.
-/
import Derived.Test.YtmonnlkagniolaaGreatL5W6
set_option linter.all false
set_option maxRecDepth 100000
namespace Go.Proofs.YtmonnlkagniolaaGreat
open Go Go.Pb Go.RowKit
def RF175(res:Bool)(r:PV):Prop:=r=vb res
theorem bl7{x0:UInt8}:FnR Tryz.prog 175 [vu8 x0] (vb (ol x0)):=by
 refine fnS (R:=RF175) cu7 (λ_ h=>h) O λres z=>?_;unfold ol at z;refine sR (mB O (nR (mV O (af (ct (a:=vu8 x0) (b:=vu8 (97:UInt8)) O O ar1) (mV O ?_)))));refine cm 3 (d:=8) (v:=vb ((decide ((97:UInt8)<=x0))&&(decide (x0<=(122:UInt8))))) ?_ ?_
 ·intro S Q r;cases a4:(decide ((97:UInt8)<=x0))
  ·exact gN 2 O O O O O O
  ·intro k;have a2:=a4;try simp only[qa]at a2
   refine ai O O (ay O) (ai O O (ct (a:=vu8 x0) (b:=vu8 (122:UInt8)) O O ap7) ?_);exact gK O O O O O k
 refine mV O ?_;refine cm 7 (d:=16) (v:=vb (((decide ((97:UInt8)<=x0))&&(decide (x0<=(122:UInt8))))||((decide ((65:UInt8)<=x0))&&(decide (x0<=(90:UInt8)))))) ?_ ?_
 ·intro S Q r;cases a5:((decide ((97:UInt8)<=x0))&&(decide (x0<=(122:UInt8))))
  ·intro k;have a0:=a5;try simp only[qa]at a0
   refine ai O O (ay O) (ai O O (ct (a:=vu8 x0) (b:=vu8 (65:UInt8)) O O ar1) (ai O O (ay O) ?_));refine cm 3 (d:=15) (v:=vb ((decide ((65:UInt8)<=x0))&&(decide (x0<=(90:UInt8))))) ?_ ?_
   ·intro S Q r;cases a3:(decide ((65:UInt8)<=x0))
    ·intro k;refine ja O O (ja O O (ai (v:=vb false) O O (po O O O O) ?_));exact wD k O
    ·intro k;have a1:=a3;try simp only[qa]at a1
     refine ai O O (ay O) (ai O O (ct (a:=vu8 x0) (b:=vu8 (90:UInt8)) O O ap7) (ai (v:=vb (decide (x0<=(90:UInt8)))) O O (po O O O O) ?_));exact wD k O
   exact gK O O O O O k
  ·exact gN 6 O O O O O O
 refine mV O (nS ?_);exact rR z O O O
def RF176(res:Bool)(r:PV):Prop:=r=vb res
theorem cl7{x0:UInt8}:FnR Tryz.prog 176 [vu8 x0] (vb (qi x0)):=by
 refine fnS (R:=RF176) db1 (λ_ h=>h) O λres z=>?_;unfold qi at z;refine sR (mB O (nR (mV O (af (ct (a:=vu8 x0) (b:=vu8 (48:UInt8)) O O ar1) (mV O ?_)))));refine cm 3 (d:=8) (v:=vb ((decide ((48:UInt8)<=x0))&&(decide (x0<=(57:UInt8))))) ?_ ?_
 ·intro S Q r;cases a1:(decide ((48:UInt8)<=x0))
  ·exact gN 2 O O O O O O
  ·intro k;have a0:=a1;try simp only[qa]at a0
   refine ai O O (ay O) (ai O O (ct (a:=vu8 x0) (b:=vu8 (57:UInt8)) O O ap7) ?_);exact gK O O O O O k
 refine mV O (nS ?_);exact rR z O O O
def RF105(res:Bool)(r:PV):Prop:=r=vb res
theorem tv{S:List Fr}{res:Bool}{x0:List UInt8}(a9:(((decide (x0=([]:List UInt8)))||(decide (16 < (x0.length:Int))))||(!(ol (ix x0 0))))=false){K0:Unit->Bool}
 (b3:K0 ()=res->PX Tryz.prog 0 S (QR Tryz.prog [(2,none)] (RF105 res)) [] ⟨0,[]⟩):
 ∀{m:Nat}{a0:Int}(b2:m=Int.toNat ((x0.length:Int)-a0))(a8:0<=a0),jf x0 K0 m a0=res->RC Tryz.prog (.loop ce1) S (QR Tryz.prog [(2,none)] (RF105 res)) [(3,vi a0),(0,vs x0)] ⟨0,[]⟩:=by
 have a2:=a9;try simp only[qa]at a2
 intro m;induction m with
 |zero=>
  intro a0 b2 a8 z;rw[jf]at z;refine bv (am (sR (mV O (mV O (af (cp O (pn Tryz.underlying9)) (bN cn O O (nS ?_)))))));refine bp O ?_ ?_<;>intro c<;>try simp only[qa]at c
  ·omega
  refine dg (dq (dc ?_));exact wP (b3 z) O
 |succ m ih=>
  intro a0 b2 a8 z;rw[jf]at z;refine bv (am (sR (mV O (mV O (af (cp O (pn Tryz.underlying9)) (bN cn O O (nS ?_)))))));refine bp O ?_ ?_<;>intro c<;>try simp only[qa]at c
  rotate_left
  ·omega
  refine ax (ap (am (bf (sR (mV O (mV O (af (rp O O (uw Tryz.underlying9 V V)) ?_)))))));obtain⟨a1,a6,z⟩:=br z;have a5:=bl7 (x0:=(ix x0 a0));rw[a6]at a5;refine cL a5 O O (aj O bh) (af (ju O) (mV O ?_));refine cm 6 (d:=34) (v:=vb ((!a1)&&(!(qi (ix x0 a0))))) ?_ ?_
  ·intro S Q r;cases a7:(!a1)
   ·exact gN 5 O O O O O O
   ·intro k;have a3:=a7;try simp only[qa]at a3
    refine ai O O (ay O) (ai O O (ay O) (ai O O (rp O O (uw Tryz.underlying9 V V)) ?_));have b1:=cl7 (x0:=(ix x0 a0));refine lf O O (rl O O (aj O bh) b1) (ai O O (ju O) ?_);exact gK O O O O O k
  refine mV O ?_;refine cm 5 (d:=40) (v:=vb (((!a1)&&(!(qi (ix x0 a0))))&&(!decide ((ix x0 a0)=(95:UInt8))))) ?_ ?_
  ·intro S Q r;cases b0:((!a1)&&(!(qi (ix x0 a0))))
   ·exact gN 4 O O O O O O
   ·intro k;have a4:=b0;try simp only[qa]at a4
    refine ai O O (ay O) (ai O O (ay O) (ai O O (rp O O (uw Tryz.underlying9 V V)) (ai O O (ct (a:=vu8 (ix x0 a0)) (b:=vu8 (95:UInt8)) O O ea3) ?_)));exact gK O O O O O k
  refine nS ?_;refine cd z O ?_ ?_<;>clear z<;>intro c z<;>try simp only[qa]at c
  ·refine sR (mB O (nS ?_));exact rR z O O O
  ·refine ax (cy (ap (av (mV O (bN dp O O (mV O (bn (cv ?_))))))));have o:wr (a0+1)=a0+1:=dj V V;erw[o];exact wC (ih V V z) O
theorem bj3{x0:List UInt8}:FnR Tryz.prog 105 [vs x0] (vb (jl x0)):=by
 refine fnS (R:=RF105) cz3 (λ_ h=>h) O λres z=>?_;unfold jl at z;refine sR (mB O (nS (am (sR (mV O (af (ct (a:=vs x0) (b:=vs ([]:List UInt8)) O O au4) (mV O ?_)))))));refine cm 4 (d:=10) (v:=vb ((decide (x0=([]:List UInt8)))||(decide (16 < (x0.length:Int))))) ?_ ?_
 ·intro S Q r;cases a5:(decide (x0=([]:List UInt8)))
  ·intro k;have a2:=a5;try simp only[qa]at a2
   refine ai O O (ay O) (ai O O (cp O (pn Tryz.underlying9)) (ai O O (ct O O jr) ?_));exact gK O O O O O k
  ·exact gN 3 O O O O O O
 refine mV O ?_;refine cm 5 (d:=16) (v:=vb (((decide (x0=([]:List UInt8)))||(decide (16 < (x0.length:Int))))||(!(ol (ix x0 0))))) ?_ ?_
 ·intro S Q r;cases a4:((decide (x0=([]:List UInt8)))||(decide (16 < (x0.length:Int))))
  ·intro k;have a3:=a4;try simp only[qa]at a3
   refine ai O O (ay O) (ai O O (rp O O (uw (i:=0) Tryz.underlying9 V (by((have hp:=List.length_pos_iff.2 (And.left (by assumption:¬x0=[]/\_));omega))))) ?_);have a6:=bl7 (x0:=(ix x0 0));refine lf O O (rl O O (aj O bh) a6) (ai O O (ju O) ?_);exact gK O O O O O k
  ·exact gN 4 O O O O O O
 refine nS ?_;refine cd z O ?_ ?_<;>clear z<;>intro a0 z<;>have a1:=a0<;>try simp only[qa]at a1
 ·refine sR (mB O (nS ?_));exact rR z O O O
 ·refine ax (ap (am (sR (mI O (nS (bf ?_))))));refine wC (tv a0 ?_ O V z) O
  ·intro z;refine dy (ap (sR (mB O (nS ?_))));exact rR z O O O
def RF106(res:Int)(r:PV):Prop:=r=vi res
theorem yc{S:List Fr}{res:Int}{x0:List az}{a0:Int}{a7:Bool}{v0:PV}(r0:(tSl az.t).R x0 v0)(b7:0<=a0)(a8:(decide (a0 < (x0.length:Int)))=true)(b5:jl ((ix x0 a0).Name)=a7)(a6:(!a7)=false)(a9:((decide (((ix x0 a0).Width) < 1))||(decide (32 < ((ix x0 a0).Width))))=false){K3:Unit->Int}
 (b8:K3 ()=res->PX Tryz.prog 3 S (QR Tryz.prog [(2,none)] (RF106 res)) [(0,v0),(3,vi a0)] ⟨0,[]⟩):
 ∀{m:Nat}{a1:Int}(b4:m=Int.toNat (a0-a1))(a5:0<=a1),lj x0 a0 K3 m a1=res->RC Tryz.prog (.loop bs9) S (QR Tryz.prog [(2,none)] (RF106 res)) [(4,vi a1),(3,vi a0),(0,v0)] ⟨0,[]⟩:=by
 have a4:=a8;try simp only[qa]at a4
 have a2:=a6;try simp only[qa]at a2
 have a3:=a9;try simp only[qa]at a3
 intro m;induction m with
 |zero=>
  intro a1 b4 a5 z;rw[lj]at z;refine bv (am (sR (mV O (mV O (bN cn O O (nS ?_))))));refine bp O ?_ ?_<;>intro c<;>try simp only[qa]at c
  ·omega
  refine dg (dq (dc ?_));exact wP (b8 z) O
 |succ m ih=>
  intro a1 b4 a5 z;rw[lj]at z;refine bv (am (sR (mV O (mV O (bN cn O O (nS ?_))))));refine bp O ?_ ?_<;>intro c<;>try simp only[qa]at c
  rotate_left
  ·omega
  refine ax (ap (am (bf (sR (mV O (mV O ?_))))));obtain⟨b9,b2,b1⟩:=de (i:=a1) r0 V V;refine af (bd O O b2) (fL O (az.g_Name b1) O O (mV O (mV O ?_)));obtain⟨b6,b0,b3⟩:=de (i:=a0) r0 V V;refine af (bd O O b0) (fL O (az.g_Name b3) O O (af (ct (a:=vs ((ix x0 a1).Name)) (b:=vs ((ix x0 a0).Name)) O O au4) (nS ?_)));refine cd z O ?_ ?_<;>clear z<;>intro c z<;>try simp only[qa]at c
  ·refine sR (mI O (nS ?_));exact rR z O O O
  ·refine ax (cy (ap (av (mV O (bN dp O O (mV O (bn (cv ?_))))))));have o:wr (a1+1)=a1+1:=dj V (by((have s:=da r0;omega)));erw[o];exact wC (ih V V z) O
theorem xu{S:List Fr}{res:Int}{x0:List az}{v0:PV}(r0:(tSl az.t).R x0 v0){K0:Unit->Int}
 (c2:K0 ()=res->PX Tryz.prog 0 S (QR Tryz.prog [(2,none)] (RF106 res)) [] ⟨0,[]⟩):
 ∀{m:Nat}{a0:Int}(b8:m=Int.toNat ((x0.length:Int)-a0))(a5:0<=a0),lp x0 K0 m a0=res->RC Tryz.prog (.loop bs0) S (QR Tryz.prog [(2,none)] (RF106 res)) [(3,vi a0),(0,v0)] ⟨0,[]⟩:=by
 intro m;induction m with
 |zero=>
  intro a0 b8 a5 z;rw[lp]at z;refine bv (am (sR (mV O (mV O (af (cp O (ca r0 Tryz.underlying23 _)) (bN cn O O (nS ?_)))))));refine bp O ?_ ?_<;>intro c<;>try simp only[qa]at c
  ·omega
  refine dg (dq (dc ?_));exact wP (c2 z) O
 |succ m ih=>
  intro a0 b8 a5 z;rw[lp]at z;refine bv (am (sR (mV O (mV O (af (cp O (ca r0 Tryz.underlying23 _)) (bN cn O O (nS ?_)))))));refine bp O (λa1=>?_) (λa1=>?_)
  ·have hgo:=z;have a8:=a1;try simp only[qa]at a8
   refine ax (ap (am (bf (am (bf (sR (mV O (mV O ?_))))))));obtain⟨c4,b4,b5⟩:=de (i:=a0) r0 V V;refine af (bd O O b4) (fL O (az.g_Name b5) O O ?_);obtain⟨c3,a3,z⟩:=br z;have b1:=bj3 (x0:=(ix x0 a0).Name);rw[a3]at b1;refine cL b1 O O (aj O bh) (af (ju O) (mV O (nS ?_)));refine cd z O ?_ ?_<;>clear z<;>intro a2 z<;>have a6:=a2<;>try simp only[qa]at a6
   ·refine sR (mI O (nS ?_));exact rR z O O O
   ·refine sR (mV O (mV O ?_));obtain⟨c5,b6,b3⟩:=de (i:=a0) r0 V V;refine af (bd O O b6) (fL O (az.g_Width b3) O O (bN cn O O (mV O ?_)));refine cm 7 (d:=33) (v:=vb ((decide (((ix x0 a0).Width) < 1))||(decide (32 < ((ix x0 a0).Width))))) ?_ ?_
    ·intro S Q r;cases b0:(decide (((ix x0 a0).Width) < 1))
     ·intro k;have a9:=b0;try simp only[qa]at a9
      refine ai O O (ay O) (ai O O (ay O) ?_);obtain⟨b9,b2,b7⟩:=de (i:=a0) r0 V V;refine ai O O (bd O O b2) (ai O O (co O (az.g_Width b7)) (ai O O (ck O O O) (ai O O (ct O O jr) ?_)));exact gK O O O O O k
     ·exact gN 6 O O O O O O
    refine mV O (nS ?_);refine cd z O ?_ ?_<;>clear z<;>intro a4 z<;>have a7:=a4<;>try simp only[qa]at a7
    ·refine sR (mI O (nS ?_));exact rR z O O O
    ·refine ax (cy (ap (sR (mI O (nS (bf ?_))))));refine wC (yc r0 a5 a1 a3 a2 a4 ?_ O V z) O
     ·intro z;refine dy (cy (ap (av (mV O (bN dp O O (mV O (bn (cv ?_))))))));have s:=da r0;have o:wr (a0+1)=a0+1:=dj V V;erw[o];exact wC (ih V V z) O
  ·exfalso;try simp only[qa]at a1
   omega
theorem bi2{x0:List az}{v0:PV}(r0:(tSl az.t).R x0 v0):FnR Tryz.prog 106 [v0] (vi (qp x0)):=by
 refine fnS (R:=RF106) ct2 (λ_ h=>h) O λres z=>?_;unfold qp at z;refine sR (mI O (nS (am (sR (mI O (nS (bf ?_)))))));refine wC (xu r0 ?_ O V z) O
 ·intro z;refine dy (ap (sR (mI O (nS ?_))));exact rR z O O O
def RF85(res:bc)(r:PV):Prop:=bc.t.R res r
theorem dq4{x0:ae}{x1:Int}{v0:PV}(r0:ae.t.R x0 v0)(hi:0<=x1/\x1 < (x0.Actions.length:Int)):∃r,FnR Tryz.prog 85 [v0,vi x1] r/\bc.t.R (sa x0 x1) r:=by
 refine fnT (R:=RF85) df7 O λres z=>?_;unfold sa at z;refine sR (af (dw O (TR.cnt ae.t r0)) ?_);refine fa (x:= .agg [vs [],nilS,nilS,nilS,nilS,nilS,nilS,nilS,nilS,nilS]) (Mem.nil ⟨0,[]⟩) O O (λc8 c5 d0 c4=>?_);refine nR (lD r0 O O O (gL (ae.g_Actions r0) O O O λd1 c2=>(mV O ?_)));obtain⟨c9,c6,b9⟩:=de (i:=x1) c2 V V;refine af (bd O O c6) (gL (bm.g_Params b9) O O O λa8 b7=>?_);obtain⟨a7,a2,a0,a4,a5,a6,a1,a3,c3,b4,b0,b5,b1,b6,a9,b3,b2⟩:=r0;subst c3;refine af (v:= .agg [vs x0.Name,a7,a2,a0,a4,a5,a6,a1,a3,a8]) (mr (cs:=[vs x0.Name,a7,a2,a0,a4,a5,a6,a1,a3,a8]) O (by simp only[buildV,pf (TR.cnt (tSl az.t) b7) (TR.agg (tSl az.t) b7)];rfl)) ?_;refine ek (k:=0) (v:= .agg [vs x0.Name,a7,a2,a0,a4,a5,a6,a1,a3,a8]) c4 O O O O (λc7 b8=>?_);replace b8:Mem c7 [⟨.op c8 c5 0,132,10,[.agg [vs x0.Name,a7,a2,a0,a4,a5,a6,a1,a3,a8]]⟩]:=b8;refine nS ?_;subst z;exact gi (.cell O (pt (k:=0) b8 O O) .nil) (eh (TR.clo bc.t (show bc.t.R ({Program:=x0,Params:=(ix x0.Actions x1).Params}:bc) (.agg [vs x0.Name,a7,a2,a0,a4,a5,a6,a1,a3,a8]) from⟨a7,a2,a0,a4,a5,a6,a1,a3,a8,O,b4,b0,b5,b1,b6,a9,b3,b2,b7⟩))) (show bc.t.R ({Program:=x0,Params:=(ix x0.Actions x1).Params}:bc) (.agg [vs x0.Name,a7,a2,a0,a4,a5,a6,a1,a3,a8]) from⟨a7,a2,a0,a4,a5,a6,a1,a3,a8,O,b4,b0,b5,b1,b6,a9,b3,b2,b7⟩)
def RF177(res:Int×Bool)(r:PV):Prop:=r= .tup [vi res.1,vb res.2]
theorem bm5{x0:ae}{x1:aa}{v0 v1:PV}(r0:ae.t.R x0 v0)(r1:aa.t.R x1 v1):FnR Tryz.prog 177 [v0,v1] (.tup [vi ((oc x0 x1).1),vb ((oc x0 x1).2)]):=by
 refine fnS (R:=RF177) cu1 (λ_ h=>h) O λres z=>?_;unfold oc at z;refine sR (af (dw O (TR.cnt ae.t r0)) (af (dw O (TR.cnt aa.t r1)) (mI O (mB O (nR (gL (ae.g_Metadata r0) O O O λc5 b7=>(mV O (nS ?_))))))));refine am (sR (fL O (aa.g_Header r1) O O (bN (lx (b:= -1)) O O (nS ?_))));obtain⟨b4,a8,z⟩:=br z;refine nd (F:=λb S Q=>∀(a0:List az)(a1:PV)(a2:(tSl az.t).R a0 a1),b4 a0=res->RC Tryz.prog b S Q [(6,a1),(3,.fp v1)] ⟨0,[]⟩) ?_ ?_
 ·intro a0 a1 a2 z;rw[<-a8]at z;refine am (sR (fL O (aa.g_Field r1) O O (bN cn O O (mV O ?_))));refine cm 6 (d:=39) (v:=vb ((decide (x1.Field < 0))||(decide ((a0.length:Int)<=x1.Field)))) ?_ ?_
  ·intro S Q r;cases a7:(decide (x1.Field < 0))
   ·intro k;have a4:=a7;try simp only[qa]at a4
    refine ai O O (co O (aa.g_Field r1)) (ai O O (ck O O O) (ai O O (ay O) (ai O O (cp O (ca a2 Tryz.underlying23 _)) (ai O O (ct O O kj) ?_))));exact gK O O O O O k
   ·exact gN 5 O O O O O O
  refine nS ?_;refine cd z O ?_ ?_<;>clear z<;>intro c z<;>try simp only[qa]at c
  ·refine sR (mI O (mB O (nS ?_)));exact rT z O O O O O
  ·refine ax (ap (sR (mV O (fL O (aa.g_Field r1) O O ?_))));obtain⟨c4,b5,b3⟩:=de (i:=x1.Field) a2 V V;refine af (bd O O b5) (fL O (az.g_Width b3) O O (mV O (mB O (nS ?_))));exact rT z O O O O O
 ·intro J;refine cd z O ?_ ?_<;>clear z<;>intro c z<;>try simp only[qa]at c
  ·refine am (sR (fL O (aa.g_Header r1) O O (bN cn O O (mV O ?_))));refine cm 7 (d:=22) (v:=vb ((decide (x1.Header < 0))||(decide ((x0.Headers.length:Int)<=x1.Header)))) ?_ ?_
   ·intro S Q r;cases a6:(decide (x1.Header < 0))
    ·intro k;have a3:=a6;try simp only[qa]at a3
     refine ai O O (co O (aa.g_Header r1)) (ai O O (ck O O O) ?_);obtain⟨c3,b1,a5⟩:=ae.g_Headers r0;refine ai O O (co O b1) (ai O O (ck O (TR.cnt (tSl bz.t) a5) (TR.agg (tSl bz.t) a5)) (ai O O (cp O (ca a5 Tryz.underlying22 _)) (ai O O (ct O O kj) ?_)));exact gK O O O O O k
    ·exact gN 6 O O O O O O
   refine nS ?_;refine cd z O ?_ ?_<;>clear z<;>intro c z<;>try simp only[qa]at c
   ·refine sR (mI O (mB O (nS ?_)));exact rT z O O O O O
   ·refine ax (ap (av (gL (ae.g_Headers r0) O O O λb9 a9=>(fL O (aa.g_Header r1) O O ?_))));obtain⟨b8,b2,b0⟩:=de (i:=x1.Header) a9 V V;refine af (bd O O b2) (gL (bz.g_Fields b0) O O O λc2 b6=>(mV O (bn ?_)));refine ap (wC (J _ _ b6 z) O)
  ·refine ax ?_;refine ap (wC (J _ _ b7 z) O)
def RF219(res:Int)(r:PV):Prop:=r=vi res
theorem cu6{x0:Int}:FnR Tryz.prog 219 [vi x0] (vi (mn x0)):=by
 refine fnS (R:=RF219) cl2 (λ_ h=>h) O λres z=>?_;unfold mn at z;refine sR (mI O (nS (am (bf (sR (mV O (bN kj O O (mV O ?_))))))));refine cm 3 (d:=9) (v:=vb ((decide (1<=x0))&&(decide (x0<=4)))) ?_ ?_
 ·intro S Q r;cases a4:(decide (1<=x0))
  ·exact gN 2 O O O O O O
  ·intro k;have a1:=a4;try simp only[qa]at a1
   refine ai O O (ay O) (ai O O (ct O O bb6) ?_);exact gK O O O O O k
 refine mV O (nS ?_);refine cd z O ?_ ?_<;>clear z<;>intro c z<;>try simp only[qa]at c
 ·refine sR (mI O (nS ?_));exact rR z O O O
 ·refine sR (mV O (bN kj O O (mV O ?_)));refine cm 3 (d:=16) (v:=vb ((decide (5<=x0))&&(decide (x0<=8)))) ?_ ?_
  ·intro S Q r;cases a3:(decide (5<=x0))
   ·exact gN 2 O O O O O O
   ·intro k;have a0:=a3;try simp only[qa]at a0
    refine ai O O (ay O) (ai O O (ct O O bb6) ?_);exact gK O O O O O k
  refine mV O (nS ?_);refine cd z O ?_ ?_<;>clear z<;>intro c z<;>try simp only[qa]at c
  ·refine sR (mI O (nS ?_));exact rR z O O O
  ·refine sR (mV O (bN kj O O (mV O ?_)));refine cm 3 (d:=23) (v:=vb ((decide (9<=x0))&&(decide (x0<=16)))) ?_ ?_
   ·intro S Q r;cases a5:(decide (9<=x0))
    ·exact gN 2 O O O O O O
    ·intro k;have a2:=a5;try simp only[qa]at a2
     refine ai O O (ay O) (ai O O (ct O O bb6) ?_);exact gK O O O O O k
   refine mV O (nS ?_);refine cd z O ?_ ?_<;>clear z<;>intro c z<;>try simp only[qa]at c
   ·refine sR (mI O (nS ?_));exact rR z O O O
   ·refine sR (mV O (bN dt O O (mV O (nS ?_))));refine cd z O ?_ ?_<;>clear z<;>intro c z<;>try simp only[qa]at c
    ·refine sR (mI O (nS ?_));exact rR z O O O
    ·refine ax (cy (ap (sR (mI O (nS ?_)))));exact rR z O O O
def RF285(res:Int×Int)(r:PV):Prop:=r= .tup [vi res.1,vi res.2]
theorem ah3{x0:Int}:FnR Tryz.prog 285 [vi x0] (.tup [vi ((qf x0).1),vi ((qf x0).2)]):=by
 refine fnS (R:=RF285) ct3 (λ_ h=>h) O λres z=>?_;unfold qf at z;refine sR (mI O (mI O (nS (am (sR (mV O (bN cn O O (mV O ?_))))))));refine cm 3 (d:=9) (v:=vb ((decide (x0 < 1))||(decide (32 < x0)))) ?_ ?_
 ·intro S Q r;cases a1:(decide (x0 < 1))
  ·intro k;have a0:=a1;try simp only[qa]at a0
   refine ai O O (ay O) (ai O O (ct O O jr) ?_);exact gK O O O O O k
  ·exact gN 2 O O O O O O
 refine nS ?_;refine cd z O ?_ ?_<;>clear z<;>intro c z<;>try simp only[qa]at c
 ·refine sR (mI O (mI O (nS ?_)));exact rT z O O O O O
 ·refine ax (ap (sR (mV O (mV O (mI O (nS ?_))))));exact rT z O O O O O
def RF183(res:Bool)(r:PV):Prop:=r=vb res
theorem cw2{x0:Int}:FnR Tryz.prog 183 [vi x0] (vb (qz x0)):=by
 refine fnS (R:=RF183) cy6 (λ_ h=>h) O λres z=>?_;unfold qz at z;refine sR (mB O (nR (mV O (bN kj O O (mV O ?_)))));refine cm 3 (d:=8) (v:=vb ((decide (1<=x0))&&(decide (x0<=32)))) ?_ ?_
 ·intro S Q r;cases a1:(decide (1<=x0))
  ·exact gN 2 O O O O O O
  ·intro k;have a0:=a1;try simp only[qa]at a0
   refine ai O O (ay O) (ai O O (ct O O bb6) ?_);exact gK O O O O O k
 refine mV O (nS ?_);exact rR z O O O
def RF184(res:(BitVec 64))(r:PV):Prop:=r=uq res
theorem zi{S:List Fr}{res:(BitVec 64)}{x0:Int}(hp:x0<=64){K0:(BitVec 64)->(BitVec 64)}
 (a4:∀{a0:BitVec 64},K0 a0=res->PX Tryz.prog 0 S (QR Tryz.prog [(2,none)] (RF184 res)) [(3,uq a0)] ⟨0,[]⟩):
 ∀{m:Nat}{a0:BitVec 64}{a1:Int}(a3:m=Int.toNat (x0-a1))(a2:0<=a1),qk K0 m a0 a1=res->RC Tryz.prog (.loop bu6) S (QR Tryz.prog [(2,none)] (RF184 res)) [(4,vi a1),(3,uq a0),(0,vi x0)] ⟨0,[]⟩:=by
 intro m;induction m with
 |zero=>
  intro a0 a1 a3 a2 z;rw[qk]at z;refine bv (am (sR (mV O (mV O (bN cn O O (nS ?_))))));refine bp O ?_ ?_<;>intro c<;>try simp only[qa]at c
  ·omega
  refine dg (dq (dc ?_));exact wP (a4 z) O
 |succ m ih=>
  intro a0 a1 a3 a2 z;rw[qk]at z;refine bv (am (sR (mV O (mV O (bN cn O O (nS ?_))))));refine bp O ?_ ?_<;>intro c<;>try simp only[qa]at c
  rotate_left
  ·omega
  refine ax (ap (am (bf (av (mV O (af (ct (a:=uq 2#64) (b:=uq a0) O O ds8) (mV O (bn ?_))))))));refine cy (ap (av (mV O (bN dp O O (mV O (bn (cv ?_)))))));have o:wr (a1+1)=a1+1:=dj V V;erw[o];exact wC (ih V V z) O
theorem ct0{x0:Int}(hp:x0<=64):FnR Tryz.prog 184 [vi x0] (uq (vw x0)):=by
 refine fnS (R:=RF184) cx4 (λ_ h=>h) O λres z=>?_;unfold vw at z;refine sR (af (v:=uq 0#64) (ay O) (nR (af (v:=uq 1#64) (ay O) (nS (am (sR (mI O (nS ?_))))))));refine bf ?_;refine wC (zi hp ?_ O V z) O
 ·intro a0 z;refine dy (ap (sR (mV O (mV O (nS ?_)))));exact rR z O O O
def RF286(res:(BitVec 32))(r:PV):Prop:=r=ue res
theorem cm9{x0:Int}:FnR Tryz.prog 286 [vi x0] (ue (pp x0)):=by
 refine fnS (R:=RF286) cw0 (λ_ h=>h) O λres z=>?_;unfold pp at z;refine sR (af (v:=ue 0#32) (ay O) (nS (am (sR (mV O ?_)))));obtain⟨a5,a0,z⟩:=br z;have a2:=cw2 (x0:=x0);rw[a0]at a2;refine cL a2 O O (aj O bh) (af (ju O) (nS ?_));refine cd z O ?_ ?_<;>clear z<;>intro c z<;>try simp only[qa]at c
 ·refine sR (af (v:=ue 0#32) (ay O) (nS ?_));exact rR z O O O
 ·refine ax (ap (sR (mV O ?_)));obtain⟨a4,a1,z⟩:=br z;have a3:=ct0 (x0:=x0) (by(have hk:=rval OY OY;omega));rw[a1]at a3;refine cL a3 O O (aj O bh) (af (ct (a:=uq a4) (b:=uq 1#64) O O dv5) (af (au3 (a:=uq (a4-1#64)) O (c_dw Tryz.underlying201 Tryz.underlying89)) (mV O (nS ?_))));exact rR z O O O
def RF258(res:Int×Int)(r:PV):Prop:=r= .tup [vi res.1,vi res.2]
theorem cj7{x0:ah}{x1:bc}{v0 v1:PV}(r0:ah.t.R x0 v0)(r1:bc.t.R x1 v1):FnR Tryz.prog 258 [v0,v1] (.tup [vi ((rv x0 x1).1),vi ((rv x0 x1).2)]):=by
 refine fnS (R:=RF258) cv8 (λ_ h=>h) O λres z=>?_;unfold rv at z;refine sR (af (dw O (TR.cnt ah.t r0)) (af (dw O (TR.cnt bc.t r1)) (mI O (mI O (nS (am (sR (fL O (ah.g_Op r0) O O ?_))))))));refine nS (bf (sR (bN dt O O (mV O (nS ?_)))));refine cd z O ?_ ?_<;>clear z<;>intro c z<;>try simp only[qa]at c
 ·refine sR (fL O (ah.g_W r0) O O ?_);obtain⟨a0,b3,z⟩:=br z;have b6:=ah3 (x0:=x0.W);rw[b3]at b6;refine cL b6 O O (aj O bh) (mV O (xT O O (xT O O (mV O (mV O (nS (am (sR ?_))))))));refine mV O (bN dt O O (mV O ?_));refine cm 12 (d:=34) (v:=vb ((decide (a0.2=0))&&((decide (x0.N < 0))||(decide (((pp a0.1).toNat:Int) < x0.N))))) ?_ ?_
  ·intro S Q r;cases a9:(decide (a0.2=0))
   ·exact gN 11 O O O O O O
   ·intro k;have a1:=a9;try simp only[qa]at a1
    refine ai O O (co O (ah.g_N r0)) (ai O O (ck O O O) (ai O O (ct O O cn) (ai O O (ay O) ?_)));refine cm 7 (d:=33) (v:=vb ((decide (x0.N < 0))||(decide (((pp a0.1).toNat:Int) < x0.N)))) ?_ ?_
    ·intro S Q r;cases b1:(decide (x0.N < 0))
     ·intro k;have a2:=b1;try simp only[qa]at a2
      refine ai O O (co O (ah.g_N r0)) (ai O O (ck O O O) (ai O O (ay O) ?_));have c8:=cm9 (x0:=a0.1);refine lf O O (rl O O (aj O bh) c8) (ai O O (au3 (a:=ue (pp a0.1)) O (c_wi Tryz.underlying89 Tryz.underlying3)) (ai O O (ct O O jr) (ai (v:=vb (decide (((pp a0.1).toNat:Int) < x0.N))) O O (po O O O O) ?_)));exact wD k O
     ·intro k;refine ja O O (ja O O (ja O O (ja O O (ja O O (ja O O (ai (v:=vb true) O O (po O O O O) ?_))))));exact wD k O
    exact gK O O O O O k
  refine nS ?_;refine cd z O ?_ ?_<;>clear z<;>intro c z<;>try simp only[qa]at c
  ·refine sR (mI O (mI O (nS ?_)));exact rT z O O O O O
  ·refine ax (ap (sR (mV O (mV O (mV O (mV O (nS ?_)))))));exact rT z O O O O O
 ·refine sR (bN dt O O (mV O (nS ?_)));refine cd z O ?_ ?_<;>clear z<;>intro c z<;>try simp only[qa]at c
  ·refine sR (gL (bc.g_Program r1) O O O λd8 b5=>(fL O (ah.g_N r0) O O (fL O (ah.g_W r0) O O (af (v:= .agg [vi x0.N,vi x0.W]) (mr (cs:=[vi x0.N,vi x0.W]) O O) ?_))));obtain⟨c7,a7,z⟩:=br z;have b2:=bm5 b5 (show aa.t.R ({Header:=x0.N,Field:=x0.W}:aa) (.agg [vi x0.N,vi x0.W]) from O);rw[a7]at b2;refine cL b2 O O (aj (TR.clo ae.t b5) (aj (TR.clo aa.t (show aa.t.R ({Header:=x0.N,Field:=x0.W}:aa) (.agg [vi x0.N,vi x0.W]) from O)) bh)) (mV O (xT O O (xT O O (mV O (mV O (nS (am (sR ?_))))))));refine mV O (af (ju O) (nS ?_));refine cd z O ?_ ?_<;>clear z<;>intro c z<;>try simp only[qa]at c
   ·refine sR (mI O (mI O (nS ?_)));exact rT z O O O O O
   ·refine ax (ap (sR (mV O ?_)));obtain⟨d2,b4,z⟩:=br z;have b7:=ah3 (x0:=c7.1);rw[b4]at b7;refine cL b7 O O (aj O bh) (xT O O (xT O O (mV O (mV O (nS ?_)))));exact rT z O O O O O
  ·refine sR (bN dt O O (mV O (nS ?_)));refine cd z O ?_ ?_<;>clear z<;>intro c z<;>try simp only[qa]at c
   ·refine am (sR (fL O (ah.g_N r0) O O (bN cn O O (mV O ?_))));refine cm 7 (d:=68) (v:=vb ((decide (x0.N < 0))||(decide ((x1.Params.length:Int)<=x0.N)))) ?_ ?_
    ·intro S Q r;cases b0:(decide (x0.N < 0))
     ·intro k;have a6:=b0;try simp only[qa]at a6
      refine ai O O (co O (ah.g_N r0)) (ai O O (ck O O O) ?_);obtain⟨d1,d0,a5⟩:=bc.g_Params r1;refine ai O O (co O d0) (ai O O (ck O (TR.cnt (tSl az.t) a5) (TR.agg (tSl az.t) a5)) (ai O O (cp O (ca a5 Tryz.underlying23 _)) (ai O O (ct O O kj) ?_)));exact gK O O O O O k
     ·exact gN 6 O O O O O O
    refine nS ?_;refine cd z O ?_ ?_<;>clear z<;>intro c z<;>try simp only[qa]at c
    ·refine sR (mI O (mI O (nS ?_)));exact rT z O O O O O
    ·refine ax (ap (sR (gL (bc.g_Params r1) O O O λd5 c4=>(fL O (ah.g_N r0) O O ?_))));obtain⟨d3,c3,c2⟩:=de (i:=x0.N) c4 V V;refine af (bd O O c3) (fL O (az.g_Width c2) O O ?_);obtain⟨d6,b9,z⟩:=br z;have a8:=ah3 (x0:=(ix x1.Params x0.N).Width);rw[b9]at a8;refine cL a8 O O (aj O bh) (xT O O (xT O O (mV O (mV O (nS ?_)))));exact rT z O O O O O
   ·refine ax (cy (ap (am (sR (fL O (ah.g_N r0) O O (bN cn O O (mV O ?_)))))));refine cm 8 (d:=90) (v:=vb ((decide (x0.N < 0))||(decide ((x1.Program.Headers.length:Int)<=x0.N)))) ?_ ?_
    ·intro S Q r;cases b8:(decide (x0.N < 0))
     ·intro k;have a4:=b8;try simp only[qa]at a4
      refine ai O O (co O (ah.g_N r0)) (ai O O (ck O O O) ?_);obtain⟨d4,c9,c5⟩:=bc.g_Program r1;refine ai O O (co O c9) ?_;obtain⟨d7,c6,a3⟩:=ae.g_Headers c5;refine ai O O (co O c6) (ai O O (ck O (TR.cnt (tSl bz.t) a3) (TR.agg (tSl bz.t) a3)) (ai O O (cp O (ca a3 Tryz.underlying22 _)) (ai O O (ct O O kj) ?_)));exact gK O O O O O k
     ·exact gN 7 O O O O O O
    refine nS ?_;refine cd z O ?_ ?_<;>clear z<;>intro c z<;>try simp only[qa]at c
    ·refine sR (mI O (mI O (nS ?_)));exact rT z O O O O O
    ·refine ax (ap (sR (mI O (mI O (nS ?_)))));exact rT z O O O O O
def RF259(res:Int×Int)(r:PV):Prop:=r= .tup [vi res.1,vi res.2]
theorem cx1{x0:ah}{x1:List Int}{v0 v1:PV}(r0:ah.t.R x0 v0)(r1:(tSl tI).R x1 v1)(hl:(x1.length:Int)=mn x0.Op)(h1:1<=x1.length):FnR Tryz.prog 259 [v0,v1] (.tup [vi ((iz x0 x1).1),vi ((iz x0 x1).2)]):=by
 refine fnS (R:=RF259) da0 (λ_ h=>h) O λres z=>?_;unfold iz at z;refine sR (af (dw O (TR.cnt ah.t r0)) (mI O (mI O (nS (am (sR (fL O (ah.g_Op r0) O O (nS ?_))))))));refine bf (sR (bN dt O O (mV O (nS ?_))));refine cd z O ?_ ?_<;>clear z<;>intro c z<;>try simp only[qa]at c
 ·refine sR (mV O (af (bd O O (slI (i:=0) r1 V V)) (lR O O O (mV O (mI O (nS ?_))))));exact rT z O O O O O
 ·refine am (sR (bN dt O O (mV O (nS ?_))));obtain⟨b7,b5,z⟩:=br z;refine nd (F:=λb S Q=>∀(a0:Bool)(b4:a0=(if(decide (x0.Op=6))=true then(decide (x0.Op=6))else(decide (x0.Op=7)))),b7 a0=res->RC Tryz.prog b S Q [(13,vb a0),(7,vi x0.Op),(2,.fp v0),(1,v1)] ⟨0,[]⟩) ?_ ?_
  ·intro a0 b4 z;rw[<-b5]at z;refine cd z O ?_ ?_<;>clear z<;>intro c z<;>try simp only[qa]at c
   ·refine am (sR (fL O (ah.g_N r0) O O (bN cn O O (mV O ?_))));refine cm 4 (d:=23) (v:=vb ((decide (x0.N < 0))||(decide (31 < x0.N)))) ?_ ?_
    ·intro S Q r;cases b2:(decide (x0.N < 0))
     ·intro k;have a3:=b2;try simp only[qa]at a3
      refine ai O O (co O (ah.g_N r0)) (ai O O (ck O O O) (ai O O (ct O O jr) ?_));exact gK O O O O O k
     ·exact gN 3 O O O O O O
    refine nS ?_;refine cd z O ?_ ?_<;>clear z<;>intro c z<;>try simp only[qa]at c
    ·refine sR (mI O (mI O (nS ?_)));exact rT z O O O O O
    ·refine ax (ap (sR (mV O (af (bd O O (slI (i:=0) r1 V V)) (lR O O O (mV O (mI O (nS ?_))))))));exact rT z O O O O O
   ·refine sR (bN dt O O (mV O (nS ?_)));refine cd z O ?_ ?_<;>clear z<;>intro c z<;>try simp only[qa]at c
    ·refine am (bf (sR (fL O (ah.g_N r0) O O (bN cn O O (mV O (nS ?_))))));refine cd z O ?_ ?_<;>clear z<;>intro c z<;>try simp only[qa]at c
     ·refine sR (mI O (mI O (nS ?_)));exact rT z O O O O O
     ·refine sR (fL O (ah.g_W r0) O O (bN cn O O (mV O ?_)));refine cm 4 (d:=41) (v:=vb ((decide (x0.W < 1))||(decide (32 < x0.W)))) ?_ ?_
      ·intro S Q r;cases a8:(decide (x0.W < 1))
       ·intro k;have a2:=a8;try simp only[qa]at a2
        refine ai O O (co O (ah.g_W r0)) (ai O O (ck O O O) (ai O O (ct O O jr) ?_));exact gK O O O O O k
       ·exact gN 3 O O O O O O
      refine mV O ?_;refine cm 10 (d:=52) (v:=vb (((decide (x0.W < 1))||(decide (32 < x0.W)))||(decide ((wr ((ix x1 0)-x0.W)) < x0.N)))) ?_ ?_
      ·intro S Q r;cases b1:((decide (x0.W < 1))||(decide (32 < x0.W)))
       ·intro k;have a4:=b1;try simp only[qa]at a4
        refine ai O O (co O (ah.g_N r0)) (ai O O (ck O O O) (ai O O (ay O) (ai O O (bd O O (slI (i:=0) r1 V V)) (ai O O (ck O O O) (ai O O (co O (ah.g_W r0)) (ai O O (ck O O O) (ai O O (ct O O vt) (ai O O (ct O O jr) ?_))))))));exact gK O O O O O k
       ·exact gN 9 O O O O O O
      refine mV O (nS ?_);refine cd z O ?_ ?_<;>clear z<;>intro c z<;>try simp only[qa]at c
      ·refine sR (mI O (mI O (nS ?_)));exact rT z O O O O O
      ·refine ax (cy (ap (sR (fL O (ah.g_W r0) O O (mV O (mI O (nS ?_)))))));exact rT z O O O O O
    ·refine sR (bN dt O O (mV O (nS ?_)));refine cd z O ?_ ?_<;>clear z<;>intro c z<;>try simp only[qa]at c
     ·refine sR (mV O (af (bd O O (slI (i:=0) r1 V V)) (lR O O O (mV O (af (bd O O (slI (i:=1) r1 V (by((have hk:=opl hl;omega))))) (lR O O O (bN dp O O ?_)))))));obtain⟨b8,a9,z⟩:=br z;have b6:=ah3 (x0:=(wr ((ix x1 0)+(ix x1 1))));rw[a9]at b6;refine cL b6 O O (aj O bh) (xT O O (xT O O (mV O (mV O (nS ?_)))));exact rT z O O O O O
     ·refine sR (bN dt O O (mV O (nS ?_)));refine cd z O ?_ ?_<;>clear z<;>intro c z<;>try simp only[qa]at c
      ·refine am (sR (mV O (af (bd O O (slI (i:=0) r1 V V)) (lR O O O (bN lx O O (mV O ?_))))));refine cm 8 (d:=81) (v:=vb ((!decide ((ix x1 0)=1))||(!decide ((ix x1 1)=(ix x1 2))))) ?_ ?_
       ·intro S Q r;cases b0:(!decide ((ix x1 0)=1))
        ·intro k;have a7:=b0;try simp only[qa]at a7
         refine ai O O (ay O) (ai O O (bd O O (slI (i:=1) r1 V (by((have hk:=opl hl;omega))))) (ai O O (ck O O O) (ai O O (ay O) (ai O O (bd O O (slI (i:=2) r1 V (by((have hk:=opl hl;omega))))) (ai O O (ck O O O) (ai O O (ct O O lx) ?_))))));exact gK O O O O O k
        ·exact gN 7 O O O O O O
       refine nS ?_;refine cd z O ?_ ?_<;>clear z<;>intro c z<;>try simp only[qa]at c
       ·refine sR (mI O (mI O (nS ?_)));exact rT z O O O O O
       ·refine ax (ap (sR (mV O (af (bd O O (slI (i:=1) r1 V (by((have hk:=opl hl;omega))))) (lR O O O (mV O (mI O (nS ?_))))))));exact rT z O O O O O
      ·refine ax (cy (ap (am (bf (sR (mV O (af (bd O O (slI (i:=0) r1 V V)) (lR O O O ?_))))))));refine mV O (af (bd O O (slI (i:=1) r1 V (by((have hk:=opl hl;have hj:=jor OY OY;omega))))) (lR O O O (bN lx O O (mV O (nS ?_)))));refine cd z O ?_ ?_<;>clear z<;>intro c z<;>try simp only[qa]at c
       ·refine sR (mI O (mI O (nS ?_)));exact rT z O O O O O
       ·refine sR (fL O (ah.g_Op r0) O O (bN dt O O (mV O ?_)));refine cm 4 (d:=101) (v:=vb ((decide (x0.Op=15))||(decide (x0.Op=16)))) ?_ ?_
        ·intro S Q r;cases b3:(decide (x0.Op=15))
         ·intro k;have a6:=b3;try simp only[qa]at a6
          refine ai O O (co O (ah.g_Op r0)) (ai O O (ck O O O) (ai O O (ct O O dt) ?_));exact gK O O O O O k
         ·exact gN 3 O O O O O O
        refine mV O (nS ?_);refine cd z O ?_ ?_<;>clear z<;>intro c z<;>try simp only[qa]at c
        ·refine sR (mI O (mI O (nS ?_)));exact rT z O O O O O
        ·refine ax (cy (ap (sR (mV O (af (bd O O (slI (i:=0) r1 V V)) (lR O O O (mV O (mI O ?_))))))));refine nS ?_;exact rT z O O O O O
  ·intro J;refine cd z O ?_ ?_<;>clear z<;>intro a1 z<;>have a5:=a1<;>try simp only[qa]at a5
   ·refine ax ?_;refine ap (wC (J _ (aq8 a1).symm z) O)
   ·refine av (bN dt O O (mV O (bn ?_)));refine ap (wC (J _ (ao5 a1).symm z) O)
end Go.Proofs.YtmonnlkagniolaaGreat
