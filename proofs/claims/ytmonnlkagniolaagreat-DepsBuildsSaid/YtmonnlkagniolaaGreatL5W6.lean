/-
 The code of each function does what its plain program says.
-/
import Derived.Test.YtmonnlkagniolaaGreatL5W5
set_option linter.all false
set_option maxRecDepth 100000
namespace Go.Proofs.YtmonnlkagniolaaGreat
open Go Go.Pb Go.RowKit
def RF201(res:Int)(r:PV):Prop:=r=vi res
theorem qd{S:List Fr}{res:Int}{x0:List bq}{x1:bq}{v0 v1:PV}(r0:(tSl bq.t).R x0 v0)(r1:bq.t.R x1 v1){K0:Unit->Int}
 (a5:K0 ()=res->PX Tryz.prog 0 S (QR Tryz.prog [(4,none)] (RF201 res)) [] ⟨0,[]⟩):
 ∀{m:Nat}{a0:Int}(a4:m=Int.toNat ((x0.length:Int)-a0))(a1:0<=a0),dv x0 x1 K0 m a0=res->RC Tryz.prog (.loop ce8) S (QR Tryz.prog [(4,none)] (RF201 res)) [(8,vi a0),(7,vi (x0.length:Int)),(3,.fp v1),(0,v0)] ⟨0,[]⟩:=by
 intro m;induction m with
 |zero=>
  intro a0 a4 a1 z;rw[dv]at z;refine bv (sR (bN cn O O (nS (am ?_))));refine bp O ?_ ?_<;>intro c<;>try simp only[qa]at c
  ·omega
  refine dg (dq (dc ?_));exact wP (a5 z) O
 |succ m ih=>
  intro a0 a4 a1 z;rw[dv]at z;refine bv (sR (bN cn O O (nS (am ?_))));refine bp O ?_ ?_<;>intro c<;>try simp only[qa]at c
  rotate_left
  ·omega
  refine ax (ap (am (bf (sR (mV O (mV O (nR (lD r1 O O O ?_))))))));refine mV O (mV O ?_);obtain⟨a6,a3,a2⟩:=de (i:=a0) r0 V V;refine af (bd O O a3) (lD a2 O O O (bN (bq.eql_102 r1 a2) O O (nS ?_)));refine cd z O ?_ ?_<;>clear z<;>intro c z<;>try simp only[qa]at c
  ·refine sR (mV O (mV O (nS ?_)));exact rR z O O O
  ·refine ax (cy (ap (av (bN dp O O (mV O (bn (cv ?_)))))));have s:=da r0;have o:wr (a0+1)=a0+1:=dj V V;erw[o];exact wC (ih V V z) O
theorem ch3{x0:List bq}{x1:bq}{v0 v1:PV}(r0:(tSl bq.t).R x0 v0)(r1:bq.t.R x1 v1):FnR Tryz.prog 201 [v0,v1] (vi (iv x0 x1)):=by
 refine fnS (R:=RF201) cj9 (λ_ h=>h) O λres z=>?_;unfold iv at z;refine sR (af (dw O (TR.cnt bq.t r1)) (mI O (nS (am (sR (mV O (af (cp O (ca r0 Tryz.underlying33 _)) (mI O ?_))))))));refine nS (bf ?_);refine wC (qd r0 r1 ?_ O V z) O
 ·intro z;refine dy (ap (sR (mI O (nS ?_))));exact rR z O O O
def RF133(res:Bool)(r:PV):Prop:=r=vb res
theorem cy5{x0:List bq}{x1:bq}{v0 v1:PV}(r0:(tSl bq.t).R x0 v0)(r1:bq.t.R x1 v1):FnR Tryz.prog 133 [v0,v1] (vb (fm x0 x1)):=by
 refine fnS (R:=RF133) da5 (λ_ h=>h) O λres z=>?_;unfold fm at z;refine sR (af (dw O (TR.cnt bq.t r1)) (mB O (nR (mV O (lD r1 O O O ?_)))));obtain⟨a2,a0,z⟩:=br z;have a1:=ch3 r0 r1;rw[a0]at a1;refine cL a1 O O (aj (TR.clo (tSl bq.t) r0) (aj (TR.clo bq.t r1) bh)) (bN kj O O (mV O (nS ?_)));exact rR z O O O
def RF132(res:Bool)(r:PV):Prop:=r=vb res
theorem cu0{x0:bq}{c0:List ba}{c1:Int}{v0 w0:PV}(r0:bq.t.R x0 v0)(a5:(tSl ba.t).R c0 w0)(hp:0<=c1/\c1 < (c0.length:Int)):FnR Tryz.prog 132 [v0,.fp w0,.fp (vi c1)] (vb (ng x0 c0 c1)):=by
 refine fnS (R:=RF132) cm8 (λ_ h=>h) O λres z=>?_;unfold ng at z;refine sR (af (dw O (TR.cnt bq.t r0)) (mB O (nR (lD a5 O O O (lR O O O ?_)))));obtain⟨a8,a3,a4⟩:=de (i:=c1) a5 V V;refine af (bd O O a3) (gL (ba.g_Guards a4) O O O λa7 a0=>(fL O (bq.g_Unit r0) O O (fL O (bq.g_Want r0) O O (af (ju O) (af (v:= .agg [vi x0.Unit,vb (!x0.Want)]) (mr (cs:=[vi x0.Unit,vb (!x0.Want)]) O O) ?_)))));obtain⟨a6,a2,z⟩:=br z;have a1:=cy5 a0 (show bq.t.R ({Unit:=x0.Unit,Want:=(!x0.Want)}:bq) (.agg [vi x0.Unit,vb (!x0.Want)]) from O);rw[a2]at a1;refine cL a1 O O (aj (TR.clo (tSl bq.t) a0) (aj (TR.clo bq.t (show bq.t.R ({Unit:=x0.Unit,Want:=(!x0.Want)}:bq) (.agg [vi x0.Unit,vb (!x0.Want)]) from O)) bh)) (mV O (nS ?_));exact rR z O O O
def RF200(res:Int)(r:PV):Prop:=r=vi res
theorem pe{S:List Fr}{res:Int}{x0:List bq}{x1:bq->Bool}{v0 v1:PV}(r0:(tSl bq.t).R x0 v0)(r1:(tFn Tryz.prog bq.t tB).R x1 v1){K0:Unit->Int}
 (a8:K0 ()=res->PX Tryz.prog 0 S (QR Tryz.prog [(4,none)] (RF200 res)) [] ⟨0,[]⟩):
 ∀{m:Nat}{a0:Int}(a7:m=Int.toNat ((x0.length:Int)-a0))(a2:0<=a0),dl x0 x1 K0 m a0=res->RC Tryz.prog (.loop ce9) S (QR Tryz.prog [(4,none)] (RF200 res)) [(8,vi a0),(7,vi (x0.length:Int)),(1,v1),(0,v0)] ⟨0,[]⟩:=by
 intro m;induction m with
 |zero=>
  intro a0 a7 a2 z;rw[dl]at z;refine bv (sR (bN cn O O (nS (am ?_))));refine bp O ?_ ?_<;>intro c<;>try simp only[qa]at c
  ·omega
  refine dg (dq (dc ?_));exact wP (a8 z) O
 |succ m ih=>
  intro a0 a7 a2 z;rw[dl]at z;refine bv (sR (bN cn O O (nS (am ?_))));refine bp O ?_ ?_<;>intro c<;>try simp only[qa]at c
  rotate_left
  ·omega
  refine ax (ap (am (bf (sR (mV O (mV O (nR (mV O ?_))))))));refine mV O (mV O ?_);obtain⟨a6,a5,a3⟩:=de (i:=a0) r0 V V;refine af (bd O O a5) (lD a3 O O O ?_);refine bb3 O r1 O (show bq.t.R (ix x0 a0) a6 from a3) (λa4 a1=>?_);have a1:a4=vb (x1 (ix x0 a0)):=a1;subst a1;refine nS ?_;refine cd z O ?_ ?_<;>clear z<;>intro c z<;>try simp only[qa]at c
  ·refine sR (mV O (mV O (nS ?_)));exact rR z O O O
  ·refine ax (cy (ap (av (bN dp O O (mV O (bn (cv ?_)))))));have s:=da r0;have o:wr (a0+1)=a0+1:=dj V V;erw[o];exact wC (ih V V z) O
theorem cv9{x0:List bq}{x1:bq->Bool}{v0 v1:PV}(r0:(tSl bq.t).R x0 v0)(r1:(tFn Tryz.prog bq.t tB).R x1 v1):FnR Tryz.prog 200 [v0,v1] (vi (gx x0 x1)):=by
 refine fnS (R:=RF200) cm2 (λ_ h=>h) O λres z=>?_;unfold gx at z;refine sR (mI O (nS (am (sR (mV O (af (cp O (ca r0 Tryz.underlying33 _)) (mI O (nS ?_))))))));refine bf ?_;refine wC (pe r0 r1 ?_ O V z) O
 ·intro z;refine dy (ap (sR (mI O (nS ?_))));exact rR z O O O
def RF131(res:Bool)(r:PV):Prop:=r=vb res
theorem cl1{x0:List bq}{x1:bq->Bool}{v0 v1:PV}(r0:(tSl bq.t).R x0 v0)(r1:(tFn Tryz.prog bq.t tB).R x1 v1):FnR Tryz.prog 131 [v0,v1] (vb (gj x0 x1)):=by
 refine fnS (R:=RF131) ch2 (λ_ h=>h) O λres z=>?_;unfold gj at z;refine sR (mB O (nR (mV O (mV O ?_))));obtain⟨a2,a0,z⟩:=br z;have a1:=cv9 r0 r1;rw[a0]at a1;refine cL a1 O O (aj (TR.clo (tSl bq.t) r0) (aj (TR.clo (tFn Tryz.prog bq.t tB) r1) bh)) (bN kj O O (mV O (nS ?_)));exact rR z O O O
def RF55(res:Bool)(r:PV):Prop:=r=vb res
theorem di7{x0:List ba}{x1 x2:Int}{v0:PV}(r0:(tSl ba.t).R x0 v0):FnR Tryz.prog 55 [v0,vi x1,vi x2] (vb (kf x0 x1 x2)):=by
 refine fnS (R:=RF55) de8 (λ_ h=>h) O λres z=>?_;unfold kf at z;refine sR (af (dw O (TR.cnt (tSl ba.t) r0)) (af (dw O O) (mB O (nS (am (sR (mV O (bN cn O O ?_))))))));refine mV O ?_;refine cm 5 (d:=14) (v:=vb ((decide (x1 < 0))||(decide ((x0.length:Int)<=x1)))) ?_ ?_
 ·intro S Q r;cases a9:(decide (x1 < 0))
  ·intro k;have a1:=a9;try simp only[qa]at a1
   refine ai O O (ay O) (ai O O (ck O (TR.cnt (tSl ba.t) r0) (TR.agg (tSl ba.t) r0)) (ai O O (cp O (ca r0 Tryz.underlying68 _)) (ai O O (ct O O kj) ?_)));exact gK O O O O O k
  ·exact gN 4 O O O O O O
 refine mV O ?_;refine cm 3 (d:=18) (v:=vb (((decide (x1 < 0))||(decide ((x0.length:Int)<=x1)))||(decide (x2 < 0)))) ?_ ?_
 ·intro S Q r;cases a3:((decide (x1 < 0))||(decide ((x0.length:Int)<=x1)))
  ·intro k;have a2:=a3;try simp only[qa]at a2
   refine ai O O (ck O O O) (ai O O (ct O O cn) ?_);exact gK O O O O O k
  ·exact gN 2 O O O O O O
 refine mV O ?_;refine cm 5 (d:=24) (v:=vb ((((decide (x1 < 0))||(decide ((x0.length:Int)<=x1)))||(decide (x2 < 0)))||(decide ((x0.length:Int)<=x2)))) ?_ ?_
 ·intro S Q r;cases a5:(((decide (x1 < 0))||(decide ((x0.length:Int)<=x1)))||(decide (x2 < 0)))
  ·intro k;have a0:=a5;try simp only[qa]at a0
   refine ai O O (ck O O O) (ai O O (ck O (TR.cnt (tSl ba.t) r0) (TR.agg (tSl ba.t) r0)) (ai O O (cp O (ca r0 Tryz.underlying68 _)) (ai O O (ct O O kj) ?_)));exact gK O O O O O k
  ·exact gN 4 O O O O O O
 refine nS ?_;refine cd z O ?_ ?_<;>clear z<;>intro c z<;>try simp only[qa]at c
 ·refine sR (mB O (nS ?_));exact rR z O O O
 ·refine ax (ap (sR (lD r0 O O O (mV O ?_))));obtain⟨b2,b1,b0⟩:=de (i:=x1) r0 V V;refine af (bd O O b1) (gL (ba.g_Guards b0) O O O λb4 a7=>?_);have a6:(tFn Tryz.prog bq.t tB).R (λa_=>ng a_ x0 x2) (.fn (.func 132) [] [.fp v0,.fp (vi x2)]):=bl2 (aj (by3 (TR.clo (tSl ba.t) r0)) (aj O bh)) λa va ra=>by exact⟨_,cu0 (c1:=x2) ra r0 V,O⟩
  refine af (v:= .fn (.func 132) [] [.fp v0,.fp (vi x2)]) (ae8 O O) ?_;obtain⟨b3,a4,z⟩:=br z;have a8:=cl1 a7 a6;rw[a4]at a8;refine cL a8 O O (aj (TR.clo (tSl bq.t) a7) (aj (TR.clo (tFn Tryz.prog bq.t tB) a6) bh)) (mV O (nS ?_));exact rR z O O O
def RF99(res:Bool)(r:PV):Prop:=r=vb res
theorem yq{S:List Fr}{res:Bool}{x0:ba}{x1:Int}{a5:PV}(a6:(tSl bq.t).R x0.Guards a5){K0:Unit->Bool}
 (b3:∀{h:Heap}(M0:Mem h []),K0 ()=res->PX Tryz.prog 0 S (QR Tryz.prog [(4,none)] (RF99 res)) [] h):
 ∀{m:Nat}{a0:Int}(b2:m=Int.toNat ((x0.Guards.length:Int)-a0))(a3:0<=a0){h:Heap}(M0:Mem h []),ni x0 x1 K0 m a0=res->RC Tryz.prog (.loop cz2) S (QR Tryz.prog [(4,none)] (RF99 res)) [(10,vi a0),(9,vi (x0.Guards.length:Int)),(8,a5),(1,vi x1)] h:=by
 intro m;induction m with
 |zero=>
  intro a0 b2 a3 h M0 z;rw[ni]at z;refine bv (sR (bN cn O O (nS (am ?_))));refine bp O ?_ ?_<;>intro c<;>try simp only[qa]at c
  ·omega
  refine dg (dq (dc ?_));exact wP (b3 (Mem.sub M0 .slnil) z) O
 |succ m ih=>
  intro a0 b2 a3 h M0 z;rw[ni]at z;refine bv (sR (bN cn O O (nS (am ?_))));refine bp O ?_ ?_<;>intro c<;>try simp only[qa]at c
  rotate_left
  ·omega
  refine ax (ap (am (bf (sR ?_))));obtain⟨a4,b0,a2⟩:=de (i:=a0) a6 V V;refine af (bd O O b0) (lD a2 O O O ?_);refine fa (x:= .agg [vi 0,vb false]) M0 O O (λa8 a7 b4 a9=>?_);refine ek (k:=0) (v:=a4) a9 O O O (TR.cnt bq.t a2) (λb1 a1=>?_);replace a1:Mem b1 [⟨.op a8 a7 0,102,2,[a4]⟩]:=a1;refine nR (af (bg O) (af (cg (k:=0) a1 O O (bq.g_Unit a2)) (mV O (bN dt O O (nS ?_)))));refine cd z O ?_ ?_<;>clear z<;>intro c z<;>try simp only[qa]at c
  ·refine sR (mB O (nS ?_));exact rR z O O O
  ·refine ax (cy (ap (av (bN dp O O (mV O (bn (cv ?_)))))));have s:=da a6;have o:wr (a0+1)=a0+1:=dj V V;erw[o];exact wC (ih V V (Mem.sub a1 (.cons _ .slnil)) z) O
theorem df2{x0:ba}{x1:Int}{v0:PV}(r0:ba.t.R x0 v0):FnR Tryz.prog 99 [v0,vi x1] (vb (pu x0 x1)):=by
 refine fnS (R:=RF99) df1 (λ_ h=>h) O λres z=>?_;unfold pu at z;refine sR (af (dw O (TR.cnt ba.t r0)) (mB O (nS (am (sR (gL (ba.g_Guards r0) O O O λa1 a0=>(af (cp O (ca a0 Tryz.underlying33 _)) (mI O ?_))))))));refine nS (bf ?_);refine wC (yq a0 ?_ O V (Mem.sub (Mem.nil ⟨0,[]⟩) .slnil) z) O
 ·intro a2 a3 z;refine dy (ap (sR (mB O (nS ?_))));exact rR z O O O
def RF100(res:Bool)(r:PV):Prop:=r=vb res
theorem ab2{S:List Fr}{res:Bool}{x0 x1:List Int}{a1:Int}{v0 v1:PV}(r1:(tSl tI).R x1 v1)(a6:0<=a1)(a4:(decide (a1 < (x0.length:Int)))=true){K2:Unit->Bool}
 (a7:K2 ()=res->PX Tryz.prog 2 S (QR Tryz.prog [(4,none)] (RF100 res)) [(1,v1),(9,v0),(10,vi (x0.length:Int)),(11,vi a1)] ⟨0,[]⟩):
 ∀{m:Nat}{a0:Int}(a5:m=Int.toNat ((x1.length:Int)-a0))(a3:0<=a0),ka x0 x1 a1 K2 m a0=res->RC Tryz.prog (.loop cd9) S (QR Tryz.prog [(4,none)] (RF100 res)) [(17,vi a0),(16,vi (x1.length:Int)),(15,v1),(11,vi a1),(10,vi (x0.length:Int)),(9,v0),(6,vi (ix x0 a1)),(1,v1)] ⟨0,[]⟩:=by
 have a2:=a4;try simp only[qa]at a2
 intro m;induction m with
 |zero=>
  intro a0 a5 a3 z;rw[ka]at z;refine bv (sR (bN cn O O (nS (am ?_))));refine bp O ?_ ?_<;>intro c<;>try simp only[qa]at c
  ·omega
  refine dg (dq (dc ?_));exact wP (a7 z) O
 |succ m ih=>
  intro a0 a5 a3 z;rw[ka]at z;refine bv (sR (bN cn O O (nS (am ?_))));refine bp O ?_ ?_<;>intro c<;>try simp only[qa]at c
  rotate_left
  ·omega
  refine ax (ap (am (bf (sR (af (bd O O (slI r1 V V)) (lR O O O (mV O (nR ?_))))))));refine mV O (mV O (bN dt O O (nS ?_)));refine cd z O ?_ ?_<;>clear z<;>intro c z<;>try simp only[qa]at c
  ·refine sR (mB O (nS ?_));exact rR z O O O
  ·refine ax (cy (ap (av (bN dp O O (mV O (bn (cv ?_)))))));have s:=da r1;have o:wr (a0+1)=a0+1:=dj V V;erw[o];exact wC (ih V V z) O
theorem ab6{S:List Fr}{res:Bool}{x0 x1:List Int}{v0 v1:PV}(r0:(tSl tI).R x0 v0)(r1:(tSl tI).R x1 v1){K0:Unit->Bool}
 (a5:K0 ()=res->PX Tryz.prog 0 S (QR Tryz.prog [(4,none)] (RF100 res)) [] ⟨0,[]⟩):
 ∀{m:Nat}{a0:Int}(a4:m=Int.toNat ((x0.length:Int)-a0))(a2:0<=a0),jz x0 x1 K0 m a0=res->RC Tryz.prog (.loop cd3) S (QR Tryz.prog [(4,none)] (RF100 res)) [(11,vi a0),(10,vi (x0.length:Int)),(9,v0),(1,v1)] ⟨0,[]⟩:=by
 intro m;induction m with
 |zero=>
  intro a0 a4 a2 z;rw[jz]at z;refine bv (sR (bN cn O O (nS (am ?_))));refine bp O ?_ ?_<;>intro c<;>try simp only[qa]at c
  ·omega
  refine dg (dq (dc ?_));exact wP (a5 z) O
 |succ m ih=>
  intro a0 a4 a2 z;rw[jz]at z;refine bv (sR (bN cn O O (nS (am ?_))));refine bp O (λa1=>?_) (λa1=>?_)
  ·have hgo:=z;have a3:=a1;try simp only[qa]at a3
   refine ax (ap (am (bf (sR (af (bd O O (slI r0 V V)) (lR O O O (mV O (nR ?_))))))));refine mV O (af (cp O (ca r1 Tryz.underlying29 _)) (mI O (nS (bf ?_))));refine wC (ab2 r1 a2 a1 ?_ O V z) O
   ·intro z;refine dy (cy (ap (av (bN dp O O (mV O (bn (cv ?_)))))));have s:=da r0;have o:wr (a0+1)=a0+1:=dj V V;erw[o];exact wC (ih V V z) O
  ·exfalso;try simp only[qa]at a1
   omega
theorem at8{x0 x1:List Int}{v0 v1:PV}(r0:(tSl tI).R x0 v0)(r1:(tSl tI).R x1 v1):FnR Tryz.prog 100 [v0,v1] (vb (fw x0 x1)):=by
 refine fnS (R:=RF100) cx5 (λ_ h=>h) O λres z=>?_;unfold fw at z;refine sR (mB O (nS (am (sR (mV O (af (cp O (ca r0 Tryz.underlying29 _)) (mI O (nS ?_))))))));refine bf ?_;refine wC (ab6 r0 r1 ?_ O V z) O
 ·intro z;refine dy (ap (sR (mB O (nS ?_))));exact rR z O O O
def RF30(res:(List (List Int)))(r:PV):Prop:=(tSl (tSl tI)).R res r
theorem ae5{S:List Fr}{res:(List (List Int))}{x0:ae}{x1:List ba}{v0 v1:PV}{b2 b1 a9 b0 a8 a7:Nat}(r0:ae.t.R x0 v0)(r1:(tSl ba.t).R x1 v1)(hs:x0.Headers.length<=1000)(hA:AB x0)(hu:SU x1)(i8:(List.replicate x1.length ([]:List Int)).length=x1.length)(i4:(List.replicate x1.length ([]:List Int)).length<=4611686018427387904)(i7:(List.replicate x1.length ([]:List Int)).length=x1.length)(i6:(List.replicate x1.length ([]:List Int)).length<=4611686018427387904)(i2:(List.replicate x1.length ([]:List Int)).length=x1.length)(i1:(List.replicate x1.length ([]:List Int)).length<=4611686018427387904){K0:(List (List Int))->(List (List Int))->(List (List Int))->(List (List Int))}
 (j2:∀{a4:List (List Int)}{a5:List (List Int)}{zE102:List (List Int)}{a3:List PV}{a6:List Ent}{a2 a1:List PV}(b4:Ns tI 3 a4 a3 a6)(b5:a4.length=x1.length)(b7:a4.length<=4611686018427387904)(c6:All2 (tSl tI).R a5 a2)(c2:a5.length=x1.length)(b6:a5.length<=4611686018427387904)(c5:All2 (tSl tI).R zE102 a1)(b8:zE102.length=x1.length)(b9:zE102.length<=4611686018427387904)(j7:RL a4 x1.length x1.length){h:Heap}(M0:Mem h (⟨.os a8 a7 0 x1.length,29,1,a3⟩::⟨.os a9 b0 0 x1.length,29,1,a2⟩::⟨.os b2 b1 0 x1.length,29,1,a1⟩::(a6++[]))),K0 a4 a5 zE102=res->PX Tryz.prog 0 S (QR Tryz.prog [(4,none)] (RF30 res)) [(1,v1),(5,vi (x1.length:Int)),(6,.os b2 b1 0 x1.length),(7,.os a9 b0 0 x1.length),(8,.os a8 a7 0 x1.length)] h):
 ∀{m:Nat}{a0:Int}{a4:List (List Int)}{a5:List (List Int)}{zE102:List (List Int)}{a3:List PV}{a6:List Ent}{a2 a1:List PV}(b4:Ns tI 3 a4 a3 a6)(b5:a4.length=x1.length)(b7:a4.length<=4611686018427387904)(c6:All2 (tSl tI).R a5 a2)(c2:a5.length=x1.length)(b6:a5.length<=4611686018427387904)(c5:All2 (tSl tI).R zE102 a1)(b8:zE102.length=x1.length)(b9:zE102.length<=4611686018427387904)(j0:m=Int.toNat ((x1.length:Int)-a0))(f7:0<=a0)(d7:RL a4 x1.length a0){h:Heap}(M0:Mem h (⟨.os a8 a7 0 x1.length,29,1,a3⟩::⟨.os a9 b0 0 x1.length,29,1,a2⟩::⟨.os b2 b1 0 x1.length,29,1,a1⟩::(a6++[]))),mf x0 x1 K0 m a0 a4 a5 zE102=res->RC Tryz.prog (.loop cr5) S (QR Tryz.prog [(4,none)] (RF30 res)) [(23,vi a0),(22,vi (x1.length:Int)),(21,v1),(8,.os a8 a7 0 x1.length),(7,.os a9 b0 0 x1.length),(6,.os b2 b1 0 x1.length),(5,vi (x1.length:Int)),(2,.fp v0),(1,v1)] h:=by
 intro m;induction m with
 |zero=>
  intro a0 a4 a5 zE102 a3 a6 a2 a1 b4 b5 b7 c6 c2 b6 c5 b8 b9 j0 f7 d7 h M0 z;rw[mf]at z;refine bv (sR (bN cn O O (nS (am ?_))));refine bp O ?_ ?_<;>intro c<;>try simp only[qa]at c
  ·omega
  refine dg (dq (dc ?_));exact wP (j2 b4 b5 b7 c6 c2 b6 c5 b8 b9 (by exact cm6 OY V) (Mem.sub M0 (.cons_cons _ (.cons_cons _ (.cons_cons _ (List.Sublist.append_left (List.Sublist.refl _) _))))) z) O
 |succ m ih=>
  intro a0 a4 a5 zE102 a3 a6 a2 a1 b4 b5 b7 c6 c2 b6 c5 b8 b9 j0 f7 d7 h M0 z;rw[mf]at z;refine bv (sR (bN cn O O (nS (am ?_))));refine bp O ?_ ?_<;>intro c<;>try simp only[qa]at c
  rotate_left
  ·omega
  refine ax (ap (am (bf (sR (mV O ?_)))));obtain⟨b3,h3,c9⟩:=de (i:=a0) r1 V V;refine af (bd O O h3) (lD c9 O O O ?_);refine fa (x:= .agg [vi 0,nilS,nilS]) M0 O O (λd1 d0 j6 h0=>?_);refine mV O ?_;refine ek (k:=0) (v:=b3) h0 O O O (TR.cnt ba.t c9) (λh6 d5=>?_);replace d5:Mem h6 (⟨.op d1 d0 0,35,3,[b3]⟩::⟨.os a8 a7 0 x1.length,29,1,a3⟩::⟨.os a9 b0 0 x1.length,29,1,a2⟩::⟨.os b2 b1 0 x1.length,29,1,a1⟩::(a6++[])):=d5;refine nR (mV O (mV O (mV O (mV O (lD r0 O O O (af (pw (k:=0) d5 O O (TR.agg ba.t c9)) ?_))))));obtain⟨e6,g1,z⟩:=br z;obtain⟨c3,h1,e5⟩:=dm7 r0 c9 OY (by((have hk:=hu.c a0 V V;omega)));rw[g1]at e5;refine cL h1 O O (aj (TR.clo ae.t r0) (aj (TR.clo ba.t c9) bh)) (lD r0 O O O (af (pw (k:=0) d5 O O (TR.agg ba.t c9)) ?_));obtain⟨d8,f9,z⟩:=br z;obtain⟨c4,h8,e3⟩:=dg7 r0 c9 OY;rw[f9]at e3;refine cL h8 O O (aj (TR.clo ae.t r0) (aj (TR.clo ba.t c9) bh)) ?_;have e0:0<=a0:=V;have g9:a0 < (zE102.length:Int):=V;refine af (bd O O (qg 1 e0 V)) ?_;refine tq (k:=3) (v:=c3) d5 O O O (by rw[All2.length_eq c5];omega) (TR.cnt (tSl tI) e5) (λj3 g6=>?_);have g7:=All2.set (i:=(a0).toNat) c5 (show(tSl tI).R e6 c3 from e5);have g2:(zE102.set (a0).toNat e6).length<=4611686018427387904:=by simp only[List.length_set];exact b9
  have e7:(zE102.set (a0).toNat e6).length=x1.length:=by simp only[List.length_set];exact b8
  have e2:0<=a0:=V;have i0:a0 < (a5.length:Int):=V;refine af (bd O O (qg 1 e2 V)) ?_;refine tq (k:=2) (v:=c4) g6 O O O (by rw[All2.length_eq c6];omega) (TR.cnt (tSl tI) e3) (λj4 h7=>?_);have h9:=All2.set (i:=(a0).toNat) c6 (show(tSl tI).R d8 c4 from e3);have f8:(a5.set (a0).toNat d8).length<=4611686018427387904:=by simp only[List.length_set];exact b6
  have f4:(a5.set (a0).toNat d8).length=x1.length:=by simp only[List.length_set];exact c2
  refine nS (fc (cw (mV O (cx (cw (mV O (cx (cw ?_))))))));refine mV O (cx (cw ?_));have g0:fits (x1.length) 8=true:=iq V (by((have hk:=hu.n;omega)));refine vz (sz:=1) (ty:=3) (n:=x1.length) (zz:=vi 0) h7 O O O O O g0 (λc7 c8 f3 h5=>?_);have h2:All2 tI.R (List.replicate x1.length (0:Int)) (List.replicate x1.length (vi 0)):=All2.rep (show tI.R (0:Int) (vi 0) from O) _;have g4:(List.replicate x1.length (0:Int)).length=x1.length:=List.length_replicate;have g3:(List.replicate x1.length (0:Int)).length<=4611686018427387904:=by rw[g4];exact gg g0
  refine cx (cw ?_);have d4:0<=a0:=V;have d9:a0 < (a4.length:Int):=V;refine af (bd O O (qg 1 d4 V)) (cx (cw ?_));obtain⟨g5,f5,i3,f0,j1,j5,i5,i9⟩:=cb4 (i:=a0) b4 d4 d9;have f1:Mem f3 (⟨g5,3,1,f5⟩::⟨.os c7 c8 0 x1.length,3,1,(List.replicate x1.length (vi 0))⟩::⟨.op d1 d0 0,35,3,[b3]⟩::⟨.os a8 a7 0 x1.length,29,1,a3⟩::⟨.os a9 b0 0 x1.length,29,1,(a2.set (a0).toNat c4)⟩::⟨.os b2 b1 0 x1.length,29,1,(a1.set (a0).toNat c3)⟩::((a6.eraseIdx (a0).toNat)++[])):=al1 (C:=[⟨.os c7 c8 0 x1.length,3,1,(List.replicate x1.length (vi 0))⟩,⟨.op d1 d0 0,35,3,[b3]⟩,⟨.os a8 a7 0 x1.length,29,1,a3⟩,⟨.os a9 b0 0 x1.length,29,1,(a2.set (a0).toNat c4)⟩,⟨.os b2 b1 0 x1.length,29,1,(a1.set (a0).toNat c3)⟩]) h5 f0;have d3:=Mem.sub f1 (.cons _ (.refl _));replace d3:Mem f3 (⟨.os c7 c8 0 x1.length,3,1,(List.replicate x1.length (vi 0))⟩::⟨.op d1 d0 0,35,3,[b3]⟩::⟨.os a8 a7 0 x1.length,29,1,a3⟩::⟨.os a9 b0 0 x1.length,29,1,(a2.set (a0).toNat c4)⟩::⟨.os b2 b1 0 x1.length,29,1,(a1.set (a0).toNat c3)⟩::((a6.eraseIdx (a0).toNat)++[])):=d3;refine tq (k:=2) (v:= .os c7 c8 0 x1.length) d3 O O O (by rw[(Ns.len b4).1];omega) (tc (k:=0) d3 O O) (λf2 e1=>?_);replace e1:Mem f2 (⟨.os c7 c8 0 x1.length,3,1,(List.replicate x1.length (vi 0))⟩::⟨.op d1 d0 0,35,3,[b3]⟩::⟨.os a8 a7 0 x1.length,29,1,(a3.set (a0).toNat (.os c7 c8 0 x1.length))⟩::⟨.os a9 b0 0 x1.length,29,1,(a2.set (a0).toNat c4)⟩::⟨.os b2 b1 0 x1.length,29,1,(a1.set (a0).toNat c3)⟩::((a6.eraseIdx (a0).toNat)++[])):=e1;obtain⟨d2,d6,h4,e8⟩:∃d2 d6,Ns tI 3 (a4.set (a0).toNat (List.replicate x1.length (0:Int))) d2 d6/\Mem f2 (⟨.op d1 d0 0,35,3,[b3]⟩::⟨.os a8 a7 0 x1.length,29,1,d2⟩::⟨.os a9 b0 0 x1.length,29,1,(a2.set (a0).toNat c4)⟩::⟨.os b2 b1 0 x1.length,29,1,(a1.set (a0).toNat c3)⟩::(d6++[])):=⟨_,_,ca0 b4 h2 O g3 (.inr ⟨_,_,_,O⟩),as6 (C:=[⟨.op d1 d0 0,35,3,[b3]⟩,⟨.os a8 a7 0 x1.length,29,1,(a3.set (a0).toNat (.os c7 c8 0 x1.length))⟩,⟨.os a9 b0 0 x1.length,29,1,(a2.set (a0).toNat c4)⟩,⟨.os b2 b1 0 x1.length,29,1,(a1.set (a0).toNat c3)⟩]) e1 (by rw[(Ns.len b4).2];omega)⟩;have f6:(a4.set (a0).toNat (List.replicate x1.length (0:Int))).length=x1.length:=by rw[List.length_set];exact b5
  have e9:(a4.set (a0).toNat (List.replicate x1.length (0:Int))).length<=4611686018427387904:=by rw[List.length_set];exact b7
  refine cx ?_;refine yi (k:=0) (E':=[(44,.op a8 a7 (0+(a0).toNat*1)),(43,.os c7 c8 0 x1.length),(42,vi (x1.length:Int)),(41,vi a0),(40,.os a8 a7 0 x1.length),(39,.op a9 b0 (0+(a0).toNat*1)),(38,.op b2 b1 (0+(a0).toNat*1)),(37,c4),(36,b3),(35,v0),(34,c3),(33,b3),(32,v0),(31,vi a0),(30,.os a9 b0 0 x1.length),(29,vi a0),(28,.os b2 b1 0 x1.length),(9,vi a0),(10,.fp b3),(27,b3),(26,.fp b3),(25,vi a0),(24,vb (decide (a0 < (x1.length:Int)))),(23,vi a0),(22,vi (x1.length:Int)),(21,v1),(8,.os a8 a7 0 x1.length),(7,.os a9 b0 0 x1.length),(6,.os b2 b1 0 x1.length),(5,vi (x1.length:Int)),(2,.fp v0),(1,v1)]) e8 O (du O (du O (du O (du O (du O (du O (du O (du O (du O (du O (du O (du O (du O (du O (du O (du O (du O (du O (vx O (du O (du O (du O (du O (du O (du O (du O (du O (du O (du O (du O (du O (du O ah0)))))))))))))))))))))))))))))))) (λg8 e4=>?_);replace e4:Mem g8 (⟨.os a8 a7 0 x1.length,29,1,d2⟩::⟨.os a9 b0 0 x1.length,29,1,(a2.set (a0).toNat c4)⟩::⟨.os b2 b1 0 x1.length,29,1,(a1.set (a0).toNat c3)⟩::(d6++[])):=e4;refine kn (cy (ap (av (bN dp O O (mV O (bn (cv ?_)))))));have s:=da r1;have o:wr (a0+1)=a0+1:=dj V V;erw[o];exact wC (ih h4 f6 e9 h9 f4 f8 g7 e7 g2 V V (by exact dk9 OY V (by rw[List.length_replicate])) (Mem.sub e4 (.cons_cons _ (.cons_cons _ (.cons_cons _ (List.Sublist.append_left (List.Sublist.refl _) _))))) z) O
theorem ad2{S:List Fr}{res:(List (List Int))}{x0:ae}{x1:List ba}{b9:List (List Int)}{a4:List (List Int)}{b0:List (List Int)}{a1:Int}{d0:List (List Int)}{v1:PV}{a6 a5:List PV}{b8 b7 b4 b6 b3 b2:Nat}(r1:(tSl ba.t).R x1 v1)(hs:x0.Headers.length<=1000)(hA:AB x0)(hu:SU x1)(n9:(List.replicate x1.length ([]:List Int)).length=x1.length)(n4:(List.replicate x1.length ([]:List Int)).length<=4611686018427387904)(n8:(List.replicate x1.length ([]:List Int)).length=x1.length)(n7:(List.replicate x1.length ([]:List Int)).length<=4611686018427387904)(n3:(List.replicate x1.length ([]:List Int)).length=x1.length)(n2:(List.replicate x1.length ([]:List Int)).length<=4611686018427387904)(h0:b9.length=x1.length)(h3:b9.length<=4611686018427387904)(b5:All2 (tSl tI).R a4 a6)(h1:a4.length=x1.length)(h2:a4.length<=4611686018427387904)(c3:All2 (tSl tI).R b0 a5)(h5:b0.length=x1.length)(h4:b0.length<=4611686018427387904)(k7:RL b9 x1.length x1.length)(l3:d0.length=x1.length)(m2:d0.length<=4611686018427387904)(p5:0<=a1)(o0:RL d0 x1.length x1.length)(j9:(decide (a1 < (x1.length:Int)))=true){K3:(List (List Int))->(List (List Int))}{K4:(List (List Int))->(List (List Int))}
 (k6:∀{a0:List (List Int)}{a2:List PV}{b1:List Ent}(a7:Ns tI 3 a0 a2 b1)(a9:a0.length=x1.length)(a8:a0.length<=4611686018427387904)(p4:RL a0 x1.length x1.length){h:Heap}(M0:Mem h (⟨.os b3 b2 0 x1.length,29,1,a2⟩::⟨.os b4 b6 0 x1.length,29,1,a6⟩::⟨.os b8 b7 0 x1.length,29,1,a5⟩::(b1++[]))),K3 a0=res->PX Tryz.prog 3 S (QR Tryz.prog [(4,none)] (RF30 res)) [(1,v1),(5,vi (x1.length:Int)),(6,.os b8 b7 0 x1.length),(7,.os b4 b6 0 x1.length),(8,.os b3 b2 0 x1.length),(46,vi (x1.length:Int)),(47,vi a1)] h)
 (o4:∀{a0:List (List Int)}{a2:List PV}{b1:List Ent}(a7:Ns tI 3 a0 a2 b1)(a9:a0.length=x1.length)(a8:a0.length<=4611686018427387904)(p4:RL a0 x1.length x1.length){h:Heap}(M0:Mem h (⟨.os b3 b2 0 x1.length,29,1,a2⟩::⟨.os b4 b6 0 x1.length,29,1,a6⟩::⟨.os b8 b7 0 x1.length,29,1,a5⟩::(b1++[]))),K4 a0=res->PX Tryz.prog 4 S (QR Tryz.prog [(4,none)] (RF30 res)) [(1,v1),(5,vi (x1.length:Int)),(6,.os b8 b7 0 x1.length),(7,.os b4 b6 0 x1.length),(8,.os b3 b2 0 x1.length),(46,vi (x1.length:Int)),(47,vi a1)] h):
 ∀{m:Nat}{a3:Int}{a0:List (List Int)}{a2:List PV}{b1:List Ent}(a7:Ns tI 3 a0 a2 b1)(a9:a0.length=x1.length)(a8:a0.length<=4611686018427387904)(n1:m=Int.toNat ((x1.length:Int)-a3))(j0:0<=a3)(c2:RL a0 x1.length x1.length){h:Heap}(M0:Mem h (⟨.os b3 b2 0 x1.length,29,1,a2⟩::⟨.os b4 b6 0 x1.length,29,1,a6⟩::⟨.os b8 b7 0 x1.length,29,1,a5⟩::(b1++[]))),jq x1 a4 b0 a1 K3 K4 m a3 a0=res->RC Tryz.prog (.loop cq0) S (QR Tryz.prog [(4,none)] (RF30 res)) [(51,vi a3),(50,vi (x1.length:Int)),(47,vi a1),(46,vi (x1.length:Int)),(11,vi a1),(8,.os b3 b2 0 x1.length),(7,.os b4 b6 0 x1.length),(6,.os b8 b7 0 x1.length),(5,vi (x1.length:Int)),(1,v1)] h:=by
 have f3:=j9;try simp only[qa]at f3
 intro m;induction m with
 |zero=>
  intro a3 a0 a2 b1 a7 a9 a8 n1 j0 c2 h M0 z;rw[jq]at z;refine bv (sR (bN cn O O (nS (am ?_))));refine bp O ?_ ?_<;>intro c<;>try simp only[qa]at c
  ·omega
  refine dg (dq (dc ?_));exact wP (o4 a7 a9 a8 OY (Mem.sub M0 (.cons_cons _ (.cons_cons _ (.cons_cons _ (List.Sublist.append_left (List.Sublist.refl _) _))))) z) O
 |succ m ih=>
  intro a3 a0 a2 b1 a7 a9 a8 n1 j0 c2 h M0 z;rw[jq]at z;refine bv (sR (bN cn O O (nS (am ?_))));refine bp O ?_ ?_<;>intro c<;>try simp only[qa]at c
  rotate_left
  ·omega
  refine ax (ap (am (bf (sR (mV O (mV O (nS (am ?_))))))));refine sR (mV O (mV O (bN bb6 O O (nS ?_))));refine cd z O ?_ ?_<;>clear z<;>intro c z<;>try simp only[qa]at c
  ·refine dg (dq (dy (ap (av (bN dp O O (mV O (bn (cv ?_))))))));have s:=da r1;have o:wr (a3+1)=a3+1:=dj V V;erw[o];exact wC (ih a7 a9 a8 V V OY (Mem.sub M0 (.cons_cons _ (.cons_cons _ (.cons_cons _ (List.Sublist.append_left (List.Sublist.refl _) _))))) z) O
  ·refine ax (ap (am (bf (sR (mV O (mV O (mV O ?_)))))));obtain⟨p1,j3,z⟩:=br z;have i3:=di7 (x1:=a1) (x2:=a3) r1;rw[j3]at i3;refine cL i3 O O (aj (TR.clo (tSl ba.t) r1) (aj O (aj O bh))) (mV O (nS ?_));refine cd z O ?_ ?_<;>clear z<;>intro c z<;>try simp only[qa]at c
   ·refine ax (cy (ap (sR (mV O (mV O (bN vt O O (bN dt O O (nS ?_))))))));refine cd z O ?_ ?_<;>clear z<;>intro c z<;>try simp only[qa]at c
    ·refine dg (bb7 O (dq (dc ?_)));exact wP (k6 a7 a9 a8 OY (Mem.sub M0 (.cons_cons _ (.cons_cons _ (.cons_cons _ (List.Sublist.append_left (List.Sublist.refl _) _))))) z) O
    ·refine ax (cy (ap (av (bN dp O O (mV O (bn (cv ?_)))))));have s:=da r1;have o:wr (a3+1)=a3+1:=dj V V;erw[o];exact wC (ih a7 a9 a8 V V OY (Mem.sub M0 (.cons_cons _ (.cons_cons _ (.cons_cons _ (List.Sublist.append_left (List.Sublist.refl _) _))))) z) O
   ·refine sR (mV O (mV O ?_));obtain⟨o9,l2,e9⟩:=de (i:=a3) r1 V V;refine af (bd O O l2) (lD e9 O O O (mV O ?_));obtain⟨d8,j4,z⟩:=br z;have k3:=df2 (x1:=a1) e9;rw[j4]at k3;refine cL k3 O O (aj (TR.clo ba.t e9) (aj O bh)) (mV O ?_);refine cm 10 (d:=79) (v:=vb (d8||(fw (ix b0 a3) (ix a4 a1)))) ?_ ?_
    ·intro S Q r;cases h8:d8
     ·intro k;have f9:=h8;try simp only[qa]at f9
      refine ai O O (ay O) (ai O O (ay O) ?_);have c7:0<=a3:=V;have e8:a3 < (b0.length:Int):=V;refine ai O O (bd O O (qg 1 c7 V)) ?_;obtain⟨p2,l8,f7⟩:=pm (i:=a3) c3 c7 e8;refine ai O O (og (k:=2) M0 O O l8 (TR.agg (tSl tI) f7)) (ai O O (ay O) (ai O O (ay O) ?_));have d3:0<=a1:=V;have f0:a1 < (a4.length:Int):=V;refine ai O O (bd O O (qg 1 d3 V)) ?_;obtain⟨o1,k9,g2⟩:=pm (i:=a1) b5 d3 f0;refine ai O O (og (k:=1) M0 O O k9 (TR.agg (tSl tI) g2)) ?_;have m1:=at8 f7 g2;refine lf O O (rl O O (aj (TR.clo (tSl tI) f7) (aj (TR.clo (tSl tI) g2) bh)) m1) ?_;exact gK O O O O O k
     ·exact gN 9 O O O O O O
    refine mV O ?_;refine cm 10 (d:=90) (v:=vb ((d8||(fw (ix b0 a3) (ix a4 a1)))||(fw (ix a4 a3) (ix a4 a1)))) ?_ ?_
    ·intro S Q r;cases k0:(d8||(fw (ix b0 a3) (ix a4 a1)))
     ·intro k;have g1:=k0;try simp only[qa]at g1
      refine ai O O (ay O) (ai O O (ay O) ?_);have c8:0<=a3:=V;have g9:a3 < (a4.length:Int):=V;refine ai O O (bd O O (qg 1 c8 V)) ?_;obtain⟨p0,l9,g4⟩:=pm (i:=a3) b5 c8 g9;refine ai O O (og (k:=1) M0 O O l9 (TR.agg (tSl tI) g4)) (ai O O (ay O) (ai O O (ay O) ?_));have c6:0<=a1:=V;have g3:a1 < (a4.length:Int):=V;refine ai O O (bd O O (qg 1 c6 V)) ?_;obtain⟨p3,m3,f5⟩:=pm (i:=a1) b5 c6 g3;refine ai O O (og (k:=1) M0 O O m3 (TR.agg (tSl tI) f5)) ?_;have k8:=at8 g4 f5;refine lf O O (rl O O (aj (TR.clo (tSl tI) g4) (aj (TR.clo (tSl tI) f5) bh)) k8) ?_;exact gK O O O O O k
     ·exact gN 9 O O O O O O
    refine mV O (nS ?_);refine cd z O ?_ ?_<;>clear z<;>intro c z<;>try simp only[qa]at c
    ·refine av (mV O (mV O ?_));have d1:0<=a1:=V;have f4:a1 < (a0.length:Int):=V;refine af (bd O O (qg 1 d1 V)) ?_;obtain⟨n0,j8,e6,k5,d9,m7,i1,i5⟩:=cb4 (i:=a1) a7 d1 f4;have c4:Mem h (⟨n0,3,1,j8⟩::⟨.os b3 b2 0 x1.length,29,1,a2⟩::⟨.os b4 b6 0 x1.length,29,1,a6⟩::⟨.os b8 b7 0 x1.length,29,1,a5⟩::((b1.eraseIdx (a1).toNat)++[])):=al1 (C:=[⟨.os b3 b2 0 x1.length,29,1,a2⟩,⟨.os b4 b6 0 x1.length,29,1,a6⟩,⟨.os b8 b7 0 x1.length,29,1,a5⟩]) M0 k5;refine af (og (k:=1) c4 O O e6 (gn (k:=0) c4 O m7).2) (mV O ?_);obtain⟨o5,o7,j2,i7⟩:=as1 (i:=a3) i5 d9 V (by((have hk:=c2 a1 V V V;omega)));subst i7;have j7:(ix a0 a1).length=j2:=by rw[zv c4 (k:=0) rfl,All2.length_eq d9]
     have f2:0<=a3:=V;have m5:a3 < ((ix a0 a1).length:Int):=(by((have hk:=c2 a1 V V V;omega)));refine af (bd O O (qg 1 f2 V)) ?_;refine tq (k:=0) (v:=vi 2) c4 O O O (by rw[All2.length_eq d9];omega) O (λm9 l0=>?_);have l7:=All2.set (i:=(a3).toNat) d9 (show tI.R 2 (vi 2) from O);have k4:((ix a0 a1).set (a3).toNat 2).length<=4611686018427387904:=by simp only[List.length_set];exact i1
     have n6:((ix a0 a1).set (a3).toNat 2).length=j2:=by simp only[List.length_set];exact j7
     obtain⟨c9,g0,i6,e0⟩:∃c9 g0,Ns tI 3 (a0.set (a1).toNat ((ix a0 a1).set (a3).toNat 2)) c9 g0/\Mem m9 (⟨.os b3 b2 0 x1.length,29,1,c9⟩::⟨.os b4 b6 0 x1.length,29,1,a6⟩::⟨.os b8 b7 0 x1.length,29,1,a5⟩::(g0++[])):=⟨_,_,bl9 a7 e6 l7 O k4 (.inr ⟨_,_,_,O⟩),as6 (C:=[⟨.os b3 b2 0 x1.length,29,1,a2⟩,⟨.os b4 b6 0 x1.length,29,1,a6⟩,⟨.os b8 b7 0 x1.length,29,1,a5⟩]) l0 (by rw[(Ns.len a7).2];omega)⟩;have e3:(a0.set (a1).toNat ((ix a0 a1).set (a3).toNat 2)).length=x1.length:=by rw[List.length_set];exact a9
     have e7:(a0.set (a1).toNat ((ix a0 a1).set (a3).toNat 2)).length<=4611686018427387904:=by rw[List.length_set];exact a8
     refine bn (cy (ap (sR (mV O (mV O (bN vt O O (bN dt O O (nS ?_))))))));refine cd z O ?_ ?_<;>clear z<;>intro c z<;>try simp only[qa]at c
     ·refine dg (bb7 O (dq (dc ?_)));exact wP (k6 i6 e3 e7 (by exact as7 OY V V V) (Mem.sub e0 (.cons_cons _ (.cons_cons _ (.cons_cons _ (List.Sublist.append_left (List.Sublist.refl _) _))))) z) O
     ·refine ax (cy (ap (av (bN dp O O (mV O (bn (cv ?_)))))));have s:=da r1;have o:wr (a3+1)=a3+1:=dj V V;erw[o];exact wC (ih i6 e3 e7 V V (by exact as7 OY V V V) (Mem.sub e0 (.cons_cons _ (.cons_cons _ (.cons_cons _ (List.Sublist.append_left (List.Sublist.refl _) _))))) z) O
    ·refine sR (mV O (mV O ?_));have d4:0<=a3:=V;have f8:a3 < (a4.length:Int):=V;refine af (bd O O (qg 1 d4 V)) ?_;obtain⟨o8,l5,g8⟩:=pm (i:=a3) b5 d4 f8;refine af (og (k:=1) M0 O O l5 (TR.agg (tSl tI) g8)) (mV O (mV O ?_));have d5:0<=a1:=V;have f1:a1 < (b0.length:Int):=V;refine af (bd O O (qg 1 d5 V)) ?_;obtain⟨o3,l1,g5⟩:=pm (i:=a1) c3 d5 f1;refine af (og (k:=2) M0 O O l1 (TR.agg (tSl tI) g5)) ?_;obtain⟨o6,i4,z⟩:=br z;have h7:=at8 g8 g5;rw[i4]at h7;refine cL h7 O O (aj (TR.clo (tSl tI) g8) (aj (TR.clo (tSl tI) g5) bh)) (mV O (nS ?_));refine cd z O ?_ ?_<;>clear z<;>intro c z<;>try simp only[qa]at c
     ·refine av (mV O (mV O ?_));have d2:0<=a1:=V;have g7:a1 < (a0.length:Int):=V;refine af (bd O O (qg 1 d2 V)) ?_;obtain⟨l6,j1,e4,h6,d7,m0,i9,j5⟩:=cb4 (i:=a1) a7 d2 g7;have c5:Mem h (⟨l6,3,1,j1⟩::⟨.os b3 b2 0 x1.length,29,1,a2⟩::⟨.os b4 b6 0 x1.length,29,1,a6⟩::⟨.os b8 b7 0 x1.length,29,1,a5⟩::((b1.eraseIdx (a1).toNat)++[])):=al1 (C:=[⟨.os b3 b2 0 x1.length,29,1,a2⟩,⟨.os b4 b6 0 x1.length,29,1,a6⟩,⟨.os b8 b7 0 x1.length,29,1,a5⟩]) M0 h6;refine af (og (k:=1) c5 O O e4 (gn (k:=0) c5 O m0).2) (mV O ?_);obtain⟨p6,o2,i2,i0⟩:=as1 (i:=a3) j5 d7 V (by((have hk:=c2 a1 V V V;omega)));subst i0;have h9:(ix a0 a1).length=i2:=by rw[zv c5 (k:=0) rfl,All2.length_eq d7]
      have f6:0<=a3:=V;have m6:a3 < ((ix a0 a1).length:Int):=(by((have hk:=c2 a1 V V V;omega)));refine af (bd O O (qg 1 f6 V)) ?_;refine tq (k:=0) (v:=vi 1) c5 O O O (by rw[All2.length_eq d7];omega) O (λm8 m4=>?_);have l4:=All2.set (i:=(a3).toNat) d7 (show tI.R 1 (vi 1) from O);have i8:((ix a0 a1).set (a3).toNat 1).length<=4611686018427387904:=by simp only[List.length_set];exact i9
      have n5:((ix a0 a1).set (a3).toNat 1).length=i2:=by simp only[List.length_set];exact h9
      obtain⟨d6,g6,j6,e1⟩:∃d6 g6,Ns tI 3 (a0.set (a1).toNat ((ix a0 a1).set (a3).toNat 1)) d6 g6/\Mem m8 (⟨.os b3 b2 0 x1.length,29,1,d6⟩::⟨.os b4 b6 0 x1.length,29,1,a6⟩::⟨.os b8 b7 0 x1.length,29,1,a5⟩::(g6++[])):=⟨_,_,bl9 a7 e4 l4 O i8 (.inr ⟨_,_,_,O⟩),as6 (C:=[⟨.os b3 b2 0 x1.length,29,1,a2⟩,⟨.os b4 b6 0 x1.length,29,1,a6⟩,⟨.os b8 b7 0 x1.length,29,1,a5⟩]) m4 (by rw[(Ns.len a7).2];omega)⟩;have e2:(a0.set (a1).toNat ((ix a0 a1).set (a3).toNat 1)).length=x1.length:=by rw[List.length_set];exact a9
      have e5:(a0.set (a1).toNat ((ix a0 a1).set (a3).toNat 1)).length<=4611686018427387904:=by rw[List.length_set];exact a8
      refine bn (cy (ap (sR (mV O (mV O (bN vt O O (bN dt O O (nS ?_))))))));refine cd z O ?_ ?_<;>clear z<;>intro c z<;>try simp only[qa]at c
      ·refine dg (bb7 O (dq (dc ?_)));exact wP (k6 j6 e2 e5 (by exact as7 OY V V V) (Mem.sub e1 (.cons_cons _ (.cons_cons _ (.cons_cons _ (List.Sublist.append_left (List.Sublist.refl _) _))))) z) O
      ·refine ax (cy (ap (av (bN dp O O (mV O (bn (cv ?_)))))));have s:=da r1;have o:wr (a3+1)=a3+1:=dj V V;erw[o];exact wC (ih j6 e2 e5 V V (by exact as7 OY V V V) (Mem.sub e1 (.cons_cons _ (.cons_cons _ (.cons_cons _ (List.Sublist.append_left (List.Sublist.refl _) _))))) z) O
     ·refine ax (cy (ap (sR (mV O (mV O (bN vt O O (bN dt O O (nS ?_))))))));refine cd z O ?_ ?_<;>clear z<;>intro c z<;>try simp only[qa]at c
      ·refine dg (bb7 O (dq (dc ?_)));exact wP (k6 a7 a9 a8 OY (Mem.sub M0 (.cons_cons _ (.cons_cons _ (.cons_cons _ (List.Sublist.append_left (List.Sublist.refl _) _))))) z) O
      ·refine ax (cy (ap (av (bN dp O O (mV O (bn (cv ?_)))))));have s:=da r1;have o:wr (a3+1)=a3+1:=dj V V;erw[o];exact wC (ih a7 a9 a8 V V OY (Mem.sub M0 (.cons_cons _ (.cons_cons _ (.cons_cons _ (List.Sublist.append_left (List.Sublist.refl _) _))))) z) O
theorem ae1{S:List Fr}{res:(List (List Int))}{x0:ae}{x1:List ba}{a5:List (List Int)}{a2:List (List Int)}{a1:List (List Int)}{v1:PV}{a7 a8:List PV}{e0 d8 d9 d7 d2 d0:Nat}(r1:(tSl ba.t).R x1 v1)(hs:x0.Headers.length<=1000)(hA:AB x0)(hu:SU x1)(e3:(List.replicate x1.length ([]:List Int)).length=x1.length)(e4:(List.replicate x1.length ([]:List Int)).length<=4611686018427387904)(f0:(List.replicate x1.length ([]:List Int)).length=x1.length)(e7:(List.replicate x1.length ([]:List Int)).length<=4611686018427387904)(e9:(List.replicate x1.length ([]:List Int)).length=x1.length)(e5:(List.replicate x1.length ([]:List Int)).length<=4611686018427387904)(b5:a5.length=x1.length)(c4:a5.length<=4611686018427387904)(c9:All2 (tSl tI).R a2 a7)(b3:a2.length=x1.length)(b4:a2.length<=4611686018427387904)(c8:All2 (tSl tI).R a1 a8)(c2:a1.length=x1.length)(b6:a1.length<=4611686018427387904)(d1:RL a5 x1.length x1.length){K2:(List (List Int))->(List (List Int))}
 (f8:∀{a0:List (List Int)}{a3:List PV}{a9:List Ent}(b1:Ns tI 3 a0 a3 a9)(a6:a0.length=x1.length)(a4:a0.length<=4611686018427387904){h:Heap}(M0:Mem h (⟨.os d2 d0 0 x1.length,29,1,a3⟩::⟨.os d9 d7 0 x1.length,29,1,a7⟩::⟨.os e0 d8 0 x1.length,29,1,a8⟩::(a9++[]))),K2 a0=res->PX Tryz.prog 2 S (QR Tryz.prog [(4,none)] (RF30 res)) [(8,.os d2 d0 0 x1.length)] h):
 ∀{m:Nat}{b0:Int}{a0:List (List Int)}{a3:List PV}{a9:List Ent}(b1:Ns tI 3 a0 a3 a9)(a6:a0.length=x1.length)(a4:a0.length<=4611686018427387904)(f5:m=Int.toNat ((x1.length:Int)-b0))(d5:0<=b0)(c7:RL a0 x1.length x1.length){h:Heap}(M0:Mem h (⟨.os d2 d0 0 x1.length,29,1,a3⟩::⟨.os d9 d7 0 x1.length,29,1,a7⟩::⟨.os e0 d8 0 x1.length,29,1,a8⟩::(a9++[]))),jp x1 a2 a1 K2 m b0 a0=res->RC Tryz.prog (.loop cs5) S (QR Tryz.prog [(4,none)] (RF30 res)) [(47,vi b0),(46,vi (x1.length:Int)),(8,.os d2 d0 0 x1.length),(7,.os d9 d7 0 x1.length),(6,.os e0 d8 0 x1.length),(5,vi (x1.length:Int)),(1,v1)] h:=by
 intro m;induction m with
 |zero=>
  intro b0 a0 a3 a9 b1 a6 a4 f5 d5 c7 h M0 z;rw[jp]at z;refine bv (sR (bN cn O O (nS (am ?_))));refine bp O ?_ ?_<;>intro c<;>try simp only[qa]at c
  ·omega
  refine dg (dq (dc ?_));exact wP (f8 b1 a6 a4 (Mem.sub M0 (.cons_cons _ (.cons_cons _ (.cons_cons _ (List.Sublist.append_left (List.Sublist.refl _) _))))) z) O
 |succ m ih=>
  intro b0 a0 a3 a9 b1 a6 a4 f5 d5 c7 h M0 z;rw[jp]at z;refine bv (sR (bN cn O O (nS (am ?_))));refine bp O (λb2=>?_) (λb2=>?_)
  ·have hgo:=z;have d6:=b2;try simp only[qa]at d6
   refine ax (ap (am (bf (sR (mV O (mV O (nR (mV O ?_))))))));refine mI O (nS (bf ?_));refine wC (ad2 r1 hs hA hu e3 e4 f0 e7 e9 e5 b5 c4 c9 b3 b4 c8 c2 b6 d1 a6 a4 d5 c7 b2 ?_ ?_ b1 a6 a4 O V OY (Mem.sub M0 (.cons_cons _ (.cons_cons _ (.cons_cons _ (List.Sublist.append_left (List.Sublist.refl _) _))))) z) O
   ·intro d3 e1 e6 c6 c3 b8 f1 f6 f4 z;refine bb7 O (dy (ap (av (bN dp O O (mV O (bn (cv ?_)))))));have s:=da r1;have o:wr (b0+1)=b0+1:=dj V V;erw[o];exact wC (ih c6 c3 b8 V V OY (Mem.sub f4 (.cons_cons _ (.cons_cons _ (.cons_cons _ (List.Sublist.append_left (List.Sublist.refl _) _))))) z) O
   ·intro d4 e2 e8 c5 b9 b7 f2 f7 f3 z;refine dy (cy (ap (av (bN dp O O (mV O (bn (cv ?_)))))));have s:=da r1;have o:wr (b0+1)=b0+1:=dj V V;erw[o];exact wC (ih c5 b9 b7 V V OY (Mem.sub f3 (.cons_cons _ (.cons_cons _ (.cons_cons _ (List.Sublist.append_left (List.Sublist.refl _) _))))) z) O
  ·exfalso;try simp only[qa]at b2
   omega
theorem dh5{x0:ae}{x1:List ba}{v0 v1:PV}(r0:ae.t.R x0 v0)(r1:(tSl ba.t).R x1 v1)(hs:x0.Headers.length<=1000)(hA:AB x0)(hu:SU x1):∃r,FnR Tryz.prog 30 [v0,v1] r/\(tSl (tSl tI)).R (rr x0 x1) r:=by
 refine fnT (R:=RF30) dl7 O λres z=>?_;unfold rr at z;refine sR (af (dw O (TR.cnt ae.t r0)) (af (v:=nilS) (ay O) (nS (cc5 (sR (mV O (af (cp O (ca r1 Tryz.underlying68 _)) (mV O ?_))))))));refine nR (mV O ?_);have e0:fits (x1.length) 24=true:=iq (by((have hk:=hu.n;omega))) (by((have hk:=hu.n;omega)));refine vz (sz:=1) (ty:=29) (n:=x1.length) (zz:=nilS) (Mem.nil ⟨0,[]⟩) O O O O O e0 (λc9 c7 f7 e6=>?_);have f1:All2 (tSl tI).R (List.replicate x1.length ([]:List Int)) (List.replicate x1.length nilS):=All2.rep (show(tSl tI).R ([]:List Int) nilS from ft) _;have a2:(List.replicate x1.length ([]:List Int)).length=x1.length:=List.length_replicate;have b3:(List.replicate x1.length ([]:List Int)).length<=4611686018427387904:=by rw[a2];exact gg e0
 refine mV O ?_;have d9:fits (x1.length) 24=true:=iq V (by((have hk:=hu.n;omega)));refine vz (sz:=1) (ty:=29) (n:=x1.length) (zz:=nilS) e6 O O O O O d9 (λc8 c6 f3 e8=>?_);have f0:All2 (tSl tI).R (List.replicate x1.length ([]:List Int)) (List.replicate x1.length nilS):=All2.rep (show(tSl tI).R ([]:List Int) nilS from ft) _;have a4:(List.replicate x1.length ([]:List Int)).length=x1.length:=List.length_replicate;have b5:(List.replicate x1.length ([]:List Int)).length<=4611686018427387904:=by rw[a4];exact gg d9
 refine mV O (mV O (nR (mV O ?_)));have e1:fits (x1.length) 24=true:=iq V (by((have hk:=hu.n;omega)));refine vz (sz:=1) (ty:=29) (n:=x1.length) (zz:=nilS) e8 O O O O O e1 (λc5 c4 f2 e7=>?_);have f8:All2 (tSl tI).R (List.replicate x1.length ([]:List Int)) (List.replicate x1.length nilS):=All2.rep (show(tSl tI).R ([]:List Int) nilS from ft) _;have a3:(List.replicate x1.length ([]:List Int)).length=x1.length:=List.length_replicate;have b4:(List.replicate x1.length ([]:List Int)).length<=4611686018427387904:=by rw[a3];exact gg e1
 obtain⟨c3,e5,d8⟩:∃c3,Ns tI 3 (List.replicate x1.length ([]:List Int)) (List.replicate x1.length nilS) c3/\Mem f2 (⟨.os c5 c4 0 x1.length,29,1,(List.replicate x1.length nilS)⟩::⟨.os c8 c6 0 x1.length,29,1,(List.replicate x1.length nilS)⟩::⟨.os c9 c7 0 x1.length,29,1,(List.replicate x1.length nilS)⟩::(c3++[])):=⟨_,dj6 _,dk8 (C:=[⟨.os c5 c4 0 x1.length,29,1,(List.replicate x1.length nilS)⟩,⟨.os c8 c6 0 x1.length,29,1,(List.replicate x1.length nilS)⟩,⟨.os c9 c7 0 x1.length,29,1,(List.replicate x1.length nilS)⟩]) e7 3 1 _⟩;refine mV O (nS (am (sR (mV O (af (cp O (ca r1 Tryz.underlying68 _)) (mI O (nS (bf ?_))))))));refine wC (ae5 r0 r1 hs hA hu a2 b3 a4 b5 a3 b4 ?_ e5 a3 b4 f0 a4 b5 f1 a2 b3 O V (by exact ee4) (Mem.sub d8 (.cons_cons _ (.cons_cons _ (.cons_cons _ (List.Sublist.append_left (List.Sublist.refl _) _))))) z) O
 ·intro d3 d5 d2 d1 d6 b2 a7 b8 a0 a1 b9 a5 a6 b6 b1 a8 c2 f4 e3 z;refine dy (ap (am (ax (ap (am (sR (mV O (mI O ?_))))))));refine nS (bf ?_);refine wC (ae1 r1 hs hA hu a2 b3 a4 b5 a3 b4 a0 a1 b9 a5 a6 b6 b1 a8 c2 ?_ b8 a0 a1 O V OY (Mem.sub e3 (.cons_cons _ (.cons_cons _ (.cons_cons _ (List.Sublist.append_left (List.Sublist.refl _) _))))) z) O
  ·intro d0 a9 d7 b7 d4 b0 f6 e2 z;refine dy (ap (sR (mV O (mV O (nS ?_)))));obtain⟨f5,e4,e9⟩:=ci5 (P:=Tryz.prog) (k:=0) (C:=[⟨.os c5 c4 0 x1.length,29,1,a9⟩,⟨.os c8 c6 0 x1.length,29,1,b2⟩,⟨.os c9 c7 0 x1.length,29,1,a7⟩]) e2 O O b7 (Nat.le_trans b0 OO);subst z;exact gi (.tmp O .nil) e4 e9
end Go.Proofs.YtmonnlkagniolaaGreat
