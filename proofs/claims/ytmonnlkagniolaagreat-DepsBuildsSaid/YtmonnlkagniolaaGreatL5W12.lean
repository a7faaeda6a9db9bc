/-
 The code of each function does what its plain program says.
-/
import Derived.Test.YtmonnlkagniolaaGreatL5W11
set_option linter.all false
set_option maxRecDepth 100000
namespace Go.Proofs.YtmonnlkagniolaaGreat
open Go Go.Pb Go.RowKit
def RF32(res:Bool)(r:PV):Prop:=r=vb res
theorem vj{S:List Fr}{res:Bool}{x0 x1:List Int}{v0 v1:PV}(r0:(tSl tI).R x0 v0)(r1:(tSl tI).R x1 v1)(a3:(!decide ((x0.length:Int)=(x1.length:Int)))=false){K0:Unit->Bool}
 (a5:K0 ()=res->PX Tryz.prog 0 S (QR Tryz.prog [(4,none)] (RF32 res)) [] ⟨0,[]⟩):
 ∀{m:Nat}{a0:Int}(a4:m=Int.toNat ((x0.length:Int)-a0))(a2:0<=a0),jk x0 x1 K0 m a0=res->RC Tryz.prog (.loop ch6) S (QR Tryz.prog [(4,none)] (RF32 res)) [(5,vi a0),(1,v1),(0,v0)] ⟨0,[]⟩:=by
 have a1:=a3;try simp only[qa]at a1
 intro m;induction m with
 |zero=>
  intro a0 a4 a2 z;rw[jk]at z;refine bv (am (sR (mV O (mV O (af (cp O (ca r0 Tryz.underlying29 _)) (bN cn O O (nS ?_)))))));refine bp O ?_ ?_<;>intro c<;>try simp only[qa]at c
  ·omega
  refine dg (dq (dc ?_));exact wP (a5 z) O
 |succ m ih=>
  intro a0 a4 a2 z;rw[jk]at z;refine bv (am (sR (mV O (mV O (af (cp O (ca r0 Tryz.underlying29 _)) (bN cn O O (nS ?_)))))));refine bp O ?_ ?_<;>intro c<;>try simp only[qa]at c
  rotate_left
  ·omega
  refine ax (ap (am (bf (sR (mV O (mV O (af (bd O O (slI r0 V V)) (lR O O O ?_))))))));refine mV O (mV O (af (bd O O (slI r1 V V)) (lR O O O (bN lx O O (nS ?_)))));refine cd z O ?_ ?_<;>clear z<;>intro c z<;>try simp only[qa]at c
  ·refine sR (mB O (nS ?_));exact rR z O O O
  ·refine ax (cy (ap (av (mV O (bN dp O O (mV O (bn (cv ?_))))))));have s:=da r0;have o:wr (a0+1)=a0+1:=dj V V;erw[o];exact wC (ih V V z) O
theorem ds0{x0 x1:List Int}{v0 v1:PV}(r0:(tSl tI).R x0 v0)(r1:(tSl tI).R x1 v1):FnR Tryz.prog 32 [v0,v1] (vb (pz x0 x1)):=by
 refine fnS (R:=RF32) bu3 (λ_ h=>h) O λres z=>?_;unfold pz at z;refine sR (mB O (nS (am (sR (mV O (af (cp O (ca r0 Tryz.underlying29 _)) (mV O (af (cp O (ca r1 Tryz.underlying29 _)) ?_))))))));refine bN lx O O (nS ?_);refine cd z O ?_ ?_<;>clear z<;>intro a0 z<;>have a1:=a0<;>try simp only[qa]at a1
 ·refine sR (mB O (nS ?_));exact rR z O O O
 ·refine ax (ap (am (sR (mI O (nS (bf ?_))))));refine wC (vj r0 r1 a0 ?_ O V z) O
  ·intro z;refine dy (ap (sR (mB O (nS ?_))));exact rR z O O O
def RF5(res:Bool)(r:PV):Prop:=r=vb res
theorem uz{S:List Fr}{res:Bool}{x0:ae}{x1:List ba}{b3:Bool}{a0:(List (List Int))}{a3:(List (List Int))}{b1 b0:PV}(c4:rg x0=b3)(b2:((!b3)||(!(ma x1)))=false)(c3:rr x0 x1=a0)(a2:(tSl (tSl tI)).R a0 b1)(b9:sh x0 x1=a3)(b8:(tSl (tSl tI)).R a3 b0)(b5:(!decide ((a0.length:Int)=(a3.length:Int)))=false){K0:Unit->Bool}
 (c8:K0 ()=res->PX Tryz.prog 0 S (QR Tryz.prog [(4,none)] (RF5 res)) [] ⟨0,[]⟩):
 ∀{m:Nat}{a1:Int}(c2:m=Int.toNat ((a0.length:Int)-a1))(a9:0<=a1),jd a0 a3 K0 m a1=res->RC Tryz.prog (.loop dq5) S (QR Tryz.prog [(4,none)] (RF5 res)) [(7,vi a1),(6,b0),(5,b1)] ⟨0,[]⟩:=by
 have a4:=b2;try simp only[qa]at a4
 have a5:=b5;try simp only[qa]at a5
 intro m;induction m with
 |zero=>
  intro a1 c2 a9 z;rw[jd]at z;refine bv (am (sR (mV O (mV O (af (cp O (ca a2 Tryz.underlying70 _)) (bN cn O O (nS ?_)))))));refine bp O ?_ ?_<;>intro c<;>try simp only[qa]at c
  ·omega
  refine dg (dq (dc ?_));exact wP (c8 z) O
 |succ m ih=>
  intro a1 c2 a9 z;rw[jd]at z;refine bv (am (sR (mV O (mV O (af (cp O (ca a2 Tryz.underlying70 _)) (bN cn O O (nS ?_)))))));refine bp O ?_ ?_<;>intro c<;>try simp only[qa]at c
  rotate_left
  ·omega
  refine ax (ap (am (bf (sR (mV O (mV O ?_))))));obtain⟨c6,b6,a7⟩:=de (i:=a1) a2 V V;refine af (bd O O b6) (lD a7 O O O (mV O (mV O ?_)));obtain⟨c5,b7,a6⟩:=de (i:=a1) b8 V V;refine af (bd O O b7) (lD a6 O O O ?_);obtain⟨c7,b4,z⟩:=br z;have a8:=ds0 a7 a6;rw[b4]at a8;refine cL a8 O O (aj (TR.clo (tSl tI) a7) (aj (TR.clo (tSl tI) a6) bh)) (af (ju O) (nS ?_));refine cd z O ?_ ?_<;>clear z<;>intro c z<;>try simp only[qa]at c
  ·refine sR (mB O (nS ?_));exact rR z O O O
  ·refine ax (cy (ap (av (mV O (bN dp O O (mV O (bn (cv ?_))))))));have s:=da a2;have o:wr (a1+1)=a1+1:=dj V V;erw[o];exact wC (ih V V z) O
theorem ea8{x0:ae}{x1:List ba}{v0 v1:PV}(r0:ae.t.R x0 v0)(r1:(tSl ba.t).R x1 v1):FnR Tryz.prog 5 [v0,v1] (vb (pj x0 x1)):=by
 refine fnS (R:=RF5) dt9 (λ_ h=>h) O λres z=>?_;unfold pj at z;refine sR (af (dw O (TR.cnt ae.t r0)) (mB O (nS (am (sR (lD r0 O O O ?_))))));obtain⟨b5,a2,z⟩:=br z;have b3:=dk5 r0;rw[a2]at b3;refine cL b3 O O (aj (TR.clo ae.t r0) bh) (af (ju O) (mV O ?_));refine cm 4 (d:=15) (v:=vb ((!b5)||(!(ma x1)))) ?_ ?_
 ·intro S Q r;cases b1:(!b5)
  ·intro k;have a9:=b1;try simp only[qa]at a9
   refine ai O O (ay O) ?_;have b7:=dl8 r1;refine lf O O (rl O O (aj (TR.clo (tSl ba.t) r1) bh) b7) (ai O O (ju O) ?_);exact gK O O O O O k
  ·exact gN 3 O O O O O O
 refine nS ?_;refine cd z O ?_ ?_<;>clear z<;>intro a3 z<;>have a5:=a3<;>try simp only[qa]at a5
 ·refine sR ?_;obtain⟨c2,b2,z⟩:=br z;have b4:=by8;rw[b2]at b4;refine cL b4 O O bh (mV O (nS ?_));exact rR z O O O
 ·refine ax (ap (sR (lD r0 O O O (mV O ?_))));obtain⟨c3,a1,z⟩:=br z;obtain⟨c5,b9,a6⟩:=dh5 r0 r1 (by((have hk:=(s17 OY (And.left OY)).hh;omega))) (by exact(s17 OY (And.left OY)).ab) (by exact do2 O (And.right OY));rw[a1]at a6;refine cL b9 O O (aj (TR.clo ae.t r0) (aj (TR.clo (tSl ba.t) r1) bh)) (lD r0 O O O (mV O ?_));obtain⟨c6,a0,z⟩:=br z;obtain⟨c4,b8,a7⟩:=dm5 r0 r1 (by((have hk:=(s17 OY (And.left OY)).hh;omega))) (by exact(s17 OY (And.left OY)).ab) (by exact do2 O (And.right OY));rw[a0]at a7;refine cL b8 O O (aj (TR.clo ae.t r0) (aj (TR.clo (tSl ba.t) r1) bh)) (mV O (mV O (nS (am (sR (mV O (af (cp O (ca a6 Tryz.underlying70 _)) (mV O ?_))))))));refine af (cp O (ca a7 Tryz.underlying70 _)) (bN lx O O (nS ?_));refine cd z O ?_ ?_<;>clear z<;>intro a4 z<;>have a8:=a4<;>try simp only[qa]at a8
  ·refine sR (mB O (nS ?_));exact rR z O O O
  ·refine ax (ap (am (sR (mI O (nS (bf ?_))))));refine wC (uz a2 a3 a1 a6 a0 a7 a4 ?_ O V z) O
   ·intro z;refine dy (ap (sR ?_));obtain⟨c7,b6,z⟩:=br z;have b0:=by8;rw[b6]at b0;refine cL b0 O O bh (mV O (nS ?_));exact rR z O O O
end Go.Proofs.YtmonnlkagniolaaGreat
