/-
 The code of each function does what its plain program says.
-/
import Derived.Test.YtmonnlkagniolaaGreatL12W6
set_option linter.unusedVariables false
set_option linter.unusedSimpArgs false
set_option maxRecDepth 100000
namespace Go.Proofs.YtmonnlkagniolaaGreat
open Go Go.Pb Go.RowKit
def RF201(res:Int)(r:PV):Prop:=r=vi res
theorem ri{S:List Fr}{res:Int}{x0:List bd}{x1:bd}{v0 v1:PV}(r0:(tSl bd.t).R x0 v0)(r1:bd.t.R x1 v1){K0:Unit->Int}
 (a5:K0 ()=res->PX Tryz.prog 0 S (QR Tryz.prog [(4,none)] (RF201 res)) [] ⟨0,[]⟩):
 ∀{m:Nat}{a0:Int}(a4:m=Int.toNat ((x0.length:Int)-a0))(a2:0<=a0),ek x0 x1 K0 m a0=res->RC Tryz.prog (.loop cg9) S (QR Tryz.prog [(4,none)] (RF201 res)) [(8,vi a0),(7,vi (x0.length:Int)),(3,.fp v1),(0,v0)] ⟨0,[]⟩:=by
 intro m;induction m with
 |zero=>
  intro a0 a4 a2 z;rw[ek]at z;refine cg (sR (bN cx O O (nS (am ?_))));refine bv O ?_ ?_<;>intro c<;>try simp only[qa]at c
  ·omega
  refine dl (ee (dh ?_));exact wP (a5 z) O
 |succ m ih=>
  intro a0 a4 a2 z;rw[ek]at z;refine cg (sR (bN cx O O (nS (am ?_))));refine bv O ?_ ?_<;>intro c<;>try simp only[qa]at c
  rotate_left
  ·omega
  refine bc (aq (am (bm (sR (mV O (mV O (nR (lD r1 O O O ?_))))))));refine mV O (mV O ?_);obtain⟨a6,a3,a1⟩:=dn (i:=a0) r0 V V;refine ah (bn O O a3) (lD a1 O O O (bN (bd.eql_102 r1 a1) O O (nS ?_)));refine ck z O ?_ ?_<;>clear z<;>intro c z<;>try simp only[qa]at c
  ·refine sR (mV O (mV O (nS ?_)));exact rR z O O O
  ·refine bc (de (aq (ax (bN dt O O (mV O (bq (cy ?_)))))));have s:=df r0;have o:wr (a0+1)=a0+1:=db V V;erw[o];exact wC (ih V V z) O
theorem dh5{x0:List bd}{x1:bd}{v0 v1:PV}(r0:(tSl bd.t).R x0 v0)(r1:bd.t.R x1 v1):FnR Tryz.prog 201 [v0,v1] (vi (ju x0 x1)):=by
 refine fnS (R:=RF201) de5 (λ_ h=>h) O λres z=>?_;unfold ju at z;refine sR (ah (ej O (TR.cnt bd.t r1)) (mI O (nS (am (sR (mV O (ah (da O (co r0 Tryz.underlying33 _)) (mI O ?_))))))));refine nS (bm ?_);refine wC (ri r0 r1 ?_ O V z) O
 ·intro z;refine em (aq (sR (mI O (nS ?_))));exact rR z O O O
def RF133(res:Bool)(r:PV):Prop:=r=vb res
theorem dq1{x0:List bd}{x1:bd}{v0 v1:PV}(r0:(tSl bd.t).R x0 v0)(r1:bd.t.R x1 v1):FnR Tryz.prog 133 [v0,v1] (vb (gn x0 x1)):=by
 refine fnS (R:=RF133) cw3 (λ_ h=>h) O λres z=>?_;unfold gn at z;refine sR (ah (ej O (TR.cnt bd.t r1)) (mB O (nR (mV O (lD r1 O O O ?_)))));obtain⟨a2,a1,z⟩:=br z;have a0:=dh5 r0 r1;rw[a1]at a0;refine cL a0 O O (ak (TR.clo (tSl bd.t) r0) (ak (TR.clo bd.t r1) bp)) (bN lh O O (mV O (nS ?_)));exact rR z O O O
def RF132(res:Bool)(r:PV):Prop:=r=vb res
theorem dh3{x0:bd}{c0:List ay}{c1:Int}{v0 w0:PV}(r0:bd.t.R x0 v0)(a5:(tSl ay.t).R c0 w0)(hp:0<=c1/\c1 < (c0.length:Int)):FnR Tryz.prog 132 [v0,.fp w0,.fp (vi c1)] (vb (ol x0 c0 c1)):=by
 refine fnS (R:=RF132) dh6 (λ_ h=>h) O λres z=>?_;unfold ol at z;refine sR (ah (ej O (TR.cnt bd.t r0)) (mB O (nR (lD a5 O O O (lR O O O ?_)))));obtain⟨a6,a3,a4⟩:=dn (i:=c1) a5 V V;refine ah (bn O O a3) (gL (ay.g_Guards a4) O O O λa8 a2=>(fL O (bd.g_Unit r0) O O (fL O (bd.g_Want r0) O O (ah (ku O) (ah (v:= .agg [vi x0.Unit,vb (!x0.Want)]) (lq (cs:=[vi x0.Unit,vb (!x0.Want)]) O O) ?_)))));obtain⟨a7,a1,z⟩:=br z;have a0:=dq1 a2 (show bd.t.R ({Unit:=x0.Unit,Want:=(!x0.Want)}:bd) (.agg [vi x0.Unit,vb (!x0.Want)]) from O);rw[a1]at a0;refine cL a0 O O (ak (TR.clo (tSl bd.t) a2) (ak (TR.clo bd.t (show bd.t.R ({Unit:=x0.Unit,Want:=(!x0.Want)}:bd) (.agg [vi x0.Unit,vb (!x0.Want)]) from O)) bp)) (mV O (nS ?_));exact rR z O O O
def RF200(res:Int)(r:PV):Prop:=r=vi res
theorem qm{S:List Fr}{res:Int}{x0:List bd}{x1:bd->Bool}{v0 v1:PV}(r0:(tSl bd.t).R x0 v0)(r1:(tFn Tryz.prog bd.t tB).R x1 v1){K0:Unit->Int}
 (a8:K0 ()=res->PX Tryz.prog 0 S (QR Tryz.prog [(4,none)] (RF200 res)) [] ⟨0,[]⟩):
 ∀{m:Nat}{a0:Int}(a7:m=Int.toNat ((x0.length:Int)-a0))(a3:0<=a0),dw x0 x1 K0 m a0=res->RC Tryz.prog (.loop ci4) S (QR Tryz.prog [(4,none)] (RF200 res)) [(8,vi a0),(7,vi (x0.length:Int)),(1,v1),(0,v0)] ⟨0,[]⟩:=by
 intro m;induction m with
 |zero=>
  intro a0 a7 a3 z;rw[dw]at z;refine cg (sR (bN cx O O (nS (am ?_))));refine bv O ?_ ?_<;>intro c<;>try simp only[qa]at c
  ·omega
  refine dl (ee (dh ?_));exact wP (a8 z) O
 |succ m ih=>
  intro a0 a7 a3 z;rw[dw]at z;refine cg (sR (bN cx O O (nS (am ?_))));refine bv O ?_ ?_<;>intro c<;>try simp only[qa]at c
  rotate_left
  ·omega
  refine bc (aq (am (bm (sR (mV O (mV O (nR (mV O ?_))))))));refine mV O (mV O ?_);obtain⟨a6,a4,a2⟩:=dn (i:=a0) r0 V V;refine ah (bn O O a4) (lD a2 O O O ?_);refine wu O r1 O (show bd.t.R (ix x0 a0) a6 from a2) (λa5 a1=>?_);have a1:a5=vb (x1 (ix x0 a0)):=a1;subst a1;refine nS ?_;refine ck z O ?_ ?_<;>clear z<;>intro c z<;>try simp only[qa]at c
  ·refine sR (mV O (mV O (nS ?_)));exact rR z O O O
  ·refine bc (de (aq (ax (bN dt O O (mV O (bq (cy ?_)))))));have s:=df r0;have o:wr (a0+1)=a0+1:=db V V;erw[o];exact wC (ih V V z) O
theorem dj0{x0:List bd}{x1:bd->Bool}{v0 v1:PV}(r0:(tSl bd.t).R x0 v0)(r1:(tFn Tryz.prog bd.t tB).R x1 v1):FnR Tryz.prog 200 [v0,v1] (vi (ip x0 x1)):=by
 refine fnS (R:=RF200) cz6 (λ_ h=>h) O λres z=>?_;unfold ip at z;refine sR (mI O (nS (am (sR (mV O (ah (da O (co r0 Tryz.underlying33 _)) (mI O (nS ?_))))))));refine bm ?_;refine wC (qm r0 r1 ?_ O V z) O
 ·intro z;refine em (aq (sR (mI O (nS ?_))));exact rR z O O O
def RF131(res:Bool)(r:PV):Prop:=r=vb res
theorem cx3{x0:List bd}{x1:bd->Bool}{v0 v1:PV}(r0:(tSl bd.t).R x0 v0)(r1:(tFn Tryz.prog bd.t tB).R x1 v1):FnR Tryz.prog 131 [v0,v1] (vb (ig x0 x1)):=by
 refine fnS (R:=RF131) cu0 (λ_ h=>h) O λres z=>?_;unfold ig at z;refine sR (mB O (nR (mV O (mV O ?_))));obtain⟨a2,a1,z⟩:=br z;have a0:=dj0 r0 r1;rw[a1]at a0;refine cL a0 O O (ak (TR.clo (tSl bd.t) r0) (ak (TR.clo (tFn Tryz.prog bd.t tB) r1) bp)) (bN lh O O (mV O (nS ?_)));exact rR z O O O
def RF55(res:Bool)(r:PV):Prop:=r=vb res
theorem cp0{x0:List ay}{x1 x2:Int}{v0:PV}(r0:(tSl ay.t).R x0 v0):FnR Tryz.prog 55 [v0,vi x1,vi x2] (vb (ji x0 x1 x2)):=by
 refine fnS (R:=RF55) dx4 (λ_ h=>h) O λres z=>?_;unfold ji at z;refine sR (ah (ej O (TR.cnt (tSl ay.t) r0)) (ah (ej O O) (mB O (nS (am (sR (mV O (bN cx O O ?_))))))));refine mV O ?_;refine cq 5 (d:=14) (v:=vb ((decide (x1 < 0))||(decide ((x0.length:Int)<=x1)))) ?_ ?_
 ·intro S Q r;cases a4:(decide (x1 < 0))
  ·intro k;have a2:=a4;try simp only[qa]at a2
   refine aj O O (ba O) (aj O O (cp O (TR.cnt (tSl ay.t) r0) (TR.agg (tSl ay.t) r0)) (aj O O (da O (co r0 Tryz.underlying68 _)) (aj O O (ct O O lh) ?_)));exact gK O O O O O k
  ·exact gN 4 O O O O O O
 refine mV O ?_;refine cq 3 (d:=18) (v:=vb (((decide (x1 < 0))||(decide ((x0.length:Int)<=x1)))||(decide (x2 < 0)))) ?_ ?_
 ·intro S Q r;cases a7:((decide (x1 < 0))||(decide ((x0.length:Int)<=x1)))
  ·intro k;have a1:=a7;try simp only[qa]at a1
   refine aj O O (cp O O O) (aj O O (ct O O cx) ?_);exact gK O O O O O k
  ·exact gN 2 O O O O O O
 refine mV O ?_;refine cq 5 (d:=24) (v:=vb ((((decide (x1 < 0))||(decide ((x0.length:Int)<=x1)))||(decide (x2 < 0)))||(decide ((x0.length:Int)<=x2)))) ?_ ?_
 ·intro S Q r;cases a3:(((decide (x1 < 0))||(decide ((x0.length:Int)<=x1)))||(decide (x2 < 0)))
  ·intro k;have a0:=a3;try simp only[qa]at a0
   refine aj O O (cp O O O) (aj O O (cp O (TR.cnt (tSl ay.t) r0) (TR.agg (tSl ay.t) r0)) (aj O O (da O (co r0 Tryz.underlying68 _)) (aj O O (ct O O lh) ?_)));exact gK O O O O O k
  ·exact gN 4 O O O O O O
 refine nS ?_;refine ck z O ?_ ?_<;>clear z<;>intro c z<;>try simp only[qa]at c
 ·refine sR (mB O (nS ?_));exact rR z O O O
 ·refine bc (aq (sR (lD r0 O O O (mV O ?_))));obtain⟨b3,b0,b1⟩:=dn (i:=x1) r0 V V;refine ah (bn O O b0) (gL (ay.g_Guards b1) O O O λb2 a9=>?_);have a8:(tFn Tryz.prog bd.t tB).R (λa_=>ol a_ x0 x2) (.fn (.func 132) [] [.fp v0,.fp (vi x2)]):=ao9 (ak (ba6 (TR.clo (tSl ay.t) r0)) (ak O bp)) λa va ra=>by exact⟨_,dh3 (c1:=x2) ra r0 (by first|assumption|omega|(rw[db V V];omega)),O⟩
  refine ah (v:= .fn (.func 132) [] [.fp v0,.fp (vi x2)]) (sn O O) ?_;obtain⟨b4,a5,z⟩:=br z;have a6:=cx3 a9 a8;rw[a5]at a6;refine cL a6 O O (ak (TR.clo (tSl bd.t) a9) (ak (TR.clo (tFn Tryz.prog bd.t tB) a8) bp)) (mV O (nS ?_));exact rR z O O O
def RF99(res:Bool)(r:PV):Prop:=r=vb res
theorem ae7{S:List Fr}{res:Bool}{x0:ay}{x1:Int}{a4:PV}(a3:(tSl bd.t).R x0.Guards a4){K0:Unit->Bool}
 (b4:∀{h:Heap}(M0:Mem h []),K0 ()=res->PX Tryz.prog 0 S (QR Tryz.prog [(4,none)] (RF99 res)) [] h):
 ∀{m:Nat}{a0:Int}(b2:m=Int.toNat ((x0.Guards.length:Int)-a0))(a5:0<=a0){h:Heap}(M0:Mem h []),ot x0 x1 K0 m a0=res->RC Tryz.prog (.loop dd7) S (QR Tryz.prog [(4,none)] (RF99 res)) [(10,vi a0),(9,vi (x0.Guards.length:Int)),(8,a4),(1,vi x1)] h:=by
 intro m;induction m with
 |zero=>
  intro a0 b2 a5 h M0 z;rw[ot]at z;refine cg (sR (bN cx O O (nS (am ?_))));refine bv O ?_ ?_<;>intro c<;>try simp only[qa]at c
  ·omega
  refine dl (ee (dh ?_));exact wP (b4 (Mem.sub M0 .slnil) z) O
 |succ m ih=>
  intro a0 b2 a5 h M0 z;rw[ot]at z;refine cg (sR (bN cx O O (nS (am ?_))));refine bv O ?_ ?_<;>intro c<;>try simp only[qa]at c
  rotate_left
  ·omega
  refine bc (aq (am (bm (sR ?_))));obtain⟨a6,b0,a2⟩:=dn (i:=a0) a3 V V;refine ah (bn O O b0) (lD a2 O O O ?_);refine dz (x:= .agg [vi 0,vb false]) M0 O O (λa8 b1 b3 a9=>?_);refine dm (k:=0) (v:=a6) a9 O O O (TR.cnt bd.t a2) (λa7 a1=>?_);replace a1:Mem a7 [⟨.op a8 b1 0,102,2,[a6]⟩]:=a1;refine nR (ah (bh O) (ah (ci (k:=0) a1 O O (bd.g_Unit a2)) (mV O (bN dy O O (nS ?_)))));refine ck z O ?_ ?_<;>clear z<;>intro c z<;>try simp only[qa]at c
  ·refine sR (mB O (nS ?_));exact rR z O O O
  ·refine bc (de (aq (ax (bN dt O O (mV O (bq (cy ?_)))))));have s:=df a3;have o:wr (a0+1)=a0+1:=db V V;erw[o];exact wC (ih V V (Mem.sub a1 (.cons _ .slnil)) z) O
theorem eh4{x0:ay}{x1:Int}{v0:PV}(r0:ay.t.R x0 v0):FnR Tryz.prog 99 [v0,vi x1] (vb (qx x0 x1)):=by
 refine fnS (R:=RF99) dv6 (λ_ h=>h) O λres z=>?_;unfold qx at z;refine sR (ah (ej O (TR.cnt ay.t r0)) (mB O (nS (am (sR (gL (ay.g_Guards r0) O O O λa1 a0=>(ah (da O (co a0 Tryz.underlying33 _)) (mI O ?_))))))));refine nS (bm ?_);refine wC (ae7 a0 ?_ O V (Mem.sub (Mem.nil ⟨0,[]⟩) .slnil) z) O
 ·intro a2 a3 z;refine em (aq (sR (mB O (nS ?_))));exact rR z O O O
def RF100(res:Bool)(r:PV):Prop:=r=vb res
theorem ai0{S:List Fr}{res:Bool}{x0 x1:List Int}{a1:Int}{v0 v1:PV}(r1:(tSl tI).R x1 v1)(a6:0<=a1)(a3:(decide (a1 < (x0.length:Int)))=true){K2:Unit->Bool}
 (a7:K2 ()=res->PX Tryz.prog 2 S (QR Tryz.prog [(4,none)] (RF100 res)) [(1,v1),(9,v0),(10,vi (x0.length:Int)),(11,vi a1)] ⟨0,[]⟩):
 ∀{m:Nat}{a0:Int}(a5:m=Int.toNat ((x1.length:Int)-a0))(a4:0<=a0),nz x0 x1 a1 K2 m a0=res->RC Tryz.prog (.loop cp3) S (QR Tryz.prog [(4,none)] (RF100 res)) [(17,vi a0),(16,vi (x1.length:Int)),(15,v1),(11,vi a1),(10,vi (x0.length:Int)),(9,v0),(6,vi (ix x0 a1)),(1,v1)] ⟨0,[]⟩:=by
 have a2:=a3;try simp only[qa]at a2
 intro m;induction m with
 |zero=>
  intro a0 a5 a4 z;rw[nz]at z;refine cg (sR (bN cx O O (nS (am ?_))));refine bv O ?_ ?_<;>intro c<;>try simp only[qa]at c
  ·omega
  refine dl (ee (dh ?_));exact wP (a7 z) O
 |succ m ih=>
  intro a0 a5 a4 z;rw[nz]at z;refine cg (sR (bN cx O O (nS (am ?_))));refine bv O ?_ ?_<;>intro c<;>try simp only[qa]at c
  rotate_left
  ·omega
  refine bc (aq (am (bm (sR (ah (bn O O (slI r1 V V)) (lR O O O (mV O (nR ?_))))))));refine mV O (mV O (bN dy O O (nS ?_)));refine ck z O ?_ ?_<;>clear z<;>intro c z<;>try simp only[qa]at c
  ·refine sR (mB O (nS ?_));exact rR z O O O
  ·refine bc (de (aq (ax (bN dt O O (mV O (bq (cy ?_)))))));have s:=df r1;have o:wr (a0+1)=a0+1:=db V V;erw[o];exact wC (ih V V z) O
theorem af1{S:List Fr}{res:Bool}{x0 x1:List Int}{v0 v1:PV}(r0:(tSl tI).R x0 v0)(r1:(tSl tI).R x1 v1){K0:Unit->Bool}
 (a5:K0 ()=res->PX Tryz.prog 0 S (QR Tryz.prog [(4,none)] (RF100 res)) [] ⟨0,[]⟩):
 ∀{m:Nat}{a0:Int}(a4:m=Int.toNat ((x0.length:Int)-a0))(a3:0<=a0),oa x0 x1 K0 m a0=res->RC Tryz.prog (.loop cn1) S (QR Tryz.prog [(4,none)] (RF100 res)) [(11,vi a0),(10,vi (x0.length:Int)),(9,v0),(1,v1)] ⟨0,[]⟩:=by
 intro m;induction m with
 |zero=>
  intro a0 a4 a3 z;rw[oa]at z;refine cg (sR (bN cx O O (nS (am ?_))));refine bv O ?_ ?_<;>intro c<;>try simp only[qa]at c
  ·omega
  refine dl (ee (dh ?_));exact wP (a5 z) O
 |succ m ih=>
  intro a0 a4 a3 z;rw[oa]at z;refine cg (sR (bN cx O O (nS (am ?_))));refine bv O (λa1=>?_) (λa1=>?_)
  ·have hgo:=z;have a2:=a1;try simp only[qa]at a2
   refine bc (aq (am (bm (sR (ah (bn O O (slI r0 V V)) (lR O O O (mV O (nR ?_))))))));refine mV O (ah (da O (co r1 Tryz.underlying29 _)) (mI O (nS (bm ?_))));refine wC (ai0 r1 a3 a1 ?_ O V z) O
   ·intro z;refine em (de (aq (ax (bN dt O O (mV O (bq (cy ?_)))))));have s:=df r0;have o:wr (a0+1)=a0+1:=db V V;erw[o];exact wC (ih V V z) O
  ·exfalso;try simp only[qa]at a1
   omega
theorem bf9{x0 x1:List Int}{v0 v1:PV}(r0:(tSl tI).R x0 v0)(r1:(tSl tI).R x1 v1):FnR Tryz.prog 100 [v0,v1] (vb (ij x0 x1)):=by
 refine fnS (R:=RF100) dk2 (λ_ h=>h) O λres z=>?_;unfold ij at z;refine sR (mB O (nS (am (sR (mV O (ah (da O (co r0 Tryz.underlying29 _)) (mI O (nS ?_))))))));refine bm ?_;refine wC (af1 r0 r1 ?_ O V z) O
 ·intro z;refine em (aq (sR (mB O (nS ?_))));exact rR z O O O
def RF30(res:(List (List Int)))(r:PV):Prop:=(tSl (tSl tI)).R res r
theorem al1{S:List Fr}{res:(List (List Int))}{x0:af}{x1:List ay}{v0 v1:PV}{a9 a7 b2 b1 a8 b0:Nat}(r0:af.t.R x0 v0)(r1:(tSl ay.t).R x1 v1)(hs:x0.Headers.length<=1000)(hA:AB x0)(hu:SU x1)(i4:(List.replicate x1.length ([]:List Int)).length=x1.length)(i8:(List.replicate x1.length ([]:List Int)).length<=4611686018427387904)(i7:(List.replicate x1.length ([]:List Int)).length=x1.length)(i5:(List.replicate x1.length ([]:List Int)).length<=4611686018427387904)(j2:(List.replicate x1.length ([]:List Int)).length=x1.length)(j0:(List.replicate x1.length ([]:List Int)).length<=4611686018427387904){K0:(List (List Int))->(List (List Int))->(List (List Int))->(List (List Int))}
 (j8:∀{a4:List (List Int)}{a5:List (List Int)}{zE102:List (List Int)}{a3:List PV}{a6:List Ent}{a1 a2:List PV}(b4:Ns tI 3 a4 a3 a6)(b8:a4.length=x1.length)(b7:a4.length<=4611686018427387904)(c8:All2 (tSl tI).R a5 a1)(b9:a5.length=x1.length)(b5:a5.length<=4611686018427387904)(c7:All2 (tSl tI).R zE102 a2)(c4:zE102.length=x1.length)(b6:zE102.length<=4611686018427387904)(j9:RL a4 x1.length x1.length){h:Heap}(M0:Mem h (⟨.os a8 b0 0 x1.length,29,1,a3⟩::⟨.os b2 b1 0 x1.length,29,1,a1⟩::⟨.os a9 a7 0 x1.length,29,1,a2⟩::(a6++[]))),K0 a4 a5 zE102=res->PX Tryz.prog 0 S (QR Tryz.prog [(4,none)] (RF30 res)) [(1,v1),(5,vi (x1.length:Int)),(6,.os a9 a7 0 x1.length),(7,.os b2 b1 0 x1.length),(8,.os a8 b0 0 x1.length)] h):
 ∀{m:Nat}{a0:Int}{a4:List (List Int)}{a5:List (List Int)}{zE102:List (List Int)}{a3:List PV}{a6:List Ent}{a1 a2:List PV}(b4:Ns tI 3 a4 a3 a6)(b8:a4.length=x1.length)(b7:a4.length<=4611686018427387904)(c8:All2 (tSl tI).R a5 a1)(b9:a5.length=x1.length)(b5:a5.length<=4611686018427387904)(c7:All2 (tSl tI).R zE102 a2)(c4:zE102.length=x1.length)(b6:zE102.length<=4611686018427387904)(i9:m=Int.toNat ((x1.length:Int)-a0))(f4:0<=a0)(d9:RL a4 x1.length a0){h:Heap}(M0:Mem h (⟨.os a8 b0 0 x1.length,29,1,a3⟩::⟨.os b2 b1 0 x1.length,29,1,a1⟩::⟨.os a9 a7 0 x1.length,29,1,a2⟩::(a6++[]))),nl x0 x1 K0 m a0 a4 a5 zE102=res->RC Tryz.prog (.loop de1) S (QR Tryz.prog [(4,none)] (RF30 res)) [(23,vi a0),(22,vi (x1.length:Int)),(21,v1),(8,.os a8 b0 0 x1.length),(7,.os b2 b1 0 x1.length),(6,.os a9 a7 0 x1.length),(5,vi (x1.length:Int)),(2,.fp v0),(1,v1)] h:=by
 intro m;induction m with
 |zero=>
  intro a0 a4 a5 zE102 a3 a6 a1 a2 b4 b8 b7 c8 b9 b5 c7 c4 b6 i9 f4 d9 h M0 z;rw[nl]at z;refine cg (sR (bN cx O O (nS (am ?_))));refine bv O ?_ ?_<;>intro c<;>try simp only[qa]at c
  ·omega
  refine dl (ee (dh ?_));exact wP (j8 b4 b8 b7 c8 b9 b5 c7 c4 b6 (by exact df1 OY V) (Mem.sub M0 (.cons_cons _ (.cons_cons _ (.cons_cons _ (List.Sublist.append_left (List.Sublist.refl _) _))))) z) O
 |succ m ih=>
  intro a0 a4 a5 zE102 a3 a6 a1 a2 b4 b8 b7 c8 b9 b5 c7 c4 b6 i9 f4 d9 h M0 z;rw[nl]at z;refine cg (sR (bN cx O O (nS (am ?_))));refine bv O ?_ ?_<;>intro c<;>try simp only[qa]at c
  rotate_left
  ·omega
  refine bc (aq (am (bm (sR (mV O ?_)))));obtain⟨b3,h5,c9⟩:=dn (i:=a0) r1 (by first|omega|(have hk:=iv3_0 x47_ V V V;omega)) (by first|omega|(have hk:=iv3_0 x47_ V V V;omega));refine ah (bn O O h5) (lD c9 O O O ?_);refine dz (x:= .agg [vi 0,nilS,nilS]) M0 O O (λd3 d2 j4 i2=>?_);refine mV O ?_;refine dm (k:=0) (v:=b3) i2 O O O (TR.cnt ay.t c9) (λh7 d6=>?_);replace d6:Mem h7 (⟨.op d3 d2 0,35,3,[b3]⟩::⟨.os a8 b0 0 x1.length,29,1,a3⟩::⟨.os b2 b1 0 x1.length,29,1,a1⟩::⟨.os a9 a7 0 x1.length,29,1,a2⟩::(a6++[])):=d6;refine nR (mV O (mV O (mV O (mV O (lD r0 O O O (ah (gq (k:=0) d6 O O (TR.agg ay.t c9)) ?_))))));obtain⟨e8,g1,z⟩:=br z;obtain⟨c6,g7,e4⟩:=dv2 r0 c9 (by first|assumption|omega|(have hk:=hu.c a0 V V;omega)) (by first|assumption|omega|(have hk:=hu.c a0 V V;omega));rw[g1]at e4;refine cL g7 O O (ak (TR.clo af.t r0) (ak (TR.clo ay.t c9) bp)) (lD r0 O O O (ah (gq (k:=0) d6 O O (TR.agg ay.t c9)) ?_));obtain⟨e0,f2,z⟩:=br z;obtain⟨c5,h8,e3⟩:=dz0 r0 c9 (by first|assumption|omega|(have hk:=hu.c a0 V V;omega));rw[f2]at e3;refine cL h8 O O (ak (TR.clo af.t r0) (ak (TR.clo ay.t c9) bp)) ?_;have e5:0<=a0:=(by first|omega|(have hk:=iv3_0 x47_ V V V;omega));have h6:a0 < (zE102.length:Int):=(by first|omega|(have hk:=iv3_0 x47_ V V V;omega));refine ah (bn O O (sa 1 e5 V)) ?_;refine xm (k:=3) (v:=c6) d6 O O O (by rw[All2.length_eq c7];omega) (TR.cnt (tSl tI) e4) (λj6 h1=>?_);have i1:=All2.set (i:=(a0).toNat) c7 (show(tSl tI).R e8 c6 from e4);have g4:(zE102.set (a0).toNat e8).length<=4611686018427387904:=by simp only[List.length_set];exact b6
  have f7:(zE102.set (a0).toNat e8).length=x1.length:=by simp only[List.length_set];exact c4
  have e2:0<=a0:=(by first|omega|(have hk:=iv3_0 x47_ V V V;omega));have h4:a0 < (a5.length:Int):=(by first|omega|(have hk:=iv3_0 x47_ V V V;omega));refine ah (bn O O (sa 1 e2 V)) ?_;refine xm (k:=2) (v:=c5) h1 O O O (by rw[All2.length_eq c8];omega) (TR.cnt (tSl tI) e3) (λj5 g8=>?_);have g9:=All2.set (i:=(a0).toNat) c8 (show(tSl tI).R e0 c5 from e3);have f5:(a5.set (a0).toNat e0).length<=4611686018427387904:=by simp only[List.length_set];exact b5
  have g6:(a5.set (a0).toNat e0).length=x1.length:=by simp only[List.length_set];exact b9
  refine nS (fc (bw (mV O (bz (bw (mV O (bz (bw ?_))))))));refine mV O (bz (bw ?_));have g3:fits (x1.length) 8=true:=ii (by first|omega|(have hk:=hu.n;omega)) (by first|omega|(have hk:=hu.n;omega));refine ai1 (sz:=1) (ty:=3) (n:=x1.length) (zz:=vi 0) g8 O O O O O g3 (λd0 d1 f9 h2=>?_);have i0:All2 tI.R (List.replicate x1.length (0:Int)) (List.replicate x1.length (vi 0)):=All2.rep (show tI.R (0:Int) (vi 0) from O) _;have f3:(List.replicate x1.length (0:Int)).length=x1.length:=List.length_replicate;have g0:(List.replicate x1.length (0:Int)).length<=4611686018427387904:=by rw[f3];exact gm g3
  refine bz (bw ?_);have d7:0<=a0:=(by first|omega|(have hk:=iv3_0 x47_ V V V;omega));have e6:a0 < (a4.length:Int):=(by first|omega|(have hk:=iv3_0 x47_ V V V;omega));refine ah (bn O O (sa 1 d7 V)) (bz (bw ?_));obtain⟨h0,f8,j1,f0,j7,j3,i6,i3⟩:=ch4 (i:=a0) b4 d7 e6;have e9:Mem f9 (⟨h0,3,1,f8⟩::⟨.os d0 d1 0 x1.length,3,1,(List.replicate x1.length (vi 0))⟩::⟨.op d3 d2 0,35,3,[b3]⟩::⟨.os a8 b0 0 x1.length,29,1,a3⟩::⟨.os b2 b1 0 x1.length,29,1,(a1.set (a0).toNat c5)⟩::⟨.os a9 a7 0 x1.length,29,1,(a2.set (a0).toNat c6)⟩::((a6.eraseIdx (a0).toNat)++[])):=as1 (C:=[⟨.os d0 d1 0 x1.length,3,1,(List.replicate x1.length (vi 0))⟩,⟨.op d3 d2 0,35,3,[b3]⟩,⟨.os a8 b0 0 x1.length,29,1,a3⟩,⟨.os b2 b1 0 x1.length,29,1,(a1.set (a0).toNat c5)⟩,⟨.os a9 a7 0 x1.length,29,1,(a2.set (a0).toNat c6)⟩]) h2 f0;have d5:=Mem.sub e9 (.cons _ (.refl _));replace d5:Mem f9 (⟨.os d0 d1 0 x1.length,3,1,(List.replicate x1.length (vi 0))⟩::⟨.op d3 d2 0,35,3,[b3]⟩::⟨.os a8 b0 0 x1.length,29,1,a3⟩::⟨.os b2 b1 0 x1.length,29,1,(a1.set (a0).toNat c5)⟩::⟨.os a9 a7 0 x1.length,29,1,(a2.set (a0).toNat c6)⟩::((a6.eraseIdx (a0).toNat)++[])):=d5;refine xm (k:=2) (v:= .os d0 d1 0 x1.length) d5 O O O (by rw[(Ns.len b4).1];omega) (sg (k:=0) d5 O O) (λf1 e1=>?_);replace e1:Mem f1 (⟨.os d0 d1 0 x1.length,3,1,(List.replicate x1.length (vi 0))⟩::⟨.op d3 d2 0,35,3,[b3]⟩::⟨.os a8 b0 0 x1.length,29,1,(a3.set (a0).toNat (.os d0 d1 0 x1.length))⟩::⟨.os b2 b1 0 x1.length,29,1,(a1.set (a0).toNat c5)⟩::⟨.os a9 a7 0 x1.length,29,1,(a2.set (a0).toNat c6)⟩::((a6.eraseIdx (a0).toNat)++[])):=e1;obtain⟨d4,d8,h9,g5⟩:∃d4 d8,Ns tI 3 (a4.set (a0).toNat (List.replicate x1.length (0:Int))) d4 d8/\Mem f1 (⟨.op d3 d2 0,35,3,[b3]⟩::⟨.os a8 b0 0 x1.length,29,1,d4⟩::⟨.os b2 b1 0 x1.length,29,1,(a1.set (a0).toNat c5)⟩::⟨.os a9 a7 0 x1.length,29,1,(a2.set (a0).toNat c6)⟩::(d8++[])):=⟨_,_,cm6 b4 i0 O g0 (.inr ⟨_,_,_,O⟩),bb2 (C:=[⟨.op d3 d2 0,35,3,[b3]⟩,⟨.os a8 b0 0 x1.length,29,1,(a3.set (a0).toNat (.os d0 d1 0 x1.length))⟩,⟨.os b2 b1 0 x1.length,29,1,(a1.set (a0).toNat c5)⟩,⟨.os a9 a7 0 x1.length,29,1,(a2.set (a0).toNat c6)⟩]) e1 (by rw[(Ns.len b4).2];omega)⟩;have f6:(a4.set (a0).toNat (List.replicate x1.length (0:Int))).length=x1.length:=by rw[List.length_set];exact b8
  have g2:(a4.set (a0).toNat (List.replicate x1.length (0:Int))).length<=4611686018427387904:=by rw[List.length_set];exact b7
  refine bz ?_;refine vk (k:=0) (E':=[(44,.op a8 b0 (0+(a0).toNat*1)),(43,.os d0 d1 0 x1.length),(42,vi (x1.length:Int)),(41,vi a0),(40,.os a8 b0 0 x1.length),(39,.op b2 b1 (0+(a0).toNat*1)),(38,.op a9 a7 (0+(a0).toNat*1)),(37,c5),(36,b3),(35,v0),(34,c6),(33,b3),(32,v0),(31,vi a0),(30,.os b2 b1 0 x1.length),(29,vi a0),(28,.os a9 a7 0 x1.length),(9,vi a0),(10,.fp b3),(27,b3),(26,.fp b3),(25,vi a0),(24,vb (decide (a0 < (x1.length:Int)))),(23,vi a0),(22,vi (x1.length:Int)),(21,v1),(8,.os a8 b0 0 x1.length),(7,.os b2 b1 0 x1.length),(6,.os a9 a7 0 x1.length),(5,vi (x1.length:Int)),(2,.fp v0),(1,v1)]) g5 O (cv O (cv O (cv O (cv O (cv O (cv O (cv O (cv O (cv O (cv O (cv O (cv O (cv O (cv O (cv O (cv O (cv O (cv O (ym O (cv O (cv O (cv O (cv O (cv O (cv O (cv O (cv O (cv O (cv O (cv O (cv O (cv O ag0)))))))))))))))))))))))))))))))) (λh3 e7=>?_);replace e7:Mem h3 (⟨.os a8 b0 0 x1.length,29,1,d4⟩::⟨.os b2 b1 0 x1.length,29,1,(a1.set (a0).toNat c5)⟩::⟨.os a9 a7 0 x1.length,29,1,(a2.set (a0).toNat c6)⟩::(d8++[])):=e7;refine ja (de (aq (ax (bN dt O O (mV O (bq (cy ?_)))))));have s:=df r1;have o:wr (a0+1)=a0+1:=db V V;erw[o];exact wC (ih h9 f6 g2 g9 g6 f5 i1 f7 g4 V V (by exact eg0 OY V (by rw[List.length_replicate])) (Mem.sub e7 (.cons_cons _ (.cons_cons _ (.cons_cons _ (List.Sublist.append_left (List.Sublist.refl _) _))))) z) O
theorem am7{S:List Fr}{res:(List (List Int))}{x0:af}{x1:List ay}{c4:List (List Int)}{a4:List (List Int)}{b1:List (List Int)}{a1:Int}{d5:List (List Int)}{v1:PV}{a6 a5:List PV}{b5 b3 b9 b7 b4 b6:Nat}(r1:(tSl ay.t).R x1 v1)(hs:x0.Headers.length<=1000)(hA:AB x0)(hu:SU x1)(n3:(List.replicate x1.length ([]:List Int)).length=x1.length)(n7:(List.replicate x1.length ([]:List Int)).length<=4611686018427387904)(n5:(List.replicate x1.length ([]:List Int)).length=x1.length)(n4:(List.replicate x1.length ([]:List Int)).length<=4611686018427387904)(o2:(List.replicate x1.length ([]:List Int)).length=x1.length)(n9:(List.replicate x1.length ([]:List Int)).length<=4611686018427387904)(h6:c4.length=x1.length)(h2:c4.length<=4611686018427387904)(b8:All2 (tSl tI).R a4 a6)(h5:a4.length=x1.length)(h7:a4.length<=4611686018427387904)(c5:All2 (tSl tI).R b1 a5)(h3:b1.length=x1.length)(h4:b1.length<=4611686018427387904)(k9:RL c4 x1.length x1.length)(m4:d5.length=x1.length)(m3:d5.length<=4611686018427387904)(p1:0<=a1)(n6:RL d5 x1.length x1.length)(j5:(decide (a1 < (x1.length:Int)))=true){K3:(List (List Int))->(List (List Int))}{K4:(List (List Int))->(List (List Int))}
 (k8:∀{a0:List (List Int)}{a2:List PV}{b2:List Ent}(a8:Ns tI 3 a0 a2 b2)(a9:a0.length=x1.length)(b0:a0.length<=4611686018427387904)(p5:RL a0 x1.length x1.length){h:Heap}(M0:Mem h (⟨.os b4 b6 0 x1.length,29,1,a2⟩::⟨.os b9 b7 0 x1.length,29,1,a6⟩::⟨.os b5 b3 0 x1.length,29,1,a5⟩::(b2++[]))),K3 a0=res->PX Tryz.prog 3 S (QR Tryz.prog [(4,none)] (RF30 res)) [(1,v1),(5,vi (x1.length:Int)),(6,.os b5 b3 0 x1.length),(7,.os b9 b7 0 x1.length),(8,.os b4 b6 0 x1.length),(46,vi (x1.length:Int)),(47,vi a1)] h)
 (p7:∀{a0:List (List Int)}{a2:List PV}{b2:List Ent}(a8:Ns tI 3 a0 a2 b2)(a9:a0.length=x1.length)(b0:a0.length<=4611686018427387904)(p5:RL a0 x1.length x1.length){h:Heap}(M0:Mem h (⟨.os b4 b6 0 x1.length,29,1,a2⟩::⟨.os b9 b7 0 x1.length,29,1,a6⟩::⟨.os b5 b3 0 x1.length,29,1,a5⟩::(b2++[]))),K4 a0=res->PX Tryz.prog 4 S (QR Tryz.prog [(4,none)] (RF30 res)) [(1,v1),(5,vi (x1.length:Int)),(6,.os b5 b3 0 x1.length),(7,.os b9 b7 0 x1.length),(8,.os b4 b6 0 x1.length),(46,vi (x1.length:Int)),(47,vi a1)] h):
 ∀{m:Nat}{a3:Int}{a0:List (List Int)}{a2:List PV}{b2:List Ent}(a8:Ns tI 3 a0 a2 b2)(a9:a0.length=x1.length)(b0:a0.length<=4611686018427387904)(o0:m=Int.toNat ((x1.length:Int)-a3))(i9:0<=a3)(a7:RL a0 x1.length x1.length){h:Heap}(M0:Mem h (⟨.os b4 b6 0 x1.length,29,1,a2⟩::⟨.os b9 b7 0 x1.length,29,1,a6⟩::⟨.os b5 b3 0 x1.length,29,1,a5⟩::(b2++[]))),kn x1 a4 b1 a1 K3 K4 m a3 a0=res->RC Tryz.prog (.loop dc2) S (QR Tryz.prog [(4,none)] (RF30 res)) [(51,vi a3),(50,vi (x1.length:Int)),(47,vi a1),(46,vi (x1.length:Int)),(11,vi a1),(8,.os b4 b6 0 x1.length),(7,.os b9 b7 0 x1.length),(6,.os b5 b3 0 x1.length),(5,vi (x1.length:Int)),(1,v1)] h:=by
 have g4:=j5;try simp only[qa]at g4
 intro m;induction m with
 |zero=>
  intro a3 a0 a2 b2 a8 a9 b0 o0 i9 a7 h M0 z;rw[kn]at z;refine cg (sR (bN cx O O (nS (am ?_))));refine bv O ?_ ?_<;>intro c<;>try simp only[qa]at c
  ·omega
  refine dl (ee (dh ?_));exact wP (p7 a8 a9 b0 (by first|assumption|exact wc OY V V V) (Mem.sub M0 (.cons_cons _ (.cons_cons _ (.cons_cons _ (List.Sublist.append_left (List.Sublist.refl _) _))))) z) O
 |succ m ih=>
  intro a3 a0 a2 b2 a8 a9 b0 o0 i9 a7 h M0 z;rw[kn]at z;refine cg (sR (bN cx O O (nS (am ?_))));refine bv O ?_ ?_<;>intro c<;>try simp only[qa]at c
  rotate_left
  ·omega
  refine bc (aq (am (bm (sR (mV O (mV O (nS (am ?_))))))));refine sR (mV O (mV O (bN ag5 O O (nS ?_))));refine ck z O ?_ ?_<;>clear z<;>intro c z<;>try simp only[qa]at c
  ·refine dl (ee (em (aq (ax (bN dt O O (mV O (bq (cy ?_))))))));have s:=df r1;have o:wr (a3+1)=a3+1:=db V V;erw[o];exact wC (ih a8 a9 b0 V V (by first|assumption|exact wc OY V V V) (Mem.sub M0 (.cons_cons _ (.cons_cons _ (.cons_cons _ (List.Sublist.append_left (List.Sublist.refl _) _))))) z) O
  ·refine bc (aq (am (bm (sR (mV O (mV O (mV O ?_)))))));obtain⟨o6,i1,z⟩:=br z;have k7:=cp0 (x1:=a1) (x2:=a3) r1;rw[i1]at k7;refine cL k7 O O (ak (TR.clo (tSl ay.t) r1) (ak O (ak O bp))) (mV O (nS ?_));refine ck z O ?_ ?_<;>clear z<;>intro c z<;>try simp only[qa]at c
   ·refine bc (de (aq (sR (mV O (mV O (bN vm O O (bN dy O O (nS ?_))))))));refine ck z O ?_ ?_<;>clear z<;>intro c z<;>try simp only[qa]at c
    ·refine dl (bk6 O (ee (dh ?_)));exact wP (k8 a8 a9 b0 (by first|assumption|exact wc OY V V V) (Mem.sub M0 (.cons_cons _ (.cons_cons _ (.cons_cons _ (List.Sublist.append_left (List.Sublist.refl _) _))))) z) O
    ·refine bc (de (aq (ax (bN dt O O (mV O (bq (cy ?_)))))));have s:=df r1;have o:wr (a3+1)=a3+1:=db V V;erw[o];exact wC (ih a8 a9 b0 V V (by first|assumption|exact wc OY V V V) (Mem.sub M0 (.cons_cons _ (.cons_cons _ (.cons_cons _ (List.Sublist.append_left (List.Sublist.refl _) _))))) z) O
   ·refine sR (mV O (mV O ?_));obtain⟨p4,n0,g1⟩:=dn (i:=a3) r1 (by first|omega|(have hk:=a7 a1 V V V;omega)) (by first|omega|(have hk:=a7 a1 V V V;omega));refine ah (bn O O n0) (lD g1 O O O (mV O ?_));obtain⟨d9,j8,z⟩:=br z;have j2:=eh4 (x1:=a1) g1;rw[j8]at j2;refine cL j2 O O (ak (TR.clo ay.t g1) (ak O bp)) (mV O ?_);refine cq 10 (d:=79) (v:=vb (d9||(ij (ix b1 a3) (ix a4 a1)))) ?_ ?_
    ·intro S Q r;cases j3:d9
     ·intro k;have f3:=j3;try simp only[qa]at f3
      refine aj O O (ba O) (aj O O (ba O) ?_);have c9:0<=a3:=(by first|omega|(have hk:=a7 a1 V V V;omega));have f8:a3 < (b1.length:Int):=(by first|omega|(have hk:=a7 a1 V V V;omega));refine aj O O (bn O O (sa 1 c9 V)) ?_;obtain⟨p6,l4,g0⟩:=qv (i:=a3) c5 c9 f8;refine aj O O (px (k:=2) M0 O O l4 (TR.agg (tSl tI) g0)) (aj O O (ba O) (aj O O (ba O) ?_));have d0:0<=a1:=(by first|omega|(have hk:=a7 a1 V V V;omega));have g9:a1 < (a4.length:Int):=(by first|omega|(have hk:=a7 a1 V V V;omega));refine aj O O (bn O O (sa 1 d0 V)) ?_;obtain⟨o5,l3,f1⟩:=qv (i:=a1) b8 d0 g9;refine aj O O (px (k:=1) M0 O O l3 (TR.agg (tSl tI) f1)) ?_;have m2:=bf9 g0 f1;refine ow O O (ur O O (ak (TR.clo (tSl tI) g0) (ak (TR.clo (tSl tI) f1) bp)) m2) ?_;exact gK O O O O O k
     ·exact gN 9 O O O O O O
    refine mV O ?_;refine cq 10 (d:=90) (v:=vb ((d9||(ij (ix b1 a3) (ix a4 a1)))||(ij (ix a4 a3) (ix a4 a1)))) ?_ ?_
    ·intro S Q r;cases i8:(d9||(ij (ix b1 a3) (ix a4 a1)))
     ·intro k;have g5:=i8;try simp only[qa]at g5
      refine aj O O (ba O) (aj O O (ba O) ?_);have d8:0<=a3:=(by first|omega|(have hk:=a7 a1 V V V;omega));have f9:a3 < (a4.length:Int):=(by first|omega|(have hk:=a7 a1 V V V;omega));refine aj O O (bn O O (sa 1 d8 V)) ?_;obtain⟨o7,l0,f4⟩:=qv (i:=a3) b8 d8 f9;refine aj O O (px (k:=1) M0 O O l0 (TR.agg (tSl tI) f4)) (aj O O (ba O) (aj O O (ba O) ?_));have d6:0<=a1:=(by first|omega|(have hk:=a7 a1 V V V;omega));have h1:a1 < (a4.length:Int):=(by first|omega|(have hk:=a7 a1 V V V;omega));refine aj O O (bn O O (sa 1 d6 V)) ?_;obtain⟨p0,m5,g8⟩:=qv (i:=a1) b8 d6 h1;refine aj O O (px (k:=1) M0 O O m5 (TR.agg (tSl tI) g8)) ?_;have n1:=bf9 f4 g8;refine ow O O (ur O O (ak (TR.clo (tSl tI) f4) (ak (TR.clo (tSl tI) g8) bp)) n1) ?_;exact gK O O O O O k
     ·exact gN 9 O O O O O O
    refine mV O (nS ?_);refine ck z O ?_ ?_<;>clear z<;>intro c z<;>try simp only[qa]at c
    ·refine ax (mV O (mV O ?_));have d3:0<=a1:=(by first|omega|(have hk:=a7 a1 V V V;omega));have g3:a1 < (a0.length:Int):=(by first|omega|(have hk:=a7 a1 V V V;omega));refine ah (bn O O (sa 1 d3 V)) ?_;obtain⟨l1,k4,e5,h8,e0,m8,i7,j9⟩:=ch4 (i:=a1) a8 d3 g3;have c7:Mem h (⟨l1,3,1,k4⟩::⟨.os b4 b6 0 x1.length,29,1,a2⟩::⟨.os b9 b7 0 x1.length,29,1,a6⟩::⟨.os b5 b3 0 x1.length,29,1,a5⟩::((b2.eraseIdx (a1).toNat)++[])):=as1 (C:=[⟨.os b4 b6 0 x1.length,29,1,a2⟩,⟨.os b9 b7 0 x1.length,29,1,a6⟩,⟨.os b5 b3 0 x1.length,29,1,a5⟩]) M0 h8;refine ah (px (k:=1) c7 O O e5 (gf (k:=0) c7 O m8).2) (mV O ?_);obtain⟨p2,p3,j6,i0⟩:=bg0 (i:=a3) j9 e0 (by first|omega|(have hk:=a7 a1 V V V;omega)) (by first|omega|(have hk:=a7 a1 V V V;omega));subst i0;have j4:(ix a0 a1).length=j6:=by rw[af3 c7 (k:=0) rfl,All2.length_eq e0]
     have g2:0<=a3:=(by first|omega|(have hk:=a7 a1 V V V;omega));have m6:a3 < ((ix a0 a1).length:Int):=(by first|omega|(have hk:=a7 a1 V V V;omega));refine ah (bn O O (sa 1 g2 V)) ?_;refine xm (k:=0) (v:=vi 2) c7 O O O (by rw[All2.length_eq e0];omega) O (λl2 l8=>?_);have l6:=All2.set (i:=(a3).toNat) e0 (show tI.R 2 (vi 2) from O);have h9:((ix a0 a1).set (a3).toNat 2).length<=4611686018427387904:=by simp only[List.length_set];exact i7
     have o1:((ix a0 a1).set (a3).toNat 2).length=j6:=by simp only[List.length_set];exact j4
     obtain⟨d2,f6,k5,e7⟩:∃d2 f6,Ns tI 3 (a0.set (a1).toNat ((ix a0 a1).set (a3).toNat 2)) d2 f6/\Mem l2 (⟨.os b4 b6 0 x1.length,29,1,d2⟩::⟨.os b9 b7 0 x1.length,29,1,a6⟩::⟨.os b5 b3 0 x1.length,29,1,a5⟩::(f6++[])):=⟨_,_,bt4 a8 e5 l6 O h9 (.inr ⟨_,_,_,O⟩),bb2 (C:=[⟨.os b4 b6 0 x1.length,29,1,a2⟩,⟨.os b9 b7 0 x1.length,29,1,a6⟩,⟨.os b5 b3 0 x1.length,29,1,a5⟩]) l8 (by rw[(Ns.len a8).2];omega)⟩;have e8:(a0.set (a1).toNat ((ix a0 a1).set (a3).toNat 2)).length=x1.length:=by rw[List.length_set];exact a9
     have e2:(a0.set (a1).toNat ((ix a0 a1).set (a3).toNat 2)).length<=4611686018427387904:=by rw[List.length_set];exact b0
     refine bq (de (aq (sR (mV O (mV O (bN vm O O (bN dy O O (nS ?_))))))));refine ck z O ?_ ?_<;>clear z<;>intro c z<;>try simp only[qa]at c
     ·refine dl (bk6 O (ee (dh ?_)));exact wP (k8 k5 e8 e2 (by first|assumption|exact wc OY V V V) (Mem.sub e7 (.cons_cons _ (.cons_cons _ (.cons_cons _ (List.Sublist.append_left (List.Sublist.refl _) _))))) z) O
     ·refine bc (de (aq (ax (bN dt O O (mV O (bq (cy ?_)))))));have s:=df r1;have o:wr (a3+1)=a3+1:=db V V;erw[o];exact wC (ih k5 e8 e2 V V (by first|assumption|exact wc OY V V V) (Mem.sub e7 (.cons_cons _ (.cons_cons _ (.cons_cons _ (List.Sublist.append_left (List.Sublist.refl _) _))))) z) O
    ·refine sR (mV O (mV O ?_));have d4:0<=a3:=(by first|omega|(have hk:=a7 a1 V V V;omega));have f2:a3 < (a4.length:Int):=(by first|omega|(have hk:=a7 a1 V V V;omega));refine ah (bn O O (sa 1 d4 V)) ?_;obtain⟨o4,m7,f0⟩:=qv (i:=a3) b8 d4 f2;refine ah (px (k:=1) M0 O O m7 (TR.agg (tSl tI) f0)) (mV O (mV O ?_));have d7:0<=a1:=(by first|omega|(have hk:=a7 a1 V V V;omega));have f5:a1 < (b1.length:Int):=(by first|omega|(have hk:=a7 a1 V V V;omega));refine ah (bn O O (sa 1 d7 V)) ?_;obtain⟨p8,l5,f7⟩:=qv (i:=a1) c5 d7 f5;refine ah (px (k:=2) M0 O O l5 (TR.agg (tSl tI) f7)) ?_;obtain⟨o3,j1,z⟩:=br z;have i2:=bf9 f0 f7;rw[j1]at i2;refine cL i2 O O (ak (TR.clo (tSl tI) f0) (ak (TR.clo (tSl tI) f7) bp)) (mV O (nS ?_));refine ck z O ?_ ?_<;>clear z<;>intro c z<;>try simp only[qa]at c
     ·refine ax (mV O (mV O ?_));have d1:0<=a1:=(by first|omega|(have hk:=a7 a1 V V V;omega));have g7:a1 < (a0.length:Int):=(by first|omega|(have hk:=a7 a1 V V V;omega));refine ah (bn O O (sa 1 d1 V)) ?_;obtain⟨m0,i6,e6,k6,e1,l7,i3,k3⟩:=ch4 (i:=a1) a8 d1 g7;have c6:Mem h (⟨m0,3,1,i6⟩::⟨.os b4 b6 0 x1.length,29,1,a2⟩::⟨.os b9 b7 0 x1.length,29,1,a6⟩::⟨.os b5 b3 0 x1.length,29,1,a5⟩::((b2.eraseIdx (a1).toNat)++[])):=as1 (C:=[⟨.os b4 b6 0 x1.length,29,1,a2⟩,⟨.os b9 b7 0 x1.length,29,1,a6⟩,⟨.os b5 b3 0 x1.length,29,1,a5⟩]) M0 k6;refine ah (px (k:=1) c6 O O e6 (gf (k:=0) c6 O l7).2) (mV O ?_);obtain⟨o8,o9,j7,k0⟩:=bg0 (i:=a3) k3 e1 (by first|omega|(have hk:=a7 a1 V V V;omega)) (by first|omega|(have hk:=a7 a1 V V V;omega));subst k0;have j0:(ix a0 a1).length=j7:=by rw[af3 c6 (k:=0) rfl,All2.length_eq e1]
      have h0:0<=a3:=(by first|omega|(have hk:=a7 a1 V V V;omega));have n2:a3 < ((ix a0 a1).length:Int):=(by first|omega|(have hk:=a7 a1 V V V;omega));refine ah (bn O O (sa 1 h0 V)) ?_;refine xm (k:=0) (v:=vi 1) c6 O O O (by rw[All2.length_eq e1];omega) O (λm1 l9=>?_);have m9:=All2.set (i:=(a3).toNat) e1 (show tI.R 1 (vi 1) from O);have i4:((ix a0 a1).set (a3).toNat 1).length<=4611686018427387904:=by simp only[List.length_set];exact i3
      have n8:((ix a0 a1).set (a3).toNat 1).length=j7:=by simp only[List.length_set];exact j0
      obtain⟨c8,g6,i5,e9⟩:∃c8 g6,Ns tI 3 (a0.set (a1).toNat ((ix a0 a1).set (a3).toNat 1)) c8 g6/\Mem m1 (⟨.os b4 b6 0 x1.length,29,1,c8⟩::⟨.os b9 b7 0 x1.length,29,1,a6⟩::⟨.os b5 b3 0 x1.length,29,1,a5⟩::(g6++[])):=⟨_,_,bt4 a8 e6 m9 O i4 (.inr ⟨_,_,_,O⟩),bb2 (C:=[⟨.os b4 b6 0 x1.length,29,1,a2⟩,⟨.os b9 b7 0 x1.length,29,1,a6⟩,⟨.os b5 b3 0 x1.length,29,1,a5⟩]) l9 (by rw[(Ns.len a8).2];omega)⟩;have e3:(a0.set (a1).toNat ((ix a0 a1).set (a3).toNat 1)).length=x1.length:=by rw[List.length_set];exact a9
      have e4:(a0.set (a1).toNat ((ix a0 a1).set (a3).toNat 1)).length<=4611686018427387904:=by rw[List.length_set];exact b0
      refine bq (de (aq (sR (mV O (mV O (bN vm O O (bN dy O O (nS ?_))))))));refine ck z O ?_ ?_<;>clear z<;>intro c z<;>try simp only[qa]at c
      ·refine dl (bk6 O (ee (dh ?_)));exact wP (k8 i5 e3 e4 (by first|assumption|exact wc OY V V V) (Mem.sub e9 (.cons_cons _ (.cons_cons _ (.cons_cons _ (List.Sublist.append_left (List.Sublist.refl _) _))))) z) O
      ·refine bc (de (aq (ax (bN dt O O (mV O (bq (cy ?_)))))));have s:=df r1;have o:wr (a3+1)=a3+1:=db V V;erw[o];exact wC (ih i5 e3 e4 V V (by first|assumption|exact wc OY V V V) (Mem.sub e9 (.cons_cons _ (.cons_cons _ (.cons_cons _ (List.Sublist.append_left (List.Sublist.refl _) _))))) z) O
     ·refine bc (de (aq (sR (mV O (mV O (bN vm O O (bN dy O O (nS ?_))))))));refine ck z O ?_ ?_<;>clear z<;>intro c z<;>try simp only[qa]at c
      ·refine dl (bk6 O (ee (dh ?_)));exact wP (k8 a8 a9 b0 (by first|assumption|exact wc OY V V V) (Mem.sub M0 (.cons_cons _ (.cons_cons _ (.cons_cons _ (List.Sublist.append_left (List.Sublist.refl _) _))))) z) O
      ·refine bc (de (aq (ax (bN dt O O (mV O (bq (cy ?_)))))));have s:=df r1;have o:wr (a3+1)=a3+1:=db V V;erw[o];exact wC (ih a8 a9 b0 V V (by first|assumption|exact wc OY V V V) (Mem.sub M0 (.cons_cons _ (.cons_cons _ (.cons_cons _ (List.Sublist.append_left (List.Sublist.refl _) _))))) z) O
theorem al3{S:List Fr}{res:(List (List Int))}{x0:af}{x1:List ay}{a5:List (List Int)}{a1:List (List Int)}{a2:List (List Int)}{v1:PV}{a7 a4:List PV}{d9 d8 e2 d7 d3 d4:Nat}(r1:(tSl ay.t).R x1 v1)(hs:x0.Headers.length<=1000)(hA:AB x0)(hu:SU x1)(e6:(List.replicate x1.length ([]:List Int)).length=x1.length)(e9:(List.replicate x1.length ([]:List Int)).length<=4611686018427387904)(e5:(List.replicate x1.length ([]:List Int)).length=x1.length)(f2:(List.replicate x1.length ([]:List Int)).length<=4611686018427387904)(f0:(List.replicate x1.length ([]:List Int)).length=x1.length)(e7:(List.replicate x1.length ([]:List Int)).length<=4611686018427387904)(b5:a5.length=x1.length)(c5:a5.length<=4611686018427387904)(d1:All2 (tSl tI).R a1 a7)(b4:a1.length=x1.length)(b6:a1.length<=4611686018427387904)(c7:All2 (tSl tI).R a2 a4)(c6:a2.length=x1.length)(b8:a2.length<=4611686018427387904)(d2:RL a5 x1.length x1.length){K2:(List (List Int))->(List (List Int))}
 (g0:∀{a0:List (List Int)}{a3:List PV}{a9:List Ent}(b1:Ns tI 3 a0 a3 a9)(a8:a0.length=x1.length)(a6:a0.length<=4611686018427387904){h:Heap}(M0:Mem h (⟨.os d3 d4 0 x1.length,29,1,a3⟩::⟨.os e2 d7 0 x1.length,29,1,a7⟩::⟨.os d9 d8 0 x1.length,29,1,a4⟩::(a9++[]))),K2 a0=res->PX Tryz.prog 2 S (QR Tryz.prog [(4,none)] (RF30 res)) [(8,.os d3 d4 0 x1.length)] h):
 ∀{m:Nat}{b0:Int}{a0:List (List Int)}{a3:List PV}{a9:List Ent}(b1:Ns tI 3 a0 a3 a9)(a8:a0.length=x1.length)(a6:a0.length<=4611686018427387904)(f7:m=Int.toNat ((x1.length:Int)-b0))(e1:0<=b0)(c9:RL a0 x1.length x1.length){h:Heap}(M0:Mem h (⟨.os d3 d4 0 x1.length,29,1,a3⟩::⟨.os e2 d7 0 x1.length,29,1,a7⟩::⟨.os d9 d8 0 x1.length,29,1,a4⟩::(a9++[]))),ko x1 a1 a2 K2 m b0 a0=res->RC Tryz.prog (.loop dh1) S (QR Tryz.prog [(4,none)] (RF30 res)) [(47,vi b0),(46,vi (x1.length:Int)),(8,.os d3 d4 0 x1.length),(7,.os e2 d7 0 x1.length),(6,.os d9 d8 0 x1.length),(5,vi (x1.length:Int)),(1,v1)] h:=by
 intro m;induction m with
 |zero=>
  intro b0 a0 a3 a9 b1 a8 a6 f7 e1 c9 h M0 z;rw[ko]at z;refine cg (sR (bN cx O O (nS (am ?_))));refine bv O ?_ ?_<;>intro c<;>try simp only[qa]at c
  ·omega
  refine dl (ee (dh ?_));exact wP (g0 b1 a8 a6 (Mem.sub M0 (.cons_cons _ (.cons_cons _ (.cons_cons _ (List.Sublist.append_left (List.Sublist.refl _) _))))) z) O
 |succ m ih=>
  intro b0 a0 a3 a9 b1 a8 a6 f7 e1 c9 h M0 z;rw[ko]at z;refine cg (sR (bN cx O O (nS (am ?_))));refine bv O (λb2=>?_) (λb2=>?_)
  ·have hgo:=z;have e0:=b2;try simp only[qa]at e0
   refine bc (aq (am (bm (sR (mV O (mV O (nR (mV O ?_))))))));refine mI O (nS (bm ?_));refine wC (am7 r1 hs hA hu e6 e9 e5 f2 f0 e7 b5 c5 d1 b4 b6 c7 c6 b8 d2 a8 a6 e1 c9 b2 ?_ ?_ b1 a8 a6 O V OY (Mem.sub M0 (.cons_cons _ (.cons_cons _ (.cons_cons _ (List.Sublist.append_left (List.Sublist.refl _) _))))) z) O
   ·intro d5 e4 e8 c8 b7 b3 f3 f9 f5 z;refine bk6 O (em (aq (ax (bN dt O O (mV O (bq (cy ?_)))))));have s:=df r1;have o:wr (b0+1)=b0+1:=db V V;erw[o];exact wC (ih c8 b7 b3 V V OY (Mem.sub f5 (.cons_cons _ (.cons_cons _ (.cons_cons _ (List.Sublist.append_left (List.Sublist.refl _) _))))) z) O
   ·intro d6 e3 f1 d0 b9 c4 f4 f8 f6 z;refine em (de (aq (ax (bN dt O O (mV O (bq (cy ?_)))))));have s:=df r1;have o:wr (b0+1)=b0+1:=db V V;erw[o];exact wC (ih d0 b9 c4 V V OY (Mem.sub f6 (.cons_cons _ (.cons_cons _ (.cons_cons _ (List.Sublist.append_left (List.Sublist.refl _) _))))) z) O
  ·exfalso;try simp only[qa]at b2
   omega
theorem ed2{x0:af}{x1:List ay}{v0 v1:PV}(r0:af.t.R x0 v0)(r1:(tSl ay.t).R x1 v1)(hs:x0.Headers.length<=1000)(hA:AB x0)(hu:SU x1):∃r,FnR Tryz.prog 30 [v0,v1] r/\(tSl (tSl tI)).R (pm x0 x1) r:=by
 refine fnT (R:=RF30) eh3 O λres z=>?_;unfold pm at z;refine sR (ah (ej O (TR.cnt af.t r0)) (ah (v:=nilS) (ba O) (nS (cq4 (sR (mV O (ah (da O (co r1 Tryz.underlying68 _)) (mV O ?_))))))));refine nR (mV O ?_);have d9:fits (x1.length) 24=true:=ii (by first|omega|(have hk:=hu.n;omega)) (by first|omega|(have hk:=hu.n;omega));refine ai1 (sz:=1) (ty:=29) (n:=x1.length) (zz:=nilS) (Mem.nil ⟨0,[]⟩) O O O O O d9 (λc9 c6 f9 e9=>?_);have f0:All2 (tSl tI).R (List.replicate x1.length ([]:List Int)) (List.replicate x1.length nilS):=All2.rep (show(tSl tI).R ([]:List Int) nilS from fm) _;have a3:(List.replicate x1.length ([]:List Int)).length=x1.length:=List.length_replicate;have b5:(List.replicate x1.length ([]:List Int)).length<=4611686018427387904:=by rw[a3];exact gm d9
 refine mV O ?_;have d8:fits (x1.length) 24=true:=ii (by first|omega|(have hk:=hu.n;omega)) (by first|omega|(have hk:=hu.n;omega));refine ai1 (sz:=1) (ty:=29) (n:=x1.length) (zz:=nilS) e9 O O O O O d8 (λd0 c5 f6 f1=>?_);have e4:All2 (tSl tI).R (List.replicate x1.length ([]:List Int)) (List.replicate x1.length nilS):=All2.rep (show(tSl tI).R ([]:List Int) nilS from fm) _;have a2:(List.replicate x1.length ([]:List Int)).length=x1.length:=List.length_replicate;have b9:(List.replicate x1.length ([]:List Int)).length<=4611686018427387904:=by rw[a2];exact gm d8
 refine mV O (mV O (nR (mV O ?_)));have e3:fits (x1.length) 24=true:=ii (by first|omega|(have hk:=hu.n;omega)) (by first|omega|(have hk:=hu.n;omega));refine ai1 (sz:=1) (ty:=29) (n:=x1.length) (zz:=nilS) f1 O O O O O e3 (λc7 d1 e5 f3=>?_);have f5:All2 (tSl tI).R (List.replicate x1.length ([]:List Int)) (List.replicate x1.length nilS):=All2.rep (show(tSl tI).R ([]:List Int) nilS from fm) _;have a4:(List.replicate x1.length ([]:List Int)).length=x1.length:=List.length_replicate;have b4:(List.replicate x1.length ([]:List Int)).length<=4611686018427387904:=by rw[a4];exact gm e3
 obtain⟨c8,e7,e2⟩:∃c8,Ns tI 3 (List.replicate x1.length ([]:List Int)) (List.replicate x1.length nilS) c8/\Mem e5 (⟨.os c7 d1 0 x1.length,29,1,(List.replicate x1.length nilS)⟩::⟨.os d0 c5 0 x1.length,29,1,(List.replicate x1.length nilS)⟩::⟨.os c9 c6 0 x1.length,29,1,(List.replicate x1.length nilS)⟩::(c8++[])):=⟨_,ef7 _,ef1 (C:=[⟨.os c7 d1 0 x1.length,29,1,(List.replicate x1.length nilS)⟩,⟨.os d0 c5 0 x1.length,29,1,(List.replicate x1.length nilS)⟩,⟨.os c9 c6 0 x1.length,29,1,(List.replicate x1.length nilS)⟩]) f3 3 1 _⟩;refine mV O (nS (am (sR (mV O (ah (da O (co r1 Tryz.underlying68 _)) (mI O (nS (bm ?_))))))));refine wC (al1 r0 r1 hs hA hu a3 b5 a2 b9 a4 b4 ?_ e7 a4 b4 e4 a2 b9 f0 a3 b5 O V (by exact eu5) (Mem.sub e2 (.cons_cons _ (.cons_cons _ (.cons_cons _ (List.Sublist.append_left (List.Sublist.refl _) _))))) z) O
 ·intro d6 d4 d7 d5 e1 b1 a8 b7 a0 a1 b6 a7 a9 b3 b2 b0 c4 f8 e8 z;refine em (aq (am (bc (aq (am (sR (mV O (mI O ?_))))))));refine nS (bm ?_);refine wC (al3 r1 hs hA hu a3 b5 a2 b9 a4 b4 a0 a1 b6 a7 a9 b3 b2 b0 c4 ?_ b7 a0 a1 O V OY (Mem.sub e8 (.cons_cons _ (.cons_cons _ (.cons_cons _ (List.Sublist.append_left (List.Sublist.refl _) _))))) z) O
  ·intro d3 a6 e0 b8 d2 a5 g0 f4 z;refine em (aq (sR (mV O (mV O (nS ?_)))));obtain⟨f7,e6,f2⟩:=dp3 (P:=Tryz.prog) (k:=0) (C:=[⟨.os c7 d1 0 x1.length,29,1,a6⟩,⟨.os d0 c5 0 x1.length,29,1,b1⟩,⟨.os c9 c6 0 x1.length,29,1,a8⟩]) f4 O O b8 (Nat.le_trans a5 OO);subst z;exact ft (.tmp O .nil) e6 f2
end Go.Proofs.YtmonnlkagniolaaGreat
