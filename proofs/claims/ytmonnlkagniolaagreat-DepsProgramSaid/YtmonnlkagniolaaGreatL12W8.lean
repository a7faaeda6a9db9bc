/-
 The code of each function does what its plain program says.
-/
import Derived.Test.YtmonnlkagniolaaGreatL12W7
set_option linter.unusedVariables false
set_option linter.unusedSimpArgs false
set_option maxRecDepth 100000
namespace Go.Proofs.YtmonnlkagniolaaGreat
open Go Go.Pb Go.RowKit
def RF175(res:Bool)(r:PV):Prop:=r=vb res
theorem bt0{x0:UInt8}:FnR Tryz.prog 175 [vu8 x0] (vb (qh x0)):=by
 refine fnS (R:=RF175) cv7 (λ_ h=>h) O λres z=>?_;unfold qh at z;refine sR (mB O (nR (mV O (ah (ct (a:=vu8 x0) (b:=vu8 (97:UInt8)) O O aw4) (mV O ?_)))));refine cq 3 (d:=8) (v:=vb ((decide ((97:UInt8)<=x0))&&(decide (x0<=(122:UInt8))))) ?_ ?_
 ·intro S Q r;cases a5:(decide ((97:UInt8)<=x0))
  ·exact gN 2 O O O O O O
  ·intro k;have a1:=a5;try simp only[qa]at a1
   refine aj O O (ba O) (aj O O (ct (a:=vu8 x0) (b:=vu8 (122:UInt8)) O O aw8) ?_);exact gK O O O O O k
 refine mV O ?_;refine cq 7 (d:=16) (v:=vb (((decide ((97:UInt8)<=x0))&&(decide (x0<=(122:UInt8))))||((decide ((65:UInt8)<=x0))&&(decide (x0<=(90:UInt8)))))) ?_ ?_
 ·intro S Q r;cases a3:((decide ((97:UInt8)<=x0))&&(decide (x0<=(122:UInt8))))
  ·intro k;have a0:=a3;try simp only[qa]at a0
   refine aj O O (ba O) (aj O O (ct (a:=vu8 x0) (b:=vu8 (65:UInt8)) O O aw4) (aj O O (ba O) ?_));refine cq 3 (d:=15) (v:=vb ((decide ((65:UInt8)<=x0))&&(decide (x0<=(90:UInt8))))) ?_ ?_
   ·intro S Q r;cases a4:(decide ((65:UInt8)<=x0))
    ·intro k;refine fx O O (fx O O (aj (v:=vb false) O O (oo O O O O) ?_));exact wD k O
    ·intro k;have a2:=a4;try simp only[qa]at a2
     refine aj O O (ba O) (aj O O (ct (a:=vu8 x0) (b:=vu8 (90:UInt8)) O O aw8) (aj (v:=vb (decide (x0<=(90:UInt8)))) O O (oo O O O O) ?_));exact wD k O
   exact gK O O O O O k
  ·exact gN 6 O O O O O O
 refine mV O (nS ?_);exact rR z O O O
def RF176(res:Bool)(r:PV):Prop:=r=vb res
theorem cy2{x0:UInt8}:FnR Tryz.prog 176 [vu8 x0] (vb (rn x0)):=by
 refine fnS (R:=RF176) cx4 (λ_ h=>h) O λres z=>?_;unfold rn at z;refine sR (mB O (nR (mV O (ah (ct (a:=vu8 x0) (b:=vu8 (48:UInt8)) O O aw4) (mV O ?_)))));refine cq 3 (d:=8) (v:=vb ((decide ((48:UInt8)<=x0))&&(decide (x0<=(57:UInt8))))) ?_ ?_
 ·intro S Q r;cases a1:(decide ((48:UInt8)<=x0))
  ·exact gN 2 O O O O O O
  ·intro k;have a0:=a1;try simp only[qa]at a0
   refine aj O O (ba O) (aj O O (ct (a:=vu8 x0) (b:=vu8 (57:UInt8)) O O aw8) ?_);exact gK O O O O O k
 refine mV O (nS ?_);exact rR z O O O
def RF105(res:Bool)(r:PV):Prop:=r=vb res
theorem wg{S:List Fr}{res:Bool}{x0:List UInt8}(a9:(((decide (x0=([]:List UInt8)))||(decide (16 < (x0.length:Int))))||(!(qh (ix x0 0))))=false){K0:Unit->Bool}
 (b3:K0 ()=res->PX Tryz.prog 0 S (QR Tryz.prog [(2,none)] (RF105 res)) [] ⟨0,[]⟩):
 ∀{m:Nat}{a0:Int}(b2:m=Int.toNat ((x0.length:Int)-a0))(a6:0<=a0),kf x0 K0 m a0=res->RC Tryz.prog (.loop cc1) S (QR Tryz.prog [(2,none)] (RF105 res)) [(3,vi a0),(0,vs x0)] ⟨0,[]⟩:=by
 have a2:=a9;try simp only[qa]at a2
 intro m;induction m with
 |zero=>
  intro a0 b2 a6 z;rw[kf]at z;refine cg (am (sR (mV O (mV O (ah (da O (qz Tryz.underlying9)) (bN cx O O (nS ?_)))))));refine bv O ?_ ?_<;>intro c<;>try simp only[qa]at c
  ·omega
  refine dl (ee (dh ?_));exact wP (b3 z) O
 |succ m ih=>
  intro a0 b2 a6 z;rw[kf]at z;refine cg (am (sR (mV O (mV O (ah (da O (qz Tryz.underlying9)) (bN cx O O (nS ?_)))))));refine bv O ?_ ?_<;>intro c<;>try simp only[qa]at c
  rotate_left
  ·omega
  refine bc (aq (am (bm (sR (mV O (mV O (ah (tu O O (xr Tryz.underlying9 (by first|omega|(have hp:=List.length_pos_iff.2 (And.left (by assumption:¬x0=[]/\_));omega)) (by first|omega|(have hp:=List.length_pos_iff.2 (And.left (by assumption:¬x0=[]/\_));omega)))) ?_)))))));obtain⟨a1,b0,z⟩:=br z;have a7:=bt0 (x0:=(ix x0 a0));rw[b0]at a7;refine cL a7 O O (ak O bp) (ah (ku O) (mV O ?_));refine cq 6 (d:=34) (v:=vb ((!a1)&&(!(rn (ix x0 a0))))) ?_ ?_
  ·intro S Q r;cases a8:(!a1)
   ·exact gN 5 O O O O O O
   ·intro k;have a4:=a8;try simp only[qa]at a4
    refine aj O O (ba O) (aj O O (ba O) (aj O O (tu O O (xr Tryz.underlying9 (by first|omega|(have hp:=List.length_pos_iff.2 (And.left (by assumption:¬x0=[]/\_));omega)) (by first|omega|(have hp:=List.length_pos_iff.2 (And.left (by assumption:¬x0=[]/\_));omega)))) ?_));have b1:=cy2 (x0:=(ix x0 a0));refine ow O O (ur O O (ak O bp) b1) (aj O O (ku O) ?_);exact gK O O O O O k
  refine mV O ?_;refine cq 5 (d:=40) (v:=vb (((!a1)&&(!(rn (ix x0 a0))))&&(!decide ((ix x0 a0)=(95:UInt8))))) ?_ ?_
  ·intro S Q r;cases a5:((!a1)&&(!(rn (ix x0 a0))))
   ·exact gN 4 O O O O O O
   ·intro k;have a3:=a5;try simp only[qa]at a3
    refine aj O O (ba O) (aj O O (ba O) (aj O O (tu O O (xr Tryz.underlying9 (by first|omega|(have hp:=List.length_pos_iff.2 (And.left (by assumption:¬x0=[]/\_));omega)) (by first|omega|(have hp:=List.length_pos_iff.2 (And.left (by assumption:¬x0=[]/\_));omega)))) (aj O O (ct (a:=vu8 (ix x0 a0)) (b:=vu8 (95:UInt8)) O O es7) ?_)));exact gK O O O O O k
  refine nS ?_;refine ck z O ?_ ?_<;>clear z<;>intro c z<;>try simp only[qa]at c
  ·refine sR (mB O (nS ?_));exact rR z O O O
  ·refine bc (de (aq (ax (mV O (bN dt O O (mV O (bq (cy ?_))))))));have o:wr (a0+1)=a0+1:=db V V;erw[o];exact wC (ih V V z) O
theorem bx3{x0:List UInt8}:FnR Tryz.prog 105 [vs x0] (vb (ki x0)):=by
 refine fnS (R:=RF105) db8 (λ_ h=>h) O λres z=>?_;unfold ki at z;refine sR (mB O (nS (am (sR (mV O (ah (ct (a:=vs x0) (b:=vs ([]:List UInt8)) O O bd2) (mV O ?_)))))));refine cq 4 (d:=10) (v:=vb ((decide (x0=([]:List UInt8)))||(decide (16 < (x0.length:Int))))) ?_ ?_
 ·intro S Q r;cases a4:(decide (x0=([]:List UInt8)))
  ·intro k;have a3:=a4;try simp only[qa]at a3
   refine aj O O (ba O) (aj O O (da O (qz Tryz.underlying9)) (aj O O (ct O O kh) ?_));exact gK O O O O O k
  ·exact gN 3 O O O O O O
 refine mV O ?_;refine cq 5 (d:=16) (v:=vb (((decide (x0=([]:List UInt8)))||(decide (16 < (x0.length:Int))))||(!(qh (ix x0 0))))) ?_ ?_
 ·intro S Q r;cases a5:((decide (x0=([]:List UInt8)))||(decide (16 < (x0.length:Int))))
  ·intro k;have a2:=a5;try simp only[qa]at a2
   refine aj O O (ba O) (aj O O (tu O O (xr (i:=0) Tryz.underlying9 (by first|omega|(have hp:=List.length_pos_iff.2 (And.left (by assumption:¬x0=[]/\_));omega)) (by first|omega|(have hp:=List.length_pos_iff.2 (And.left (by assumption:¬x0=[]/\_));omega)))) ?_);have a6:=bt0 (x0:=(ix x0 0));refine ow O O (ur O O (ak O bp) a6) (aj O O (ku O) ?_);exact gK O O O O O k
  ·exact gN 4 O O O O O O
 refine nS ?_;refine ck z O ?_ ?_<;>clear z<;>intro a0 z<;>have a1:=a0<;>try simp only[qa]at a1
 ·refine sR (mB O (nS ?_));exact rR z O O O
 ·refine bc (aq (am (sR (mI O (nS (bm ?_))))));refine wC (wg a0 ?_ O V z) O
  ·intro z;refine em (aq (sR (mB O (nS ?_))));exact rR z O O O
def RF106(res:Int)(r:PV):Prop:=r=vi res
theorem ad0{S:List Fr}{res:Int}{x0:List bg}{a0:Int}{a9:Bool}{v0:PV}(r0:(tSl bg.t).R x0 v0)(b6:0<=a0)(a6:(decide (a0 < (x0.length:Int)))=true)(b5:ki ((ix x0 a0).Name)=a9)(a5:(!a9)=false)(a8:((decide (((ix x0 a0).Width) < 1))||(decide (32 < ((ix x0 a0).Width))))=false){K3:Unit->Int}
 (b7:K3 ()=res->PX Tryz.prog 3 S (QR Tryz.prog [(2,none)] (RF106 res)) [(0,v0),(3,vi a0)] ⟨0,[]⟩):
 ∀{m:Nat}{a1:Int}(b4:m=Int.toNat (a0-a1))(a7:0<=a1),mf x0 a0 K3 m a1=res->RC Tryz.prog (.loop cd5) S (QR Tryz.prog [(2,none)] (RF106 res)) [(4,vi a1),(3,vi a0),(0,v0)] ⟨0,[]⟩:=by
 have a2:=a6;try simp only[qa]at a2
 have a4:=a5;try simp only[qa]at a4
 have a3:=a8;try simp only[qa]at a3
 intro m;induction m with
 |zero=>
  intro a1 b4 a7 z;rw[mf]at z;refine cg (am (sR (mV O (mV O (bN cx O O (nS ?_))))));refine bv O ?_ ?_<;>intro c<;>try simp only[qa]at c
  ·omega
  refine dl (ee (dh ?_));exact wP (b7 z) O
 |succ m ih=>
  intro a1 b4 a7 z;rw[mf]at z;refine cg (am (sR (mV O (mV O (bN cx O O (nS ?_))))));refine bv O ?_ ?_<;>intro c<;>try simp only[qa]at c
  rotate_left
  ·omega
  refine bc (aq (am (bm (sR (mV O (mV O ?_))))));obtain⟨b9,b2,b3⟩:=dn (i:=a1) r0 V V;refine ah (bn O O b2) (fL O (bg.g_Name b3) O O (mV O (mV O ?_)));obtain⟨b8,b1,b0⟩:=dn (i:=a0) r0 V V;refine ah (bn O O b1) (fL O (bg.g_Name b0) O O (ah (ct (a:=vs ((ix x0 a1).Name)) (b:=vs ((ix x0 a0).Name)) O O bd2) (nS ?_)));refine ck z O ?_ ?_<;>clear z<;>intro c z<;>try simp only[qa]at c
  ·refine sR (mI O (nS ?_));exact rR z O O O
  ·refine bc (de (aq (ax (mV O (bN dt O O (mV O (bq (cy ?_))))))));have o:wr (a1+1)=a1+1:=db V (by first|omega|(have s:=df r0;omega));erw[o];exact wC (ih V V z) O
theorem ab8{S:List Fr}{res:Int}{x0:List bg}{v0:PV}(r0:(tSl bg.t).R x0 v0){K0:Unit->Int}
 (c5:K0 ()=res->PX Tryz.prog 0 S (QR Tryz.prog [(2,none)] (RF106 res)) [] ⟨0,[]⟩):
 ∀{m:Nat}{a0:Int}(b8:m=Int.toNat ((x0.length:Int)-a0))(a6:0<=a0),mh x0 K0 m a0=res->RC Tryz.prog (.loop ck7) S (QR Tryz.prog [(2,none)] (RF106 res)) [(3,vi a0),(0,v0)] ⟨0,[]⟩:=by
 intro m;induction m with
 |zero=>
  intro a0 b8 a6 z;rw[mh]at z;refine cg (am (sR (mV O (mV O (ah (da O (co r0 Tryz.underlying23 _)) (bN cx O O (nS ?_)))))));refine bv O ?_ ?_<;>intro c<;>try simp only[qa]at c
  ·omega
  refine dl (ee (dh ?_));exact wP (c5 z) O
 |succ m ih=>
  intro a0 b8 a6 z;rw[mh]at z;refine cg (am (sR (mV O (mV O (ah (da O (co r0 Tryz.underlying23 _)) (bN cx O O (nS ?_)))))));refine bv O (λa1=>?_) (λa1=>?_)
  ·have hgo:=z;have a5:=a1;try simp only[qa]at a5
   refine bc (aq (am (bm (am (bm (sR (mV O (mV O ?_))))))));obtain⟨c6,b2,b3⟩:=dn (i:=a0) r0 V V;refine ah (bn O O b2) (fL O (bg.g_Name b3) O O ?_);obtain⟨c7,a3,z⟩:=br z;have b1:=bx3 (x0:=(ix x0 a0).Name);rw[a3]at b1;refine cL b1 O O (ak O bp) (ah (ku O) (mV O (nS ?_)));refine ck z O ?_ ?_<;>clear z<;>intro a2 z<;>have a9:=a2<;>try simp only[qa]at a9
   ·refine sR (mI O (nS ?_));exact rR z O O O
   ·refine sR (mV O (mV O ?_));obtain⟨b9,b5,b7⟩:=dn (i:=a0) r0 V V;refine ah (bn O O b5) (fL O (bg.g_Width b7) O O (bN cx O O (mV O ?_)));refine cq 7 (d:=33) (v:=vb ((decide (((ix x0 a0).Width) < 1))||(decide (32 < ((ix x0 a0).Width))))) ?_ ?_
    ·intro S Q r;cases b0:(decide (((ix x0 a0).Width) < 1))
     ·intro k;have a7:=b0;try simp only[qa]at a7
      refine aj O O (ba O) (aj O O (ba O) ?_);obtain⟨c4,b6,b4⟩:=dn (i:=a0) r0 V V;refine aj O O (bn O O b6) (aj O O (cw O (bg.g_Width b4)) (aj O O (cp O O O) (aj O O (ct O O kh) ?_)));exact gK O O O O O k
     ·exact gN 6 O O O O O O
    refine mV O (nS ?_);refine ck z O ?_ ?_<;>clear z<;>intro a4 z<;>have a8:=a4<;>try simp only[qa]at a8
    ·refine sR (mI O (nS ?_));exact rR z O O O
    ·refine bc (de (aq (sR (mI O (nS (bm ?_))))));refine wC (ad0 r0 a6 a1 a3 a2 a4 ?_ O V z) O
     ·intro z;refine em (de (aq (ax (mV O (bN dt O O (mV O (bq (cy ?_))))))));have s:=df r0;have o:wr (a0+1)=a0+1:=db V (by first|omega|(have s:=df r0;omega));erw[o];exact wC (ih V V z) O
  ·exfalso;try simp only[qa]at a1
   omega
theorem bt3{x0:List bg}{v0:PV}(r0:(tSl bg.t).R x0 v0):FnR Tryz.prog 106 [v0] (vi (ry x0)):=by
 refine fnS (R:=RF106) do8 (λ_ h=>h) O λres z=>?_;unfold ry at z;refine sR (mI O (nS (am (sR (mI O (nS (bm ?_)))))));refine wC (ab8 r0 ?_ O V z) O
 ·intro z;refine em (aq (sR (mI O (nS ?_))));exact rR z O O O
def RF85(res:bf)(r:PV):Prop:=bf.t.R res r
theorem eb2{x0:af}{x1:Int}{v0:PV}(r0:af.t.R x0 v0)(hi:0<=x1/\x1 < (x0.Actions.length:Int)):∃r,FnR Tryz.prog 85 [v0,vi x1] r/\bf.t.R (uf x0 x1) r:=by
 refine fnT (R:=RF85) du2 O λres z=>?_;unfold uf at z;refine sR (ah (ej O (TR.cnt af.t r0)) ?_);refine dz (x:= .agg [vs [],nilS,nilS,nilS,nilS,nilS,nilS,nilS,nilS,nilS]) (Mem.nil ⟨0,[]⟩) O O (λc8 c7 d2 b9=>?_);refine nR (lD r0 O O O (gL (af.g_Actions r0) O O O λd3 c4=>(mV O ?_)));obtain⟨d1,c9,c6⟩:=dn (i:=x1) c4 V V;refine ah (bn O O c9) (gL (bt.g_Params c6) O O O λa8 b7=>?_);obtain⟨a0,a1,a2,a5,a6,a4,a7,a3,d0,b1,b5,b2,b0,b3,b6,b4,a9⟩:=r0;subst d0;refine ah (v:= .agg [vs x0.Name,a0,a1,a2,a5,a6,a4,a7,a3,a8]) (lq (cs:=[vs x0.Name,a0,a1,a2,a5,a6,a4,a7,a3,a8]) O (by simp only[buildV,pk (TR.cnt (tSl bg.t) b7) (TR.agg (tSl bg.t) b7)];rfl)) ?_;refine dm (k:=0) (v:= .agg [vs x0.Name,a0,a1,a2,a5,a6,a4,a7,a3,a8]) b9 O O O O (λc5 b8=>?_);replace b8:Mem c5 [⟨.op c8 c7 0,132,10,[.agg [vs x0.Name,a0,a1,a2,a5,a6,a4,a7,a3,a8]]⟩]:=b8;refine nS ?_;subst z;exact ft (.cell O (mb (k:=0) b8 O O) .nil) (du (TR.clo bf.t (show bf.t.R ({Program:=x0,Params:=(ix x0.Actions x1).Params}:bf) (.agg [vs x0.Name,a0,a1,a2,a5,a6,a4,a7,a3,a8]) from⟨a0,a1,a2,a5,a6,a4,a7,a3,a8,O,b1,b5,b2,b0,b3,b6,b4,a9,b7⟩))) (show bf.t.R ({Program:=x0,Params:=(ix x0.Actions x1).Params}:bf) (.agg [vs x0.Name,a0,a1,a2,a5,a6,a4,a7,a3,a8]) from⟨a0,a1,a2,a5,a6,a4,a7,a3,a8,O,b1,b5,b2,b0,b3,b6,b4,a9,b7⟩)
def RF177(res:Int×Bool)(r:PV):Prop:=r= .tup [vi res.1,vb res.2]
theorem bv7{x0:af}{x1:aa}{v0 v1:PV}(r0:af.t.R x0 v0)(r1:aa.t.R x1 v1):FnR Tryz.prog 177 [v0,v1] (.tup [vi ((po x0 x1).1),vb ((po x0 x1).2)]):=by
 refine fnS (R:=RF177) di8 (λ_ h=>h) O λres z=>?_;unfold po at z;refine sR (ah (ej O (TR.cnt af.t r0)) (ah (ej O (TR.cnt aa.t r1)) (mI O (mB O (nR (gL (af.g_Metadata r0) O O O λc5 b0=>(mV O (nS ?_))))))));refine am (sR (fL O (aa.g_Header r1) O O (bN (kx (b:= -1)) O O (nS ?_))));obtain⟨b3,a8,z⟩:=br z;refine ni (F:=λb S Q=>∀(a0:List bg)(a2:PV)(a1:(tSl bg.t).R a0 a2),b3 a0=res->RC Tryz.prog b S Q [(6,a2),(3,.fp v1)] ⟨0,[]⟩) ?_ ?_
 ·intro a0 a2 a1 z;rw[<-a8]at z;refine am (sR (fL O (aa.g_Field r1) O O (bN cx O O (mV O ?_))));refine cq 6 (d:=39) (v:=vb ((decide (x1.Field < 0))||(decide ((a0.length:Int)<=x1.Field)))) ?_ ?_
  ·intro S Q r;cases a6:(decide (x1.Field < 0))
   ·intro k;have a4:=a6;try simp only[qa]at a4
    refine aj O O (cw O (aa.g_Field r1)) (aj O O (cp O O O) (aj O O (ba O) (aj O O (da O (co a1 Tryz.underlying23 _)) (aj O O (ct O O lh) ?_))));exact gK O O O O O k
   ·exact gN 5 O O O O O O
  refine nS ?_;refine ck z O ?_ ?_<;>clear z<;>intro c z<;>try simp only[qa]at c
  ·refine sR (mI O (mB O (nS ?_)));exact rT z O O O O O
  ·refine bc (aq (sR (mV O (fL O (aa.g_Field r1) O O ?_))));obtain⟨c7,b4,b7⟩:=dn (i:=x1.Field) a1 V V;refine ah (bn O O b4) (fL O (bg.g_Width b7) O O (mV O (mB O (nS ?_))));exact rT z O O O O O
 ·intro J;refine ck z O ?_ ?_<;>clear z<;>intro c z<;>try simp only[qa]at c
  ·refine am (sR (fL O (aa.g_Header r1) O O (bN cx O O (mV O ?_))));refine cq 7 (d:=22) (v:=vb ((decide (x1.Header < 0))||(decide ((x0.Headers.length:Int)<=x1.Header)))) ?_ ?_
   ·intro S Q r;cases a7:(decide (x1.Header < 0))
    ·intro k;have a5:=a7;try simp only[qa]at a5
     refine aj O O (cw O (aa.g_Header r1)) (aj O O (cp O O O) ?_);obtain⟨c6,b6,a3⟩:=af.g_Headers r0;refine aj O O (cw O b6) (aj O O (cp O (TR.cnt (tSl cm.t) a3) (TR.agg (tSl cm.t) a3)) (aj O O (da O (co a3 Tryz.underlying22 _)) (aj O O (ct O O lh) ?_)));exact gK O O O O O k
    ·exact gN 6 O O O O O O
   refine nS ?_;refine ck z O ?_ ?_<;>clear z<;>intro c z<;>try simp only[qa]at c
   ·refine sR (mI O (mB O (nS ?_)));exact rT z O O O O O
   ·refine bc (aq (ax (gL (af.g_Headers r0) O O O λb9 b2=>(fL O (aa.g_Header r1) O O ?_))));obtain⟨b8,b5,b1⟩:=dn (i:=x1.Header) b2 V V;refine ah (bn O O b5) (gL (cm.g_Fields b1) O O O λc4 a9=>(mV O (bq ?_)));refine aq (wC (J _ _ a9 z) O)
  ·refine bc ?_;refine aq (wC (J _ _ b0 z) O)
def RF219(res:Int)(r:PV):Prop:=r=vi res
theorem cz5{x0:Int}:FnR Tryz.prog 219 [vi x0] (vi (og x0)):=by
 refine fnS (R:=RF219) dq0 (λ_ h=>h) O λres z=>?_;unfold og at z;refine sR (mI O (nS (am (bm (sR (mV O (bN lh O O (mV O ?_))))))));refine cq 3 (d:=9) (v:=vb ((decide (1<=x0))&&(decide (x0<=4)))) ?_ ?_
 ·intro S Q r;cases a4:(decide (1<=x0))
  ·exact gN 2 O O O O O O
  ·intro k;have a1:=a4;try simp only[qa]at a1
   refine aj O O (ba O) (aj O O (ct O O ag5) ?_);exact gK O O O O O k
 refine mV O (nS ?_);refine ck z O ?_ ?_<;>clear z<;>intro c z<;>try simp only[qa]at c
 ·refine sR (mI O (nS ?_));exact rR z O O O
 ·refine sR (mV O (bN lh O O (mV O ?_)));refine cq 3 (d:=16) (v:=vb ((decide (5<=x0))&&(decide (x0<=8)))) ?_ ?_
  ·intro S Q r;cases a3:(decide (5<=x0))
   ·exact gN 2 O O O O O O
   ·intro k;have a2:=a3;try simp only[qa]at a2
    refine aj O O (ba O) (aj O O (ct O O ag5) ?_);exact gK O O O O O k
  refine mV O (nS ?_);refine ck z O ?_ ?_<;>clear z<;>intro c z<;>try simp only[qa]at c
  ·refine sR (mI O (nS ?_));exact rR z O O O
  ·refine sR (mV O (bN lh O O (mV O ?_)));refine cq 3 (d:=23) (v:=vb ((decide (9<=x0))&&(decide (x0<=16)))) ?_ ?_
   ·intro S Q r;cases a5:(decide (9<=x0))
    ·exact gN 2 O O O O O O
    ·intro k;have a0:=a5;try simp only[qa]at a0
     refine aj O O (ba O) (aj O O (ct O O ag5) ?_);exact gK O O O O O k
   refine mV O (nS ?_);refine ck z O ?_ ?_<;>clear z<;>intro c z<;>try simp only[qa]at c
   ·refine sR (mI O (nS ?_));exact rR z O O O
   ·refine sR (mV O (bN dy O O (mV O (nS ?_))));refine ck z O ?_ ?_<;>clear z<;>intro c z<;>try simp only[qa]at c
    ·refine sR (mI O (nS ?_));exact rR z O O O
    ·refine bc (de (aq (sR (mI O (nS ?_)))));exact rR z O O O
def RF285(res:Int×Int)(r:PV):Prop:=r= .tup [vi res.1,vi res.2]
theorem aq7{x0:Int}:FnR Tryz.prog 285 [vi x0] (.tup [vi ((rp x0).1),vi ((rp x0).2)]):=by
 refine fnS (R:=RF285) dm5 (λ_ h=>h) O λres z=>?_;unfold rp at z;refine sR (mI O (mI O (nS (am (sR (mV O (bN cx O O (mV O ?_))))))));refine cq 3 (d:=9) (v:=vb ((decide (x0 < 1))||(decide (32 < x0)))) ?_ ?_
 ·intro S Q r;cases a1:(decide (x0 < 1))
  ·intro k;have a0:=a1;try simp only[qa]at a0
   refine aj O O (ba O) (aj O O (ct O O kh) ?_);exact gK O O O O O k
  ·exact gN 2 O O O O O O
 refine nS ?_;refine ck z O ?_ ?_<;>clear z<;>intro c z<;>try simp only[qa]at c
 ·refine sR (mI O (mI O (nS ?_)));exact rT z O O O O O
 ·refine bc (aq (sR (mV O (mV O (mI O (nS ?_))))));exact rT z O O O O O
def RF183(res:Bool)(r:PV):Prop:=r=vb res
theorem cs9{x0:Int}:FnR Tryz.prog 183 [vi x0] (vb (su x0)):=by
 refine fnS (R:=RF183) cy8 (λ_ h=>h) O λres z=>?_;unfold su at z;refine sR (mB O (nR (mV O (bN lh O O (mV O ?_)))));refine cq 3 (d:=8) (v:=vb ((decide (1<=x0))&&(decide (x0<=32)))) ?_ ?_
 ·intro S Q r;cases a1:(decide (1<=x0))
  ·exact gN 2 O O O O O O
  ·intro k;have a0:=a1;try simp only[qa]at a0
   refine aj O O (ba O) (aj O O (ct O O ag5) ?_);exact gK O O O O O k
 refine mV O (nS ?_);exact rR z O O O
def RF184(res:(BitVec 64))(r:PV):Prop:=r=yb res
theorem af5{S:List Fr}{res:(BitVec 64)}{x0:Int}(hp:x0<=64){K0:(BitVec 64)->(BitVec 64)}
 (a4:∀{a1:BitVec 64},K0 a1=res->PX Tryz.prog 0 S (QR Tryz.prog [(2,none)] (RF184 res)) [(3,yb a1)] ⟨0,[]⟩):
 ∀{m:Nat}{a1:BitVec 64}{a0:Int}(a3:m=Int.toNat (x0-a0))(a2:0<=a0),rl K0 m a1 a0=res->RC Tryz.prog (.loop cn2) S (QR Tryz.prog [(2,none)] (RF184 res)) [(4,vi a0),(3,yb a1),(0,vi x0)] ⟨0,[]⟩:=by
 intro m;induction m with
 |zero=>
  intro a1 a0 a3 a2 z;rw[rl]at z;refine cg (am (sR (mV O (mV O (bN cx O O (nS ?_))))));refine bv O ?_ ?_<;>intro c<;>try simp only[qa]at c
  ·omega
  refine dl (ee (dh ?_));exact wP (a4 z) O
 |succ m ih=>
  intro a1 a0 a3 a2 z;rw[rl]at z;refine cg (am (sR (mV O (mV O (bN cx O O (nS ?_))))));refine bv O ?_ ?_<;>intro c<;>try simp only[qa]at c
  rotate_left
  ·omega
  refine bc (aq (am (bm (ax (mV O (ah (ct (a:=yb 2#64) (b:=yb a1) O O en4) (mV O (bq ?_))))))));refine de (aq (ax (mV O (bN dt O O (mV O (bq (cy ?_)))))));have o:wr (a0+1)=a0+1:=db V V;erw[o];exact wC (ih V V z) O
theorem db2{x0:Int}(hp:x0<=64):FnR Tryz.prog 184 [vi x0] (yb (yp x0)):=by
 refine fnS (R:=RF184) ct4 (λ_ h=>h) O λres z=>?_;unfold yp at z;refine sR (ah (v:=yb 0#64) (ba O) (nR (ah (v:=yb 1#64) (ba O) (nS (am (sR (mI O (nS ?_))))))));refine bm ?_;refine wC (af5 hp ?_ O V z) O
 ·intro a0 z;refine em (aq (sR (mV O (mV O (nS ?_)))));exact rR z O O O
def RF286(res:(BitVec 32))(r:PV):Prop:=r=wy res
theorem cv5{x0:Int}:FnR Tryz.prog 286 [vi x0] (wy (qu x0)):=by
 refine fnS (R:=RF286) dn4 (λ_ h=>h) O λres z=>?_;unfold qu at z;refine sR (ah (v:=wy 0#32) (ba O) (nS (am (sR (mV O ?_)))));obtain⟨a5,a3,z⟩:=br z;have a1:=cs9 (x0:=x0);rw[a3]at a1;refine cL a1 O O (ak O bp) (ah (ku O) (nS ?_));refine ck z O ?_ ?_<;>clear z<;>intro c z<;>try simp only[qa]at c
 ·refine sR (ah (v:=wy 0#32) (ba O) (nS ?_));exact rR z O O O
 ·refine bc (aq (sR (mV O ?_)));obtain⟨a4,a2,z⟩:=br z;have a0:=db2 (x0:=x0) (by(have hk:=rval OY OY;omega));rw[a2]at a0;refine cL a0 O O (ak O bp) (ah (ct (a:=yb a4) (b:=yb 1#64) O O er4) (ah (bc2 (a:=yb (a4-1#64)) O (c_dw Tryz.underlying201 Tryz.underlying89)) (mV O (nS ?_))));exact rR z O O O
def RF258(res:Int×Int)(r:PV):Prop:=r= .tup [vi res.1,vi res.2]
theorem do1{x0:ai}{x1:bf}{v0 v1:PV}(r0:ai.t.R x0 v0)(r1:bf.t.R x1 v1):FnR Tryz.prog 258 [v0,v1] (.tup [vi ((tv x0 x1).1),vi ((tv x0 x1).2)]):=by
 refine fnS (R:=RF258) do3 (λ_ h=>h) O λres z=>?_;unfold tv at z;refine sR (ah (ej O (TR.cnt ai.t r0)) (ah (ej O (TR.cnt bf.t r1)) (mI O (mI O (nS (am (sR (fL O (ai.g_Op r0) O O ?_))))))));refine nS (bm (sR (bN dy O O (mV O (nS ?_)))));refine ck z O ?_ ?_<;>clear z<;>intro c z<;>try simp only[qa]at c
 ·refine sR (fL O (ai.g_W r0) O O ?_);obtain⟨a0,b8,z⟩:=br z;have b9:=aq7 (x0:=x0.W);rw[b8]at b9;refine cL b9 O O (ak O bp) (mV O (xT O O (xT O O (mV O (mV O (nS (am (sR ?_))))))));refine mV O (bN dy O O (mV O ?_));refine cq 12 (d:=34) (v:=vb ((decide (a0.2=0))&&((decide (x0.N < 0))||(decide (((qu a0.1).toNat:Int) < x0.N))))) ?_ ?_
  ·intro S Q r;cases a9:(decide (a0.2=0))
   ·exact gN 11 O O O O O O
   ·intro k;have a1:=a9;try simp only[qa]at a1
    refine aj O O (cw O (ai.g_N r0)) (aj O O (cp O O O) (aj O O (ct O O cx) (aj O O (ba O) ?_)));refine cq 7 (d:=33) (v:=vb ((decide (x0.N < 0))||(decide (((qu a0.1).toNat:Int) < x0.N)))) ?_ ?_
    ·intro S Q r;cases b3:(decide (x0.N < 0))
     ·intro k;have a3:=b3;try simp only[qa]at a3
      refine aj O O (cw O (ai.g_N r0)) (aj O O (cp O O O) (aj O O (ba O) ?_));have d0:=cv5 (x0:=a0.1);refine ow O O (ur O O (ak O bp) d0) (aj O O (bc2 (a:=wy (qu a0.1)) O (c_wi Tryz.underlying89 Tryz.underlying3)) (aj O O (ct O O kh) (aj (v:=vb (decide (((qu a0.1).toNat:Int) < x0.N))) O O (oo O O O O) ?_)));exact wD k O
     ·intro k;refine fx O O (fx O O (fx O O (fx O O (fx O O (fx O O (aj (v:=vb true) O O (oo O O O O) ?_))))));exact wD k O
    exact gK O O O O O k
  refine nS ?_;refine ck z O ?_ ?_<;>clear z<;>intro c z<;>try simp only[qa]at c
  ·refine sR (mI O (mI O (nS ?_)));exact rT z O O O O O
  ·refine bc (aq (sR (mV O (mV O (mV O (mV O (nS ?_)))))));exact rT z O O O O O
 ·refine sR (bN dy O O (mV O (nS ?_)));refine ck z O ?_ ?_<;>clear z<;>intro c z<;>try simp only[qa]at c
  ·refine sR (gL (bf.g_Program r1) O O O λd6 b1=>(fL O (ai.g_N r0) O O (fL O (ai.g_W r0) O O (ah (v:= .agg [vi x0.N,vi x0.W]) (lq (cs:=[vi x0.N,vi x0.W]) O O) ?_))));obtain⟨c8,b2,z⟩:=br z;have b5:=bv7 b1 (show aa.t.R ({Header:=x0.N,Field:=x0.W}:aa) (.agg [vi x0.N,vi x0.W]) from O);rw[b2]at b5;refine cL b5 O O (ak (TR.clo af.t b1) (ak (TR.clo aa.t (show aa.t.R ({Header:=x0.N,Field:=x0.W}:aa) (.agg [vi x0.N,vi x0.W]) from O)) bp)) (mV O (xT O O (xT O O (mV O (mV O (nS (am (sR ?_))))))));refine mV O (ah (ku O) (nS ?_));refine ck z O ?_ ?_<;>clear z<;>intro c z<;>try simp only[qa]at c
   ·refine sR (mI O (mI O (nS ?_)));exact rT z O O O O O
   ·refine bc (aq (sR (mV O ?_)));obtain⟨d9,b7,z⟩:=br z;have a7:=aq7 (x0:=c8.1);rw[b7]at a7;refine cL a7 O O (ak O bp) (xT O O (xT O O (mV O (mV O (nS ?_)))));exact rT z O O O O O
  ·refine sR (bN dy O O (mV O (nS ?_)));refine ck z O ?_ ?_<;>clear z<;>intro c z<;>try simp only[qa]at c
   ·refine am (sR (fL O (ai.g_N r0) O O (bN cx O O (mV O ?_))));refine cq 7 (d:=68) (v:=vb ((decide (x0.N < 0))||(decide ((x1.Params.length:Int)<=x0.N)))) ?_ ?_
    ·intro S Q r;cases b6:(decide (x0.N < 0))
     ·intro k;have a4:=b6;try simp only[qa]at a4
      refine aj O O (cw O (ai.g_N r0)) (aj O O (cp O O O) ?_);obtain⟨d7,c9,a6⟩:=bf.g_Params r1;refine aj O O (cw O c9) (aj O O (cp O (TR.cnt (tSl bg.t) a6) (TR.agg (tSl bg.t) a6)) (aj O O (da O (co a6 Tryz.underlying23 _)) (aj O O (ct O O lh) ?_)));exact gK O O O O O k
     ·exact gN 6 O O O O O O
    refine nS ?_;refine ck z O ?_ ?_<;>clear z<;>intro c z<;>try simp only[qa]at c
    ·refine sR (mI O (mI O (nS ?_)));exact rT z O O O O O
    ·refine bc (aq (sR (gL (bf.g_Params r1) O O O λd3 c7=>(fL O (ai.g_N r0) O O ?_))));obtain⟨d4,c5,c4⟩:=dn (i:=x0.N) c7 V V;refine ah (bn O O c5) (fL O (bg.g_Width c4) O O ?_);obtain⟨e0,b4,z⟩:=br z;have a8:=aq7 (x0:=(ix x1.Params x0.N).Width);rw[b4]at a8;refine cL a8 O O (ak O bp) (xT O O (xT O O (mV O (mV O (nS ?_)))));exact rT z O O O O O
   ·refine bc (de (aq (am (sR (fL O (ai.g_N r0) O O (bN cx O O (mV O ?_)))))));refine cq 8 (d:=90) (v:=vb ((decide (x0.N < 0))||(decide ((x1.Program.Headers.length:Int)<=x0.N)))) ?_ ?_
    ·intro S Q r;cases b0:(decide (x0.N < 0))
     ·intro k;have a5:=b0;try simp only[qa]at a5
      refine aj O O (cw O (ai.g_N r0)) (aj O O (cp O O O) ?_);obtain⟨d8,d1,d2⟩:=bf.g_Program r1;refine aj O O (cw O d1) ?_;obtain⟨d5,c6,a2⟩:=af.g_Headers d2;refine aj O O (cw O c6) (aj O O (cp O (TR.cnt (tSl cm.t) a2) (TR.agg (tSl cm.t) a2)) (aj O O (da O (co a2 Tryz.underlying22 _)) (aj O O (ct O O lh) ?_)));exact gK O O O O O k
     ·exact gN 7 O O O O O O
    refine nS ?_;refine ck z O ?_ ?_<;>clear z<;>intro c z<;>try simp only[qa]at c
    ·refine sR (mI O (mI O (nS ?_)));exact rT z O O O O O
    ·refine bc (aq (sR (mI O (mI O (nS ?_)))));exact rT z O O O O O
def RF259(res:Int×Int)(r:PV):Prop:=r= .tup [vi res.1,vi res.2]
theorem cv6{x0:ai}{x1:List Int}{v0 v1:PV}(r0:ai.t.R x0 v0)(r1:(tSl tI).R x1 v1)(hl:(x1.length:Int)=og x0.Op)(h1:1<=x1.length):FnR Tryz.prog 259 [v0,v1] (.tup [vi ((jw x0 x1).1),vi ((jw x0 x1).2)]):=by
 refine fnS (R:=RF259) dd4 (λ_ h=>h) O λres z=>?_;unfold jw at z;refine sR (ah (ej O (TR.cnt ai.t r0)) (mI O (mI O (nS (am (sR (fL O (ai.g_Op r0) O O (nS ?_))))))));refine bm (sR (bN dy O O (mV O (nS ?_))));refine ck z O ?_ ?_<;>clear z<;>intro c z<;>try simp only[qa]at c
 ·refine sR (mV O (ah (bn O O (slI (i:=0) r1 (by first|omega|(have hk:=opl hl;omega)|(have hk:=opl hl;have hj:=jor OY OY;omega)) (by first|omega|(have hk:=opl hl;omega)|(have hk:=opl hl;have hj:=jor OY OY;omega)))) (lR O O O (mV O (mI O (nS ?_))))));exact rT z O O O O O
 ·refine am (sR (bN dy O O (mV O (nS ?_))));obtain⟨b7,b6,z⟩:=br z;refine ni (F:=λb S Q=>∀(a0:Bool)(b2:a0=(if(decide (x0.Op=6))=true then(decide (x0.Op=6))else(decide (x0.Op=7)))),b7 a0=res->RC Tryz.prog b S Q [(13,vb a0),(7,vi x0.Op),(2,.fp v0),(1,v1)] ⟨0,[]⟩) ?_ ?_
  ·intro a0 b2 z;rw[<-b6]at z;refine ck z O ?_ ?_<;>clear z<;>intro c z<;>try simp only[qa]at c
   ·refine am (sR (fL O (ai.g_N r0) O O (bN cx O O (mV O ?_))));refine cq 4 (d:=23) (v:=vb ((decide (x0.N < 0))||(decide (31 < x0.N)))) ?_ ?_
    ·intro S Q r;cases b5:(decide (x0.N < 0))
     ·intro k;have a4:=b5;try simp only[qa]at a4
      refine aj O O (cw O (ai.g_N r0)) (aj O O (cp O O O) (aj O O (ct O O kh) ?_));exact gK O O O O O k
     ·exact gN 3 O O O O O O
    refine nS ?_;refine ck z O ?_ ?_<;>clear z<;>intro c z<;>try simp only[qa]at c
    ·refine sR (mI O (mI O (nS ?_)));exact rT z O O O O O
    ·refine bc (aq (sR (mV O (ah (bn O O (slI (i:=0) r1 (by first|omega|(have hk:=opl hl;omega)|(have hk:=opl hl;have hj:=jor OY OY;omega)) (by first|omega|(have hk:=opl hl;omega)|(have hk:=opl hl;have hj:=jor OY OY;omega)))) (lR O O O (mV O (mI O (nS ?_))))))));exact rT z O O O O O
   ·refine sR (bN dy O O (mV O (nS ?_)));refine ck z O ?_ ?_<;>clear z<;>intro c z<;>try simp only[qa]at c
    ·refine am (bm (sR (fL O (ai.g_N r0) O O (bN cx O O (mV O (nS ?_))))));refine ck z O ?_ ?_<;>clear z<;>intro c z<;>try simp only[qa]at c
     ·refine sR (mI O (mI O (nS ?_)));exact rT z O O O O O
     ·refine sR (fL O (ai.g_W r0) O O (bN cx O O (mV O ?_)));refine cq 4 (d:=41) (v:=vb ((decide (x0.W < 1))||(decide (32 < x0.W)))) ?_ ?_
      ·intro S Q r;cases b0:(decide (x0.W < 1))
       ·intro k;have a7:=b0;try simp only[qa]at a7
        refine aj O O (cw O (ai.g_W r0)) (aj O O (cp O O O) (aj O O (ct O O kh) ?_));exact gK O O O O O k
       ·exact gN 3 O O O O O O
      refine mV O ?_;refine cq 10 (d:=52) (v:=vb (((decide (x0.W < 1))||(decide (32 < x0.W)))||(decide ((wr ((ix x1 0)-x0.W)) < x0.N)))) ?_ ?_
      ·intro S Q r;cases b1:((decide (x0.W < 1))||(decide (32 < x0.W)))
       ·intro k;have a2:=b1;try simp only[qa]at a2
        refine aj O O (cw O (ai.g_N r0)) (aj O O (cp O O O) (aj O O (ba O) (aj O O (bn O O (slI (i:=0) r1 (by first|omega|(have hk:=opl hl;omega)|(have hk:=opl hl;have hj:=jor OY OY;omega)) (by first|omega|(have hk:=opl hl;omega)|(have hk:=opl hl;have hj:=jor OY OY;omega)))) (aj O O (cp O O O) (aj O O (cw O (ai.g_W r0)) (aj O O (cp O O O) (aj O O (ct O O vm) (aj O O (ct O O kh) ?_))))))));exact gK O O O O O k
       ·exact gN 9 O O O O O O
      refine mV O (nS ?_);refine ck z O ?_ ?_<;>clear z<;>intro c z<;>try simp only[qa]at c
      ·refine sR (mI O (mI O (nS ?_)));exact rT z O O O O O
      ·refine bc (de (aq (sR (fL O (ai.g_W r0) O O (mV O (mI O (nS ?_)))))));exact rT z O O O O O
    ·refine sR (bN dy O O (mV O (nS ?_)));refine ck z O ?_ ?_<;>clear z<;>intro c z<;>try simp only[qa]at c
     ·refine sR (mV O (ah (bn O O (slI (i:=0) r1 (by first|omega|(have hk:=opl hl;omega)|(have hk:=opl hl;have hj:=jor OY OY;omega)) (by first|omega|(have hk:=opl hl;omega)|(have hk:=opl hl;have hj:=jor OY OY;omega)))) (lR O O O (mV O (ah (bn O O (slI (i:=1) r1 (by first|omega|(have hk:=opl hl;omega)|(have hk:=opl hl;have hj:=jor OY OY;omega)) (by first|omega|(have hk:=opl hl;omega)|(have hk:=opl hl;have hj:=jor OY OY;omega)))) (lR O O O (bN dt O O ?_)))))));obtain⟨b8,b3,z⟩:=br z;have a9:=aq7 (x0:=(wr ((ix x1 0)+(ix x1 1))));rw[b3]at a9;refine cL a9 O O (ak O bp) (xT O O (xT O O (mV O (mV O (nS ?_)))));exact rT z O O O O O
     ·refine sR (bN dy O O (mV O (nS ?_)));refine ck z O ?_ ?_<;>clear z<;>intro c z<;>try simp only[qa]at c
      ·refine am (sR (mV O (ah (bn O O (slI (i:=0) r1 (by first|omega|(have hk:=opl hl;omega)|(have hk:=opl hl;have hj:=jor OY OY;omega)) (by first|omega|(have hk:=opl hl;omega)|(have hk:=opl hl;have hj:=jor OY OY;omega)))) (lR O O O (bN kx O O (mV O ?_))))));refine cq 8 (d:=81) (v:=vb ((!decide ((ix x1 0)=1))||(!decide ((ix x1 1)=(ix x1 2))))) ?_ ?_
       ·intro S Q r;cases a8:(!decide ((ix x1 0)=1))
        ·intro k;have a5:=a8;try simp only[qa]at a5
         refine aj O O (ba O) (aj O O (bn O O (slI (i:=1) r1 (by first|omega|(have hk:=opl hl;omega)|(have hk:=opl hl;have hj:=jor OY OY;omega)) (by first|omega|(have hk:=opl hl;omega)|(have hk:=opl hl;have hj:=jor OY OY;omega)))) (aj O O (cp O O O) (aj O O (ba O) (aj O O (bn O O (slI (i:=2) r1 (by first|omega|(have hk:=opl hl;omega)|(have hk:=opl hl;have hj:=jor OY OY;omega)) (by first|omega|(have hk:=opl hl;omega)|(have hk:=opl hl;have hj:=jor OY OY;omega)))) (aj O O (cp O O O) (aj O O (ct O O kx) ?_))))));exact gK O O O O O k
        ·exact gN 7 O O O O O O
       refine nS ?_;refine ck z O ?_ ?_<;>clear z<;>intro c z<;>try simp only[qa]at c
       ·refine sR (mI O (mI O (nS ?_)));exact rT z O O O O O
       ·refine bc (aq (sR (mV O (ah (bn O O (slI (i:=1) r1 (by first|omega|(have hk:=opl hl;omega)|(have hk:=opl hl;have hj:=jor OY OY;omega)) (by first|omega|(have hk:=opl hl;omega)|(have hk:=opl hl;have hj:=jor OY OY;omega)))) (lR O O O (mV O (mI O (nS ?_))))))));exact rT z O O O O O
      ·refine bc (de (aq (am (bm (sR (mV O (ah (bn O O (slI (i:=0) r1 (by first|omega|(have hk:=opl hl;omega)|(have hk:=opl hl;have hj:=jor OY OY;omega)) (by first|omega|(have hk:=opl hl;omega)|(have hk:=opl hl;have hj:=jor OY OY;omega)))) (lR O O O ?_))))))));refine mV O (ah (bn O O (slI (i:=1) r1 (by first|omega|(have hk:=opl hl;omega)|(have hk:=opl hl;have hj:=jor OY OY;omega)) (by first|omega|(have hk:=opl hl;omega)|(have hk:=opl hl;have hj:=jor OY OY;omega)))) (lR O O O (bN kx O O (mV O (nS ?_)))));refine ck z O ?_ ?_<;>clear z<;>intro c z<;>try simp only[qa]at c
       ·refine sR (mI O (mI O (nS ?_)));exact rT z O O O O O
       ·refine sR (fL O (ai.g_Op r0) O O (bN dy O O (mV O ?_)));refine cq 4 (d:=101) (v:=vb ((decide (x0.Op=15))||(decide (x0.Op=16)))) ?_ ?_
        ·intro S Q r;cases b4:(decide (x0.Op=15))
         ·intro k;have a3:=b4;try simp only[qa]at a3
          refine aj O O (cw O (ai.g_Op r0)) (aj O O (cp O O O) (aj O O (ct O O dy) ?_));exact gK O O O O O k
         ·exact gN 3 O O O O O O
        refine mV O (nS ?_);refine ck z O ?_ ?_<;>clear z<;>intro c z<;>try simp only[qa]at c
        ·refine sR (mI O (mI O (nS ?_)));exact rT z O O O O O
        ·refine bc (de (aq (sR (mV O (ah (bn O O (slI (i:=0) r1 (by first|omega|(have hk:=opl hl;omega)|(have hk:=opl hl;have hj:=jor OY OY;omega)) (by first|omega|(have hk:=opl hl;omega)|(have hk:=opl hl;have hj:=jor OY OY;omega)))) (lR O O O (mV O (mI O ?_))))))));refine nS ?_;exact rT z O O O O O
  ·intro J;refine ck z O ?_ ?_<;>clear z<;>intro a1 z<;>have a6:=a1<;>try simp only[qa]at a6
   ·refine bc ?_;refine aq (wC (J _ (aw9 a1).symm z) O)
   ·refine ax (bN dy O O (mV O (bq ?_)));refine aq (wC (J _ (ay2 a1).symm z) O)
end Go.Proofs.YtmonnlkagniolaaGreat
