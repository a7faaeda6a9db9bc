/-
 The code of each function does what its plain program says.
-/
import Derived.Test.YtmonnlkagniolaaGreatL4W4
set_option linter.all false
set_option maxRecDepth 100000
namespace Go.Proofs.YtmonnlkagniolaaGreat
open Go Go.Pb Go.RowKit
def RF84(res:Int)(r:PV):Prop:=r=vi res
theorem aw4{x0:aa}{x1:ae}{v0 v1:PV}(r0:aa.t.R x0 v0)(r1:ae.t.R x1 v1):FnR Tryz.prog 84 [v0,v1] (vi (fx x0 x1)):=by
 refine fnS (R:=RF84) ej4 (λ_ h=>h) O λres s=>?_;unfold fx at s;refine sR (ah (di O (TR.cnt aa.t r0)) (ah (di O (TR.cnt ae.t r1)) (mI O (nR (gL (aa.g_Metadata r0) O O O λc8 b9=>(mV O (nS (am ?_))))))));refine sR (fL O (ae.g_Header r1) O O (bN iz O O (nS ?_)));obtain⟨c4,a9,s⟩:=bp s;refine kp (F:=λb S Q=>∀(a0:List av)(a2:PV)(a1:(tSl av.t).R a0 a2),c4 a0=res->RC Tryz.prog b S Q [(5,a2),(3,.fp v1)] ⟨0,[]⟩) ?_ ?_
 ·intro a0 a2 a1 s;rw[<-a9]at s;refine am (sR (fL O (ae.g_Header r1) O O (bN (cn (b:= -1)) O O (mV O ?_))));refine bw 4 (d:=31) (v:=vb ((decide (x1.Header < (-1)))||(decide (x1.Field < 0)))) ?_ ?_
  ·intro S Q r;cases b1:(decide (x1.Header < (-1)))
   ·intro k;have a5:=b1;try simp only[qa]at a5
    refine ai O O (bt O (ae.g_Field r1)) (ai O O (bq O O O) (ai O O (br O O cn) ?_));exact gK O O O O O k
   ·exact gN 3 O O O O O O
  refine mV O ?_;refine bw 6 (d:=38) (v:=vb (((decide (x1.Header < (-1)))||(decide (x1.Field < 0)))||(decide ((a0.length:Int)<=x1.Field)))) ?_ ?_
  ·intro S Q r;cases a8:((decide (x1.Header < (-1)))||(decide (x1.Field < 0)))
   ·intro k;have a6:=a8;try simp only[qa]at a6
    refine ai O O (bt O (ae.g_Field r1)) (ai O O (bq O O O) (ai O O (ba O) (ai O O (co O (ca a1 Tryz.underlying23 _)) (ai O O (br O O iz) ?_))));exact gK O O O O O k
   ·exact gN 5 O O O O O O
  refine mV O ?_;refine bw 8 (d:=47) (v:=vb ((((decide (x1.Header < (-1)))||(decide (x1.Field < 0)))||(decide ((a0.length:Int)<=x1.Field)))||(decide (((ix a0 x1.Field).Width) < 1)))) ?_ ?_
  ·intro S Q r;cases b0:(((decide (x1.Header < (-1)))||(decide (x1.Field < 0)))||(decide ((a0.length:Int)<=x1.Field)))
   ·intro k;have a4:=b0;try simp only[qa]at a4
    refine ai O O (ba O) (ai O O (bt O (ae.g_Field r1)) (ai O O (bq O O O) ?_));obtain⟨d2,b4,c1⟩:=cv (i:=x1.Field) a1 Y Y;refine ai O O (bd O O b4) (ai O O (bt O (av.g_Width c1)) (ai O O (bq O O O) (ai O O (br O O cn) ?_)));exact gK O O O O O k
   ·exact gN 7 O O O O O O
  refine mV O ?_;refine bw 8 (d:=56) (v:=vb (((((decide (x1.Header < (-1)))||(decide (x1.Field < 0)))||(decide ((a0.length:Int)<=x1.Field)))||(decide (((ix a0 x1.Field).Width) < 1)))||(decide (32 < ((ix a0 x1.Field).Width))))) ?_ ?_
  ·intro S Q r;cases a7:((((decide (x1.Header < (-1)))||(decide (x1.Field < 0)))||(decide ((a0.length:Int)<=x1.Field)))||(decide (((ix a0 x1.Field).Width) < 1)))
   ·intro k;have a3:=a7;try simp only[qa]at a3
    refine ai O O (ba O) (ai O O (bt O (ae.g_Field r1)) (ai O O (bq O O O) ?_));obtain⟨d4,c6,b5⟩:=cv (i:=x1.Field) a1 Y Y;refine ai O O (bd O O c6) (ai O O (bt O (av.g_Width b5)) (ai O O (bq O O O) (ai O O (br O O fu) ?_)));exact gK O O O O O k
   ·exact gN 7 O O O O O O
  refine nS ?_;refine bv s O ?_ ?_<;>clear s<;>intro c s<;>try simp only[qa]at c
  ·refine sR (mI O (nS ?_));exact rR s O O O
  ·refine aw (aq (sR (mV O (fL O (ae.g_Field r1) O O ?_))));obtain⟨d1,c5,b2⟩:=cv (i:=x1.Field) a1 Y Y;refine ah (bd O O c5) (fL O (av.g_Width b2) O O (mV O (nS ?_)));exact rR s O O O
 ·intro J;refine bv s O ?_ ?_<;>clear s<;>intro c s<;>try simp only[qa]at c
  ·refine am (sR (fL O (ae.g_Header r1) O O (gL (aa.g_Headers r0) O O O λd5 b3=>(ah (co O (ca b3 Tryz.underlying22 _)) (bN iz O O (nS ?_))))));refine bv s O ?_ ?_<;>clear s<;>intro c s<;>try simp only[qa]at c
   ·refine sR (mI O (nS ?_));exact rR s O O O
   ·refine aw (aq (az (gL (aa.g_Headers r0) O O O λd0 b6=>(fL O (ae.g_Header r1) O O ?_))));obtain⟨c9,b8,c7⟩:=cv (i:=x1.Header) b6 Y Y;refine ah (bd O O b8) (gL (bm.g_Fields c7) O O O λd3 b7=>(mV O (cd ?_)));refine aq (wC (J _ _ b7 s) O)
  ·refine aw ?_;refine aq (wC (J _ _ b9 s) O)
def RF83(res:Bool)(r:PV):Prop:=r=vb res
theorem ap1{S:List Fr}{res:Bool}{x0:BitVec 32}{x1:Int}(hq:x1<=32){K0:(BitVec 64)->Bool}
 (a4:∀{a1:BitVec 64},K0 a1=res->PX Tryz.prog 0 S (QR Tryz.prog [(4,none)] (RF83 res)) [(0,de x0),(5,jg a1)] ⟨0,[]⟩):
 ∀{m:Nat}{a1:BitVec 64}{a0:Int}(a3:m=Int.toNat (x1-a0))(a2:0<=a0),sh K0 m a1 a0=res->RC Tryz.prog (.loop da5) S (QR Tryz.prog [(4,none)] (RF83 res)) [(6,vi a0),(5,jg a1),(1,vi x1),(0,de x0)] ⟨0,[]⟩:=by
 intro m;induction m with
 |zero=>
  intro a1 a0 a3 a2 s;rw[sh]at s;refine ck (am (sR (mV O (mV O (bN cn O O (nS ?_))))));refine ci O ?_ ?_<;>intro c<;>try simp only[qa]at c
  ·omega
  refine dg (dx (da ?_));exact wP (a4 s) O
 |succ m ih=>
  intro a1 a0 a3 a2 s;rw[sh]at s;refine ck (am (sR (mV O (mV O (bN cn O O (nS ?_))))));refine ci O ?_ ?_<;>intro c<;>try simp only[qa]at c
  rotate_left
  ·omega
  refine aw (aq (am (bg (az (mV O (ah (br (a:=jg 2#64) (b:=jg a1) O O az2) (mV O (cd ?_))))))));refine db (aq (az (mV O (bN dw O O (mV O (cd (cy ?_)))))));have hinc:wr (a0+1)=a0+1:=cz Y Y;erw[hinc];exact wC (ih Y Y s) O
theorem be0{x0:BitVec 32}{x1:Int}(hq:x1<=32):FnR Tryz.prog 83 [de x0,vi x1] (vb (sx x0 x1)):=by
 refine fnS (R:=RF83) el5 (λ_ h=>h) O λres s=>?_;unfold sx at s;refine sR (mB O (nR (ah (v:=jg 1#64) (ba O) (nS (am (sR (mI O (nS ?_))))))));refine bg ?_;refine wC (ap1 hq ?_ O Y s) O
 ·intro a0 s;refine ek (aq (sR (mV O (ah (jb (a:=de x0) O (c_wd Tryz.underlying89 Tryz.underlying201)) (mV O (ah (br (a:=jg (BitVec.setWidth 64 x0)) (b:=jg a0) O O ea1) (mV O (nS ?_))))))));exact rR s O O O
def RF256(res:Bool)(r:PV):Prop:=r=vb res
theorem bs7{x0:aa}{x1 x2:Int}{v0:PV}(r0:aa.t.R x0 v0):FnR Tryz.prog 256 [v0,vi x1,vi x2] (vb (zc x0 x1 x2)):=by
 refine fnS (R:=RF256) dj4 (λ_ h=>h) O λres s=>?_;unfold zc at s;refine sR (ah (di O (TR.cnt aa.t r0)) (mB O (nR (mV O (bN (du (b:= -1)) O O (mV O ?_))))));refine bw 3 (d:=12) (v:=vb ((decide (x2=(-1)))||(decide (x2=(-2))))) ?_ ?_
 ·intro S Q r;cases a4:(decide (x2=(-1)))
  ·intro k;have a0:=a4;try simp only[qa]at a0
   refine ai O O (ba O) (ai O O (br O O (du (b:= -2))) ?_);exact gK O O O O O k
  ·exact gN 2 O O O O O O
 refine mV O ?_;refine bw 11 (d:=24) (v:=vb (((decide (x2=(-1)))||(decide (x2=(-2))))||((decide (x1 < x2))&&(decide (x2 < (x0.States.length:Int)))))) ?_ ?_
 ·intro S Q r;cases a5:((decide (x2=(-1)))||(decide (x2=(-2))))
  ·intro k;have a2:=a5;try simp only[qa]at a2
   refine ai O O (ba O) (ai O O (ba O) (ai O O (br O O fu) (ai O O (ba O) ?_)));refine bw 6 (d:=23) (v:=vb ((decide (x1 < x2))&&(decide (x2 < (x0.States.length:Int))))) ?_ ?_
   ·intro S Q r;cases a6:(decide (x1 < x2))
    ·intro k;refine kr O O (kr O O (kr O O (kr O O (kr O O (ai (v:=vb false) O O (pp O O O O) ?_)))));exact wD k O
    ·intro k;have a1:=a6;try simp only[qa]at a1
     refine ai O O (ba O) ?_;obtain⟨a8,a7,a3⟩:=aa.g_States r0;refine ai O O (bt O a7) (ai O O (bq O (TR.cnt (tSl bh.t) a3) (TR.agg (tSl bh.t) a3)) (ai O O (co O (ca a3 Tryz.underlying27 _)) (ai O O (br O O cn) (ai (v:=vb (decide (x2 < (x0.States.length:Int)))) O O (pp O O O O) ?_))));exact wD k O
   exact gK O O O O O k
  ·exact gN 10 O O O O O O
 refine mV O (nS ?_);exact rR s O O O
def RF255(res:Int×Int)(r:PV):Prop:=r= .tup [vi res.1,vi res.2]
theorem am5{S:List Fr}{res:Int×Int}{x0:aa}{x1 a3:Int}{v0 a4:PV}{a5 a6:Nat}(r0:aa.t.R x0 v0)(e1:x0.States.length<=1000)(h1:0<=x1/\x1 < (x0.States.length:Int))(a8:bh.t.R (ix x0.States x1) a4)(d2:fx x0 ((ix x0.States x1).On)=a3)(d4:a3<=32){K0:Unit->(Int×Int)}
 (d7:∀{h:Heap}(M0:Mem h [⟨.op a5 a6 0,110,7,[a4]⟩]),K0 ()=res->PX Tryz.prog 0 S (QR Tryz.prog [(4,none),(5,none)] (RF255 res)) [] h):
 ∀{m:Nat}{a1:Int}(d3:m=Int.toNat ((((ix x0.States x1).Cases).length:Int)-a1))(a9:0<=a1){h:Heap}(M0:Mem h [⟨.op a5 a6 0,110,7,[a4]⟩]),qu x0 x1 a3 K0 m a1=res->RC Tryz.prog (.loop cv0) S (QR Tryz.prog [(4,none),(5,none)] (RF255 res)) [(8,vi a1),(7,vi a3),(6,.op a5 a6 0),(2,.fp v0),(1,vi x1)] h:=by
 intro m;induction m with
 |zero=>
  intro a1 d3 a9 h M0 s;rw[qu]at s;refine ck (am (sR (mV O (ah (cg O) ?_))));obtain⟨d8,c6,c9⟩:=bh.g_Cases a8;refine ah (ct (k:=0) M0 O O c6) (ah (co O (ca c9 Tryz.underlying108 _)) (bN cn O O (nS ?_)));refine ci O ?_ ?_<;>intro c<;>try simp only[qa]at c
  ·omega
  refine dg (dx (da ?_));exact wP (d7 (Mem.sub M0 (.cons_cons _ .slnil)) s) O
 |succ m ih=>
  intro a1 d3 a9 h M0 s;rw[qu]at s;refine ck (am (sR (mV O (ah (cg O) ?_))));obtain⟨d9,d1,b3⟩:=bh.g_Cases a8;refine ah (ct (k:=0) M0 O O d1) (ah (co O (ca b3 Tryz.underlying108 _)) (bN cn O O (nS ?_)));refine ci O ?_ ?_<;>intro c<;>try simp only[qa]at c
  rotate_left
  ·omega
  refine aw (aq (am (bg (sR (ah (cg O) ?_)))));obtain⟨e0,c5,d0⟩:=bh.g_Cases a8;refine ah (ct (k:=0) M0 O O c5) (mV O ?_);obtain⟨b7,b8,a2⟩:=cv (i:=a1) d0 Y Y;refine ah (bd O O b8) (lD a2 O O O ?_);refine dv (x:= .agg [de 0#32,de 0#32,vi 0]) M0 O O (λc1 c4 d6 c7=>?_);refine cx (k:=0) (v:=b7) c7 O O O (TR.cnt en.t a2) (λb9 a0=>?_);replace a0:Mem b9 [⟨.op c1 c4 0,313,3,[b7]⟩,⟨.op a5 a6 0,110,7,[a4]⟩]:=a0;refine nS (am (sR (ah (cg O) (ah (ct (k:=0) a0 O O (en.g_Value a2)) (mV O ?_)))));obtain⟨b4,b1,s⟩:=bp s;have b2:=be0 (x0:=(ix ((ix x0.States x1).Cases) a1).Value) (x1:=a3) (by first|assumption|omega|(rw[cz Y Y];omega)|(have hk:=rval rfl (And.right (And.left OY));omega)|(have hk:=rval OY OY;omega)|(have hk:=rval OY (And.left OY);omega)|(have hk:=rval OY (And.left (And.left OY));have hz:=rslc OY;omega)|(simp;done)|(simp only[List.length_append,List.length_nil,List.length_cons];omega)|(have hk:=(cq OY OY).1;omega)|(simp only[List.length_cons,List.length_nil];omega)|(simp only[List.length_append];have hk:=(cq OY OY).1;omega)|(simp only[List.length_append,List.length_nil];have hk:=(cq OY OY).1;omega));rw[b1]at b2;refine cL b2 O O (aj O (aj O bc)) (ah (fw O) (mV O ?_));refine bw 6 (d:=42) (v:=vb ((!b4)||(!(sx ((ix ((ix x0.States x1).Cases) a1).Mask) a3)))) ?_ ?_
  ·intro S Q r;cases b6:(!b4)
   ·intro k;have a7:=b6;try simp only[qa]at a7
    refine ai O O (cg O) (ai O O (ct (k:=0) a0 O O (en.g_Mask a2)) (ai O O (ba O) ?_));have c8:=be0 (x0:=(ix ((ix x0.States x1).Cases) a1).Mask) (x1:=a3) (by first|assumption|omega|(rw[cz Y Y];omega)|(have hk:=rval rfl (And.right (And.left OY));omega)|(have hk:=rval OY OY;omega)|(have hk:=rval OY (And.left OY);omega)|(have hk:=rval OY (And.left (And.left OY));have hz:=rslc OY;omega)|(simp;done)|(simp only[List.length_append,List.length_nil,List.length_cons];omega)|(have hk:=(cq OY OY).1;omega)|(simp only[List.length_cons,List.length_nil];omega)|(simp only[List.length_append];have hk:=(cq OY OY).1;omega)|(simp only[List.length_append,List.length_nil];have hk:=(cq OY OY).1;omega));refine ik O O (og O O (aj O (aj O bc)) c8) (ai O O (fw O) ?_);exact gK O O O O O k
   ·exact gN 5 O O O O O O
  refine nS ?_;refine bv s O ?_ ?_<;>clear s<;>intro c s<;>try simp only[qa]at c
  ·refine sR (mV O (mV O (mI O (nS ?_))));exact rT s O O O O O
  ·refine aw (aq (am (sR (ah (cg O) (ah (ct (k:=0) a0 O O (en.g_Value a2)) (ah (cg O) (ah (ct (k:=0) a0 O O (en.g_Mask a2)) (ah (br (a:=de ((ix ((ix x0.States x1).Cases) a1).Value)) (b:=de ((ix ((ix x0.States x1).Cases) a1).Mask)) O O dy3) ?_))))))));refine ah (cg O) (ah (ct (k:=0) a0 O O (en.g_Value a2)) (ah (br (a:=de (((ix ((ix x0.States x1).Cases) a1).Value)&&&((ix ((ix x0.States x1).Cases) a1).Mask))) (b:=de ((ix ((ix x0.States x1).Cases) a1).Value)) O O bk6) (nS ?_)));refine bv s O ?_ ?_<;>clear s<;>intro c s<;>try simp only[qa]at c
   ·refine sR (mV O (mV O (mI O (nS ?_))));exact rT s O O O O O
   ·refine aw (aq (sR (lD r0 O O O (mV O (ah (cg O) (ah (ct (k:=0) a0 O O (en.g_Next a2)) ?_))))));obtain⟨d5,b5,s⟩:=bp s;have b0:=bs7 (x1:=x1) (x2:=(ix ((ix x0.States x1).Cases) a1).Next) r0;rw[b5]at b0;refine cL b0 O O (aj (TR.clo aa.t r0) (aj O (aj O bc))) (ah (fw O) (nS ?_));refine bv s O ?_ ?_<;>clear s<;>intro c s<;>try simp only[qa]at c
    ·refine sR (mV O (mV O (mI O (nS ?_))));exact rT s O O O O O
    ·refine aw (db (aq (az (mV O (bN dw O O (mV O (cd (cy ?_))))))));have hbd:=dn b3;have hinc:wr (a1+1)=a1+1:=cz Y Y;erw[hinc];exact wC (ih Y Y (Mem.sub a0 (.cons _ (.cons_cons _ .slnil))) s) O
theorem dv6{x0:aa}{x1:Int}{v0:PV}(r0:aa.t.R x0 v0)(c4:x0.States.length<=1000)(h1:0<=x1/\x1 < (x0.States.length:Int)):FnR Tryz.prog 255 [v0,vi x1] (.tup [vi ((ww x0 x1).1),vi ((ww x0 x1).2)]):=by
 refine fnS (R:=RF255) do7 (λ_ h=>h) O λres s=>?_;unfold ww at s;refine sR (ah (di O (TR.cnt aa.t r0)) (mI O (mI O (nR ?_))));obtain⟨b6,a8,a6⟩:=aa.g_States r0;refine fA O a8 (lD a6 O O O (mV O ?_));obtain⟨a4,b0,a2⟩:=cv (i:=x1) a6 Y Y;refine ah (bd O O b0) (lD a2 O O O ?_);refine dv (x:= .agg [vs [],nilS,vb false,vi 0,vi 0,nilS,vi 0]) (Mem.nil ⟨0,[]⟩) O O (λa9 b1 c1 b3=>?_);refine cx (k:=0) (v:=a4) b3 O O O (TR.cnt bh.t a2) (λb5 a1=>?_);replace a1:Mem b5 [⟨.op a9 b1 0,110,7,[a4]⟩]:=a1;refine nR (lD r0 O O O (ah (cg O) ?_));obtain⟨b7,b4,a3⟩:=bh.g_On a2;refine ah (ct (k:=0) a1 O O b4) ?_;obtain⟨b2,a0,s⟩:=bp s;have a7:=aw4 r0 a3;rw[a0]at a7;have a5:b2<=32:=bw3 a0;refine cL a7 O O (aj (TR.clo aa.t r0) (aj (TR.clo ae.t a3) bc)) (mV O (nS (am (sR (mI O (nS (bg ?_)))))));refine wC (am5 r0 c4 h1 a2 a0 a5 ?_ O Y (Mem.sub a1 (.cons_cons _ .slnil)) s) O
 ·intro b8 b9 s;refine ek (aq (sR (mI O (mI O (nS ?_)))));exact rT s O O O O O
def RF211(res:Int×Int)(r:PV):Prop:=r= .tup [vi res.1,vi res.2]
theorem al6{S:List Fr}{res:Int×Int}{x0:aa}{x1:Int}{a6:Bool}{v0 a4:PV}{a1 a2:Nat}(r0:aa.t.R x0 v0)(b7:x0.States.length<=1000)(h1:0<=x1/\x1 < (x0.States.length:Int))(b1:bh.t.R (ix x0.States x1) a4)(b3:fb ((ix x0.States x1).Name)=a6)(a7:(!a6)=false){K0:Unit->(Int×Int)}
 (b4:∀{h:Heap}(M0:Mem h [⟨.op a1 a2 0,110,7,[a4]⟩]),K0 ()=res->PX Tryz.prog 0 S (QR Tryz.prog [(4,none),(5,none)] (RF211 res)) [(1,vi x1),(2,.fp v0),(6,.op a1 a2 0)] h):
 ∀{m:Nat}{a0:Int}(b2:m=Int.toNat (x1-a0))(a5:0<=a0){h:Heap}(M0:Mem h [⟨.op a1 a2 0,110,7,[a4]⟩]),rk x0 x1 K0 m a0=res->RC Tryz.prog (.loop ck6) S (QR Tryz.prog [(4,none),(5,none)] (RF211 res)) [(7,vi a0),(6,.op a1 a2 0),(2,.fp v0),(1,vi x1)] h:=by
 have a3:=a7;try simp only[qa]at a3
 intro m;induction m with
 |zero=>
  intro a0 b2 a5 h M0 s;rw[rk]at s;refine ck (am (sR (mV O (mV O (bN cn O O (nS ?_))))));refine ci O ?_ ?_<;>intro c<;>try simp only[qa]at c
  ·omega
  refine dg (dx (da ?_));exact wP (b4 (Mem.sub M0 (.cons_cons _ .slnil)) s) O
 |succ m ih=>
  intro a0 b2 a5 h M0 s;rw[rk]at s;refine ck (am (sR (mV O (mV O (bN cn O O (nS ?_))))));refine ci O ?_ ?_<;>intro c<;>try simp only[qa]at c
  rotate_left
  ·omega
  refine aw (aq (am (bg (sR (gL (aa.g_States r0) O O O λb5 a9=>(mV O ?_))))));obtain⟨b6,b0,a8⟩:=cv (i:=a0) a9 Y Y;refine ah (bd O O b0) (fL O (bh.g_Name a8) O O (ah (cg O) (ah (ct (k:=0) M0 O O (bh.g_Name b1)) (ah (br (a:=vs ((ix x0.States a0).Name)) (b:=vs ((ix x0.States x1).Name)) O O tk) (nS ?_)))));refine bv s O ?_ ?_<;>clear s<;>intro c s<;>try simp only[qa]at c
  ·refine sR (mI O (mI O (nS ?_)));exact rT s O O O O O
  ·refine aw (db (aq (az (mV O (bN dw O O (mV O (cd (cy ?_))))))));have hinc:wr (a0+1)=a0+1:=cz Y Y;erw[hinc];exact wC (ih Y Y (Mem.sub M0 (.cons_cons _ .slnil)) s) O
theorem ak7{S:List Fr}{res:Int×Int}{x0:aa}{x1:Int}{a9:Bool}{v0 a6:PV}{a1 a2:Nat}(r0:aa.t.R x0 v0)(d4:x0.States.length<=1000)(h1:0<=x1/\x1 < (x0.States.length:Int))(a3:bh.t.R (ix x0.States x1) a6)(c7:fb ((ix x0.States x1).Name)=a9)(b0:(!a9)=false)(b4:((decide (4 < (((ix x0.States x1).Extract).length:Int)))||(decide (8 < (((ix x0.States x1).Cases).length:Int))))=false){K2:Unit->(Int×Int)}
 (c8:∀{h:Heap}(M0:Mem h [⟨.op a1 a2 0,110,7,[a6]⟩]),K2 ()=res->PX Tryz.prog 2 S (QR Tryz.prog [(4,none),(5,none)] (RF211 res)) [(1,vi x1),(2,.fp v0),(6,.op a1 a2 0)] h):
 ∀{m:Nat}{a0:Int}(c6:m=Int.toNat ((((ix x0.States x1).Extract).length:Int)-a0))(b1:0<=a0){h:Heap}(M0:Mem h [⟨.op a1 a2 0,110,7,[a6]⟩]),qv x0 x1 K2 m a0=res->RC Tryz.prog (.loop cg4) S (QR Tryz.prog [(4,none),(5,none)] (RF211 res)) [(8,vi a0),(6,.op a1 a2 0),(2,.fp v0),(1,vi x1)] h:=by
 have a5:=b0;try simp only[qa]at a5
 have a4:=b4;try simp only[qa]at a4
 intro m;induction m with
 |zero=>
  intro a0 c6 b1 h M0 s;rw[qv]at s;refine ck (am (sR (mV O (ah (cg O) ?_))));obtain⟨d3,b9,b7⟩:=bh.g_Extract a3;refine ah (ct (k:=0) M0 O O b9) (ah (co O (ca b7 Tryz.underlying29 _)) (bN cn O O (nS ?_)));refine ci O ?_ ?_<;>intro c<;>try simp only[qa]at c
  ·omega
  refine dg (dx (da ?_));exact wP (c8 (Mem.sub M0 (.cons_cons _ .slnil)) s) O
 |succ m ih=>
  intro a0 c6 b1 h M0 s;rw[qv]at s;refine ck (am (sR (mV O (ah (cg O) ?_))));obtain⟨c9,c5,b2⟩:=bh.g_Extract a3;refine ah (ct (k:=0) M0 O O c5) (ah (co O (ca b2 Tryz.underlying29 _)) (bN cn O O (nS ?_)));refine ci O ?_ ?_<;>intro c<;>try simp only[qa]at c
  rotate_left
  ·omega
  refine aw (aq (am (bg (sR (ah (cg O) ?_)))));obtain⟨d2,c1,b8⟩:=bh.g_Extract a3;refine ah (ct (k:=0) M0 O O c1) (mV O (ah (bd O O (slI b8 Y Y)) (lR O O O (bN cn O O (mV O ?_)))));refine bw 10 (d:=67) (v:=vb ((decide ((ix ((ix x0.States x1).Extract) a0) < 0))||(decide ((x0.Headers.length:Int)<=(ix ((ix x0.States x1).Extract) a0))))) ?_ ?_
  ·intro S Q r;cases b3:(decide ((ix ((ix x0.States x1).Extract) a0) < 0))
   ·intro k;have a7:=b3;try simp only[qa]at a7
    refine ai O O (cg O) ?_;obtain⟨d0,b6,c4⟩:=bh.g_Extract a3;refine ai O O (ct (k:=0) M0 O O b6) (ai O O (ba O) (ai O O (bd O O (slI c4 Y Y)) (ai O O (bq O O O) ?_)));obtain⟨d1,b5,a8⟩:=aa.g_Headers r0;refine ai O O (bt O b5) (ai O O (bq O (TR.cnt (tSl bm.t) a8) (TR.agg (tSl bm.t) a8)) (ai O O (co O (ca a8 Tryz.underlying22 _)) (ai O O (br O O iz) ?_)));exact gK O O O O O k
   ·exact gN 9 O O O O O O
  refine nS ?_;refine bv s O ?_ ?_<;>clear s<;>intro c s<;>try simp only[qa]at c
  ·refine sR (mI O (mI O (nS ?_)));exact rT s O O O O O
  ·refine aw (db (aq (az (mV O (bN dw O O (mV O (cd (cy ?_))))))));have hbd:=dn b2;have hinc:wr (a0+1)=a0+1:=cz Y Y;erw[hinc];exact wC (ih Y Y (Mem.sub M0 (.cons_cons _ .slnil)) s) O
theorem di1{x0:aa}{x1:Int}{v0:PV}(r0:aa.t.R x0 v0)(e0:x0.States.length<=1000)(h1:0<=x1/\x1 < (x0.States.length:Int)):FnR Tryz.prog 211 [v0,vi x1] (.tup [vi ((wv x0 x1).1),vi ((wv x0 x1).2)]):=by
 refine fnS (R:=RF211) de4 (λ_ h=>h) O λres s=>?_;unfold wv at s;refine sR (ah (di O (TR.cnt aa.t r0)) (mI O (mI O (nR ?_))));obtain⟨e1,c6,b6⟩:=aa.g_States r0;refine fA O c6 (lD b6 O O O (mV O ?_));obtain⟨b5,d2,a0⟩:=cv (i:=x1) b6 Y Y;refine ah (bd O O d2) (lD a0 O O O ?_);refine dv (x:= .agg [vs [],nilS,vb false,vi 0,vi 0,nilS,vi 0]) (Mem.nil ⟨0,[]⟩) O O (λc8 d4 e7 d5=>?_);refine cx (k:=0) (v:=b5) d5 O O O (TR.cnt bh.t a0) (λd8 a4=>?_);replace a4:Mem d8 [⟨.op c8 d4 0,110,7,[b5]⟩]:=a4;refine nS (am (sR (ah (cg O) (ah (ct (k:=0) a4 O O (bh.g_Name a0)) ?_))));obtain⟨e2,a3,s⟩:=bp s;have b7:=vh (x0:=(ix x0.States x1).Name);rw[a3]at b7;refine cL b7 O O (aj O bc) (ah (fw O) (nS ?_));refine bv s O ?_ ?_<;>clear s<;>intro a1 s<;>have a7:=a1<;>try simp only[qa]at a7
 ·refine sR (mI O (mI O (nS ?_)));exact rT s O O O O O
 ·refine aw (aq (am (sR (mI O (nS (bg ?_))))));refine wC (al6 r0 e0 h1 a0 a3 a1 ?_ O Y (Mem.sub a4 (.cons_cons _ .slnil)) s) O
  ·intro f0 a8 s;refine ek (aq (am (sR (ah (cg O) ?_))));obtain⟨f1,d9,d0⟩:=bh.g_Extract a0;refine ah (ct (k:=0) a8 O O d9) (ah (co O (ca d0 Tryz.underlying29 _)) (bN fu O O (mV O ?_)));refine bw 5 (d:=43) (v:=vb ((decide (4 < (((ix x0.States x1).Extract).length:Int)))||(decide (8 < (((ix x0.States x1).Cases).length:Int))))) ?_ ?_
   ·intro S Q r;cases c5:(decide (4 < (((ix x0.States x1).Extract).length:Int)))
    ·intro k;have b1:=c5;try simp only[qa]at b1
     refine ai O O (cg O) ?_;obtain⟨e8,d3,c7⟩:=bh.g_Cases a0;refine ai O O (ct (k:=0) a8 O O d3) (ai O O (co O (ca c7 Tryz.underlying108 _)) (ai O O (br O O fu) ?_));exact gK O O O O O k
    ·exact gN 4 O O O O O O
   refine nS ?_;refine bv s O ?_ ?_<;>clear s<;>intro a5 s<;>have a6:=a5<;>try simp only[qa]at a6
   ·refine sR (mI O (mI O (nS ?_)));exact rT s O O O O O
   ·refine aw (aq (am (sR (mI O (nS (bg ?_))))));refine wC (ak7 r0 e0 h1 a0 a3 a1 a5 ?_ O Y (Mem.sub a8 (.cons_cons _ .slnil)) s) O
    ·intro e4 a2 s;refine ek (aq (am (sR (ah (cg O) (ah (ct (k:=0) a2 O O (bh.g_Select a0)) (mV O ?_))))));refine bw 6 (d:=76) (v:=vb (((ix x0.States x1).Select)&&(decide ((fx x0 ((ix x0.States x1).On))=0)))) ?_ ?_
     ·intro S Q r;cases c1:(ix x0.States x1).Select
      ·exact gN 5 O O O O O O
      ·intro k;have a9:=c1;try simp only[qa]at a9
       refine ai O O (bq O (TR.cnt aa.t r0) (TR.agg aa.t r0)) (ai O O (cg O) ?_);obtain⟨e3,d6,b2⟩:=bh.g_On a0;refine ai O O (ct (k:=0) a2 O O d6) ?_;have d7:=aw4 r0 b2;refine ik O O (og O O (aj (TR.clo aa.t r0) (aj (TR.clo ae.t b2) bc)) d7) (ai O O (br O O du) ?_);exact gK O O O O O k
     refine nS ?_;refine bv s O ?_ ?_<;>clear s<;>intro c s<;>try simp only[qa]at c
     ·refine sR (mI O (mI O (nS ?_)));exact rT s O O O O O
     ·refine aw (aq (am (sR (ah (cg O) (ah (ct (k:=0) a2 O O (bh.g_Select a0)) (ah (fw O) (mV O ?_)))))));refine bw 5 (d:=85) (v:=vb ((!((ix x0.States x1).Select))&&(decide (0 < (((ix x0.States x1).Cases).length:Int))))) ?_ ?_
      ·intro S Q r;cases b8:(!((ix x0.States x1).Select))
       ·exact gN 4 O O O O O O
       ·intro k;have b0:=b8;try simp only[qa]at b0
        refine ai O O (cg O) ?_;obtain⟨e6,c9,d1⟩:=bh.g_Cases a0;refine ai O O (ct (k:=0) a2 O O c9) (ai O O (co O (ca d1 Tryz.underlying108 _)) (ai O O (br O O fu) ?_));exact gK O O O O O k
      refine nS ?_;refine bv s O ?_ ?_<;>clear s<;>intro c s<;>try simp only[qa]at c
      ·refine sR (mI O (mI O (nS ?_)));exact rT s O O O O O
      ·refine aw (aq (sR (lD r0 O O O (mV O ?_))));obtain⟨e9,c4,s⟩:=bp s;have b4:=dv6 (x1:=x1) r0 (by first|assumption|omega|(rw[cz Y Y];omega)|(have hk:=rval rfl (And.right (And.left OY));omega)|(have hk:=rval OY OY;omega)|(have hk:=rval OY (And.left OY);omega)|(have hk:=rval OY (And.left (And.left OY));have hz:=rslc OY;omega)|(simp;done)|(simp only[List.length_append,List.length_nil,List.length_cons];omega)|(have hk:=(cq OY OY).1;omega)|(simp only[List.length_cons,List.length_nil];omega)|(simp only[List.length_append];have hk:=(cq OY OY).1;omega)|(simp only[List.length_append,List.length_nil];have hk:=(cq OY OY).1;omega)) (by first|assumption|omega|(rw[cz Y Y];omega)|(have hk:=rval rfl (And.right (And.left OY));omega)|(have hk:=rval OY OY;omega)|(have hk:=rval OY (And.left OY);omega)|(have hk:=rval OY (And.left (And.left OY));have hz:=rslc OY;omega)|(simp;done)|(simp only[List.length_append,List.length_nil,List.length_cons];omega)|(have hk:=(cq OY OY).1;omega)|(simp only[List.length_cons,List.length_nil];omega)|(simp only[List.length_append];have hk:=(cq OY OY).1;omega)|(simp only[List.length_append,List.length_nil];have hk:=(cq OY OY).1;omega));rw[c4]at b4;refine cL b4 O O (aj (TR.clo aa.t r0) (aj O bc)) (mV O (xT O O (xT O O (mV O (mV O (nS (am (sR ?_))))))));refine mV O (bN ie O O (nS ?_));refine bv s O ?_ ?_<;>clear s<;>intro c s<;>try simp only[qa]at c
       ·refine sR (mV O (mV O (mV O (mV O (nS ?_)))));exact rT s O O O O O
       ·refine aw (aq (am (sR (lD r0 O O O (mV O (ah (cg O) (ah (ct (k:=0) a2 O O (bh.g_Default a0)) ?_)))))));obtain⟨e5,b9,s⟩:=bp s;have b3:=bs7 (x1:=x1) (x2:=(ix x0.States x1).Default) r0;rw[b9]at b3;refine cL b3 O O (aj (TR.clo aa.t r0) (aj O (aj O bc))) (ah (fw O) (nS ?_));refine bv s O ?_ ?_<;>clear s<;>intro c s<;>try simp only[qa]at c
        ·refine sR (mI O (mI O (nS ?_)));exact rT s O O O O O
        ·refine aw (aq (sR (mI O (mI O (nS ?_)))));exact rT s O O O O O
def RF153(res:Int×Int×Int)(r:PV):Prop:=r= .tup [vi res.1,vi res.2.1,vi res.2.2]
theorem am2{S:List Fr}{res:Int×Int×Int}{x0:aa}{v0:PV}(r0:aa.t.R x0 v0)(b6:x0.States.length<=1000)(a5:(decide ((x0.States.length:Int)=0))=false)(a6:(decide (12 < (x0.States.length:Int)))=false){K0:Unit->(Int×Int×Int)}
 (b3:K0 ()=res->PX Tryz.prog 0 S (QR Tryz.prog [(2,none),(3,none),(4,none)] (RF153 res)) [] ⟨0,[]⟩):
 ∀{m:Nat}{a0:Int}(b1:m=Int.toNat ((x0.States.length:Int)-a0))(a4:0<=a0),ro x0 K0 m a0=res->RC Tryz.prog (.loop ck0) S (QR Tryz.prog [(2,none),(3,none),(4,none)] (RF153 res)) [(5,vi a0),(1,.fp v0)] ⟨0,[]⟩:=by
 have a3:=a5;try simp only[qa]at a3
 have a1:=a6;try simp only[qa]at a1
 intro m;induction m with
 |zero=>
  intro a0 b1 a4 s;rw[ro]at s;refine ck (am (sR (mV O (gL (aa.g_States r0) O O O λb2 a9=>(ah (co O (ca a9 Tryz.underlying27 _)) (bN cn O O (nS ?_)))))));refine ci O ?_ ?_<;>intro c<;>try simp only[qa]at c
  ·omega
  refine dg (dx (da ?_));exact wP (b3 s) O
 |succ m ih=>
  intro a0 b1 a4 s;rw[ro]at s;refine ck (am (sR (mV O ?_)));obtain⟨b5,b0,a2⟩:=aa.g_States r0;refine fA O b0 (lD a2 O O O (ah (co O (ca a2 Tryz.underlying27 _)) (bN cn O O (nS ?_))));refine ci O ?_ ?_<;>intro c<;>try simp only[qa]at c
  rotate_left
  ·omega
  refine aw (aq (am (bg (sR (lD r0 O O O (mV O ?_))))));obtain⟨b4,a7,s⟩:=bp s;have a8:=di1 (x1:=a0) r0 (by first|assumption|omega|(rw[cz Y Y];omega)|(have hk:=rval rfl (And.right (And.left OY));omega)|(have hk:=rval OY OY;omega)|(have hk:=rval OY (And.left OY);omega)|(have hk:=rval OY (And.left (And.left OY));have hz:=rslc OY;omega)|(simp;done)|(simp only[List.length_append,List.length_nil,List.length_cons];omega)|(have hk:=(cq OY OY).1;omega)|(simp only[List.length_cons,List.length_nil];omega)|(simp only[List.length_append];have hk:=(cq OY OY).1;omega)|(simp only[List.length_append,List.length_nil];have hk:=(cq OY OY).1;omega)) (by first|assumption|omega|(rw[cz Y Y];omega)|(have hk:=rval rfl (And.right (And.left OY));omega)|(have hk:=rval OY OY;omega)|(have hk:=rval OY (And.left OY);omega)|(have hk:=rval OY (And.left (And.left OY));have hz:=rslc OY;omega)|(simp;done)|(simp only[List.length_append,List.length_nil,List.length_cons];omega)|(have hk:=(cq OY OY).1;omega)|(simp only[List.length_cons,List.length_nil];omega)|(simp only[List.length_append];have hk:=(cq OY OY).1;omega)|(simp only[List.length_append,List.length_nil];have hk:=(cq OY OY).1;omega));rw[a7]at a8;refine cL a8 O O (aj (TR.clo aa.t r0) (aj O bc)) (mV O (xT O O (xT O O (mV O (mV O (nR (mV O (bN ie O O ?_))))))));refine nS ?_;refine bv s O ?_ ?_<;>clear s<;>intro c s<;>try simp only[qa]at c
  ·refine sR (mV O (mV O (mV O (mV O (mV O (mV O (nS ?_)))))));subst s;exact fa (.tmp O (.tmp O (.tmp O .nil))) (cw (show closed (.tup _)=true from(aj O (aj O (aj O bc))))) O
  ·refine aw (db (aq (az (mV O (bN dw O O (mV O (cd (cy ?_))))))));have hbd:=dn a2;have hinc:wr (a0+1)=a0+1:=cz Y Y;erw[hinc];exact wC (ih Y Y s) O
theorem du6{x0:aa}{v0:PV}(r0:aa.t.R x0 v0)(a8:x0.States.length<=1000):FnR Tryz.prog 153 [v0] (.tup [vi ((ut x0).1),vi ((ut x0).2.1),vi ((ut x0).2.2)]):=by
 refine fnS (R:=RF153) dj0 (λ_ h=>h) O λres s=>?_;unfold ut at s;refine sR (ah (di O (TR.cnt aa.t r0)) (mI O (mI O (mI O (nS (am (sR (gL (aa.g_States r0) O O O λa7 a6=>?_))))))));refine ah (co O (ca a6 Tryz.underlying27 _)) (bN du O O (nS ?_));refine bv s O ?_ ?_<;>clear s<;>intro a0 s<;>have a2:=a0<;>try simp only[qa]at a2
 ·refine sR (mI O (mI O (mI O (nS ?_))));subst s;exact fa (.tmp O (.tmp O (.tmp O .nil))) (cw (show closed (.tup _)=true from(aj O (aj O (aj O bc))))) O
 ·refine aw (aq (am (sR ?_)));obtain⟨a9,a5,a4⟩:=aa.g_States r0;refine fA O a5 (lD a4 O O O (ah (co O (ca a4 Tryz.underlying27 _)) (bN fu O O (nS ?_))));refine bv s O ?_ ?_<;>clear s<;>intro a1 s<;>have a3:=a1<;>try simp only[qa]at a3
  ·refine sR (mI O (mI O (mI O (nS ?_))));subst s;exact fa (.tmp O (.tmp O (.tmp O .nil))) (cw (show closed (.tup _)=true from(aj O (aj O (aj O bc))))) O
  ·refine aw (aq (am (sR (mI O (nS (bg ?_))))));refine wC (am2 r0 a8 a0 a1 ?_ O Y s) O
   ·intro s;refine ek (aq (sR (mI O (mI O (mI O (nS ?_))))));subst s;exact fa (.tmp O (.tmp O (.tmp O .nil))) (cw (show closed (.tup _)=true from(aj O (aj O (aj O bc))))) O
def RF212(res:Int)(r:PV):Prop:=r=vi res
theorem aj5{S:List Fr}{res:Int}{x0:List ab}{rec_:(List ab)->Int}{mu_:Nat}{v0:PV}(r0:(tSl ab.t).R x0 v0)(ihR:∀{z0:List ab}{b6:PV}(c7:(tSl ab.t).R z0 b6),csl z0 < mu_->FnR Tryz.prog 212 [b6] (vi (rec_ z0)))(hmu:mu_=csl x0){K0:Int->Int}
 (b9:∀{a3:Int},K0 a3=res->PX Tryz.prog 0 S (QR Tryz.prog [(2,none)] (RF212 res)) [(3,vi a3)] ⟨0,[]⟩):
 ∀{m:Nat}{a3 a0:Int}(b5:m=Int.toNat ((x0.length:Int)-a0))(a4:0<=a0),qw x0 rec_ K0 m a3 a0=res->RC Tryz.prog (.loop ct5) S (QR Tryz.prog [(2,none)] (RF212 res)) [(4,vi a0),(3,vi a3),(0,v0)] ⟨0,[]⟩:=by
 intro m;induction m with
 |zero=>
  intro a3 a0 b5 a4 s;rw[qw]at s;refine ck (am (sR (mV O (mV O (ah (co O (ca r0 Tryz.underlying28 _)) (bN cn O O (nS ?_)))))));refine ci O ?_ ?_<;>intro c<;>try simp only[qa]at c
  ·omega
  refine dg (dx (da ?_));exact wP (b9 s) O
 |succ m ih=>
  intro a3 a0 b5 a4 s;rw[qw]at s;refine ck (am (sR (mV O (mV O (ah (co O (ca r0 Tryz.underlying28 _)) (bN cn O O (nS ?_)))))));refine ci O ?_ ?_<;>intro c<;>try simp only[qa]at c
  rotate_left
  ·omega
  refine aw (aq (am (bg (az (mV O (mV O (mV O ?_)))))));obtain⟨c6,b2,b4⟩:=cv (i:=a0) r0 Y Y;refine ah (bd O O b2) ?_;obtain⟨c5,b0,a2⟩:=ab.g_Then b4;refine fA O b0 (lD a2 O O O ?_);obtain⟨b7,a5,s⟩:=bp s;have a8:=ihR (z0:=(ix x0 a0).Then) a2 (by(have hk:=aa9 (l:=x0) Y Y;omega));rw[a5]at a8;refine cL a8 O O (aj (TR.clo (tSl ab.t) a2) bc) (bN dw O O (mV O (mV O ?_)));obtain⟨b8,b3,a9⟩:=cv (i:=a0) r0 Y Y;refine ah (bd O O b3) ?_;obtain⟨c4,b1,a1⟩:=ab.g_Else a9;refine fA O b1 (lD a1 O O O ?_);obtain⟨c1,a6,s⟩:=bp s;have a7:=ihR (z0:=(ix x0 a0).Else) a1 (by(have hk:=aa9 (l:=x0) Y Y;omega));rw[a6]at a7;refine cL a7 O O (aj (TR.clo (tSl ab.t) a1) bc) (bN dw O O (bN dw O O (mV O (cd (db (aq (az (mV O ?_))))))));refine bN dw O O (mV O (cd (cy ?_)));have hbd:=dn r0;have hinc:wr (a0+1)=a0+1:=cz Y Y;erw[hinc];exact wC (ih Y Y s) O
theorem cj1{rec_:(List ab)->Int}{mu_:Nat}{x0:List ab}{v0:PV}(r0:(tSl ab.t).R x0 v0)(hmu:mu_=csl x0)(ihR:∀{z0:List ab}{a1:PV}(a2:(tSl ab.t).R z0 a1),csl z0 < mu_->FnR Tryz.prog 212 [a1] (vi (rec_ z0))):FnR Tryz.prog 212 [v0] (vi (uj rec_ x0)):=by
 refine fnS (R:=RF212) du5 (λ_ h=>h) O λres s=>?_;unfold uj at s;refine sR (mI O (nR (mI O (nS (am (sR (mI O (nS ?_))))))));refine bg ?_;refine wC (aj5 r0 ihR hmu ?_ O Y s) O
 ·intro a0 s;refine ek (aq (sR (mV O (mV O (nS ?_)))));exact rR s O O O
theorem cr8:∀(n_:Nat){x0:List ab}{v0:PV}(r0:(tSl ab.t).R x0 v0),csl x0 < n_->FnR Tryz.prog 212 [v0] (vi (qb n_ x0)):=by
 intro n_;induction n_ with
 |zero=>intros;rename_i hlt;exact absurd hlt (Nat.not_lt_zero _)
 |succ n_ ihn=>
  intro x0 v0 r0 hlt;have e_:qb (n_+1) x0=uj (qb n_) x0:=by rw[qb]
  rw[e_];exact cj1 r0 O (λ{z0}{zv0} zr0 hz=>ihn zr0 Y)
theorem cz1{x0:List ab}{v0:PV}(r0:(tSl ab.t).R x0 v0):FnR Tryz.prog 212 [v0] (vi (ac1 x0)):=cr8 _ r0 (Nat.lt_succ_self _)
def RF213(res:Int)(r:PV):Prop:=r=vi res
theorem ae9{S:List Fr}{res:Int}{x0:List ab}{rec_:(List ab)->Int}{mu_:Nat}{v0:PV}(r0:(tSl ab.t).R x0 v0)(ihR:∀{z0:List ab}{b4:PV}(c5:(tSl ab.t).R z0 b4),csl z0 < mu_->FnR Tryz.prog 213 [b4] (vi (rec_ z0)))(hmu:mu_=csl x0){K0:Int->Int}
 (b7:∀{a1:Int},K0 a1=res->PX Tryz.prog 0 S (QR Tryz.prog [(2,none)] (RF213 res)) [(3,vi a1)] ⟨0,[]⟩):
 ∀{m:Nat}{a1 a0:Int}(b3:m=Int.toNat ((x0.length:Int)-a0))(a2:0<=a0),ow x0 rec_ K0 m a1 a0=res->RC Tryz.prog (.loop cw7) S (QR Tryz.prog [(2,none)] (RF213 res)) [(4,vi a0),(3,vi a1),(0,v0)] ⟨0,[]⟩:=by
 intro m;induction m with
 |zero=>
  intro a1 a0 b3 a2 s;rw[ow]at s;refine ck (am (sR (mV O (mV O (ah (co O (ca r0 Tryz.underlying28 _)) (bN cn O O (nS ?_)))))));refine ci O ?_ ?_<;>intro c<;>try simp only[qa]at c
  ·omega
  refine dg (dx (da ?_));exact wP (b7 s) O
 |succ m ih=>
  intro a1 a0 b3 a2 s;rw[ow]at s;refine ck (am (sR (mV O (mV O (ah (co O (ca r0 Tryz.underlying28 _)) (bN cn O O (nS ?_)))))));refine ci O ?_ ?_<;>intro c<;>try simp only[qa]at c
  rotate_left
  ·omega
  refine aw (aq (am (bg (az (mV O (mV O (mV O ?_)))))));obtain⟨c4,b0,b2⟩:=cv (i:=a0) r0 Y Y;refine ah (bd O O b0) (gL (ab.g_Then b2) O O O λc1 a8=>?_);obtain⟨b5,a3,s⟩:=bp s;have a7:=ihR (z0:=(ix x0 a0).Then) a8 (by(have hk:=aa9 (l:=x0) Y Y;omega));rw[a3]at a7;refine cL a7 O O (aj (TR.clo (tSl ab.t) a8) bc) (bN dw O O (mV O (mV O ?_)));obtain⟨b6,b1,a9⟩:=cv (i:=a0) r0 Y Y;refine ah (bd O O b1) (gL (ab.g_Else a9) O O O λb9 a5=>?_);obtain⟨b8,a4,s⟩:=bp s;have a6:=ihR (z0:=(ix x0 a0).Else) a5 (by(have hk:=aa9 (l:=x0) Y Y;omega));rw[a4]at a6;refine cL a6 O O (aj (TR.clo (tSl ab.t) a5) bc) (bN dw O O (ah (co O (ck4 _ _)) (mV O (cd (db (aq (az (mV O ?_))))))));refine bN dw O O (mV O (cd (cy ?_)));have hbd:=dn r0;have hinc:wr (a0+1)=a0+1:=cz Y Y;erw[hinc];exact wC (ih Y Y s) O
theorem ck9{rec_:(List ab)->Int}{mu_:Nat}{x0:List ab}{v0:PV}(r0:(tSl ab.t).R x0 v0)(hmu:mu_=csl x0)(ihR:∀{z0:List ab}{a1:PV}(a2:(tSl ab.t).R z0 a1),csl z0 < mu_->FnR Tryz.prog 213 [a1] (vi (rec_ z0))):FnR Tryz.prog 213 [v0] (vi (sq rec_ x0)):=by
 refine fnS (R:=RF213) du4 (λ_ h=>h) O λres s=>?_;unfold sq at s;refine sR (mI O (nR (mI O (nS (am (sR (mI O (nS ?_))))))));refine bg ?_;refine wC (ae9 r0 ihR hmu ?_ O Y s) O
 ·intro a0 s;refine ek (aq (sR (mV O (mV O (nS ?_)))));exact rR s O O O
theorem ct9:∀(n_:Nat){x0:List ab}{v0:PV}(r0:(tSl ab.t).R x0 v0),csl x0 < n_->FnR Tryz.prog 213 [v0] (vi (nu n_ x0)):=by
 intro n_;induction n_ with
 |zero=>intros;rename_i hlt;exact absurd hlt (Nat.not_lt_zero _)
 |succ n_ ihn=>
  intro x0 v0 r0 hlt;have e_:nu (n_+1) x0=sq (nu n_) x0:=by rw[nu]
  rw[e_];exact ck9 r0 O (λ{z0}{zv0} zr0 hz=>ihn zr0 Y)
theorem dl0{x0:List ab}{v0:PV}(r0:(tSl ab.t).R x0 v0):FnR Tryz.prog 213 [v0] (vi (xp x0)):=ct9 _ r0 (Nat.lt_succ_self _)
end Go.Proofs.YtmonnlkagniolaaGreat
