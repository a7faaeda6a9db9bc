/-
 The code of each function does what its plain program says.
-/
import Derived.Test.YtmonnlkagniolaaGreatL4W0
set_option linter.all false
set_option maxRecDepth 100000
namespace Go.Proofs.YtmonnlkagniolaaGreat
open Go Go.Pb Go.RowKit
def RF176(res:Bool)(r:PV):Prop:=r=vb res
theorem dk4{x0:UInt8}:FnR Tryz.prog 176 [vu8 x0] (vb (qx x0)):=by
 refine fnS (R:=RF176) dr4 (λ_ h=>h) O λres s=>?_;unfold qx at s;refine sR (mB O (nR (mV O (ah (br (a:=vu8 x0) (b:=vu8 (48:UInt8)) O O az4) (mV O ?_)))));refine bw 3 (d:=8) (v:=vb ((decide ((48:UInt8)<=x0))&&(decide (x0<=(57:UInt8))))) ?_ ?_
 ·intro S Q r;cases a1:(decide ((48:UInt8)<=x0))
  ·exact gN 2 O O O O O O
  ·intro k;have a0:=a1;try simp only[qa]at a0
   refine ai O O (ba O) (ai O O (br (a:=vu8 x0) (b:=vu8 (57:UInt8)) O O ba4) ?_);exact gK O O O O O k
 refine mV O (nS ?_);exact rR s O O O
def RF105(res:Bool)(r:PV):Prop:=r=vb res
theorem xu{S:List Fr}{res:Bool}{x0:List UInt8}(a8:(((decide (x0=([]:List UInt8)))||(decide (16 < (x0.length:Int))))||(!(ny (ix x0 0))))=false){K0:Unit->Bool}
 (b3:K0 ()=res->PX Tryz.prog 0 S (QR Tryz.prog [(2,none)] (RF105 res)) [] ⟨0,[]⟩):
 ∀{m:Nat}{a0:Int}(b2:m=Int.toNat ((x0.length:Int)-a0))(a5:0<=a0),jf x0 K0 m a0=res->RC Tryz.prog (.loop cr3) S (QR Tryz.prog [(2,none)] (RF105 res)) [(3,vi a0),(0,vs x0)] ⟨0,[]⟩:=by
 have a3:=a8;try simp only[qa]at a3
 intro m;induction m with
 |zero=>
  intro a0 b2 a5 s;rw[jf]at s;refine ck (am (sR (mV O (mV O (ah (co O (qe Tryz.underlying9)) (bN cn O O (nS ?_)))))));refine ci O ?_ ?_<;>intro c<;>try simp only[qa]at c
  ·omega
  refine dg (dx (da ?_));exact wP (b3 s) O
 |succ m ih=>
  intro a0 b2 a5 s;rw[jf]at s;refine ck (am (sR (mV O (mV O (ah (co O (qe Tryz.underlying9)) (bN cn O O (nS ?_)))))));refine ci O ?_ ?_<;>intro c<;>try simp only[qa]at c
  rotate_left
  ·omega
  refine aw (aq (am (bg (sR (mV O (mV O (ah (ub O O (yt Tryz.underlying9 (by first|omega|(have hp:=List.length_pos_iff.2 (And.left (by assumption:¬x0=[]/\_));omega)) (by first|omega|(have hp:=List.length_pos_iff.2 (And.left (by assumption:¬x0=[]/\_));omega)))) ?_)))))));obtain⟨a1,a6,s⟩:=bp s;have b0:=cb8 (x0:=(ix x0 a0));rw[a6]at b0;refine cL b0 O O (aj O bc) (ah (fw O) (mV O ?_));refine bw 6 (d:=34) (v:=vb ((!a1)&&(!(qx (ix x0 a0))))) ?_ ?_
  ·intro S Q r;cases a7:(!a1)
   ·exact gN 5 O O O O O O
   ·intro k;have a2:=a7;try simp only[qa]at a2
    refine ai O O (ba O) (ai O O (ba O) (ai O O (ub O O (yt Tryz.underlying9 (by first|omega|(have hp:=List.length_pos_iff.2 (And.left (by assumption:¬x0=[]/\_));omega)) (by first|omega|(have hp:=List.length_pos_iff.2 (And.left (by assumption:¬x0=[]/\_));omega)))) ?_));have b1:=dk4 (x0:=(ix x0 a0));refine ik O O (og O O (aj O bc) b1) (ai O O (fw O) ?_);exact gK O O O O O k
  refine mV O ?_;refine bw 5 (d:=40) (v:=vb (((!a1)&&(!(qx (ix x0 a0))))&&(!decide ((ix x0 a0)=(95:UInt8))))) ?_ ?_
  ·intro S Q r;cases a9:((!a1)&&(!(qx (ix x0 a0))))
   ·exact gN 4 O O O O O O
   ·intro k;have a4:=a9;try simp only[qa]at a4
    refine ai O O (ba O) (ai O O (ba O) (ai O O (ub O O (yt Tryz.underlying9 (by first|omega|(have hp:=List.length_pos_iff.2 (And.left (by assumption:¬x0=[]/\_));omega)) (by first|omega|(have hp:=List.length_pos_iff.2 (And.left (by assumption:¬x0=[]/\_));omega)))) (ai O O (br (a:=vu8 (ix x0 a0)) (b:=vu8 (95:UInt8)) O O ff6) ?_)));exact gK O O O O O k
  refine nS ?_;refine bv s O ?_ ?_<;>clear s<;>intro c s<;>try simp only[qa]at c
  ·refine sR (mB O (nS ?_));exact rR s O O O
  ·refine aw (db (aq (az (mV O (bN dw O O (mV O (cd (cy ?_))))))));have hinc:wr (a0+1)=a0+1:=cz Y Y;erw[hinc];exact wC (ih Y Y s) O
theorem vh{x0:List UInt8}:FnR Tryz.prog 105 [vs x0] (vb (fb x0)):=by
 refine fnS (R:=RF105) dk9 (λ_ h=>h) O λres s=>?_;unfold fb at s;refine sR (mB O (nS (am (sR (mV O (ah (br (a:=vs x0) (b:=vs ([]:List UInt8)) O O tk) (mV O ?_)))))));refine bw 4 (d:=10) (v:=vb ((decide (x0=([]:List UInt8)))||(decide (16 < (x0.length:Int))))) ?_ ?_
 ·intro S Q r;cases a4:(decide (x0=([]:List UInt8)))
  ·intro k;have a2:=a4;try simp only[qa]at a2
   refine ai O O (ba O) (ai O O (co O (qe Tryz.underlying9)) (ai O O (br O O fu) ?_));exact gK O O O O O k
  ·exact gN 3 O O O O O O
 refine mV O ?_;refine bw 5 (d:=16) (v:=vb (((decide (x0=([]:List UInt8)))||(decide (16 < (x0.length:Int))))||(!(ny (ix x0 0))))) ?_ ?_
 ·intro S Q r;cases a5:((decide (x0=([]:List UInt8)))||(decide (16 < (x0.length:Int))))
  ·intro k;have a3:=a5;try simp only[qa]at a3
   refine ai O O (ba O) (ai O O (ub O O (yt (i:=0) Tryz.underlying9 (by first|omega|(have hp:=List.length_pos_iff.2 (And.left (by assumption:¬x0=[]/\_));omega)) (by first|omega|(have hp:=List.length_pos_iff.2 (And.left (by assumption:¬x0=[]/\_));omega)))) ?_);have a6:=cb8 (x0:=(ix x0 0));refine ik O O (og O O (aj O bc) a6) (ai O O (fw O) ?_);exact gK O O O O O k
  ·exact gN 4 O O O O O O
 refine nS ?_;refine bv s O ?_ ?_<;>clear s<;>intro a0 s<;>have a1:=a0<;>try simp only[qa]at a1
 ·refine sR (mB O (nS ?_));exact rR s O O O
 ·refine aw (aq (am (sR (mI O (nS (bg ?_))))));refine wC (xu a0 ?_ O Y s) O
  ·intro s;refine ek (aq (sR (mB O (nS ?_))));exact rR s O O O
def RF148(res:af)(r:PV):Prop:=af.t.R res r
theorem nw{x0 x1 x2 x3:Int}:∃r,FnR Tryz.prog 148 [vi x0,vi x1,vi x2,vi x3] r/\af.t.R (ku x0 x1 x2 x3) r:=by
 refine fnT (R:=RF148) do0 O λres s=>?_;unfold ku at s;refine sR ?_;refine dv (x:= .agg [vi 0,vi 0,vi 0,vi 0]) (Mem.nil ⟨0,[]⟩) O O (λa3 a1 a5 a2=>?_);refine nR (mV O (mV O (mV O (mV O (ah (v:= .agg [vi x0,vi x1,vi x2,vi x3]) (gm (cs:=[vi x0,vi x1,vi x2,vi x3]) O O) ?_)))));refine cx (k:=0) (v:= .agg [vi x0,vi x1,vi x2,vi x3]) a2 O O O O (λa4 a0=>?_);replace a0:Mem a4 [⟨.op a3 a1 0,53,4,[.agg [vi x0,vi x1,vi x2,vi x3]]⟩]:=a0;refine nS ?_;subst s;exact fa (.cell O (dq (k:=0) a0 O O) .nil) (cw (TR.clo af.t (show af.t.R ({Code:=x0,Part:=x1,Item:=x2,Sub:=x3}:af) (.agg [vi x0,vi x1,vi x2,vi x3]) from O))) (show af.t.R ({Code:=x0,Part:=x1,Item:=x2,Sub:=x3}:af) (.agg [vi x0,vi x1,vi x2,vi x3]) from O)
def RF75(res:af)(r:PV):Prop:=af.t.R res r
theorem ef4{x0:aa}{v0:PV}(r0:aa.t.R x0 v0):∃r,FnR Tryz.prog 75 [v0] r/\af.t.R (zp x0) r:=by
 refine fnT (R:=RF75) ep6 O λres s=>?_;unfold zp at s;refine sR (ah (di O (TR.cnt aa.t r0)) ?_);refine dv (x:= .agg [vi 0,vi 0,vi 0,vi 0]) (Mem.nil ⟨0,[]⟩) O O (λa1 a0 f0 a2=>?_);refine nS (am (bg (sR (fL O (aa.g_Name r0) O O ?_))));obtain⟨e6,b8,s⟩:=bp s;have c8:=vh (x0:=x0.Name);rw[b8]at c8;refine cL c8 O O (aj O bc) (ah (fw O) (mV O (nS ?_)));refine bv s O ?_ ?_<;>clear s<;>intro c s<;>try simp only[qa]at c
 ·refine sR ?_;obtain⟨e5,b9,s⟩:=bp s;obtain⟨b4,d6,a5⟩:=nw (x0:=6) (x1:=0) (x2:=0) (x3:=0);rw[b9]at a5;refine cL d6 O O (aj O (aj O (aj O (aj O bc)))) ?_;refine cx (k:=0) (v:=b4) a2 O O O (TR.cnt af.t a5) (λd9 b2=>?_);replace b2:Mem d9 [⟨.op a1 a0 0,53,4,[b4]⟩]:=b2;refine nS ?_;subst s;exact fa (.cell O (dq (k:=0) b2 O (TR.agg af.t a5)) .nil) (cw (TR.clo af.t a5)) a5
 ·refine sR (gL (aa.g_Headers r0) O O O λe7 e3=>(ah (co O (ca e3 Tryz.underlying22 _)) (bN fu O O (mV O (nS ?_)))));refine bv s O ?_ ?_<;>clear s<;>intro c s<;>try simp only[qa]at c
  ·refine sR ?_;obtain⟨e9,c4,s⟩:=bp s;obtain⟨c5,e1,a6⟩:=nw (x0:=12) (x1:=0) (x2:=1) (x3:=0);rw[c4]at a6;refine cL e1 O O (aj O (aj O (aj O (aj O bc)))) ?_;refine cx (k:=0) (v:=c5) a2 O O O (TR.cnt af.t a6) (λd0 b1=>?_);replace b1:Mem d0 [⟨.op a1 a0 0,53,4,[c5]⟩]:=b1;refine nS ?_;subst s;exact fa (.cell O (dq (k:=0) b1 O (TR.agg af.t a6)) .nil) (cw (TR.clo af.t a6)) a6
  ·refine sR (gL (aa.g_Registers r0) O O O λf1 e2=>(ah (co O (ca e2 Tryz.underlying24 _)) (bN fu O O (mV O (nS ?_)))));refine bv s O ?_ ?_<;>clear s<;>intro c s<;>try simp only[qa]at c
   ·refine sR ?_;obtain⟨e8,b5,s⟩:=bp s;obtain⟨c1,d7,a3⟩:=nw (x0:=12) (x1:=0) (x2:=3) (x3:=0);rw[b5]at a3;refine cL d7 O O (aj O (aj O (aj O (aj O bc)))) ?_;refine cx (k:=0) (v:=c1) a2 O O O (TR.cnt af.t a3) (λd1 b3=>?_);replace b3:Mem d1 [⟨.op a1 a0 0,53,4,[c1]⟩]:=b3;refine nS ?_;subst s;exact fa (.cell O (dq (k:=0) b3 O (TR.agg af.t a3)) .nil) (cw (TR.clo af.t a3)) a3
   ·refine sR (gL (aa.g_Actions r0) O O O λf2 d4=>(ah (co O (ca d4 Tryz.underlying25 _)) (bN fu O O (mV O (nS ?_)))));refine bv s O ?_ ?_<;>clear s<;>intro c s<;>try simp only[qa]at c
    ·refine sR ?_;obtain⟨f3,b6,s⟩:=bp s;obtain⟨b7,d5,a7⟩:=nw (x0:=12) (x1:=0) (x2:=4) (x3:=0);rw[b6]at a7;refine cL d5 O O (aj O (aj O (aj O (aj O bc)))) ?_;refine cx (k:=0) (v:=b7) a2 O O O (TR.cnt af.t a7) (λc9 a8=>?_);replace a8:Mem c9 [⟨.op a1 a0 0,53,4,[b7]⟩]:=a8;refine nS ?_;subst s;exact fa (.cell O (dq (k:=0) a8 O (TR.agg af.t a7)) .nil) (cw (TR.clo af.t a7)) a7
    ·refine sR (gL (aa.g_Tables r0) O O O λf4 d8=>(ah (co O (ca d8 Tryz.underlying26 _)) (bN fu O O (mV O (nS ?_)))));refine bv s O ?_ ?_<;>clear s<;>intro c s<;>try simp only[qa]at c
     ·refine sR ?_;obtain⟨e4,c6,s⟩:=bp s;obtain⟨c7,e0,a4⟩:=nw (x0:=12) (x1:=0) (x2:=5) (x3:=0);rw[c6]at a4;refine cL e0 O O (aj O (aj O (aj O (aj O bc)))) ?_;refine cx (k:=0) (v:=c7) a2 O O O (TR.cnt af.t a4) (λd3 b0=>?_);replace b0:Mem d3 [⟨.op a1 a0 0,53,4,[c7]⟩]:=b0;refine nS ?_;subst s;exact fa (.cell O (dq (k:=0) b0 O (TR.agg af.t a4)) .nil) (cw (TR.clo af.t a4)) a4
     ·refine aw (db (aq (sR (ah (v:= .agg [vi 0,vi 0,vi 0,vi 0]) (gm (cs:=[vi 0,vi 0,vi 0,vi 0]) O O) ?_))));refine cx (k:=0) (v:= .agg [vi 0,vi 0,vi 0,vi 0]) a2 O O O O (λd2 a9=>?_);replace a9:Mem d2 [⟨.op a1 a0 0,53,4,[.agg [vi 0,vi 0,vi 0,vi 0]]⟩]:=a9;refine nS ?_;subst s;exact fa (.cell O (dq (k:=0) a9 O O) .nil) (cw (TR.clo af.t (show af.t.R ({Code:=0,Part:=0,Item:=0,Sub:=0}:af) (.agg [vi 0,vi 0,vi 0,vi 0]) from O))) (show af.t.R ({Code:=0,Part:=0,Item:=0,Sub:=0}:af) (.agg [vi 0,vi 0,vi 0,vi 0]) from O)
def RF208(res:Int×Bool)(r:PV):Prop:=r= .tup [vi res.1,vb res.2]
theorem yr{S:List Fr}{res:Int×Bool}{x0:bm}{x1:List UInt8}{v0:PV}(r0:bm.t.R x0 v0){K0:Unit->(Int×Bool)}
 (b3:K0 ()=res->PX Tryz.prog 0 S (QR Tryz.prog [(4,none),(5,none)] (RF208 res)) [] ⟨0,[]⟩):
 ∀{m:Nat}{a0:Int}(a9:m=Int.toNat ((x0.Fields.length:Int)-a0))(a2:0<=a0),mj x0 x1 K0 m a0=res->RC Tryz.prog (.loop cx8) S (QR Tryz.prog [(4,none),(5,none)] (RF208 res)) [(6,vi a0),(2,.fp v0),(1,vs x1)] ⟨0,[]⟩:=by
 intro m;induction m with
 |zero=>
  intro a0 a9 a2 s;rw[mj]at s;refine ck (am (sR (mV O (gL (bm.g_Fields r0) O O O λb0 a5=>(ah (co O (ca a5 Tryz.underlying23 _)) (bN cn O O (nS ?_)))))));refine ci O ?_ ?_<;>intro c<;>try simp only[qa]at c
  ·omega
  refine dg (dx (da ?_));exact wP (b3 s) O
 |succ m ih=>
  intro a0 a9 a2 s;rw[mj]at s;refine ck (am (sR (mV O ?_)));obtain⟨b4,a7,a1⟩:=bm.g_Fields r0;refine fA O a7 (lD a1 O O O (ah (co O (ca a1 Tryz.underlying23 _)) (bN cn O O (nS ?_))));refine ci O ?_ ?_<;>intro c<;>try simp only[qa]at c
  rotate_left
  ·omega
  refine aw (aq (am (bg (sR ?_))));obtain⟨b1,a6,a3⟩:=bm.g_Fields r0;refine fA O a6 (lD a3 O O O (mV O ?_));obtain⟨b2,a8,a4⟩:=cv (i:=a0) a3 Y Y;refine ah (bd O O a8) (fL O (av.g_Name a4) O O (mV O (ah (br (a:=vs ((ix x0.Fields a0).Name)) (b:=vs x1) O O tk) (nS ?_))));refine bv s O ?_ ?_<;>clear s<;>intro c s<;>try simp only[qa]at c
  ·refine sR (mV O (mV O (mB O (nS ?_))));exact rT s O O O O O
  ·refine aw (db (aq (az (mV O (bN dw O O (mV O (cd (cy ?_))))))));have hbd:=dn a1;have hinc:wr (a0+1)=a0+1:=cz Y Y;erw[hinc];exact wC (ih Y Y s) O
theorem dr1{x0:bm}{x1:List UInt8}{v0:PV}(r0:bm.t.R x0 v0):FnR Tryz.prog 208 [v0,vs x1] (.tup [vi ((rt x0 x1).1),vb ((rt x0 x1).2)]):=by
 refine fnS (R:=RF208) dg1 (λ_ h=>h) O λres s=>?_;unfold rt at s;refine sR (ah (di O (TR.cnt bm.t r0)) (mI O (mB O (nS (am (sR (mI O (nS ?_))))))));refine bg ?_;refine wC (yr r0 ?_ O Y s) O
 ·intro s;refine ek (aq (sR (mI O (mB O (nS ?_)))));exact rT s O O O O O
def RF149(res:Int)(r:PV):Prop:=r=vi res
theorem ak8{S:List Fr}{res:Int}{x0:bm}{b8:Bool}{v0:PV}(r0:bm.t.R x0 v0)(d1:fb x0.Name=b8)(a9:(!b8)=false)(b4:(decide ((x0.Fields.length:Int)=0))=false)(b6:(decide (12 < (x0.Fields.length:Int)))=false){K1:Int->Int}
 (d3:∀{a7:Int}{h:Heap}(M0:Mem h []),K1 a7=res->PX Tryz.prog 1 S (QR Tryz.prog [(2,none)] (RF149 res)) [(3,vi a7)] h):
 ∀{m:Nat}{a7 a2:Int}(d0:m=Int.toNat ((x0.Fields.length:Int)-a2))(a8:0<=a2){h:Heap}(M0:Mem h []),qp x0 K1 m a7 a2=res->RC Tryz.prog (.loop cu7) S (QR Tryz.prog [(2,none)] (RF149 res)) [(4,vi a2),(3,vi a7),(1,.fp v0)] h:=by
 have a6:=a9;try simp only[qa]at a6
 have a4:=b4;try simp only[qa]at a4
 have a5:=b6;try simp only[qa]at a5
 intro m;induction m with
 |zero=>
  intro a7 a2 d0 a8 h M0 s;rw[qp]at s;refine ck (am (sR (mV O (gL (bm.g_Fields r0) O O O λd6 c8=>(ah (co O (ca c8 Tryz.underlying23 _)) (bN cn O O (nS ?_)))))));refine ci O ?_ ?_<;>intro c<;>try simp only[qa]at c
  ·omega
  refine dg (dx (da ?_));exact wP (d3 (Mem.sub M0 .slnil) s) O
 |succ m ih=>
  intro a7 a2 d0 a8 h M0 s;rw[qp]at s;refine ck (am (sR (mV O (gL (bm.g_Fields r0) O O O λd7 b1=>(ah (co O (ca b1 Tryz.underlying23 _)) (bN cn O O (nS ?_)))))));refine ci O ?_ ?_<;>intro c<;>try simp only[qa]at c
  rotate_left
  ·omega
  refine aw (aq (am (bg (sR (gL (bm.g_Fields r0) O O O λd4 c1=>(mV O ?_))))));obtain⟨b5,c5,a1⟩:=cv (i:=a2) c1 Y Y;refine ah (bd O O c5) (lD a1 O O O ?_);refine dv (x:= .agg [vs [],vi 0]) M0 O O (λc6 c9 d5 c7=>?_);refine cx (k:=0) (v:=b5) c7 O O O (TR.cnt av.t a1) (λc4 a0=>?_);replace a0:Mem c4 [⟨.op c6 c9 0,166,2,[b5]⟩]:=a0;refine nR (lD r0 O O O (ah (cg O) (ah (ct (k:=0) a0 O O (av.g_Name a1)) ?_)));obtain⟨d8,b3,s⟩:=bp s;have b9:=dr1 (x1:=(ix x0.Fields a2).Name) r0;rw[b3]at b9;refine cL b9 O O (aj (TR.clo bm.t r0) (aj O bc)) (mV O (xT O O (xT O O (mV O (mV O (nS (am (bg ?_))))))));refine sR (ah (cg O) (ah (ct (k:=0) a0 O O (av.g_Name a1)) ?_));obtain⟨d2,b0,s⟩:=bp s;have b2:=vh (x0:=(ix x0.Fields a2).Name);rw[b0]at b2;refine cL b2 O O (aj O bc) (ah (fw O) (mV O (nS ?_)));refine bv s O ?_ ?_<;>clear s<;>intro c s<;>try simp only[qa]at c
  ·refine sR (mI O (nS ?_));exact rR s O O O
  ·refine sR (ah (cg O) (ah (ct (k:=0) a0 O O (av.g_Width a1)) (bN cn O O (mV O ?_))));refine bw 4 (d:=55) (v:=vb ((decide (((ix x0.Fields a2).Width) < 1))||(decide (32 < ((ix x0.Fields a2).Width))))) ?_ ?_
   ·intro S Q r;cases b7:(decide (((ix x0.Fields a2).Width) < 1))
    ·intro k;have a3:=b7;try simp only[qa]at a3
     refine ai O O (cg O) (ai O O (ct (k:=0) a0 O O (av.g_Width a1)) (ai O O (br O O fu) ?_));exact gK O O O O O k
    ·exact gN 3 O O O O O O
   refine mV O (nS ?_);refine bv s O ?_ ?_<;>clear s<;>intro c s<;>try simp only[qa]at c
   ·refine sR (mI O (nS ?_));exact rR s O O O
   ·refine sR (mV O (mV O (bN cn O O (mV O (nS ?_)))));refine bv s O ?_ ?_<;>clear s<;>intro c s<;>try simp only[qa]at c
    ·refine sR (mI O (nS ?_));exact rR s O O O
    ·refine aw (db (aq (az (mV O (ah (cg O) (ah (ct (k:=0) a0 O O (av.g_Width a1)) (bN dw O O (mV O ?_))))))));refine cd (db (aq (az (mV O (bN dw O O (mV O (cd (cy ?_))))))));have hbd:=dn b1;have hinc:wr (a2+1)=a2+1:=cz Y Y;erw[hinc];exact wC (ih Y Y (Mem.sub a0 (.cons _ .slnil)) s) O
theorem dg8{x0:bm}{v0:PV}(r0:bm.t.R x0 v0):FnR Tryz.prog 149 [v0] (vi (xh x0)):=by
 refine fnS (R:=RF149) dh1 (λ_ h=>h) O λres s=>?_;unfold xh at s;refine sR (ah (di O (TR.cnt bm.t r0)) (mI O (nS (am (bg (sR (fL O (bm.g_Name r0) O O ?_)))))));obtain⟨b6,a3,s⟩:=bp s;have a8:=vh (x0:=x0.Name);rw[a3]at a8;refine cL a8 O O (aj O bc) (ah (fw O) (mV O (nS ?_)));refine bv s O ?_ ?_<;>clear s<;>intro a0 s<;>have a6:=a0<;>try simp only[qa]at a6
 ·refine sR (mI O (nS ?_));exact rR s O O O
 ·refine sR ?_;obtain⟨b7,b2,a9⟩:=bm.g_Fields r0;refine fA O b2 (lD a9 O O O (ah (co O (ca a9 Tryz.underlying23 _)) (bN du O O (mV O (nS ?_)))));refine bv s O ?_ ?_<;>clear s<;>intro a1 s<;>have a4:=a1<;>try simp only[qa]at a4
  ·refine sR (mI O (nS ?_));exact rR s O O O
  ·refine sR ?_;obtain⟨b3,b1,a7⟩:=bm.g_Fields r0;refine fA O b1 (lD a7 O O O (ah (co O (ca a7 Tryz.underlying23 _)) (bN fu O O (mV O (nS ?_)))));refine bv s O ?_ ?_<;>clear s<;>intro a2 s<;>have a5:=a2<;>try simp only[qa]at a5
   ·refine sR (mI O (nS ?_));exact rR s O O O
   ·refine aw (db (aq (sR (mI O (nS (am (sR (mI O ?_))))))));refine nS (bg ?_);refine wC (ak8 r0 a3 a0 a1 a2 ?_ O Y (Mem.sub (Mem.nil ⟨0,[]⟩) .slnil) s) O
    ·intro b0 b4 b5 s;refine ek (aq (am (sR (mV O (bN (ez5 OO) O O (bN ie O O (nS ?_)))))));refine bv s O ?_ ?_<;>clear s<;>intro c s<;>try simp only[qa]at c
     ·refine sR (mI O (nS ?_));exact rR s O O O
     ·refine aw (aq (sR (mI O (nS ?_))));exact rR s O O O
def RF76(res:af)(r:PV):Prop:=af.t.R res r
theorem ae7{S:List Fr}{res:af}{x0:aa}{a1 b3:Int}{v0 a5:PV}{a3 a2:Nat}(r0:aa.t.R x0 v0)(d1:x0.Headers.length<=1000)(c6:0<=a1)(b0:(decide (a1 < (x0.Headers.length:Int)))=true)(c5:xh (ix x0.Headers a1)=b3){K2:Int->af}
 (c1:∀{a4:Int}{h:Heap}(M0:Mem h [⟨.op a3 a2 0,53,4,[a5]⟩]),K2 a4=res->PX Tryz.prog 2 S (QR Tryz.prog [(2,some (4,true))] (RF76 res)) [(1,.fp v0),(2,.op a3 a2 0),(3,vi a1),(4,vi a4)] h):
 ∀{m:Nat}{a4 a0:Int}(c4:m=Int.toNat (a1-a0))(a9:0<=a0){h:Heap}(M0:Mem h [⟨.op a3 a2 0,53,4,[a5]⟩]),my x0 a1 K2 m a4 a0=res->RC Tryz.prog (.loop du7) S (QR Tryz.prog [(2,some (4,true))] (RF76 res)) [(5,vi a0),(4,vi a4),(3,vi a1),(2,.op a3 a2 0),(1,.fp v0)] h:=by
 have a7:=b0;try simp only[qa]at a7
 intro m;induction m with
 |zero=>
  intro a4 a0 c4 a9 h M0 s;rw[my]at s;refine ck (am (sR (mV O (mV O (bN cn O O (mV O ?_))))));refine bw 3 (d:=36) (v:=vb ((decide (a0 < a1))&&(decide (a4=0)))) ?_ ?_
  ·intro S Q r;cases b2:(decide (a0 < a1))
   ·exact gN 2 O O O O O O
   ·intro k;have a8:=b2;try simp only[qa]at a8
    refine ai O O (ba O) (ai O O (br O O du) ?_);exact gK O O O O O k
  refine nS ?_;refine ci O ?_ ?_<;>intro c<;>try simp only[qa]at c
  ·omega
  refine dg (dx (da ?_));exact wP (c1 (Mem.sub M0 (.cons_cons _ .slnil)) s) O
 |succ m ih=>
  intro a4 a0 c4 a9 h M0 s;rw[my]at s;refine ck (am (sR (mV O (mV O (bN cn O O (mV O ?_))))));refine bw 3 (d:=36) (v:=vb ((decide (a0 < a1))&&(decide (a4=0)))) ?_ ?_
  ·intro S Q r;cases b1:(decide (a0 < a1))
   ·exact gN 2 O O O O O O
   ·intro k;have a6:=b1;try simp only[qa]at a6
    refine ai O O (ba O) (ai O O (br O O du) ?_);exact gK O O O O O k
  refine nS ?_;refine bv s O ?_ ?_<;>clear s<;>intro c s<;>try simp only[qa]at c
  ·refine aw (aq (am (bg (sR (gL (aa.g_Headers r0) O O O λc9 b8=>(mV O ?_))))));obtain⟨c8,b7,b4⟩:=cv (i:=a0) b8 Y Y;refine ah (bd O O b7) (fL O (bm.g_Name b4) O O (gL (aa.g_Headers r0) O O O λc7 b9=>(mV O ?_)));obtain⟨d0,b6,b5⟩:=cv (i:=a1) b9 Y Y;refine ah (bd O O b6) (fL O (bm.g_Name b5) O O (ah (br (a:=vs ((ix x0.Headers a0).Name)) (b:=vs ((ix x0.Headers a1).Name)) O O tk) (nS ?_)));refine bv s O ?_ ?_<;>clear s<;>intro c s<;>try simp only[qa]at c
   ·refine az (mI O (cd (db (aq (az (mV O (bN dw O O (mV O ?_))))))));refine cd (cy ?_);have hinc:wr (a0+1)=a0+1:=cz Y Y;erw[hinc];exact wC (ih Y Y (Mem.sub M0 (.cons_cons _ .slnil)) s) O
   ·refine aw (db (aq (az (mV O (bN dw O O (mV O (cd (cy ?_))))))));have hinc:wr (a0+1)=a0+1:=cz Y Y;erw[hinc];exact wC (ih Y Y (Mem.sub M0 (.cons_cons _ .slnil)) s) O
  ·refine dg (dx (da ?_));exact wP (c1 (Mem.sub M0 (.cons_cons _ .slnil)) s) O
theorem ae2{S:List Fr}{res:af}{x0:aa}{v0:PV}{a5 a3:Nat}(r0:aa.t.R x0 v0)(e5:x0.Headers.length<=1000){K0:af->af}
 (e3:∀{a1:af}{a0:PV}(a2:af.t.R a1 a0){h:Heap}(M0:Mem h [⟨.op a5 a3 0,53,4,[a0]⟩]),K0 a1=res->PX Tryz.prog 0 S (QR Tryz.prog [(2,some (4,true))] (RF76 res)) [(2,.op a5 a3 0)] h):
 ∀{m:Nat}{a7:Int}{a1:af}{a0:PV}(a2:af.t.R a1 a0)(d9:m=Int.toNat ((x0.Headers.length:Int)-a7))(b2:0<=a7){h:Heap}(M0:Mem h [⟨.op a5 a3 0,53,4,[a0]⟩]),pd x0 K0 m a7 a1=res->RC Tryz.prog (.loop dp6) S (QR Tryz.prog [(2,some (4,true))] (RF76 res)) [(3,vi a7),(2,.op a5 a3 0),(1,.fp v0)] h:=by
 intro m;induction m with
 |zero=>
  intro a7 a1 a0 a2 d9 b2 h M0 s;rw[pd]at s;refine ck (am (sR (mV O (gL (aa.g_Headers r0) O O O λe9 d8=>(ah (co O (ca d8 Tryz.underlying22 _)) (bN cn O O (nS ?_)))))));refine ci O ?_ ?_<;>intro c<;>try simp only[qa]at c
  ·omega
  refine dg (dx (da ?_));exact wP (e3 a2 (Mem.sub M0 (.cons_cons _ .slnil)) s) O
 |succ m ih=>
  intro a7 a1 a0 a2 d9 b2 h M0 s;rw[pd]at s;refine ck (am (sR (mV O (gL (aa.g_Headers r0) O O O λe0 b9=>(ah (co O (ca b9 Tryz.underlying22 _)) (bN cn O O (nS ?_)))))));refine ci O (λa6=>?_) (λa6=>?_)
  ·have hgo:=s;have b5:=a6;try simp only[qa]at b5
   refine aw (aq (am (bg (sR (gL (aa.g_Headers r0) O O O λe8 d5=>(mV O ?_))))));obtain⟨e4,d3,b6⟩:=cv (i:=a7) d5 Y Y;refine ah (bd O O d3) (lD b6 O O O ?_);obtain⟨c4,b0,s⟩:=bp s;have c9:=dg8 b6;rw[b0]at c9;refine cL c9 O O (aj (TR.clo bm.t b6) bc) (mV O (nS (am (sR (mV O (bN du O O (mV O ?_)))))));refine bw 8 (d:=29) (v:=vb ((decide (c4=0))&&(decide (((ix x0.Headers a7).Name)=([109,101,116,97]:List UInt8))))) ?_ ?_
   ·intro S Q r;cases c7:(decide (c4=0))
    ·exact gN 7 O O O O O O
    ·intro k;have b7:=c7;try simp only[qa]at b7
     obtain⟨e7,d7,b4⟩:=aa.g_Headers r0;refine ai O O (bt O d7) (ai O O (bq O (TR.cnt (tSl bm.t) b4) (TR.agg (tSl bm.t) b4)) (ai O O (ba O) ?_));obtain⟨e6,d2,d6⟩:=cv (i:=a7) b4 Y Y;refine ai O O (bd O O d2) (ai O O (bt O (bm.g_Name d6)) (ai O O (bq O O O) (ai O O (br (a:=vs ((ix x0.Headers a7).Name)) (b:=vs ([109,101,116,97]:List UInt8)) O O tk) ?_)));exact gK O O O O O k
   refine nS ?_;obtain⟨d1,c8,s⟩:=bp s;refine kp (F:=λb S Q=>∀(a4:Int)(a9:Heap)(b1:Mem a9 [⟨.op a5 a3 0,53,4,[a0]⟩]),d1 a4=res->RC Tryz.prog b S Q [(4,vi a4),(3,vi a7),(2,.op a5 a3 0),(1,.fp v0)] a9) ?_ ?_
   ·intro a4 a9 b1 s;rw[<-c8]at s;refine am (sR (mI O (nS (bg ?_))));refine wC (ae7 r0 e5 b2 a6 b0 ?_ O Y (Mem.sub b1 (.cons_cons _ .slnil)) s) O
    ·intro b8 e1 c1 s;refine ek (aq (sR (mV O (bN ie O O (nS ?_)))));refine bv s O ?_ ?_<;>clear s<;>intro c s<;>try simp only[qa]at c
     ·refine sR (mV O (mV O ?_));obtain⟨e2,c5,s⟩:=bp s;obtain⟨c6,d4,a8⟩:=nw (x0:=b8) (x1:=1) (x2:=a7) (x3:=0);rw[c5]at a8;refine cL d4 O O (aj O (aj O (aj O (aj O bc)))) ?_;refine cx (k:=0) (v:=c6) c1 O O O (TR.cnt af.t a8) (λd0 b3=>?_);replace b3:Mem d0 [⟨.op a5 a3 0,53,4,[c6]⟩]:=b3;refine nS ?_;subst s;exact fa (.cell O (dq (k:=0) b3 O (TR.agg af.t a8)) .nil) (cw (TR.clo af.t a8)) a8
     ·refine aw (db (aq (az (mV O (bN dw O O (mV O (cd (cy ?_))))))));have hbd:=dn b9;have hinc:wr (a7+1)=a7+1:=cz Y Y;erw[hinc];exact wC (ih a2 Y Y (Mem.sub c1 (.cons_cons _ .slnil)) s) O
   ·intro J;refine bv s O ?_ ?_<;>clear s<;>intro c s<;>try simp only[qa]at c
    ·refine az (mI O (cd ?_));refine aq (wC (J _ _ (Mem.sub M0 (.cons_cons _ .slnil)) s) O)
    ·refine aw ?_;refine aq (wC (J _ _ (Mem.sub M0 (.cons_cons _ .slnil)) s) O)
  ·exfalso;try simp only[qa]at a6
   omega
theorem ej7{x0:aa}{v0:PV}(r0:aa.t.R x0 v0)(a9:x0.Headers.length<=1000):∃r,FnR Tryz.prog 76 [v0] r/\af.t.R (xt x0) r:=by
 refine fnT (R:=RF76) eo5 O λres s=>?_;unfold xt at s;refine sR (ah (di O (TR.cnt aa.t r0)) ?_);refine dv (x:= .agg [vi 0,vi 0,vi 0,vi 0]) (Mem.nil ⟨0,[]⟩) O O (λa8 a4 b1 a6=>?_);refine nS (am (sR (mI O (nS (bg ?_)))));refine wC (ae2 r0 a9 ?_ O O Y (Mem.sub a6 (.cons_cons _ .slnil)) s) O
 ·intro a1 a2 a3 b0 a5 s;refine ek (aq (sR (ah (v:= .agg [vi 0,vi 0,vi 0,vi 0]) (gm (cs:=[vi 0,vi 0,vi 0,vi 0]) O O) ?_)));refine cx (k:=0) (v:= .agg [vi 0,vi 0,vi 0,vi 0]) a5 O O O O (λa7 a0=>?_);replace a0:Mem a7 [⟨.op a8 a4 0,53,4,[.agg [vi 0,vi 0,vi 0,vi 0]]⟩]:=a0;refine nS ?_;subst s;exact fa (.cell O (dq (k:=0) a0 O O) .nil) (cw (TR.clo af.t (show af.t.R ({Code:=0,Part:=0,Item:=0,Sub:=0}:af) (.agg [vi 0,vi 0,vi 0,vi 0]) from O))) (show af.t.R ({Code:=0,Part:=0,Item:=0,Sub:=0}:af) (.agg [vi 0,vi 0,vi 0,vi 0]) from O)
def RF150(res:Int)(r:PV):Prop:=r=vi res
theorem ak2{S:List Fr}{res:Int}{x0:List av}{x1:Int}{a6:Bool}{v0:PV}(r0:(tSl av.t).R x0 v0)(h1:0<=x1/\x1 < (x0.length:Int))(b2:fb ((ix x0 x1).Name)=a6)(a5:(!a6)=false)(a4:((decide (((ix x0 x1).Width) < 1))||(decide (32 < ((ix x0 x1).Width))))=false){K0:Unit->Int}
 (b3:K0 ()=res->PX Tryz.prog 0 S (QR Tryz.prog [(4,none)] (RF150 res)) [] ⟨0,[]⟩):
 ∀{m:Nat}{a0:Int}(b1:m=Int.toNat (x1-a0))(a3:0<=a0),qi x0 x1 K0 m a0=res->RC Tryz.prog (.loop cm8) S (QR Tryz.prog [(4,none)] (RF150 res)) [(5,vi a0),(1,vi x1),(0,v0)] ⟨0,[]⟩:=by
 have a2:=a5;try simp only[qa]at a2
 have a1:=a4;try simp only[qa]at a1
 intro m;induction m with
 |zero=>
  intro a0 b1 a3 s;rw[qi]at s;refine ck (am (sR (mV O (mV O (bN cn O O (nS ?_))))));refine ci O ?_ ?_<;>intro c<;>try simp only[qa]at c
  ·omega
  refine dg (dx (da ?_));exact wP (b3 s) O
 |succ m ih=>
  intro a0 b1 a3 s;rw[qi]at s;refine ck (am (sR (mV O (mV O (bN cn O O (nS ?_))))));refine ci O ?_ ?_<;>intro c<;>try simp only[qa]at c
  rotate_left
  ·omega
  refine aw (aq (am (bg (sR (mV O (mV O ?_))))));obtain⟨b4,b0,a8⟩:=cv (i:=a0) r0 Y Y;refine ah (bd O O b0) (fL O (av.g_Name a8) O O (mV O (mV O ?_)));obtain⟨b5,a9,a7⟩:=cv (i:=x1) r0 Y Y;refine ah (bd O O a9) (fL O (av.g_Name a7) O O (ah (br (a:=vs ((ix x0 a0).Name)) (b:=vs ((ix x0 x1).Name)) O O tk) (nS ?_)));refine bv s O ?_ ?_<;>clear s<;>intro c s<;>try simp only[qa]at c
  ·refine sR (mI O (nS ?_));exact rR s O O O
  ·refine aw (db (aq (az (mV O (bN dw O O (mV O (cd (cy ?_))))))));have hinc:wr (a0+1)=a0+1:=cz Y (by first|omega|(have hbd:=dn r0;omega));erw[hinc];exact wC (ih Y Y s) O
theorem da3{x0:List av}{x1:Int}{v0:PV}(r0:(tSl av.t).R x0 v0)(h1:0<=x1/\x1 < (x0.length:Int)):FnR Tryz.prog 150 [v0,vi x1] (vi (zx x0 x1)):=by
 refine fnS (R:=RF150) da8 (λ_ h=>h) O λres s=>?_;unfold zx at s;refine sR (mI O (nS (am (sR (mV O (mV O ?_))))));obtain⟨b4,a8,b1⟩:=cv (i:=x1) r0 Y Y;refine ah (bd O O a8) (fL O (av.g_Name b1) O O ?_);obtain⟨b7,a2,s⟩:=bp s;have a6:=vh (x0:=(ix x0 x1).Name);rw[a2]at a6;refine cL a6 O O (aj O bc) (ah (fw O) (nS ?_));refine bv s O ?_ ?_<;>clear s<;>intro a1 s<;>have a4:=a1<;>try simp only[qa]at a4
 ·refine sR (mI O (nS ?_));exact rR s O O O
 ·refine aw (aq (am (sR (mV O (mV O ?_)))));obtain⟨b6,b0,b3⟩:=cv (i:=x1) r0 Y Y;refine ah (bd O O b0) (fL O (av.g_Width b3) O O (bN cn O O (mV O ?_)));refine bw 7 (d:=26) (v:=vb ((decide (((ix x0 x1).Width) < 1))||(decide (32 < ((ix x0 x1).Width))))) ?_ ?_
  ·intro S Q r;cases a7:(decide (((ix x0 x1).Width) < 1))
   ·intro k;have a5:=a7;try simp only[qa]at a5
    refine ai O O (ba O) (ai O O (ba O) ?_);obtain⟨b5,b2,a9⟩:=cv (i:=x1) r0 Y Y;refine ai O O (bd O O b2) (ai O O (bt O (av.g_Width a9)) (ai O O (bq O O O) (ai O O (br O O fu) ?_)));exact gK O O O O O k
   ·exact gN 6 O O O O O O
  refine nS ?_;refine bv s O ?_ ?_<;>clear s<;>intro a0 s<;>have a3:=a0<;>try simp only[qa]at a3
  ·refine sR (mI O (nS ?_));exact rR s O O O
  ·refine aw (aq (am (sR (mI O (nS (bg ?_))))));refine wC (ak2 r0 h1 a2 a1 a0 ?_ O Y s) O
   ·intro s;refine ek (aq (sR (mI O (nS ?_))));exact rR s O O O
def RF77(res:af)(r:PV):Prop:=af.t.R res r
theorem aa4{S:List Fr}{res:af}{x0:aa}{v0:PV}{a5 a4:Nat}(r0:aa.t.R x0 v0)(d0:x0.Metadata.length<=1000)(b5:(decide (12 < (x0.Metadata.length:Int)))=false){K0:af->af}
 (c5:∀{a1:af}{a0:PV}(a2:af.t.R a1 a0){h:Heap}(M0:Mem h [⟨.op a5 a4 0,53,4,[a0]⟩]),K0 a1=res->PX Tryz.prog 0 S (QR Tryz.prog [(2,some (4,true))] (RF77 res)) [(1,.fp v0),(2,.op a5 a4 0)] h):
 ∀{m:Nat}{a6:Int}{a1:af}{a0:PV}(a2:af.t.R a1 a0)(c4:m=Int.toNat ((x0.Metadata.length:Int)-a6))(a9:0<=a6){h:Heap}(M0:Mem h [⟨.op a5 a4 0,53,4,[a0]⟩]),od x0 K0 m a6 a1=res->RC Tryz.prog (.loop do9) S (QR Tryz.prog [(2,some (4,true))] (RF77 res)) [(3,vi a6),(2,.op a5 a4 0),(1,.fp v0)] h:=by
 have a7:=b5;try simp only[qa]at a7
 intro m;induction m with
 |zero=>
  intro a6 a1 a0 a2 c4 a9 h M0 s;rw[od]at s;refine ck (am (sR (mV O (gL (aa.g_Metadata r0) O O O λc7 b8=>(ah (co O (ca b8 Tryz.underlying23 _)) (bN cn O O (nS ?_)))))));refine ci O ?_ ?_<;>intro c<;>try simp only[qa]at c
  ·omega
  refine dg (dx (da ?_));exact wP (c5 a2 (Mem.sub M0 (.cons_cons _ .slnil)) s) O
 |succ m ih=>
  intro a6 a1 a0 a2 c4 a9 h M0 s;rw[od]at s;refine ck (am (sR (mV O (gL (aa.g_Metadata r0) O O O λc8 b3=>(ah (co O (ca b3 Tryz.underlying23 _)) (bN cn O O (nS ?_)))))));refine ci O ?_ ?_<;>intro c<;>try simp only[qa]at c
  rotate_left
  ·omega
  refine aw (aq (am (bg (sR (gL (aa.g_Metadata r0) O O O λc9 b6=>(mV O ?_))))));obtain⟨c1,b0,s⟩:=bp s;have b1:=da3 (x1:=a6) b6 (by first|assumption|omega|(rw[cz Y Y];omega)|(have hk:=rval rfl (And.right (And.left OY));omega)|(have hk:=rval OY OY;omega)|(have hk:=rval OY (And.left OY);omega)|(have hk:=rval OY (And.left (And.left OY));have hz:=rslc OY;omega)|(simp;done)|(simp only[List.length_append,List.length_nil,List.length_cons];omega)|(have hk:=(cq OY OY).1;omega)|(simp only[List.length_cons,List.length_nil];omega)|(simp only[List.length_append];have hk:=(cq OY OY).1;omega)|(simp only[List.length_append,List.length_nil];have hk:=(cq OY OY).1;omega));rw[b0]at b1;refine cL b1 O O (aj (TR.clo (tSl av.t) b6) (aj O bc)) (mV O (nR (mV O (bN ie O O (nS ?_)))));refine bv s O ?_ ?_<;>clear s<;>intro c s<;>try simp only[qa]at c
  ·refine sR (mV O (mV O ?_));obtain⟨c6,b2,s⟩:=bp s;obtain⟨b4,b9,a3⟩:=nw (x0:=c1) (x1:=2) (x2:=a6) (x3:=0);rw[b2]at a3;refine cL b9 O O (aj O (aj O (aj O (aj O bc)))) ?_;refine cx (k:=0) (v:=b4) M0 O O O (TR.cnt af.t a3) (λb7 a8=>?_);replace a8:Mem b7 [⟨.op a5 a4 0,53,4,[b4]⟩]:=a8;refine nS ?_;subst s;exact fa (.cell O (dq (k:=0) a8 O (TR.agg af.t a3)) .nil) (cw (TR.clo af.t a3)) a3
  ·refine aw (db (aq (az (mV O (bN dw O O (mV O (cd (cy ?_))))))));have hbd:=dn b3;have hinc:wr (a6+1)=a6+1:=cz Y Y;erw[hinc];exact wC (ih a2 Y Y (Mem.sub M0 (.cons_cons _ .slnil)) s) O
theorem aa3{S:List Fr}{res:af}{x0:aa}{v0:PV}{a5 a4:Nat}(r0:aa.t.R x0 v0)(d5:x0.Metadata.length<=1000)(b6:(decide (12 < (x0.Metadata.length:Int)))=false)(a7:(tSl av.t).R ([({Name:=([105,110]:List UInt8),Width:=8}:av),({Name:=([111,117,116]:List UInt8),Width:=8}:av),({Name:=([100,114,111,112]:List UInt8),Width:=1}:av)]:List av) (.fs true [.agg [vs ([105,110]:List UInt8),vi 8],.agg [vs ([111,117,116]:List UInt8),vi 8],.agg [vs ([100,114,111,112]:List UInt8),vi 1]])){K2:af->af}
 (c9:∀{a1:af}{a0:PV}(a2:af.t.R a1 a0){h:Heap}(M0:Mem h [⟨.op a5 a4 0,53,4,[a0]⟩]),K2 a1=res->PX Tryz.prog 2 S (QR Tryz.prog [(2,some (4,true))] (RF77 res)) [(2,.op a5 a4 0)] h):
 ∀{m:Nat}{a3:Int}{a1:af}{a0:PV}(a2:af.t.R a1 a0)(c8:m=Int.toNat ((([({Name:=([105,110]:List UInt8),Width:=8}:av),({Name:=([111,117,116]:List UInt8),Width:=8}:av),({Name:=([100,114,111,112]:List UInt8),Width:=1}:av)]:List av).length:Int)-a3))(b5:0<=a3){h:Heap}(M0:Mem h [⟨.op a5 a4 0,53,4,[a0]⟩]),oc x0 K2 m a3 a1=res->RC Tryz.prog (.loop de1) S (QR Tryz.prog [(2,some (4,true))] (RF77 res)) [(6,vi a3),(5,.fs true [.agg [vs ([105,110]:List UInt8),vi 8],.agg [vs ([111,117,116]:List UInt8),vi 8],.agg [vs ([100,114,111,112]:List UInt8),vi 1]]),(2,.op a5 a4 0),(1,.fp v0)] h:=by
 have a9:=b6;try simp only[qa]at a9
 intro m;induction m with
 |zero=>
  intro a3 a1 a0 a2 c8 b5 h M0 s;rw[oc]at s;refine ck (am (sR (mV O (mV O (ah (co O (ca a7 Tryz.underlying23 _)) (bN cn O O (nS ?_)))))));refine ci O ?_ ?_<;>intro c<;>try simp only[qa]at c
  ·omega
  refine dg (dx (da ?_));exact wP (c9 a2 (Mem.sub M0 (.cons_cons _ .slnil)) s) O
 |succ m ih=>
  intro a3 a1 a0 a2 c8 b5 h M0 s;rw[oc]at s;refine ck (am (sR (mV O (mV O (ah (co O (ca a7 Tryz.underlying23 _)) (bN cn O O (nS ?_)))))));refine ci O ?_ ?_<;>intro c<;>try simp only[qa]at c
  rotate_left
  ·omega
  refine aw (aq (am (bg (sR (mV O (gL (aa.g_Metadata r0) O O O λd4 c6=>(ah (co O (ca c6 Tryz.underlying23 _)) (bN iz O O ?_))))))));refine mV O ?_;refine bw 11 (d:=54) (v:=vb ((decide ((x0.Metadata.length:Int)<=a3))||(!decide ((ix x0.Metadata a3)=(ix ([({Name:=([105,110]:List UInt8),Width:=8}:av),({Name:=([111,117,116]:List UInt8),Width:=8}:av),({Name:=([100,114,111,112]:List UInt8),Width:=1}:av)]:List av) a3))))) ?_ ?_
  ·intro S Q r;cases b8:(decide ((x0.Metadata.length:Int)<=a3))
   ·intro k;have b0:=b8;try simp only[qa]at b0
    obtain⟨d1,c4,b3⟩:=aa.g_Metadata r0;refine ai O O (bt O c4) (ai O O (bq O (TR.cnt (tSl av.t) b3) (TR.agg (tSl av.t) b3)) (ai O O (ba O) ?_));obtain⟨d2,b9,b1⟩:=cv (i:=a3) b3 Y Y;refine ai O O (bd O O b9) (ai O O (bq O (TR.cnt av.t b1) (TR.agg av.t b1)) (ai O O (ba O) (ai O O (ba O) ?_)));obtain⟨d3,c7,a8⟩:=cv (i:=a3) a7 Y Y;refine ai O O (bd O O c7) (ai O O (bq O (TR.cnt av.t a8) (TR.agg av.t a8)) (ai O O (br O O (av.neq_166 b1 a8)) ?_));exact gK O O O O O k
   ·exact gN 10 O O O O O O
  refine nS ?_;refine bv s O ?_ ?_<;>clear s<;>intro c s<;>try simp only[qa]at c
  ·refine sR (mV O ?_);obtain⟨d0,b7,s⟩:=bp s;obtain⟨b4,c5,a6⟩:=nw (x0:=5) (x1:=2) (x2:=a3) (x3:=0);rw[b7]at a6;refine cL c5 O O (aj O (aj O (aj O (aj O bc)))) ?_;refine cx (k:=0) (v:=b4) M0 O O O (TR.cnt af.t a6) (λc1 b2=>?_);replace b2:Mem c1 [⟨.op a5 a4 0,53,4,[b4]⟩]:=b2;refine nS ?_;subst s;exact fa (.cell O (dq (k:=0) b2 O (TR.agg af.t a6)) .nil) (cw (TR.clo af.t a6)) a6
  ·refine aw (db (aq (az (mV O (bN dw O O (mV O (cd (cy ?_))))))));have hbd:=dn a7;have hinc:wr (a3+1)=a3+1:=cz Y Y;erw[hinc];exact wC (ih a2 Y Y (Mem.sub M0 (.cons_cons _ .slnil)) s) O
theorem ei6{x0:aa}{v0:PV}(r0:aa.t.R x0 v0)(c6:x0.Metadata.length<=1000):∃r,FnR Tryz.prog 77 [v0] r/\af.t.R (vy x0) r:=by
 refine fnT (R:=RF77) eo3 O λres s=>?_;unfold vy at s;refine sR (ah (di O (TR.cnt aa.t r0)) ?_);refine dv (x:= .agg [vi 0,vi 0,vi 0,vi 0]) (Mem.nil ⟨0,[]⟩) O O (λb0 a8 d0 b4=>?_);refine nS (am (sR (gL (aa.g_Metadata r0) O O O λd1 c5=>(ah (co O (ca c5 Tryz.underlying23 _)) (bN fu O O (nS ?_))))));refine bv s O ?_ ?_<;>clear s<;>intro a2 s<;>have a4:=a2<;>try simp only[qa]at a4
 ·refine sR ?_;obtain⟨c7,b2,s⟩:=bp s;obtain⟨a9,b9,a1⟩:=nw (x0:=12) (x1:=2) (x2:=0) (x3:=0);rw[b2]at a1;refine cL b9 O O (aj O (aj O (aj O (aj O bc)))) ?_;refine cx (k:=0) (v:=a9) b4 O O O (TR.cnt af.t a1) (λc1 a5=>?_);replace a5:Mem c1 [⟨.op b0 a8 0,53,4,[a9]⟩]:=a5;refine nS ?_;subst s;exact fa (.cell O (dq (k:=0) a5 O (TR.agg af.t a1)) .nil) (cw (TR.clo af.t a1)) a1
 ·refine aw (aq (am (sR (mI O (nS (bg ?_))))));refine wC (aa4 r0 c6 a2 ?_ O O Y (Mem.sub b4 (.cons_cons _ .slnil)) s) O
  ·intro a6 b1 a0 c8 b7 s;refine ek (aq (sR (ah (v:= .agg [vs ([105,110]:List UInt8),vi 8]) (gm (cs:=[vs ([105,110]:List UInt8),vi 8]) O O) (ah (v:= .agg [vs ([111,117,116]:List UInt8),vi 8]) (gm (cs:=[vs ([111,117,116]:List UInt8),vi 8]) O O) (ah (v:= .agg [vs ([100,114,111,112]:List UInt8),vi 1]) (gm (cs:=[vs ([100,114,111,112]:List UInt8),vi 1]) O O) (ah (v:= .fs true [.agg [vs ([105,110]:List UInt8),vi 8],.agg [vs ([111,117,116]:List UInt8),vi 8],.agg [vs ([100,114,111,112]:List UInt8),vi 1]]) (lq O (all_cons O (all_cons O (all_cons O pr)))) ?_))))));have c4:(tSl av.t).R ([({Name:=([105,110]:List UInt8),Width:=8}:av),({Name:=([111,117,116]:List UInt8),Width:=8}:av),({Name:=([100,114,111,112]:List UInt8),Width:=1}:av)]:List av) (.fs true [.agg [vs ([105,110]:List UInt8),vi 8],.agg [vs ([111,117,116]:List UInt8),vi 8],.agg [vs ([100,114,111,112]:List UInt8),vi 1]]):=aa6 ⟨O,⟨O,⟨O,trivial⟩⟩⟩ OZ;refine mV O (nS (am (sR (mI O (nS (bg ?_))))));refine wC (aa3 r0 c6 a2 c4 ?_ a0 O Y (Mem.sub b7 (.cons_cons _ .slnil)) s) O
   ·intro a7 b3 b5 c9 b6 s;refine ek (aq (sR (ah (v:= .agg [vi 0,vi 0,vi 0,vi 0]) (gm (cs:=[vi 0,vi 0,vi 0,vi 0]) O O) ?_)));refine cx (k:=0) (v:= .agg [vi 0,vi 0,vi 0,vi 0]) b6 O O O O (λb8 a3=>?_);replace a3:Mem b8 [⟨.op b0 a8 0,53,4,[.agg [vi 0,vi 0,vi 0,vi 0]]⟩]:=a3;refine nS ?_;subst s;exact fa (.cell O (dq (k:=0) a3 O O) .nil) (cw (TR.clo af.t (show af.t.R ({Code:=0,Part:=0,Item:=0,Sub:=0}:af) (.agg [vi 0,vi 0,vi 0,vi 0]) from O))) (show af.t.R ({Code:=0,Part:=0,Item:=0,Sub:=0}:af) (.agg [vi 0,vi 0,vi 0,vi 0]) from O)
end Go.Proofs.YtmonnlkagniolaaGreat
