/-
 The code of each function does what its plain program says.
-/
import Derived.Test.YtmonnlkagniolaaGreatL5W10
set_option linter.all false
set_option maxRecDepth 100000
namespace Go.Proofs.YtmonnlkagniolaaGreat
open Go Go.Pb Go.RowKit
def RF38(res:(List aa)×(List Int)×(List Int))(r:PV):Prop:=∃c0,∃c1,∃c2,r= .tup [c0,c1,c2]/\(tSl aa.t).R res.1 c0/\(tSl tI).R res.2.1 c1/\(tSl tI).R res.2.2 c2
theorem ac3{S:List Fr}{res:(List aa)×(List Int)×(List Int)}{x0:ae}{x1:Int}{k3:Int×Int}{d9:PV}{a7 a8:Nat}(o2:mo x0 x1=k3)(k0:(!decide (k3.2=0))=false)(e0:(tSl au.t).R ((ix x0.Actions x1).Body) d9){K0:aq->((List aa)×(List Int)×(List Int))}
 (o4:∀{a5:aq}{b8:PV}(c2:aq.t.R a5 b8){h:Heap}(M0:Mem h [⟨.op a7 a8 0,162,3,[b8]⟩]),K0 a5=res->PX Tryz.prog 0 S (QR Tryz.prog [(4,none),(5,none),(6,none)] (RF38 res)) [(9,.op a7 a8 0)] h):
 ∀{m:Nat}{a3:Int}{a5:aq}{b8:PV}(c2:aq.t.R a5 b8)(o3:m=Int.toNat ((((ix x0.Actions x1).Body).length:Int)-a3))(j1:0<=a3)(f9:(a5.Fields.length:Int)<=100*a3)(g0:(a5.Headers.length:Int)<=100*a3)(g1:(a5.Registers.length:Int)<=100*a3){h:Heap}(M0:Mem h [⟨.op a7 a8 0,162,3,[b8]⟩]),ky x0 x1 K0 m a3 a5=res->RC Tryz.prog (.loop cq8) S (QR Tryz.prog [(4,none),(5,none),(6,none)] (RF38 res)) [(11,vi a3),(10,d9),(9,.op a7 a8 0)] h:=by
 have g9:=k0;try simp only[qa]at g9
 intro m;induction m with
 |zero=>
  intro a3 a5 b8 c2 o3 j1 f9 g0 g1 h M0 z;rw[ky]at z;refine bv (am (sR (mV O (mV O (af (cp O (ca e0 Tryz.underlying95 _)) (bN cn O O (nS ?_)))))));refine bp O ?_ ?_<;>intro c<;>try simp only[qa]at c
  ·omega
  refine dg (dq (dc ?_));exact wP (o4 c2 (Mem.sub M0 (.cons_cons _ .slnil)) z) O
 |succ m ih=>
  intro a3 a5 b8 c2 o3 j1 f9 g0 g1 h M0 z;rw[ky]at z;refine bv (am (sR (mV O (mV O (af (cp O (ca e0 Tryz.underlying95 _)) (bN cn O O (nS ?_)))))));refine bp O ?_ ?_<;>intro c<;>try simp only[qa]at c
  rotate_left
  ·omega
  refine ax (ap (am (bf (sR (mV O (mV O ?_))))));obtain⟨c4,n7,b5⟩:=de (i:=a3) e0 V V;refine af (bd O O n7) (lD b5 O O O ?_);refine fa (x:= .agg [vi 0,vi 0,vi 0,vi 0,vi 0,nilS,nilS]) M0 O O (λb6 b7 o8 n2=>?_);refine ek (k:=0) (v:=c4) n2 O O O (TR.cnt au.t b5) (λm1 d4=>?_);replace d4:Mem m1 [⟨.op b6 b7 0,135,7,[c4]⟩,⟨.op a7 a8 0,162,3,[b8]⟩]:=d4;refine nS (am (sR (af (bg O) (af (cg (k:=0) d4 O O (au.g_Kind b5)) (bN dt O O (mV O ?_))))));refine cm 4 (d:=45) (v:=vb ((decide (((ix ((ix x0.Actions x1).Body) a3).Kind)=4))||(decide (((ix ((ix x0.Actions x1).Body) a3).Kind)=5)))) ?_ ?_
  ·intro S Q r;cases i1:(decide (((ix ((ix x0.Actions x1).Body) a3).Kind)=4))
   ·intro k;have h6:=i1;try simp only[qa]at h6
    refine ai O O (bg O) (ai O O (cg (k:=0) d4 O O (au.g_Kind b5)) (ai O O (ct O O dt) ?_));exact gK O O O O O k
   ·exact gN 3 O O O O O O
  refine nS ?_;obtain⟨l6,i0,z⟩:=br z;refine nd (F:=λb S Q=>∀(a2:aq)(b1:PV)(a6:aq.t.R a2 b1)(d8:(a2.Fields.length:Int)<=a5.Fields.length+24/\(a2.Headers.length:Int)<=a5.Headers.length+24/\(a2.Registers.length:Int)<=a5.Registers.length+24)(e1:Heap)(c5:Mem e1 [⟨.op b6 b7 0,135,7,[c4]⟩,⟨.op a7 a8 0,162,3,[b1]⟩]),l6 a2=res->RC Tryz.prog b S Q [(12,.op b6 b7 0),(11,vi a3),(10,d9),(9,.op a7 a8 0)] e1) ?_ ?_
  ·intro a2 b1 a6 d8 e1 c5 z;rw[<-i0]at z;refine am (sR (af (bg O) (af (cg (k:=0) c5 O O (au.g_Kind b5)) (bN dt O O (mV O ?_)))));refine cm 4 (d:=57) (v:=vb ((decide (((ix ((ix x0.Actions x1).Body) a3).Kind)=1))||(decide (((ix ((ix x0.Actions x1).Body) a3).Kind)=5)))) ?_ ?_
   ·intro S Q r;cases j6:(decide (((ix ((ix x0.Actions x1).Body) a3).Kind)=1))
    ·intro k;have g8:=j6;try simp only[qa]at g8
     refine ai O O (bg O) (ai O O (cg (k:=0) c5 O O (au.g_Kind b5)) (ai O O (ct O O dt) ?_));exact gK O O O O O k
    ·exact gN 3 O O O O O O
   refine nS ?_;obtain⟨n8,j9,z⟩:=br z;refine nd (F:=λb S Q=>∀(a0:aq)(b0:PV)(a9:aq.t.R a0 b0)(d6:(a0.Fields.length:Int)<=a2.Fields.length+24/\(a0.Headers.length:Int)<=a2.Headers.length+24/\(a0.Registers.length:Int)<=a2.Registers.length+24)(e3:Heap)(c3:Mem e3 [⟨.op b6 b7 0,135,7,[c4]⟩,⟨.op a7 a8 0,162,3,[b0]⟩]),n8 a0=res->RC Tryz.prog b S Q [(12,.op b6 b7 0),(11,vi a3),(10,d9),(9,.op a7 a8 0)] e3) ?_ ?_
   ·intro a0 b0 a9 d6 e3 c3 z;rw[<-j9]at z;refine am (sR (af (bg O) (af (cg (k:=0) c3 O O (au.g_Kind b5)) (bN dt O O (mV O ?_)))));refine cm 4 (d:=69) (v:=vb ((decide (((ix ((ix x0.Actions x1).Body) a3).Kind)=1))||(decide (((ix ((ix x0.Actions x1).Body) a3).Kind)=4)))) ?_ ?_
    ·intro S Q r;cases i6:(decide (((ix ((ix x0.Actions x1).Body) a3).Kind)=1))
     ·intro k;have g5:=i6;try simp only[qa]at g5
      refine ai O O (bg O) (ai O O (cg (k:=0) c3 O O (au.g_Kind b5)) (ai O O (ct O O dt) ?_));exact gK O O O O O k
     ·exact gN 3 O O O O O O
    refine mV O ?_;refine cm 5 (d:=75) (v:=vb (((decide (((ix ((ix x0.Actions x1).Body) a3).Kind)=1))||(decide (((ix ((ix x0.Actions x1).Body) a3).Kind)=4)))&&(!decide ((((ix ((ix x0.Actions x1).Body) a3).Dst).Header)=(-1))))) ?_ ?_
    ·intro S Q r;cases j2:((decide (((ix ((ix x0.Actions x1).Body) a3).Kind)=1))||(decide (((ix ((ix x0.Actions x1).Body) a3).Kind)=4)))
     ·exact gN 4 O O O O O O
     ·intro k;have h7:=j2;try simp only[qa]at h7
      refine ai O O (bg O) (ai O O (bg O) ?_);obtain⟨p1,m7,o0⟩:=au.g_Dst b5;refine ai O O (cg (k:=0) c3 O O (sb m7 (aa.g_Header o0))) (ai O O (ct O O (lx (b:= -1))) ?_);exact gK O O O O O k
    refine nS ?_;obtain⟨l4,j7,z⟩:=br z;refine nd (F:=λb S Q=>∀(a1:aq)(b2:PV)(b4:aq.t.R a1 b2)(d5:(a1.Fields.length:Int)<=a0.Fields.length+24/\(a1.Headers.length:Int)<=a0.Headers.length+24/\(a1.Registers.length:Int)<=a0.Registers.length+24)(e2:Heap)(c6:Mem e2 [⟨.op b6 b7 0,135,7,[c4]⟩,⟨.op a7 a8 0,162,3,[b2]⟩]),l4 a1=res->RC Tryz.prog b S Q [(12,.op b6 b7 0),(11,vi a3),(10,d9),(9,.op a7 a8 0)] e2) ?_ ?_
    ·intro a1 b2 b4 d5 e2 c6 z;rw[<-j7]at z;refine am (sR (af (bg O) (af (cg (k:=0) c6 O O (au.g_Kind b5)) (bN dt O O (nS ?_)))));obtain⟨n3,j4,z⟩:=br z;refine nd (F:=λb S Q=>∀(a4:aq)(b9:PV)(b3:aq.t.R a4 b9)(d7:(a4.Fields.length:Int)<=a1.Fields.length+24/\(a4.Headers.length:Int)<=a1.Headers.length+24/\(a4.Registers.length:Int)<=a1.Registers.length+24)(e4:Heap)(c7:Mem e4 [⟨.op b6 b7 0,135,7,[c4]⟩,⟨.op a7 a8 0,162,3,[b9]⟩]),n3 a4=res->RC Tryz.prog b S Q [(12,.op b6 b7 0),(11,vi a3),(10,d9),(9,.op a7 a8 0)] e4) ?_ ?_
     ·intro a4 b9 b3 d7 e4 c7 z;rw[<-j4]at z;refine sR (af (bg O) (af (cg (k:=0) c7 O O (au.g_Kind b5)) (bN dt O O (nS ?_))));refine cd z O ?_ ?_<;>clear z<;>intro c z<;>try simp only[qa]at c
      ·refine av (af (bg O) ?_);obtain⟨o5,m9,i9⟩:=aq.g_Registers b3;refine af (cg (k:=1) c7 O O m9) (af (bg O) (af (cg (k:=0) c7 O O (au.g_Register b5)) ?_));obtain⟨m0,f8,z⟩:=br z;obtain⟨f2,m2,e6⟩:=vc (x1:=(ix ((ix x0.Actions x1).Body) a3).Register) i9 (by((have hk:=kt OY OY;have hl:=hk.2.1;omega)));rw[f8]at e6;have j0:=AddInt_len f8;try dsimp only at j0
       refine cL m2 O O (aj (TR.clo (tSl tI) i9) (aj O bh)) (af (bg O) ?_);obtain⟨d3,c9,k7,n1,e9,f0,l1⟩:=b3;subst n1;refine jh (k:=1) (v:=f2) c7 O O O (pf (TR.cnt (tSl tI) e6) (TR.agg (tSl tI) e6)) O (by((simp only[List.length_cons,List.length_nil];omega))) (λl8 h2=>?_);replace h2:Mem l8 [⟨.op b6 b7 0,135,7,[c4]⟩,⟨.op a7 a8 0,162,3,[.agg [d3,c9,f2]]⟩]:=h2;refine bn (cy (ap (av (mV O (bN dp O O (mV O (bn (cv ?_))))))));have s:=da e0;have o:wr (a3+1)=a3+1:=dj V V;erw[o];exact wC (ih (show aq.t.R ({Fields:=a4.Fields,Headers:=a4.Headers,Registers:=m0}:aq) (.agg [d3,c9,f2]) from⟨d3,c9,f2,O,e9,f0,e6⟩) V V (by(((try dsimp only);omega))) (by(((try dsimp only);omega))) (by(((try dsimp only);omega))) (Mem.sub h2 (.cons _ (.cons_cons _ .slnil))) z) O
      ·refine ax (cy (ap (av (mV O (bN dp O O (mV O (bn (cv ?_))))))));have s:=da e0;have o:wr (a3+1)=a3+1:=dj V V;erw[o];exact wC (ih b3 V V V V V (Mem.sub c7 (.cons _ (.cons_cons _ .slnil))) z) O
     ·intro J;refine cd z O ?_ ?_<;>clear z<;>intro c z<;>try simp only[qa]at c
      ·refine av (af (bg O) ?_);obtain⟨p0,m5,k4⟩:=aq.g_Headers b4;refine af (cg (k:=1) c6 O O m5) (af (bg O) (af (cg (k:=0) c6 O O (au.g_Header b5)) ?_));obtain⟨i5,f7,z⟩:=br z;obtain⟨f5,l9,f3⟩:=vc (x1:=(ix ((ix x0.Actions x1).Body) a3).Header) k4 (by((have hk:=kt OY OY;have hl:=hk.2.1;omega)));rw[f7]at f3;have j8:=AddInt_len f7;try dsimp only at j8
       refine cL l9 O O (aj (TR.clo (tSl tI) k4) (aj O bh)) (af (bg O) ?_);obtain⟨c8,k6,d0,n9,e8,k8,e5⟩:=b4;subst n9;refine jh (k:=1) (v:=f5) c6 O O O (pf (TR.cnt (tSl tI) f3) (TR.agg (tSl tI) f3)) O (by((simp only[List.length_cons,List.length_nil];omega))) (λl7 h3=>?_);replace h3:Mem l7 [⟨.op b6 b7 0,135,7,[c4]⟩,⟨.op a7 a8 0,162,3,[.agg [c8,f5,d0]]⟩]:=h3;refine bn ?_;refine ap (wC (J ({Fields:=a1.Fields,Headers:=i5,Registers:=a1.Registers}:aq) _ (show aq.t.R ({Fields:=a1.Fields,Headers:=i5,Registers:=a1.Registers}:aq) (.agg [c8,f5,d0]) from⟨c8,f5,d0,O,e8,f3,e5⟩) (by(((try dsimp only);omega))) _ (Mem.sub h3 (.cons_cons _ (.cons_cons _ .slnil))) z) O)
      ·refine ax ?_;refine ap (wC (J a1 _ (show aq.t.R a1 b2 from b4) V _ (Mem.sub c6 (.cons_cons _ (.cons_cons _ .slnil))) z) O)
    ·intro J;refine cd z O ?_ ?_<;>clear z<;>intro c z<;>try simp only[qa]at c
     ·refine av (af (bg O) ?_);obtain⟨p2,m3,k5⟩:=aq.g_Headers a9;refine af (cg (k:=1) c3 O O m3) (af (bg O) (af (bg O) ?_));obtain⟨o9,n4,m8⟩:=au.g_Dst b5;refine af (cg (k:=0) c3 O O (sb n4 (aa.g_Header m8))) ?_;obtain⟨i8,g3,z⟩:=br z;obtain⟨f1,l5,f6⟩:=vc (x1:=((ix ((ix x0.Actions x1).Body) a3).Dst).Header) k5 (by((have hk:=kt OY OY;have hl:=hk.2.1;omega)));rw[g3]at f6;have j3:=AddInt_len g3;try dsimp only at j3
      refine cL l5 O O (aj (TR.clo (tSl tI) k5) (aj O bh)) (af (bg O) ?_);obtain⟨d2,l0,d1,l2,e7,k9,f4⟩:=a9;subst l2;refine jh (k:=1) (v:=f1) c3 O O O (pf (TR.cnt (tSl tI) f6) (TR.agg (tSl tI) f6)) O (by((simp only[List.length_cons,List.length_nil];omega))) (λo1 h1=>?_);replace h1:Mem o1 [⟨.op b6 b7 0,135,7,[c4]⟩,⟨.op a7 a8 0,162,3,[.agg [d2,f1,d1]]⟩]:=h1;refine bn ?_;refine ap (wC (J ({Fields:=a0.Fields,Headers:=i8,Registers:=a0.Registers}:aq) _ (show aq.t.R ({Fields:=a0.Fields,Headers:=i8,Registers:=a0.Registers}:aq) (.agg [d2,f1,d1]) from⟨d2,f1,d1,O,e7,f6,f4⟩) (by(((try dsimp only);omega))) _ (Mem.sub h1 (.cons_cons _ (.cons_cons _ .slnil))) z) O)
     ·refine ax ?_;refine ap (wC (J a0 _ (show aq.t.R a0 b0 from a9) V _ (Mem.sub c3 (.cons_cons _ (.cons_cons _ .slnil))) z) O)
   ·intro J;refine cd z O ?_ ?_<;>clear z<;>intro c z<;>try simp only[qa]at c
    ·refine av (af (pw (k:=1) c5 O O (TR.agg aq.t a6)) (af (bg O) ?_));obtain⟨o6,m4,i4⟩:=au.g_Value b5;refine af (cg (k:=0) c5 O O m4) ?_;obtain⟨i3,g4,z⟩:=br z;obtain⟨g7,m6,h4⟩:=bi7 a6 i4 (by((have hk:=kt OY OY;have hl:=hk.2.1;have hv:=bo_v hk.2 (k:=a3) V V V;omega)));rw[g4]at h4;have j5:=af5 g4;try dsimp only at j5
     refine cL m6 O O (aj (TR.clo aq.t a6) (aj (TR.clo (tSl ah.t) i4) bh)) ?_;refine ek (k:=1) (v:=g7) c5 O O O (TR.cnt aq.t h4) (λn5 h8=>?_);replace h8:Mem n5 [⟨.op b6 b7 0,135,7,[c4]⟩,⟨.op a7 a8 0,162,3,[g7]⟩]:=h8;refine bn ?_;refine ap (wC (J i3 _ (show aq.t.R i3 g7 from h4) (by(((try dsimp only);((have hk:=kt OY OY;have hl:=hk.2.1;have hv:=bo_v hk.2 (k:=a3) V V V;omega))))) _ (Mem.sub h8 (.cons_cons _ (.cons_cons _ .slnil))) z) O)
    ·refine ax ?_;refine ap (wC (J a2 _ (show aq.t.R a2 b1 from a6) V _ (Mem.sub c5 (.cons_cons _ (.cons_cons _ .slnil))) z) O)
  ·intro J;refine cd z O ?_ ?_<;>clear z<;>intro c z<;>try simp only[qa]at c
   ·refine av (af (pw (k:=1) d4 O O (TR.agg aq.t c2)) (af (bg O) ?_));obtain⟨o7,l3,i2⟩:=au.g_Index b5;refine af (cg (k:=0) d4 O O l3) ?_;obtain⟨h9,g2,z⟩:=br z;obtain⟨h0,n0,g6⟩:=bi7 c2 i2 (by((have hk:=kt OY OY;have hl:=hk.2.1;have hv:=bo_i hk.2 (k:=a3) V V V;omega)));rw[g2]at g6;have i7:=af5 g2;try dsimp only at i7
    refine cL n0 O O (aj (TR.clo aq.t c2) (aj (TR.clo (tSl ah.t) i2) bh)) ?_;refine ek (k:=1) (v:=h0) d4 O O O (TR.cnt aq.t g6) (λn6 h5=>?_);replace h5:Mem n6 [⟨.op b6 b7 0,135,7,[c4]⟩,⟨.op a7 a8 0,162,3,[h0]⟩]:=h5;refine bn ?_;refine ap (wC (J h9 _ (show aq.t.R h9 h0 from g6) (by(((try dsimp only);((have hk:=kt OY OY;have hl:=hk.2.1;have hv:=bo_i hk.2 (k:=a3) V V V;omega))))) _ (Mem.sub h5 (.cons_cons _ (.cons_cons _ .slnil))) z) O)
   ·refine ax ?_;refine ap (wC (J a5 _ (show aq.t.R a5 b8 from c2) V _ (Mem.sub d4 (.cons_cons _ (.cons_cons _ .slnil))) z) O)
theorem dl4{x0:ae}{x1:Int}{v0:PV}(r0:ae.t.R x0 v0):∃c0,∃c1,∃c2,FnR Tryz.prog 38 [v0,vi x1] (.tup [c0,c1,c2])/\(tSl aa.t).R (ov x0 x1).1 c0/\(tSl tI).R (ov x0 x1).2.1 c1/\(tSl tI).R (ov x0 x1).2.2 c2:=by
 obtain⟨res,z⟩:∃res,ov x0 x1=res:=⟨_,O⟩;suffices H:RC Tryz.prog dj4 [] (QR Tryz.prog [(4,none),(5,none),(6,none)] (RF38 res)) (argE 0 [v0,vi x1]) ⟨0,[]⟩ by
  rw[z];obtain⟨r,h1,c0,c1,c2,rfl,d5,d2,d0⟩:=fnE dj3 OZ H;exact⟨c0,c1,c2,h1,d5,d2,d0⟩
 unfold ov at z;refine sR (af (dw O (TR.cnt ae.t r0)) (af (v:=nilS) (ay O) (af (v:=nilS) (ay O) (af (v:=nilS) (ay O) (nR (lD r0 O O O (mV O ?_)))))));obtain⟨d4,a1,z⟩:=br z;have b0:=bs1 (x1:=x1) r0;rw[a1]at b0;refine cL b0 O O (aj (TR.clo ae.t r0) (aj O bh)) (mV O (xT O O (xT O O (mV O (mV O (nS (am (sR ?_))))))));refine mV O (bN lx O O (nS ?_));refine cd z O ?_ ?_<;>clear z<;>intro a2 z<;>have a5:=a2<;>try simp only[qa]at a5
 ·refine sR (af (v:=nilS) (ay O) (af (v:=nilS) (ay O) (af (v:=nilS) (ay O) (nS ?_))));subst z;exact gi (.tmp O (.tmp O (.tmp O .nil))) (eh (show closed (.tup _)=true from(aj (TR.clo (tSl aa.t) ft) (aj (TR.clo (tSl tI) ft) (aj (TR.clo (tSl tI) ft) bh))))) ⟨nilS,nilS,nilS,O,ft,ft,ft⟩
 ·refine ax (ap (sR (af (v:= .agg [nilS,nilS,nilS]) (mr (cs:=[nilS,nilS,nilS]) O O) ?_)));refine fa (x:= .agg [nilS,nilS,nilS]) (Mem.nil ⟨0,[]⟩) O O (λc6 b9 c9 c5=>?_);refine ek (k:=0) (v:= .agg [nilS,nilS,nilS]) c5 O O O O (λc8 a3=>?_);replace a3:Mem c8 [⟨.op c6 b9 0,162,3,[.agg [nilS,nilS,nilS]]⟩]:=a3;refine nR (gL (ae.g_Actions r0) O O O λd6 b6=>(mV O ?_));obtain⟨d1,b3,b5⟩:=de (i:=x1) b6 (by((have hk:=kt OY OY;have hl:=hk.2.1;omega))) (by((have hk:=kt OY OY;have hl:=hk.2.1;omega)));refine af (bd O O b3) (gL (bm.g_Body b5) O O O λd7 c3=>(mV O (nS (am (sR (mI O (nS (bf ?_))))))));refine wC (ac3 a1 a2 c3 ?_ (show aq.t.R ({Fields:=([]:List aa),Headers:=([]:List Int),Registers:=([]:List Int)}:aq) (.agg [nilS,nilS,nilS]) from⟨nilS,nilS,nilS,O,ft,ft,ft⟩) O V (by(((try dsimp only);(try simp only[List.length_append,List.length_cons,List.length_nil]);omega))) (by(((try dsimp only);(try simp only[List.length_append,List.length_cons,List.length_nil]);omega))) (by(((try dsimp only);(try simp only[List.length_append,List.length_cons,List.length_nil]);omega))) (Mem.sub a3 (.cons_cons _ .slnil)) z) O
  ·intro a6 b1 a0 d3 a4 z;refine dy (ap (sR (af (bg O) ?_)));obtain⟨b4,b8,a7⟩:=aq.g_Fields a0;refine af (cg (k:=0) a4 O O b8) (af (bg O) ?_);obtain⟨b2,c4,a8⟩:=aq.g_Headers a0;refine af (cg (k:=0) a4 O O c4) (af (bg O) ?_);obtain⟨c7,b7,a9⟩:=aq.g_Registers a0;refine af (cg (k:=0) a4 O O b7) (mV O (mV O (mV O (nS ?_))));subst z;exact gi (.tmp O (.tmp O (.tmp O .nil))) (eh (show closed (.tup _)=true from(aj (TR.clo (tSl aa.t) a7) (aj (TR.clo (tSl tI) a8) (aj (TR.clo (tSl tI) a9) bh))))) ⟨b4,b2,c7,O,a7,a8,a9⟩
def RF17(res:(List Int))(r:PV):Prop:=(tSl tI).R res r
theorem ab0{S:List Fr}{res:(List Int)}{x0:ae}{x1:ba}{v0 a7:PV}{a2 a1:Nat}(r0:ae.t.R x0 v0)(hs:x0.Headers.length<=1000)(hA:AB x0)(hc:x1.Cond.length<=1000)(b8:(decide (x1.Table=(-1)))=false)(b6:((decide (x1.Table < 0))||(decide ((x0.Tables.length:Int)<=x1.Table)))=false)(a8:bw.t.R (ix x0.Tables x1.Table) a7){K0:(List Int)->(List Int)}
 (d7:∀{a3:List Int}{a9:PV}(b2:(tSl tI).R a3 a9)(e2:a3.length<=24){h:Heap}(M0:Mem h [⟨.op a2 a1 0,59,6,[a7]⟩]),K0 a3=res->PX Tryz.prog 0 S (QR Tryz.prog [(4,none)] (RF17 res)) [(2,.fp v0),(5,a9),(6,.op a2 a1 0)] h):
 ∀{m:Nat}{a3:List Int}{a0:Int}{a9:PV}(b2:(tSl tI).R a3 a9)(d2:m=Int.toNat ((((ix x0.Tables x1.Table).Keys).length:Int)-a0))(b5:0<=a0)(a4:(a3.length:Int)<=a0)(a5:a0<=24){h:Heap}(M0:Mem h [⟨.op a2 a1 0,59,6,[a7]⟩]),na x0 x1 K0 m a3 a0=res->RC Tryz.prog (.loop cm3) S (QR Tryz.prog [(4,none)] (RF17 res)) [(7,vi a0),(6,.op a2 a1 0),(5,a9),(2,.fp v0)] h:=by
 have hc':=hc;try simp only[qa]at hc'
 have b1:=b8;try simp only[qa]at b1
 have b0:=b6;try simp only[qa]at b0
 intro m;induction m with
 |zero=>
  intro a3 a0 a9 b2 d2 b5 a4 a5 h M0 z;rw[na]at z;refine bv (am (sR (mV O (af (bg O) ?_))));obtain⟨d6,c8,c4⟩:=bw.g_Keys a8;refine af (cg (k:=0) M0 O O c8) (af (cp O (ca c4 Tryz.underlying57 _)) (bN cn O O (nS ?_)));refine bp O ?_ ?_<;>intro c<;>try simp only[qa]at c
  ·omega
  refine dg (dq (dc ?_));exact wP (d7 b2 V (Mem.sub M0 (.cons_cons _ .slnil)) z) O
 |succ m ih=>
  intro a3 a0 a9 b2 d2 b5 a4 a5 h M0 z;rw[na]at z;refine bv (am (sR (mV O (af (bg O) ?_))));obtain⟨d8,d1,b7⟩:=bw.g_Keys a8;refine af (cg (k:=0) M0 O O d1) (af (cp O (ca b7 Tryz.underlying57 _)) (bN cn O O (nS ?_)));refine bp O ?_ ?_<;>intro c<;>try simp only[qa]at c
  rotate_left
  ·omega
  refine ax (ap (am (bf (av (mV O (lD r0 O O O (af (bg O) ?_)))))));obtain⟨e1,c3,c7⟩:=bw.g_Keys a8;refine af (cg (k:=0) M0 O O c3) (mV O ?_);obtain⟨e0,c6,c9⟩:=de (i:=a0) c7 V V;refine af (bd O O c6) (gL (fb.g_Field c9) O O O λd4 b3=>?_);obtain⟨c5,c2,z⟩:=br z;have b4:=br1 r0 b3 OY;rw[c2]at b4;refine cL b4 O O (aj (TR.clo ae.t r0) (aj (TR.clo aa.t b3) bh)) ?_;obtain⟨d9,a6,z⟩:=br z;obtain⟨d5,d0,b9⟩:=as2 (x1:=c5) b2 V;rw[a6]at b9;have d3:=ut a6 V;refine cL d0 O O (aj (TR.clo (tSl tI) b2) (aj O bh)) (mV O (bn (cy (ap (av (mV O (bN dp O O (mV O ?_))))))));refine bn (cv ?_);have s:=da b7;have o:wr (a0+1)=a0+1:=dj V V;erw[o];exact wC (ih b9 V V V (by((have hT:=hA.2 x1.Table V V;omega))) (Mem.sub M0 (.cons_cons _ .slnil)) z) O
theorem ab7{S:List Fr}{res:(List Int)}{x0:ae}{x1:ba}{b4:List Int}{v0 a9:PV}{a8 a6:Nat}(r0:ae.t.R x0 v0)(hs:x0.Headers.length<=1000)(hA:AB x0)(hc:x1.Cond.length<=1000)(c5:(decide (x1.Table=(-1)))=false)(c4:((decide (x1.Table < 0))||(decide ((x0.Tables.length:Int)<=x1.Table)))=false)(b1:bw.t.R (ix x0.Tables x1.Table) a9)(c6:b4.length<=24){K2:(List Int)->(List Int)}
 (e3:∀{a2:List Int}{b2:PV}(b8:(tSl tI).R a2 b2){h:Heap}(M0:Mem h [⟨.op a8 a6 0,59,6,[a9]⟩]),K2 a2=res->PX Tryz.prog 2 S (QR Tryz.prog [(4,none)] (RF17 res)) [(5,b2)] h):
 ∀{m:Nat}{a2:List Int}{a0:Int}{b2:PV}(b8:(tSl tI).R a2 b2)(d4:m=Int.toNat ((((ix x0.Tables x1.Table).Actions).length:Int)-a0))(b9:0<=a0)(a5:(a2.length:Int)<=24+39000*a0)(a3:a0<=24){h:Heap}(M0:Mem h [⟨.op a8 a6 0,59,6,[a9]⟩]),ld x0 x1 K2 m a2 a0=res->RC Tryz.prog (.loop ci1) S (QR Tryz.prog [(4,none)] (RF17 res)) [(8,vi a0),(6,.op a8 a6 0),(5,b2),(2,.fp v0)] h:=by
 have hc':=hc;try simp only[qa]at hc'
 have b6:=c5;try simp only[qa]at b6
 have b3:=c4;try simp only[qa]at b3
 intro m;induction m with
 |zero=>
  intro a2 a0 b2 b8 d4 b9 a5 a3 h M0 z;rw[ld]at z;refine bv (am (sR (mV O (af (bg O) ?_))));obtain⟨e0,c8,d0⟩:=bw.g_Actions b1;refine af (cg (k:=0) M0 O O c8) (af (cp O (ca d0 Tryz.underlying29 _)) (bN cn O O (nS ?_)));refine bp O ?_ ?_<;>intro c<;>try simp only[qa]at c
  ·omega
  refine dg (dq (dc ?_));exact wP (e3 b8 (Mem.sub M0 (.cons_cons _ .slnil)) z) O
 |succ m ih=>
  intro a2 a0 b2 b8 d4 b9 a5 a3 h M0 z;rw[ld]at z;refine bv (am (sR (mV O (af (bg O) ?_))));obtain⟨e4,c9,c3⟩:=bw.g_Actions b1;refine af (cg (k:=0) M0 O O c9) (af (cp O (ca c3 Tryz.underlying29 _)) (bN cn O O (nS ?_)));refine bp O ?_ ?_<;>intro c<;>try simp only[qa]at c
  rotate_left
  ·omega
  refine ax (ap (am (bf (sR (lD r0 O O O (af (bg O) ?_))))));obtain⟨e2,d1,d3⟩:=bw.g_Actions b1;refine af (cg (k:=0) M0 O O d1) (mV O (af (bd O O (slI d3 V V)) (lR O O O ?_)));obtain⟨b0,a4,z⟩:=br z;obtain⟨d7,e1,d8,c7,b7,a7,b5⟩:=dl4 (x1:=(ix ((ix x0.Tables x1.Table).Actions) a0)) r0;rw[a4]at b7 a7 b5;have d6:b0.1.length<=13000/\b0.2.1.length<=13000/\b0.2.2.length<=13000:=be3 a4;refine cL c7 O O (aj (TR.clo ae.t r0) (aj O bh)) (mV O (xT O O (xT O O (xT O O (mV O (mV O (mV O (nS ?_))))))));refine av (lD r0 O O O (mV O (mV O (mV O (mV O ?_)))));obtain⟨d9,a1,z⟩:=br z;obtain⟨e5,d2,c2⟩:=bd6 r0 b8 b7 a7 b5 V V;rw[a1]at c2;have d5:=ym a1 V;refine cL d2 O O (aj (TR.clo ae.t r0) (aj (TR.clo (tSl tI) b8) (aj (TR.clo (tSl aa.t) b7) (aj (TR.clo (tSl tI) a7) (aj (TR.clo (tSl tI) b5) bh))))) (mV O (bn (cy (ap (av (mV O (bN dp O O (mV O ?_))))))));refine bn (cv ?_);have s:=da c3;have o:wr (a0+1)=a0+1:=dj V V;erw[o];exact wC (ih c2 V V V (by((have hT:=hA.2 x1.Table V V;omega))) (Mem.sub M0 (.cons_cons _ .slnil)) z) O
theorem bx1{x0:ae}{x1:ba}{v0 v1:PV}(r0:ae.t.R x0 v0)(r1:ba.t.R x1 v1)(hs:x0.Headers.length<=1000)(hA:AB x0)(hc:x1.Cond.length<=1000):∃r,FnR Tryz.prog 17 [v0,v1] r/\(tSl tI).R (ow x0 x1) r:=by
 refine fnT (R:=RF17) dp7 O λres z=>?_;unfold ow at z;refine sR (af (dw O (TR.cnt ae.t r0)) (af (dw O (TR.cnt ba.t r1)) (af (v:=nilS) (ay O) (nS (am (sR (fL O (ba.g_Table r1) O O (bN (dt (b:= -1)) O O ?_))))))));refine nS ?_;refine cd z O ?_ ?_<;>clear z<;>intro a1 z<;>have b6:=a1<;>try simp only[qa]at b6
 ·refine sR (lD r0 O O O (gL (ba.g_Cond r1) O O O λe4 b7=>?_));obtain⟨e3,a7,z⟩:=br z;obtain⟨e6,d1,b2⟩:=cb2 b7 OY;rw[a7]at b2;have d9:=af9 a7;refine cL d1 O O (aj (TR.clo (tSl ah.t) b7) bh) (gL (ba.g_Cond r1) O O O λf2 c2=>?_);obtain⟨e7,a6,z⟩:=br z;obtain⟨f0,d4,b0⟩:=cd6 c2 OY;rw[a6]at b0;have e0:=zx a6;refine cL d4 O O (aj (TR.clo (tSl ah.t) c2) bh) ?_;obtain⟨f4,a5,z⟩:=br z;obtain⟨e8,d2,b3⟩:=bd6 r0 ft b2 b0 ft V (by(((try dsimp only);(try simp only[List.length_append,List.length_cons,List.length_nil]);omega)));rw[a5]at b3;have d8:=ym a5 (by((simp only[List.length_nil];omega)));refine cL d2 O O (aj (TR.clo ae.t r0) (aj (TR.clo (tSl tI) ft) (aj (TR.clo (tSl aa.t) b2) (aj (TR.clo (tSl tI) b0) (aj (TR.clo (tSl tI) ft) bh))))) (mV O (nS ?_));exact rR z O (TR.clo (tSl tI) b3) b3
 ·refine ax (ap (am (sR (fL O (ba.g_Table r1) O O (bN cn O O (mV O ?_))))));refine cm 7 (d:=33) (v:=vb ((decide (x1.Table < 0))||(decide ((x0.Tables.length:Int)<=x1.Table)))) ?_ ?_
  ·intro S Q r;cases b9:(decide (x1.Table < 0))
   ·intro k;have b1:=b9;try simp only[qa]at b1
    refine ai O O (co O (ba.g_Table r1)) (ai O O (ck O O O) ?_);obtain⟨e9,c7,a9⟩:=ae.g_Tables r0;refine ai O O (co O c7) (ai O O (ck O (TR.cnt (tSl bw.t) a9) (TR.agg (tSl bw.t) a9)) (ai O O (cp O (ca a9 Tryz.underlying26 _)) (ai O O (ct O O kj) ?_)));exact gK O O O O O k
   ·exact gN 6 O O O O O O
  refine nS ?_;refine cd z O ?_ ?_<;>clear z<;>intro a0 z<;>have b4:=a0<;>try simp only[qa]at b4
  ·refine sR (af (v:=nilS) (ay O) (nS ?_));exact rR z O (TR.clo (tSl tI) ft) ft
  ·refine ax (ap (sR (af (v:=nilS) (ay O) (nR (gL (ae.g_Tables r0) O O O λe5 d6=>(fL O (ba.g_Table r1) O O ?_))))));obtain⟨b8,d7,a4⟩:=de (i:=x1.Table) d6 V V;refine af (bd O O d7) (lD a4 O O O ?_);refine fa (x:= .agg [vs [],nilS,nilS,vi 0,nilS,vi 0]) (Mem.nil ⟨0,[]⟩) O O (λc6 c4 e1 c5=>?_);refine ek (k:=0) (v:=b8) c5 O O O (TR.cnt bw.t a4) (λc9 b5=>?_);replace b5:Mem c9 [⟨.op c6 c4 0,59,6,[b8]⟩]:=b5;refine nS (am (sR (mI O (nS (bf ?_)))));refine wC (ab0 r0 hs hA hc a1 a0 a4 ?_ ft O V (by(((try dsimp only);(try simp only[List.length_append,List.length_cons,List.length_nil]);omega))) V (Mem.sub b5 (.cons_cons _ .slnil)) z) O
   ·intro d5 d0 a8 a3 f1 c8 z;refine dy (ap (am (sR (mI O (nS (bf ?_))))));refine wC (ab7 r0 hs hA hc a1 a0 a4 a3 ?_ a8 O V V V (Mem.sub c8 (.cons_cons _ .slnil)) z) O
    ·intro d3 c3 a2 f3 e2 z;refine dy (ap (sR (mV O (mV O (nS ?_)))));exact rR z O (TR.clo (tSl tI) a2) a2
def RF168(res:Bool)(r:PV):Prop:=r=vb res
theorem ye{S:List Fr}{res:Bool}{x0 x1:List Int}{a3:Int}{v0 v1:PV}(r0:(tSl tI).R x0 v0)(r1:(tSl tI).R x1 v1)(a6:0<=a3)(a4:(decide (a3 < (x0.length:Int)))=true){K2:Unit->Bool}
 (a7:K2 ()=res->PX Tryz.prog 2 S (QR Tryz.prog [(4,none)] (RF168 res)) [(0,v0),(1,v1),(5,vi a3)] ⟨0,[]⟩):
 ∀{m:Nat}{a0:Int}(a5:m=Int.toNat ((x1.length:Int)-a0))(a2:0<=a0),nj x0 x1 a3 K2 m a0=res->RC Tryz.prog (.loop cb9) S (QR Tryz.prog [(4,none)] (RF168 res)) [(6,vi a0),(5,vi a3),(1,v1),(0,v0)] ⟨0,[]⟩:=by
 have a1:=a4;try simp only[qa]at a1
 intro m;induction m with
 |zero=>
  intro a0 a5 a2 z;rw[nj]at z;refine bv (am (sR (mV O (mV O (af (cp O (ca r1 Tryz.underlying29 _)) (bN cn O O (nS ?_)))))));refine bp O ?_ ?_<;>intro c<;>try simp only[qa]at c
  ·omega
  refine dg (dq (dc ?_));exact wP (a7 z) O
 |succ m ih=>
  intro a0 a5 a2 z;rw[nj]at z;refine bv (am (sR (mV O (mV O (af (cp O (ca r1 Tryz.underlying29 _)) (bN cn O O (nS ?_)))))));refine bp O ?_ ?_<;>intro c<;>try simp only[qa]at c
  rotate_left
  ·omega
  refine ax (ap (am (bf (sR (mV O (mV O (af (bd O O (slI r0 V V)) (lR O O O ?_))))))));refine mV O (mV O (af (bd O O (slI r1 V V)) (lR O O O (bN dt O O (nS ?_)))));refine cd z O ?_ ?_<;>clear z<;>intro c z<;>try simp only[qa]at c
  ·refine sR (mB O (nS ?_));exact rR z O O O
  ·refine ax (cy (ap (av (mV O (bN dp O O (mV O (bn (cv ?_))))))));have s:=da r1;have o:wr (a0+1)=a0+1:=dj V V;erw[o];exact wC (ih V V z) O
theorem yd{S:List Fr}{res:Bool}{x0 x1:List Int}{v0 v1:PV}(r0:(tSl tI).R x0 v0)(r1:(tSl tI).R x1 v1){K0:Unit->Bool}
 (a5:K0 ()=res->PX Tryz.prog 0 S (QR Tryz.prog [(4,none)] (RF168 res)) [] ⟨0,[]⟩):
 ∀{m:Nat}{a1:Int}(a4:m=Int.toNat ((x0.length:Int)-a1))(a2:0<=a1),nl x0 x1 K0 m a1=res->RC Tryz.prog (.loop bw7) S (QR Tryz.prog [(4,none)] (RF168 res)) [(5,vi a1),(1,v1),(0,v0)] ⟨0,[]⟩:=by
 intro m;induction m with
 |zero=>
  intro a1 a4 a2 z;rw[nl]at z;refine bv (am (sR (mV O (mV O (af (cp O (ca r0 Tryz.underlying29 _)) (bN cn O O (nS ?_)))))));refine bp O ?_ ?_<;>intro c<;>try simp only[qa]at c
  ·omega
  refine dg (dq (dc ?_));exact wP (a5 z) O
 |succ m ih=>
  intro a1 a4 a2 z;rw[nl]at z;refine bv (am (sR (mV O (mV O (af (cp O (ca r0 Tryz.underlying29 _)) (bN cn O O (nS ?_)))))));refine bp O (λa0=>?_) (λa0=>?_)
  ·have hgo:=z;have a3:=a0;try simp only[qa]at a3
   refine ax (ap (am (bf (sR (mI O (nS (bf ?_)))))));refine wC (ye r0 r1 a2 a0 ?_ O V z) O
   ·intro z;refine dy (cy (ap (av (mV O (bN dp O O (mV O (bn (cv ?_))))))));have s:=da r0;have o:wr (a1+1)=a1+1:=dj V V;erw[o];exact wC (ih V V z) O
  ·exfalso;try simp only[qa]at a0
   omega
theorem as8{x0 x1:List Int}{v0 v1:PV}(r0:(tSl tI).R x0 v0)(r1:(tSl tI).R x1 v1):FnR Tryz.prog 168 [v0,v1] (vb (me x0 x1)):=by
 refine fnS (R:=RF168) cz9 (λ_ h=>h) O λres z=>?_;unfold me at z;refine sR (mB O (nS (am (sR (mI O (nS (bf ?_)))))));refine wC (yd r0 r1 ?_ O V z) O
 ·intro z;refine dy (ap (sR (mB O (nS ?_))));exact rR z O O O
def RF101(res:Int)(r:PV):Prop:=r=vi res
theorem cj1{x0:ae}{x1:List ba}{x2 x3:Int}{v0 v1:PV}(r0:ae.t.R x0 v0)(r1:(tSl ba.t).R x1 v1)(hs:x0.Headers.length<=1000)(hA:AB x0)(hu:SU x1)(h2:0<=x2/\x2 < (x1.length:Int))(h3:0<=x3/\x3 < (x1.length:Int)):FnR Tryz.prog 101 [v0,v1,vi x2,vi x3] (vi (oa x0 x1 x2 x3)):=by
 refine fnS (R:=RF101) ck3 (λ_ h=>h) O λres z=>?_;unfold oa at z;refine sR (af (dw O (TR.cnt ae.t r0)) (mI O (nR (lD r0 O O O (mV O (mV O ?_))))));obtain⟨e6,d9,a7⟩:=de (i:=x2) r1 V V;refine af (bd O O d9) (lD a7 O O O ?_);obtain⟨a3,c5,z⟩:=br z;obtain⟨f3,d5,a0⟩:=bf9 r0 a7 OY OY;rw[c5]at a0;refine cL d5 O O (aj (TR.clo ae.t r0) (aj (TR.clo ba.t a7) bh)) (mV O (nS (am (bf (sR (mV O (mV O (mV O ?_))))))));obtain⟨e5,c7,z⟩:=br z;have b6:=cn6 (x1:=x2) (x2:=x3) r1;rw[c7]at b6;refine cL b6 O O (aj (TR.clo (tSl ba.t) r1) (aj O (aj O bh))) (mV O (nS ?_));refine cd z O ?_ ?_<;>clear z<;>intro c z<;>try simp only[qa]at c
 ·refine sR (mI O (nS ?_));exact rR z O O O
 ·refine sR (mV O (mV O ?_));obtain⟨e9,e0,a9⟩:=de (i:=x3) r1 V V;refine af (bd O O e0) (lD a9 O O O (mV O ?_));obtain⟨a1,b8,z⟩:=br z;have b7:=cq9 (x1:=x2) a9;rw[b8]at b7;refine cL b7 O O (aj (TR.clo ba.t a9) (aj O bh)) (mV O ?_);refine cm 9 (d:=37) (v:=vb (a1||(me (ow x0 (ix x1 x3)) a3))) ?_ ?_
  ·intro S Q r;cases b4:a1
   ·intro k;have a5:=b4;try simp only[qa]at a5
    refine ai O O (ck O (TR.cnt ae.t r0) (TR.agg ae.t r0)) (ai O O (ay O) (ai O O (ay O) ?_));obtain⟨f4,d2,a2⟩:=de (i:=x3) r1 V V;refine ai O O (bd O O d2) (ai O O (ck O (TR.cnt ba.t a2) (TR.agg ba.t a2)) ?_);obtain⟨e4,d8,c2⟩:=bx1 r0 a2 OY OY (by((have hk:=hu.c x3 h3.1 h3.2;omega)));refine lf O O (rl O O (aj (TR.clo ae.t r0) (aj (TR.clo ba.t a2) bh)) d8) (ai O O (ay O) ?_);have d3:=as8 c2 a0;refine lf O O (rl O O (aj (TR.clo (tSl tI) c2) (aj (TR.clo (tSl tI) a0) bh)) d3) ?_;exact gK O O O O O k
   ·exact gN 8 O O O O O O
  refine mV O ?_;refine cm 9 (d:=47) (v:=vb ((a1||(me (ow x0 (ix x1 x3)) a3))||(me (ot x0 (ix x1 x3)) a3))) ?_ ?_
  ·intro S Q r;cases c3:(a1||(me (ow x0 (ix x1 x3)) a3))
   ·intro k;have b1:=c3;try simp only[qa]at b1
    refine ai O O (ck O (TR.cnt ae.t r0) (TR.agg ae.t r0)) (ai O O (ay O) (ai O O (ay O) ?_));obtain⟨e2,d6,a4⟩:=de (i:=x3) r1 V V;refine ai O O (bd O O d6) (ai O O (ck O (TR.cnt ba.t a4) (TR.agg ba.t a4)) ?_);obtain⟨e7,d7,c6⟩:=bf9 r0 a4 OY OY;refine lf O O (rl O O (aj (TR.clo ae.t r0) (aj (TR.clo ba.t a4) bh)) d7) (ai O O (ay O) ?_);have d1:=as8 c6 a0;refine lf O O (rl O O (aj (TR.clo (tSl tI) c6) (aj (TR.clo (tSl tI) a0) bh)) d1) ?_;exact gK O O O O O k
   ·exact gN 8 O O O O O O
  refine mV O (nS ?_);refine cd z O ?_ ?_<;>clear z<;>intro c z<;>try simp only[qa]at c
  ·refine sR (mI O (nS ?_));exact rR z O O O
  ·refine sR (lD r0 O O O (mV O (mV O ?_)));obtain⟨f5,d4,b2⟩:=de (i:=x2) r1 V V;refine af (bd O O d4) (lD b2 O O O ?_);obtain⟨f2,b3,z⟩:=br z;obtain⟨e8,c8,b0⟩:=bx1 r0 b2 OY OY (by((have hk:=hu.c x2 h2.1 h2.2;omega)));rw[b3]at b0;refine cL c8 O O (aj (TR.clo ae.t r0) (aj (TR.clo ba.t b2) bh)) (lD r0 O O O (mV O (mV O ?_)));obtain⟨f0,c9,a6⟩:=de (i:=x3) r1 V V;refine af (bd O O c9) (lD a6 O O O ?_);obtain⟨f1,b9,z⟩:=br z;obtain⟨e1,d0,a8⟩:=bf9 r0 a6 OY OY;rw[b9]at a8;refine cL d0 O O (aj (TR.clo ae.t r0) (aj (TR.clo ba.t a6) bh)) ?_;obtain⟨e3,b5,z⟩:=br z;have c4:=as8 b0 a8;rw[b5]at c4;refine cL c4 O O (aj (TR.clo (tSl tI) b0) (aj (TR.clo (tSl tI) a8) bh)) (mV O (nS ?_));refine cd z O ?_ ?_<;>clear z<;>intro c z<;>try simp only[qa]at c
   ·refine sR (mI O (nS ?_));exact rR z O O O
   ·refine ax (cy (ap (sR (mI O (nS ?_)))));exact rR z O O O
def RF31(res:(List (List Int)))(r:PV):Prop:=(tSl (tSl tI)).R res r
theorem ac1{S:List Fr}{res:(List (List Int))}{x0:ae}{x1:List ba}{b3:Int}{zE102:List (List Int)}{v0 v1:PV}{a6:List PV}{a5:PV}{b0 a9:Nat}(r0:ae.t.R x0 v0)(r1:(tSl ba.t).R x1 v1)(hs:x0.Headers.length<=1000)(hA:AB x0)(hu:SU x1)(hun:x1.length<=24)(d0:isL a5=true)(c5:Wri a5 a6)(c4:zE102.length<=4611686018427387904)(d2:0<=b3)(c8:(zE102.length:Int)<=b3)(b7:(decide (b3 < (x1.length:Int)))=true)(d1:(List.replicate x1.length (0:Int)).length=x1.length)(c7:(List.replicate x1.length (0:Int)).length<=4611686018427387904){K2:(List Int)->(List (List Int))}
 (d4:∀{a0:List Int}{a1:List PV}(a4:All2 tI.R a0 a1)(a3:a0.length=x1.length)(a2:a0.length<=4611686018427387904){h:Heap}(M0:Mem h [⟨.os b0 a9 0 x1.length,3,1,a1⟩,⟨a5,29,1,a6⟩]),K2 a0=res->PX Tryz.prog 2 S (QR Tryz.prog [(4,none)] (RF31 res)) [(1,v1),(2,.fp v0),(5,a5),(6,vi b3),(7,.os b0 a9 0 x1.length)] h):
 ∀{m:Nat}{a7:Int}{a0:List Int}{a1:List PV}(a4:All2 tI.R a0 a1)(a3:a0.length=x1.length)(a2:a0.length<=4611686018427387904)(c9:m=Int.toNat ((x1.length:Int)-a7))(b5:0<=a7){h:Heap}(M0:Mem h [⟨.os b0 a9 0 x1.length,3,1,a1⟩,⟨a5,29,1,a6⟩]),lc x0 x1 b3 K2 m a7 a0=res->RC Tryz.prog (.loop co7) S (QR Tryz.prog [(4,none)] (RF31 res)) [(8,vi a7),(7,.os b0 a9 0 x1.length),(6,vi b3),(5,a5),(2,.fp v0),(1,v1)] h:=by
 have b1:=b7;try simp only[qa]at b1
 intro m;induction m with
 |zero=>
  intro a7 a0 a1 a4 a3 a2 c9 b5 h M0 z;rw[lc]at z;refine bv (am (sR (mV O (mV O (af (cp O (ca r1 Tryz.underlying68 _)) (bN cn O O (nS ?_)))))));refine bp O ?_ ?_<;>intro c<;>try simp only[qa]at c
  ·omega
  refine dg (dq (dc ?_));exact wP (d4 a4 a3 a2 (Mem.sub M0 (.cons_cons _ (.cons_cons _ .slnil))) z) O
 |succ m ih=>
  intro a7 a0 a1 a4 a3 a2 c9 b5 h M0 z;rw[lc]at z;refine bv (am (sR (mV O (mV O (af (cp O (ca r1 Tryz.underlying68 _)) (bN cn O O (nS ?_)))))));refine bp O ?_ ?_<;>intro c<;>try simp only[qa]at c
  rotate_left
  ·omega
  refine ax (ap (am (bf (av (mV O (mV O (lD r0 O O O (mV O ?_))))))));refine mV O (mV O ?_);obtain⟨a8,b4,z⟩:=br z;have b6:=cj1 (x2:=b3) (x3:=a7) r0 r1 OY OY OY V V;rw[b4]at b6;refine cL b6 O O (aj (TR.clo ae.t r0) (aj (TR.clo (tSl ba.t) r1) (aj O (aj O bh)))) ?_;have b2:0<=a7:=V;have c6:a7 < (a0.length:Int):=V;refine af (bd O O (qg 1 b2 V)) ?_;refine tq (k:=0) (v:=vi a8) M0 O O O (by rw[All2.length_eq a4];omega) O (λd3 c3=>?_);have c2:=All2.set (i:=(a7).toNat) a4 (show tI.R a8 (vi a8) from O);have b9:(a0.set (a7).toNat a8).length<=4611686018427387904:=by simp only[List.length_set];exact a2
  have b8:(a0.set (a7).toNat a8).length=x1.length:=by simp only[List.length_set];exact a3
  refine bn (cy (ap (av (mV O (bN dp O O (mV O (bn (cv ?_))))))));have s:=da r1;have o:wr (a7+1)=a7+1:=dj V V;erw[o];exact wC (ih c2 b8 b9 V V (Mem.sub c3 (.cons_cons _ (.cons_cons _ .slnil))) z) O
theorem zm{S:List Fr}{res:(List (List Int))}{x0:ae}{x1:List ba}{v0 v1:PV}(r0:ae.t.R x0 v0)(r1:(tSl ba.t).R x1 v1)(hs:x0.Headers.length<=1000)(hA:AB x0)(hu:SU x1)(hun:x1.length<=24){K0:(List (List Int))->(List (List Int))}
 (e4:∀{zE102:List (List Int)}{a0:List PV}{a1:PV}(a6:All2 (tSl tI).R zE102 a0)(a5:isL a1=true)(a3:Wri a1 a0)(a4:zE102.length<=4611686018427387904){h:Heap}(M0:Mem h [⟨a1,29,1,a0⟩]),K0 zE102=res->PX Tryz.prog 0 S (QR Tryz.prog [(4,none)] (RF31 res)) [(5,a1)] h):
 ∀{m:Nat}{b4:Int}{zE102:List (List Int)}{a0:List PV}{a1:PV}(a6:All2 (tSl tI).R zE102 a0)(a5:isL a1=true)(a3:Wri a1 a0)(a4:zE102.length<=4611686018427387904)(d9:m=Int.toNat ((x1.length:Int)-b4))(b8:0<=b4)(b1:(zE102.length:Int)<=b4){h:Heap}(M0:Mem h [⟨a1,29,1,a0⟩]),jo x0 x1 K0 m b4 zE102=res->RC Tryz.prog (.loop cg3) S (QR Tryz.prog [(4,none)] (RF31 res)) [(6,vi b4),(5,a1),(2,.fp v0),(1,v1)] h:=by
 intro m;induction m with
 |zero=>
  intro b4 zE102 a0 a1 a6 a5 a3 a4 d9 b8 b1 h M0 z;rw[jo]at z;refine bv (am (sR (mV O (mV O (af (cp O (ca r1 Tryz.underlying68 _)) (bN cn O O (nS ?_)))))));refine bp O ?_ ?_<;>intro c<;>try simp only[qa]at c
  ·omega
  refine dg (dq (dc ?_));exact wP (e4 a6 a5 a3 a4 (Mem.sub M0 (.cons_cons _ .slnil)) z) O
 |succ m ih=>
  intro b4 zE102 a0 a1 a6 a5 a3 a4 d9 b8 b1 h M0 z;rw[jo]at z;refine bv (am (sR (mV O (mV O (af (cp O (ca r1 Tryz.underlying68 _)) (bN cn O O (nS ?_)))))));refine bp O (λa8=>?_) (λa8=>?_)
  ·have hgo:=z;have b7:=a8;try simp only[qa]at b7
   refine ax (ap (am (bf (sR (mV O (af (cp O (ca r1 Tryz.underlying68 _)) ?_))))));have c9:fits (x1.length) 8=true:=iq V V;refine vz (sz:=1) (ty:=3) (n:=x1.length) (zz:=vi 0) M0 O O O O O c9 (λe3 e2 e6 d5=>?_);have d3:All2 tI.R (List.replicate x1.length (0:Int)) (List.replicate x1.length (vi 0)):=All2.rep (show tI.R (0:Int) (vi 0) from O) _;have b3:(List.replicate x1.length (0:Int)).length=x1.length:=List.length_replicate;have b5:(List.replicate x1.length (0:Int)).length<=4611686018427387904:=by rw[b3];exact gg c9
   refine mV O (nS (am (sR (mV O (bN dp O O (mV O (nS (bf ?_))))))));refine wC (ac1 r0 r1 hs hA hu hun a5 a3 a4 b8 b1 a8 b3 b5 ?_ d3 b3 b5 O (by(rw[dj V V];omega)) (Mem.sub d5 (.cons_cons _ (.cons_cons _ .slnil))) z) O
   ·intro a2 c3 b0 c2 a9 e5 d4 z;refine dy (ap (fc (cw (mV O (cx (cw (mV O (cx ?_))))))));refine bn3 (k:=0) (E':=λa7=>[(35,a7),(34,a1),(1,v1),(2,.fp v0),(5,a1),(6,vi b4),(7,a7)]) d4 O O (λa7=>(vx O (du O (du O (du O (du O (du O (vx O ah0)))))))) (λa7 c7 d8 b9=>?_);have d0:(tSl tI).R a2 a7:=⟨⟨_,d8,b0⟩,Nat.le_trans a9 OO⟩;replace b9:Mem c7 [⟨a1,29,1,a0⟩]:=b9.sub (.cons_cons _ .slnil);refine cw (af (v:= .fs true [a7]) (gb O (all_cons (TR.cnt (tSl tI) d0) ji)) ?_);have d6:(tSl (tSl tI)).R ([a2]:List (List Int)) (.fs true [a7]):=pd ⟨d0,trivial⟩ OZ;refine cx (cw ?_);obtain⟨b2,d1,b6⟩:=ly (t:=(tSl tI)) (h:=c7) d6;have c5:fits (a0.length+b2.length) 24=true:=by rw[All2.length_eq a6,All2.length_eq b6];(try simp only[List.length_cons,List.length_nil]);exact iq V V
    refine jt (k:=0) (es:=a0) (news:=b2) b9 O O O a5 a3 d1 c5 (λe1 e0 d7 c6 d2=>?_);have c4:All2 (tSl tI).R (zE102++([a2]:List (List Int))) (a0++b2):=All2.app a6 b6;have c8:(zE102++([a2]:List (List Int))).length<=4611686018427387904:=by rw[<-All2.length_eq c4,List.length_append];exact gg c5
    refine cx (cw (mV O (cx (kn (cy (ap (av (mV O ?_))))))));refine bN dp O O (mV O (bn (cv ?_)));have s:=da r1;have o:wr (b4+1)=b4+1:=dj V V;erw[o];exact wC (ih c4 d7 c6 c8 V V (by((simp only[List.length_append,List.length_cons,List.length_nil];omega))) (Mem.sub d2 (.cons_cons _ .slnil)) z) O
  ·exfalso;try simp only[qa]at a8
   omega
theorem dm5{x0:ae}{x1:List ba}{v0 v1:PV}(r0:ae.t.R x0 v0)(r1:(tSl ba.t).R x1 v1)(hs:x0.Headers.length<=1000)(hA:AB x0)(hu:SU x1):∃r,FnR Tryz.prog 31 [v0,v1] r/\(tSl (tSl tI)).R (sh x0 x1) r:=by
 refine fnT (R:=RF31) dg0 O λres z=>?_;unfold sh at z;have hun:x1.length<=24:=hu.n;refine sR (af (dw O (TR.cnt ae.t r0)) (af (v:=nilS) (ay O) (nR (af (v:=nilS) (ay O) (nS (am (sR (mI O ?_))))))));refine nS (bf ?_);have a9:=ou (sz:=1) (es:=[]) (Mem.nil ⟨0,[]⟩) 29 (.inl ⟨none,O,O⟩) OZ;refine wC (zm r0 r1 hs hA hu hun ?_ aL O (.inl O) OO O V OZ (Mem.sub a9 (.cons_cons _ .slnil)) z) O
 ·intro a3 a4 a6 a2 a1 a5 a0 b2 b0 z;refine dy (ap (sR (mV O (mV O (nS ?_)))));obtain⟨b1,a8,a7⟩:=qc (P:=Tryz.prog) (k:=0) (t:=(tSl tI)) b0 O a1 a2 (Nat.le_trans a0 OO);subst z;exact gi (.tmp O .nil) a8 a7
end Go.Proofs.YtmonnlkagniolaaGreat
