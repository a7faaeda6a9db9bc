/-
 The code of each function does what its plain program says.
-/
import Derived.Test.YtmonnlkagniolaaGreatL5W8
set_option linter.all false
set_option maxRecDepth 100000
namespace Go.Proofs.YtmonnlkagniolaaGreat
open Go Go.Pb Go.RowKit
def RF112(res:(List Int))(r:PV):Prop:=(tSl tI).R res r
theorem yf{S:List Fr}{res:(List Int)}{x0:List Int}{x1:Int}{v0:PV}(r0:(tSl tI).R x0 v0)(hb:x0.length<=100000){K0:Bool->(List Int)->(List Int)}
 (f7:∀{b1:Bool}{zE102:List Int}{a0:List PV}{a1:PV}(a2:All2 tI.R zE102 a0)(a5:isL a1=true)(a3:Wri a1 a0)(a7:zE102.length<=4611686018427387904)(g5:zE102.length<=200000){h:Heap}(M0:Mem h [⟨a1,3,1,a0⟩]),K0 b1 zE102=res->PX Tryz.prog 0 S (QR Tryz.prog [(4,none)] (RF112 res)) [(1,vi x1),(5,a1),(6,vb b1)] h):
 ∀{m:Nat}{b1:Bool}{a4:Int}{zE102:List Int}{a0:List PV}{a1:PV}(a2:All2 tI.R zE102 a0)(a5:isL a1=true)(a3:Wri a1 a0)(a7:zE102.length<=4611686018427387904)(f6:m=Int.toNat ((x0.length:Int)-a4))(d1:0<=a4)(b3:(zE102.length:Int)<=2*a4)(b4:a4<=(x0.length:Int)){h:Heap}(M0:Mem h [⟨a1,3,1,a0⟩]),gv x0 x1 K0 m b1 a4 zE102=res->RC Tryz.prog (.loop cf6) S (QR Tryz.prog [(4,none)] (RF112 res)) [(7,vi a4),(6,vb b1),(5,a1),(1,vi x1),(0,v0)] h:=by
 have hb':=hb;try simp only[qa]at hb'
 intro m;induction m with
 |zero=>
  intro b1 a4 zE102 a0 a1 a2 a5 a3 a7 f6 d1 b3 b4 h M0 z;rw[gv]at z;refine bv (am (sR (mV O (mV O (af (cp O (ca r0 Tryz.underlying29 _)) (bN cn O O (nS ?_)))))));refine bp O ?_ ?_<;>intro c<;>try simp only[qa]at c
  ·omega
  refine dg (dq (dc ?_));exact wP (f7 a2 a5 a3 a7 V (Mem.sub M0 (.cons_cons _ .slnil)) z) O
 |succ m ih=>
  intro b1 a4 zE102 a0 a1 a2 a5 a3 a7 f6 d1 b3 b4 h M0 z;rw[gv]at z;refine bv (am (sR (mV O (mV O (af (cp O (ca r0 Tryz.underlying29 _)) (bN cn O O (nS ?_)))))));refine bp O ?_ ?_<;>intro c<;>try simp only[qa]at c
  rotate_left
  ·omega
  refine ax (ap (am (bf (am (sR (mV O (af (ju O) (mV O ?_))))))));refine cm 7 (d:=23) (v:=vb ((!b1)&&(decide (x1<=(ix x0 a4))))) ?_ ?_
  ·intro S Q r;cases d8:(!b1)
   ·exact gN 6 O O O O O O
   ·intro k;have b8:=d8;try simp only[qa]at b8
    refine ai O O (ay O) (ai O O (ay O) (ai O O (bd O O (slI r0 V V)) (ai O O (ck O O O) (ai O O (ay O) (ai O O (ct O O kj) ?_)))));exact gK O O O O O k
  refine nS ?_;refine cd z O ?_ ?_<;>clear z<;>intro c z<;>try simp only[qa]at c
  ·refine sR (mB O (nR (mV O (mV O (af (bd O O (slI r0 V V)) (lR O O O (mV O (bN lx O O ?_))))))));refine nS ?_;refine cd z O ?_ ?_<;>clear z<;>intro c z<;>try simp only[qa]at c
   ·refine av (mV O (mV O (af (v:= .fs true [vi x1]) (gb O (all_cons O ji)) ?_)));have e5:(tSl tI).R ([x1]:List Int) (.fs true [vi x1]):=pd ⟨O,trivial⟩ OZ;obtain⟨a6,d4,b5⟩:=ly (t:=tI) (h:=h) e5;have d7:fits (a0.length+a6.length) 8=true:=by rw[All2.length_eq a2,All2.length_eq b5];(try simp only[List.length_cons,List.length_nil]);exact iq V V
    refine jt (k:=0) (es:=a0) (news:=a6) M0 O O O a5 a3 d4 d7 (λg0 e3 e4 d0 e6=>?_);have b9:All2 tI.R (zE102++([x1]:List Int)) (a0++a6):=All2.app a2 b5;have f5:(zE102++([x1]:List Int)).length<=4611686018427387904:=by rw[<-All2.length_eq b9,List.length_append];exact gg d7
    refine mV O (nS (av (mV O (mV O (mV O (af (bd O O (slI r0 V V)) (lR O O O (af (v:= .fs true [vi (ix x0 a4)]) (gb O (all_cons O ji)) ?_))))))));have f4:(tSl tI).R ([(ix x0 a4)]:List Int) (.fs true [vi (ix x0 a4)]):=pd ⟨O,trivial⟩ OZ;obtain⟨a8,c9,b6⟩:=ly (t:=tI) (h:=e3) f4;have e0:fits ((a0++a6).length+a8.length) 8=true:=by rw[All2.length_eq b9,All2.length_eq b6];(try simp only[List.length_cons,List.length_nil]);exact iq (by((simp only[List.length_append,List.length_cons,List.length_nil];omega))) (by((simp only[List.length_append,List.length_cons,List.length_nil];omega)))
    refine jt (k:=0) (es:=(a0++a6)) (news:=a8) e6 O O O e4 d0 c9 e0 (λg1 f8 e2 c2 e7=>?_);have d5:All2 tI.R ((zE102++([x1]:List Int))++([(ix x0 a4)]:List Int)) ((a0++a6)++a8):=All2.app b9 b6;have c3:((zE102++([x1]:List Int))++([(ix x0 a4)]:List Int)).length<=4611686018427387904:=by rw[<-All2.length_eq d5,List.length_append];exact gg e0
    refine mV O (bn (cy (ap (av (mV O (bN dp O O (mV O (bn ?_))))))));refine cv ?_;have s:=da r0;have o:wr (a4+1)=a4+1:=dj V V;erw[o];exact wC (ih d5 e2 c2 c3 V V (by((simp only[List.length_append,List.length_cons,List.length_nil];omega))) V (Mem.sub e7 (.cons_cons _ .slnil)) z) O
   ·refine ax (ap (av (mV O (mV O (mV O (af (bd O O (slI r0 V V)) (lR O O O (af (v:= .fs true [vi (ix x0 a4)]) (gb O (all_cons O ji)) ?_))))))));have f2:(tSl tI).R ([(ix x0 a4)]:List Int) (.fs true [vi (ix x0 a4)]):=pd ⟨O,trivial⟩ OZ;obtain⟨b0,c8,b7⟩:=ly (t:=tI) (h:=h) f2;have c4:fits (a0.length+b0.length) 8=true:=by rw[All2.length_eq a2,All2.length_eq b7];(try simp only[List.length_cons,List.length_nil]);exact iq V V
    refine jt (k:=0) (es:=a0) (news:=b0) M0 O O O a5 a3 c8 c4 (λf9 g4 e9 c5 f0=>?_);have d3:All2 tI.R (zE102++([(ix x0 a4)]:List Int)) (a0++b0):=All2.app a2 b7;have d9:(zE102++([(ix x0 a4)]:List Int)).length<=4611686018427387904:=by rw[<-All2.length_eq d3,List.length_append];exact gg c4
    refine mV O (bn (cy (ap (av (mV O (bN dp O O (mV O (bn ?_))))))));refine cv ?_;have s:=da r0;have o:wr (a4+1)=a4+1:=dj V V;erw[o];exact wC (ih d3 e9 c5 d9 V V (by((simp only[List.length_append,List.length_cons,List.length_nil];omega))) V (Mem.sub f0 (.cons_cons _ .slnil)) z) O
  ·refine ax (ap (av (mV O (mV O (mV O (af (bd O O (slI r0 V V)) (lR O O O (af (v:= .fs true [vi (ix x0 a4)]) (gb O (all_cons O ji)) ?_))))))));have f3:(tSl tI).R ([(ix x0 a4)]:List Int) (.fs true [vi (ix x0 a4)]):=pd ⟨O,trivial⟩ OZ;obtain⟨a9,e1,b2⟩:=ly (t:=tI) (h:=h) f3;have d6:fits (a0.length+a9.length) 8=true:=by rw[All2.length_eq a2,All2.length_eq b2];(try simp only[List.length_cons,List.length_nil]);exact iq V V
   refine jt (k:=0) (es:=a0) (news:=a9) M0 O O O a5 a3 e1 d6 (λg2 g3 f1 c7 e8=>?_);have c6:All2 tI.R (zE102++([(ix x0 a4)]:List Int)) (a0++a9):=All2.app a2 b2;have d2:(zE102++([(ix x0 a4)]:List Int)).length<=4611686018427387904:=by rw[<-All2.length_eq c6,List.length_append];exact gg d6
   refine mV O (bn (cy (ap (av (mV O (bN dp O O (mV O (bn ?_))))))));refine cv ?_;have s:=da r0;have o:wr (a4+1)=a4+1:=dj V V;erw[o];exact wC (ih c6 f1 c7 d2 V V (by((simp only[List.length_append,List.length_cons,List.length_nil];omega))) V (Mem.sub e8 (.cons_cons _ .slnil)) z) O
theorem vc{x0:List Int}{x1:Int}{v0:PV}(r0:(tSl tI).R x0 v0)(hb:x0.length<=100000):∃r,FnR Tryz.prog 112 [v0,vi x1] r/\(tSl tI).R (gz x0 x1) r:=by
 refine fnT (R:=RF112) cl8 O λres z=>?_;unfold gz at z;refine sR (af (v:=nilS) (ay O) (nR (af (v:=nilS) (ay O) (nR (mB O (nS (am (sR ?_))))))));refine mI O (nS (bf ?_));have c3:=ou (sz:=1) (es:=[]) (Mem.nil ⟨0,[]⟩) 3 (.inl ⟨none,O,O⟩) OZ;refine wC (yf r0 hb ?_ aL O (.inl O) OO O V OZ V (Mem.sub c3 (.cons_cons _ .slnil)) z) O
 ·intro b6 a2 a0 a8 a1 a3 a4 a5 b4 c5 b2 z;refine dy (ap (am (sR (mV O (af (ju O) (nS ?_))))));refine cd z O ?_ ?_<;>clear z<;>intro c z<;>try simp only[qa]at c
  ·refine av (mV O (mV O (af (v:= .fs true [vi x1]) (gb O (all_cons O ji)) ?_)));have b5:(tSl tI).R ([x1]:List Int) (.fs true [vi x1]):=pd ⟨O,trivial⟩ OZ;obtain⟨a6,b1,a7⟩:=ly (t:=tI) (h:=c5) b5;have b0:fits (a0.length+a6.length) 8=true:=by rw[All2.length_eq a1,All2.length_eq a7];(try simp only[List.length_cons,List.length_nil]);exact iq V V
   refine jt (k:=0) (es:=a0) (news:=a6) b2 O O O a3 a4 b1 b0 (λc8 c9 b7 c7 c6=>?_);have b3:All2 tI.R (a2++([x1]:List Int)) (a0++a6):=All2.app a1 a7;have a9:(a2++([x1]:List Int)).length<=4611686018427387904:=by rw[<-All2.length_eq b3,List.length_append];exact gg b0
   refine mV O (nR (mV O (mV O (nS ?_))));obtain⟨d0,c2,c4⟩:=qc (P:=Tryz.prog) (k:=0) (t:=tI) c6 O b7 b3 (Nat.le_trans a9 OO);subst z;exact gi (.tmp O .nil) c2 c4
  ·refine ax (ap (sR (mV O (mV O (nS ?_)))));obtain⟨d1,b8,b9⟩:=qc (P:=Tryz.prog) (k:=0) (t:=tI) b2 O a3 a1 (Nat.le_trans a5 OO);subst z;exact gi (.tmp O .nil) b8 b9
def RF40(res:(List aa)×(List Int)×(List Int))(r:PV):Prop:=∃c0,∃c1,∃c2,r= .tup [c0,c1,c2]/\(tSl aa.t).R res.1 c0/\(tSl tI).R res.2.1 c1/\(tSl tI).R res.2.2 c2
theorem ze{S:List Fr}{res:(List aa)×(List Int)×(List Int)}{x0:ae}{x1:Int}{e0:Int×Int}{a1:Int}{b2:aq}{a8 a7:Bool}{v0 e2 b5:PV}{b1 b3 a9 b0:Nat}(r0:ae.t.R x0 v0)(hs:SmH x0)(g2:mo x0 x1=e0)(d9:(!decide (e0.2=0))=false)(g8:0<=a1)(f8:(b2.Fields.length:Int)<=1001*a1)(f9:(b2.Headers.length:Int)<=1001*a1)(g1:(b2.Registers.length:Int)<=1001*a1)(d6:(decide (a1 < (((ix x0.Actions x1).Body).length:Int)))=true)(d0:au.t.R (ix ((ix x0.Actions x1).Body) a1) b5)(g0:a8=(if(decide (((ix ((ix x0.Actions x1).Body) a1).Kind)=1))=true then(decide (((ix ((ix x0.Actions x1).Body) a1).Kind)=1))else(decide (((ix ((ix x0.Actions x1).Body) a1).Kind)=4))))(d4:a8=false)(g3:a7=(if(decide (((ix ((ix x0.Actions x1).Body) a1).Kind)=2))=true then(decide (((ix ((ix x0.Actions x1).Body) a1).Kind)=2))else(decide (((ix ((ix x0.Actions x1).Body) a1).Kind)=3))))(d5:a7=true){K3:aq->((List aa)×(List Int)×(List Int))}
 (g4:∀{a0:aq}{a2:PV}(a3:aq.t.R a0 a2)(h4:(a0.Fields.length:Int)<=1001*a1+1000/\(a0.Headers.length:Int)<=1001*a1/\(a0.Registers.length:Int)<=1001*a1){h:Heap}(M0:Mem h [⟨.op a9 b0 0,135,7,[b5]⟩,⟨.op b1 b3 0,162,3,[a2]⟩]),K3 a0=res->PX Tryz.prog 3 S (QR Tryz.prog [(4,none),(5,none),(6,none)] (RF40 res)) [(2,.fp v0),(9,.op b1 b3 0),(10,e2),(11,vi a1),(12,.op a9 b0 0)] h):
 ∀{m:Nat}{a4:Int}{a0:aq}{a2:PV}(a3:aq.t.R a0 a2)(f7:m=Int.toNat ((((ix x0.Headers ((ix ((ix x0.Actions x1).Body) a1).Header)).Fields).length:Int)-a4))(d8:0<=a4)(c6:(a0.Fields.length:Int)<=1001*a1+a4)(c5:(a0.Headers.length:Int)<=1001*a1)(c2:(a0.Registers.length:Int)<=1001*a1)(c4:a4<=1000)(b9:a1<=12){h:Heap}(M0:Mem h [⟨.op a9 b0 0,135,7,[b5]⟩,⟨.op b1 b3 0,162,3,[a2]⟩]),lw x0 x1 a1 K3 m a4 a0=res->RC Tryz.prog (.loop ck5) S (QR Tryz.prog [(4,none),(5,none),(6,none)] (RF40 res)) [(13,vi a4),(12,.op a9 b0 0),(11,vi a1),(10,e2),(9,.op b1 b3 0),(2,.fp v0)] h:=by
 have c9:=d9;try simp only[qa]at c9
 have c7:=d6;try simp only[qa]at c7
 have c8:=d4;try simp only[qa]at c8
 have d1:=d5;try simp only[qa]at d1
 intro m;induction m with
 |zero=>
  intro a4 a0 a2 a3 f7 d8 c6 c5 c2 c4 b9 h M0 z;rw[lw]at z;refine bv (am (sR (mV O (gL (ae.g_Headers r0) O O O λg5 e7=>(af (bg O) (af (cg (k:=0) M0 O O (au.g_Header d0)) ?_))))));obtain⟨h2,f4,e9⟩:=de (i:=(ix ((ix x0.Actions x1).Body) a1).Header) e7 (by((have hj:=jot OY OY;have hk:=kt OY OY;have hl:=hk.2.1;have hh:=bo_h hk.2 (k:=a1) V V V;omega))) (by((have hj:=jot OY OY;have hk:=kt OY OY;have hl:=hk.2.1;have hh:=bo_h hk.2 (k:=a1) V V V;omega)));refine af (bd O O f4) (gL (bz.g_Fields e9) O O O λh1 f1=>(af (cp O (ca f1 Tryz.underlying23 _)) (bN cn O O (nS ?_))));refine bp O ?_ ?_<;>intro c<;>try simp only[qa]at c
  ·omega
  refine dg (dq (dc ?_));exact wP (g4 a3 V (Mem.sub M0 (.cons_cons _ (.cons_cons _ .slnil))) z) O
 |succ m ih=>
  intro a4 a0 a2 a3 f7 d8 c6 c5 c2 c4 b9 h M0 z;rw[lw]at z;refine bv (am (sR (mV O (gL (ae.g_Headers r0) O O O λh0 f5=>(af (bg O) (af (cg (k:=0) M0 O O (au.g_Header d0)) ?_))))));obtain⟨g7,e8,f0⟩:=de (i:=(ix ((ix x0.Actions x1).Body) a1).Header) f5 (by((have hj:=jot OY OY;have hk:=kt OY OY;have hl:=hk.2.1;have hh:=bo_h hk.2 (k:=a1) V V V;omega))) (by((have hj:=jot OY OY;have hk:=kt OY OY;have hl:=hk.2.1;have hh:=bo_h hk.2 (k:=a1) V V V;omega)));refine af (bd O O e8) (gL (bz.g_Fields f0) O O O λg9 e1=>(af (cp O (ca e1 Tryz.underlying23 _)) (bN cn O O (nS ?_))));refine bp O ?_ ?_<;>intro c<;>try simp only[qa]at c
  rotate_left
  ·omega
  refine ax (ap (am (bf (av (af (bg O) ?_)))));obtain⟨g6,f2,d7⟩:=aq.g_Fields a3;refine af (cg (k:=1) M0 O O f2) (af (bg O) (af (cg (k:=0) M0 O O (au.g_Header d0)) (mV O (af (v:= .agg [vi ((ix ((ix x0.Actions x1).Body) a1).Header),vi a4]) (mr (cs:=[vi ((ix ((ix x0.Actions x1).Body) a1).Header),vi a4]) O O) ?_))));obtain⟨f3,c3,z⟩:=br z;obtain⟨b7,e6,b8⟩:=ai3 d7 (show aa.t.R ({Header:=(ix ((ix x0.Actions x1).Body) a1).Header,Field:=a4}:aa) (.agg [vi ((ix ((ix x0.Actions x1).Body) a1).Header),vi a4]) from O) V;rw[c3]at b8;have d3:=AddField_len c3;try dsimp only at d3
  refine cL e6 O O (aj (TR.clo (tSl aa.t) d7) (aj (TR.clo aa.t (show aa.t.R ({Header:=(ix ((ix x0.Actions x1).Body) a1).Header,Field:=a4}:aa) (.agg [vi ((ix ((ix x0.Actions x1).Body) a1).Header),vi a4]) from O)) bh)) (af (bg O) ?_);obtain⟨e3,a5,a6,e5,e4,b4,b6⟩:=a3;subst e5;refine jh (k:=1) (v:=b7) M0 O O O (pf (TR.cnt (tSl aa.t) b8) (TR.agg (tSl aa.t) b8)) O (by((simp only[List.length_cons,List.length_nil];omega))) (λf6 d2=>?_);replace d2:Mem f6 [⟨.op a9 b0 0,135,7,[b5]⟩,⟨.op b1 b3 0,162,3,[.agg [b7,a5,a6]]⟩]:=d2;refine bn (cy (ap (av (mV O (bN dp O O (mV O (bn (cv ?_))))))));have s:=da e1;have o:wr (a4+1)=a4+1:=dj V V;erw[o];exact wC (ih (show aq.t.R ({Fields:=f3,Headers:=a0.Headers,Registers:=a0.Registers}:aq) (.agg [b7,a5,a6]) from⟨b7,a5,a6,O,b8,b4,b6⟩) V V (by(((try dsimp only);omega))) V V (by(((try dsimp only);((have hj:=jot OY OY;have hk:=kt OY OY;have hl:=hk.2.1;have hh:=bo_h hk.2 (k:=a1) V V V;have h3:=hs _ hh.1 hh.2;omega))))) V (Mem.sub d2 (.cons_cons _ (.cons_cons _ .slnil))) z) O
theorem xv{S:List Fr}{res:(List aa)×(List Int)×(List Int)}{x0:ae}{x1:Int}{h6:Int×Int}{v0 e6:PV}{a5 a6:Nat}(r0:ae.t.R x0 v0)(hs:SmH x0)(h0:mo x0 x1=h6)(f4:(!decide (h6.2=0))=false)(c5:(tSl au.t).R ((ix x0.Actions x1).Body) e6){K0:aq->((List aa)×(List Int)×(List Int))}
 (k9:∀{a1:aq}{a2:PV}(a3:aq.t.R a1 a2){h:Heap}(M0:Mem h [⟨.op a5 a6 0,162,3,[a2]⟩]),K0 a1=res->PX Tryz.prog 0 S (QR Tryz.prog [(4,none),(5,none),(6,none)] (RF40 res)) [(9,.op a5 a6 0)] h):
 ∀{m:Nat}{a0:Int}{a1:aq}{a2:PV}(a3:aq.t.R a1 a2)(k8:m=Int.toNat ((((ix x0.Actions x1).Body).length:Int)-a0))(g0:0<=a0)(c6:(a1.Fields.length:Int)<=1001*a0)(c7:(a1.Headers.length:Int)<=1001*a0)(d0:(a1.Registers.length:Int)<=1001*a0){h:Heap}(M0:Mem h [⟨.op a5 a6 0,162,3,[a2]⟩]),ik x0 x1 K0 m a0 a1=res->RC Tryz.prog (.loop cl0) S (QR Tryz.prog [(4,none),(5,none),(6,none)] (RF40 res)) [(11,vi a0),(10,e6),(9,.op a5 a6 0),(2,.fp v0)] h:=by
 have f8:=f4;try simp only[qa]at f8
 intro m;induction m with
 |zero=>
  intro a0 a1 a2 a3 k8 g0 c6 c7 d0 h M0 z;rw[ik]at z;refine bv (am (sR (mV O (mV O (af (cp O (ca c5 Tryz.underlying95 _)) (bN cn O O (nS ?_)))))));refine bp O ?_ ?_<;>intro c<;>try simp only[qa]at c
  ·omega
  refine dg (dq (dc ?_));exact wP (k9 a3 (Mem.sub M0 (.cons_cons _ .slnil)) z) O
 |succ m ih=>
  intro a0 a1 a2 a3 k8 g0 c6 c7 d0 h M0 z;rw[ik]at z;refine bv (am (sR (mV O (mV O (af (cp O (ca c5 Tryz.underlying95 _)) (bN cn O O (nS ?_)))))));refine bp O (λc4=>?_) (λc4=>?_)
  ·have hgo:=z;have f5:=c4;try simp only[qa]at f5
   refine ax (ap (am (bf (sR (mV O (mV O ?_))))));obtain⟨c2,k6,c3⟩:=de (i:=a0) c5 V V;refine af (bd O O k6) (lD c3 O O O ?_);refine fa (x:= .agg [vi 0,vi 0,vi 0,vi 0,vi 0,nilS,nilS]) M0 O O (λb6 b7 l2 j8=>?_);refine ek (k:=0) (v:=c2) j8 O O O (TR.cnt au.t c3) (λj5 c9=>?_);replace c9:Mem j5 [⟨.op b6 b7 0,135,7,[c2]⟩,⟨.op a5 a6 0,162,3,[a2]⟩]:=c9;refine nR (af (bg O) (af (cg (k:=0) c9 O O (au.g_Kind c3)) (nS (bf (am (sR (bN dt O O (mV O ?_))))))));refine nS ?_;obtain⟨k5,g6,z⟩:=br z;refine nd (F:=λb S Q=>∀(a8:Bool)(f0:a8=(if(decide (((ix ((ix x0.Actions x1).Body) a0).Kind)=1))=true then(decide (((ix ((ix x0.Actions x1).Body) a0).Kind)=1))else(decide (((ix ((ix x0.Actions x1).Body) a0).Kind)=4))))(d1:Heap)(a9:Mem d1 [⟨.op b6 b7 0,135,7,[c2]⟩,⟨.op a5 a6 0,162,3,[a2]⟩]),k5 a8=res->RC Tryz.prog b S Q [(47,vb a8),(40,vi ((ix ((ix x0.Actions x1).Body) a0).Kind)),(12,.op b6 b7 0),(11,vi a0),(10,e6),(9,.op a5 a6 0),(2,.fp v0)] d1) ?_ ?_
   ·intro a8 f0 d1 a9 z;rw[<-g6]at z;refine cd z O ?_ ?_<;>clear z<;>intro e8 z<;>have f7:=e8<;>try simp only[qa]at f7
    ·refine av (af (bg O) ?_);obtain⟨l1,j7,h5⟩:=aq.g_Fields a3;refine af (cg (k:=1) a9 O O j7) (af (bg O) ?_);obtain⟨l3,j9,h7⟩:=au.g_Dst c3;refine af (cg (k:=0) a9 O O j9) ?_;obtain⟨j4,e7,z⟩:=br z;obtain⟨d5,i8,e3⟩:=ai3 h5 h7 (by((have hk:=kt OY OY;have hl:=hk.2.1;omega)));rw[e7]at e3;have h4:=AddField_len e7;try dsimp only at h4
     refine cL i8 O O (aj (TR.clo (tSl aa.t) h5) (aj (TR.clo aa.t h7) bh)) (af (bg O) ?_);obtain⟨i2,b2,b4,j3,i1,e0,e4⟩:=a3;subst j3;refine jh (k:=1) (v:=d5) a9 O O O (pf (TR.cnt (tSl aa.t) e3) (TR.agg (tSl aa.t) e3)) O (by((simp only[List.length_cons,List.length_nil];omega))) (λj6 g1=>?_);replace g1:Mem j6 [⟨.op b6 b7 0,135,7,[c2]⟩,⟨.op a5 a6 0,162,3,[.agg [d5,b2,b4]]⟩]:=g1;refine bn (cy (cy (ap (av (mV O (bN dp O O (mV O (bn ?_))))))));refine cv ?_;have s:=da c5;have o:wr (a0+1)=a0+1:=dj V V;erw[o];exact wC (ih (show aq.t.R ({Fields:=j4,Headers:=a1.Headers,Registers:=a1.Registers}:aq) (.agg [d5,b2,b4]) from⟨d5,b2,b4,O,e3,e0,e4⟩) V V (by(((try dsimp only);omega))) (by(((try dsimp only);omega))) (by(((try dsimp only);omega))) (Mem.sub g1 (.cons _ (.cons_cons _ .slnil))) z) O
    ·refine am (sR (bN dt O O (mV O (nS ?_))));obtain⟨j0,g7,z⟩:=br z;refine nd (F:=λb S Q=>∀(a7:Bool)(f2:a7=(if(decide (((ix ((ix x0.Actions x1).Body) a0).Kind)=2))=true then(decide (((ix ((ix x0.Actions x1).Body) a0).Kind)=2))else(decide (((ix ((ix x0.Actions x1).Body) a0).Kind)=3))))(d2:Heap)(b9:Mem d2 [⟨.op b6 b7 0,135,7,[c2]⟩,⟨.op a5 a6 0,162,3,[a2]⟩]),j0 a7=res->RC Tryz.prog b S Q [(56,vb a7),(12,.op b6 b7 0),(11,vi a0),(10,e6),(9,.op a5 a6 0),(2,.fp v0)] d2) ?_ ?_
     ·intro a7 f2 d2 b9 z;rw[<-g7]at z;refine cd z O ?_ ?_<;>clear z<;>intro e9 z<;>have g5:=e9<;>try simp only[qa]at g5
      ·refine am (sR (mI O (nS (bf ?_))));refine wC (ze r0 hs h0 f4 g0 c6 c7 d0 c4 c3 f0 e8 f2 e9 ?_ a3 O V V V V V (by((have hk:=kt OY OY;have hl:=hk.2.1;omega))) (Mem.sub b9 (.cons_cons _ (.cons_cons _ .slnil))) z) O
       ·intro a4 g9 b8 i4 l0 g3 z;refine dy (ap (av (af (bg O) ?_)));obtain⟨l5,j2,h2⟩:=aq.g_Headers b8;refine af (cg (k:=1) g3 O O j2) (af (bg O) (af (cg (k:=0) g3 O O (au.g_Header c3)) ?_));obtain⟨k3,f1,z⟩:=br z;obtain⟨e1,i9,d9⟩:=vc (x1:=(ix ((ix x0.Actions x1).Body) a0).Header) h2 (by((have hk:=kt OY OY;have hl:=hk.2.1;omega)));rw[f1]at d9;have g8:=AddInt_len f1;try dsimp only at g8
        refine cL i9 O O (aj (TR.clo (tSl tI) h2) (aj O bh)) (af (bg O) ?_);obtain⟨b3,i3,b0,i5,e2,h9,d8⟩:=b8;subst i5;refine jh (k:=1) (v:=e1) g3 O O O (pf (TR.cnt (tSl tI) d9) (TR.agg (tSl tI) d9)) O (by((simp only[List.length_cons,List.length_nil];omega))) (λk7 g4=>?_);replace g4:Mem k7 [⟨.op b6 b7 0,135,7,[c2]⟩,⟨.op a5 a6 0,162,3,[.agg [b3,e1,b0]]⟩]:=g4;refine bn (cy (cy (ap (av (mV O (bN dp O O (mV O (bn ?_))))))));refine cv ?_;have s:=da c5;have o:wr (a0+1)=a0+1:=dj V V;erw[o];exact wC (ih (show aq.t.R ({Fields:=a4.Fields,Headers:=k3,Registers:=a4.Registers}:aq) (.agg [b3,e1,b0]) from⟨b3,e1,b0,O,e2,d9,d8⟩) V V (by(((try dsimp only);omega))) (by(((try dsimp only);omega))) (by(((try dsimp only);omega))) (Mem.sub g4 (.cons _ (.cons_cons _ .slnil))) z) O
      ·refine av (af (bg O) ?_);obtain⟨l4,k0,h3⟩:=aq.g_Registers a3;refine af (cg (k:=1) b9 O O k0) (af (bg O) (af (cg (k:=0) b9 O O (au.g_Register c3)) ?_));obtain⟨i7,f3,z⟩:=br z;obtain⟨d4,i6,d7⟩:=vc (x1:=(ix ((ix x0.Actions x1).Body) a0).Register) h3 (by((have hk:=kt OY OY;have hl:=hk.2.1;omega)));rw[f3]at d7;have h1:=AddInt_len f3;try dsimp only at h1
       refine cL i6 O O (aj (TR.clo (tSl tI) h3) (aj O bh)) (af (bg O) ?_);obtain⟨b1,b5,h8,j1,d6,e5,i0⟩:=a3;subst j1;refine jh (k:=1) (v:=d4) b9 O O O (pf (TR.cnt (tSl tI) d7) (TR.agg (tSl tI) d7)) O (by((simp only[List.length_cons,List.length_nil];omega))) (λk4 f9=>?_);replace f9:Mem k4 [⟨.op b6 b7 0,135,7,[c2]⟩,⟨.op a5 a6 0,162,3,[.agg [b1,b5,d4]]⟩]:=f9;refine bn (cy (cy (ap (av (mV O (bN dp O O (mV O (bn ?_))))))));refine cv ?_;have s:=da c5;have o:wr (a0+1)=a0+1:=dj V V;erw[o];exact wC (ih (show aq.t.R ({Fields:=a1.Fields,Headers:=a1.Headers,Registers:=i7}:aq) (.agg [b1,b5,d4]) from⟨b1,b5,d4,O,d6,e5,d7⟩) V V (by(((try dsimp only);omega))) (by(((try dsimp only);omega))) (by(((try dsimp only);omega))) (Mem.sub f9 (.cons _ (.cons_cons _ .slnil))) z) O
     ·intro J;refine cd z O ?_ ?_<;>clear z<;>intro c8 z<;>have g2:=c8<;>try simp only[qa]at g2
      ·refine ax ?_;refine ap (wC (J _ (aq8 c8).symm _ (Mem.sub a9 (.cons_cons _ (.cons_cons _ .slnil))) z) O)
      ·refine av (bN dt O O (mV O (bn ?_)));refine ap (wC (J _ (ao5 c8).symm _ (Mem.sub a9 (.cons_cons _ (.cons_cons _ .slnil))) z) O)
   ·intro J;refine cd z O ?_ ?_<;>clear z<;>intro d3 z<;>have f6:=d3<;>try simp only[qa]at f6
    ·refine ax ?_;refine ap (wC (J _ (aq8 d3).symm _ (Mem.sub c9 (.cons_cons _ (.cons_cons _ .slnil))) z) O)
    ·refine av (bN dt O O (mV O (bn ?_)));refine ap (wC (J _ (ao5 d3).symm _ (Mem.sub c9 (.cons_cons _ (.cons_cons _ .slnil))) z) O)
  ·exfalso;try simp only[qa]at c4
   omega
theorem di1{x0:ae}{x1:Int}{v0:PV}(r0:ae.t.R x0 v0)(hs:SmH x0):∃c0,∃c1,∃c2,FnR Tryz.prog 40 [v0,vi x1] (.tup [c0,c1,c2])/\(tSl aa.t).R (ns x0 x1).1 c0/\(tSl tI).R (ns x0 x1).2.1 c1/\(tSl tI).R (ns x0 x1).2.2 c2:=by
 obtain⟨res,z⟩:∃res,ns x0 x1=res:=⟨_,O⟩;suffices H:RC Tryz.prog cx0 [] (QR Tryz.prog [(4,none),(5,none),(6,none)] (RF40 res)) (argE 0 [v0,vi x1]) ⟨0,[]⟩ by
  rw[z];obtain⟨r,h1,c0,c1,c2,rfl,d5,d2,d0⟩:=fnE dm1 OZ H;exact⟨c0,c1,c2,h1,d5,d2,d0⟩
 unfold ns at z;refine sR (af (dw O (TR.cnt ae.t r0)) (af (v:=nilS) (ay O) (af (v:=nilS) (ay O) (af (v:=nilS) (ay O) (nR (lD r0 O O O (mV O ?_)))))));obtain⟨d4,a1,z⟩:=br z;have a9:=bs1 (x1:=x1) r0;rw[a1]at a9;refine cL a9 O O (aj (TR.clo ae.t r0) (aj O bh)) (mV O (xT O O (xT O O (mV O (mV O (nS (am (sR ?_))))))));refine mV O (bN lx O O (nS ?_));refine cd z O ?_ ?_<;>clear z<;>intro a2 z<;>have a5:=a2<;>try simp only[qa]at a5
 ·refine sR (af (v:=nilS) (ay O) (af (v:=nilS) (ay O) (af (v:=nilS) (ay O) (nS ?_))));subst z;exact gi (.tmp O (.tmp O (.tmp O .nil))) (eh (show closed (.tup _)=true from(aj (TR.clo (tSl aa.t) ft) (aj (TR.clo (tSl tI) ft) (aj (TR.clo (tSl tI) ft) bh))))) ⟨nilS,nilS,nilS,O,ft,ft,ft⟩
 ·refine ax (ap (sR (af (v:= .agg [nilS,nilS,nilS]) (mr (cs:=[nilS,nilS,nilS]) O O) ?_)));refine fa (x:= .agg [nilS,nilS,nilS]) (Mem.nil ⟨0,[]⟩) O O (λc6 b9 c9 c5=>?_);refine ek (k:=0) (v:= .agg [nilS,nilS,nilS]) c5 O O O O (λc8 a4=>?_);replace a4:Mem c8 [⟨.op c6 b9 0,162,3,[.agg [nilS,nilS,nilS]]⟩]:=a4;refine nR (gL (ae.g_Actions r0) O O O λd6 b7=>(mV O ?_));obtain⟨d1,b4,b6⟩:=de (i:=x1) b7 (by((have hk:=kt OY OY;have hl:=hk.2.1;omega))) (by((have hk:=kt OY OY;have hl:=hk.2.1;omega)));refine af (bd O O b4) (gL (bm.g_Body b6) O O O λd7 c4=>(mV O (nS (am (sR (mI O (nS (bf ?_))))))));refine wC (xv r0 hs a1 a2 c4 ?_ (show aq.t.R ({Fields:=([]:List aa),Headers:=([]:List Int),Registers:=([]:List Int)}:aq) (.agg [nilS,nilS,nilS]) from⟨nilS,nilS,nilS,O,ft,ft,ft⟩) O V (by(((try dsimp only);(try simp only[List.length_append,List.length_cons,List.length_nil]);omega))) (by(((try dsimp only);(try simp only[List.length_append,List.length_cons,List.length_nil]);omega))) (by(((try dsimp only);(try simp only[List.length_append,List.length_cons,List.length_nil]);omega))) (Mem.sub a4 (.cons_cons _ .slnil)) z) O
  ·intro a6 a8 a0 d3 a3 z;refine dy (ap (sR (af (bg O) ?_)));obtain⟨c3,b2,b0⟩:=aq.g_Fields a0;refine af (cg (k:=0) a3 O O b2) (af (bg O) ?_);obtain⟨c7,b5,a7⟩:=aq.g_Headers a0;refine af (cg (k:=0) a3 O O b5) (af (bg O) ?_);obtain⟨b3,b8,b1⟩:=aq.g_Registers a0;refine af (cg (k:=0) a3 O O b8) (mV O (mV O (mV O (nS ?_))));subst z;exact gi (.tmp O (.tmp O (.tmp O .nil))) (eh (show closed (.tup _)=true from(aj (TR.clo (tSl aa.t) b0) (aj (TR.clo (tSl tI) a7) (aj (TR.clo (tSl tI) b1) bh))))) ⟨c3,c7,b3,O,b0,a7,b1⟩
def RF147(res:Int)(r:PV):Prop:=r=vi res
theorem xt{S:List Fr}{res:Int}{x0:ae}{x1:Int}{v0:PV}(r0:ae.t.R x0 v0)(hh:x1<=(x0.Headers.length:Int))(hs:x0.Headers.length<=1000){K0:Int->Int}
 (b1:∀{a1:Int},K0 a1=res->PX Tryz.prog 0 S (QR Tryz.prog [(4,none)] (RF147 res)) [(5,vi a1)] ⟨0,[]⟩):
 ∀{m:Nat}{a1 a0:Int}(a9:m=Int.toNat (x1-a0))(a2:0<=a0),lq x0 K0 m a1 a0=res->RC Tryz.prog (.loop ca7) S (QR Tryz.prog [(4,none)] (RF147 res)) [(6,vi a0),(5,vi a1),(2,.fp v0),(1,vi x1)] ⟨0,[]⟩:=by
 intro m;induction m with
 |zero=>
  intro a1 a0 a9 a2 z;rw[lq]at z;refine bv (am (sR (mV O (mV O (bN cn O O (nS ?_))))));refine bp O ?_ ?_<;>intro c<;>try simp only[qa]at c
  ·omega
  refine dg (dq (dc ?_));exact wP (b1 z) O
 |succ m ih=>
  intro a1 a0 a9 a2 z;rw[lq]at z;refine bv (am (sR (mV O (mV O (bN cn O O (nS ?_))))));refine bp O ?_ ?_<;>intro c<;>try simp only[qa]at c
  rotate_left
  ·omega
  refine ax (ap (am (bf (av (mV O ?_)))));obtain⟨b3,a6,a3⟩:=ae.g_Headers r0;refine fA O a6 (lD a3 O O O (mV O ?_));obtain⟨b0,a7,a5⟩:=de (i:=a0) a3 V V;refine af (bd O O a7) ?_;obtain⟨b2,a8,a4⟩:=bz.g_Fields a5;refine fA O a8 (lD a4 O O O (af (cp O (ca a4 Tryz.underlying23 _)) (bN dp O O (mV O (bn (cy (ap (av ?_))))))));refine mV O (bN dp O O (mV O (bn (cv ?_))));have o:wr (a0+1)=a0+1:=dj V V;erw[o];exact wC (ih V V z) O
theorem ai0{x0:ae}{x1:Int}{v0:PV}(r0:ae.t.R x0 v0)(hh:x1<=(x0.Headers.length:Int))(hs:x0.Headers.length<=1000):FnR Tryz.prog 147 [v0,vi x1] (vi (nm x0 x1)):=by
 refine fnS (R:=RF147) cg0 (λ_ h=>h) O λres z=>?_;unfold nm at z;refine sR (af (dw O (TR.cnt ae.t r0)) (mI O (nR (mI O (nS (am (sR (mI O ?_))))))));refine nS (bf ?_);refine wC (xt r0 hh hs ?_ O V z) O
 ·intro a0 z;refine dy (ap (sR (mV O (mV O (nS ?_)))));exact rR z O O O
def RF74(res:Int)(r:PV):Prop:=r=vi res
theorem br1{x0:ae}{x1:aa}{v0 v1:PV}(r0:ae.t.R x0 v0)(r1:aa.t.R x1 v1)(hs:x0.Headers.length<=1000):FnR Tryz.prog 74 [v0,v1] (vi (fh x0 x1)):=by
 refine fnS (R:=RF74) dn9 (λ_ h=>h) O λres z=>?_;unfold fh at z;refine sR (af (dw O (TR.cnt ae.t r0)) (af (dw O (TR.cnt aa.t r1)) (mI O (nS (am (sR (fL O (aa.g_Header r1) O O (bN (dt (b:= -1)) O O ?_))))))));refine mV O ?_;refine cm 4 (d:=12) (v:=vb ((decide (x1.Header=(-1)))&&(decide (0<=x1.Field)))) ?_ ?_
 ·intro S Q r;cases b4:(decide (x1.Header=(-1)))
  ·exact gN 3 O O O O O O
  ·intro k;have a7:=b4;try simp only[qa]at a7
   refine ai O O (co O (aa.g_Field r1)) (ai O O (ck O O O) (ai O O (ct O O kj) ?_));exact gK O O O O O k
 refine mV O ?_;refine cm 7 (d:=20) (v:=vb (((decide (x1.Header=(-1)))&&(decide (0<=x1.Field)))&&(decide (x1.Field < (x0.Metadata.length:Int))))) ?_ ?_
 ·intro S Q r;cases b0:((decide (x1.Header=(-1)))&&(decide (0<=x1.Field)))
  ·exact gN 6 O O O O O O
  ·intro k;have a8:=b0;try simp only[qa]at a8
   refine ai O O (co O (aa.g_Field r1)) (ai O O (ck O O O) ?_);obtain⟨d5,c3,a4⟩:=ae.g_Metadata r0;refine ai O O (co O c3) (ai O O (ck O (TR.cnt (tSl az.t) a4) (TR.agg (tSl az.t) a4)) (ai O O (cp O (ca a4 Tryz.underlying23 _)) (ai O O (ct O O cn) ?_)));exact gK O O O O O k
 refine nS ?_;refine cd z O ?_ ?_<;>clear z<;>intro c z<;>try simp only[qa]at c
 ·refine sR (lD r0 O O O (gL (ae.g_Headers r0) O O O λd4 c4=>(af (cp O (ca c4 Tryz.underlying22 _)) ?_)));obtain⟨d1,b3,z⟩:=br z;have b7:=ai0 (x1:=(x0.Headers.length:Int)) r0 V OY;rw[b3]at b7;refine cL b7 O O (aj (TR.clo ae.t r0) (aj O bh)) (gL (ae.g_Headers r0) O O O λd3 c2=>(af (cp O (ca c2 Tryz.underlying22 _)) (bN dp O O (fL O (aa.g_Field r1) O O (bN dp O O (mV O (nS ?_)))))));exact rR z O O O
 ·refine ax (ap (am (sR (fL O (aa.g_Header r1) O O (bN cn O O (mV O ?_))))));refine cm 7 (d:=43) (v:=vb ((decide (x1.Header < 0))||(decide ((x0.Headers.length:Int)<=x1.Header)))) ?_ ?_
  ·intro S Q r;cases a9:(decide (x1.Header < 0))
   ·intro k;have a0:=a9;try simp only[qa]at a0
    refine ai O O (co O (aa.g_Header r1)) (ai O O (ck O O O) ?_);obtain⟨d2,b8,a3⟩:=ae.g_Headers r0;refine ai O O (co O b8) (ai O O (ck O (TR.cnt (tSl bz.t) a3) (TR.agg (tSl bz.t) a3)) (ai O O (cp O (ca a3 Tryz.underlying22 _)) (ai O O (ct O O kj) ?_)));exact gK O O O O O k
   ·exact gN 6 O O O O O O
  refine mV O ?_;refine cm 4 (d:=48) (v:=vb (((decide (x1.Header < 0))||(decide ((x0.Headers.length:Int)<=x1.Header)))||(decide (x1.Field < 0)))) ?_ ?_
  ·intro S Q r;cases b5:((decide (x1.Header < 0))||(decide ((x0.Headers.length:Int)<=x1.Header)))
   ·intro k;have a2:=b5;try simp only[qa]at a2
    refine ai O O (co O (aa.g_Field r1)) (ai O O (ck O O O) (ai O O (ct O O cn) ?_));exact gK O O O O O k
   ·exact gN 3 O O O O O O
  refine mV O ?_;refine cm 12 (d:=61) (v:=vb ((((decide (x1.Header < 0))||(decide ((x0.Headers.length:Int)<=x1.Header)))||(decide (x1.Field < 0)))||(decide ((((ix x0.Headers x1.Header).Fields).length:Int)<=x1.Field)))) ?_ ?_
  ·intro S Q r;cases b1:(((decide (x1.Header < 0))||(decide ((x0.Headers.length:Int)<=x1.Header)))||(decide (x1.Field < 0)))
   ·intro k;have a6:=b1;try simp only[qa]at a6
    refine ai O O (co O (aa.g_Field r1)) (ai O O (ck O O O) ?_);obtain⟨d6,c5,a1⟩:=ae.g_Headers r0;refine ai O O (co O c5) (ai O O (ck O (TR.cnt (tSl bz.t) a1) (TR.agg (tSl bz.t) a1)) (ai O O (co O (aa.g_Header r1)) (ai O O (ck O O O) ?_)));obtain⟨c9,b9,c6⟩:=de (i:=x1.Header) a1 V V;refine ai O O (bd O O b9) ?_;obtain⟨c8,c7,a5⟩:=bz.g_Fields c6;refine ai O O (co O c7) (ai O O (ck O (TR.cnt (tSl az.t) a5) (TR.agg (tSl az.t) a5)) (ai O O (cp O (ca a5 Tryz.underlying23 _)) (ai O O (ct O O kj) ?_)));exact gK O O O O O k
   ·exact gN 11 O O O O O O
  refine nS ?_;refine cd z O ?_ ?_<;>clear z<;>intro c z<;>try simp only[qa]at c
  ·refine sR (mI O (nS ?_));exact rR z O O O
  ·refine ax (ap (sR (lD r0 O O O (fL O (aa.g_Header r1) O O ?_))));obtain⟨d0,b2,z⟩:=br z;have b6:=ai0 (x1:=x1.Header) r0 V OY;rw[b2]at b6;refine cL b6 O O (aj (TR.clo ae.t r0) (aj O bh)) (fL O (aa.g_Field r1) O O (bN dp O O (mV O (nS ?_))));exact rR z O O O
def RF73(res:(List Int))(r:PV):Prop:=(tSl tI).R res r
theorem yb{S:List Fr}{res:(List Int)}{x0:List Int}{x1:Int}{v0:PV}(r0:(tSl tI).R x0 v0)(hb:x0.length<=2000000){K0:Int->(List Int)}
 (a8:∀{a0:Int}(a9:0<=a0/\a0<=(x0.length:Int)),K0 a0=res->PX Tryz.prog 0 S (QR Tryz.prog [(4,none)] (RF73 res)) [(0,v0),(1,vi x1),(5,vi a0)] ⟨0,[]⟩):
 ∀{m:Nat}{a0:Int}(a7:m=Int.toNat ((x0.length:Int)-a0))(a5:0<=a0)(a1:a0<=(x0.length:Int)),lv x0 x1 K0 m a0=res->RC Tryz.prog (.loop cw7) S (QR Tryz.prog [(4,none)] (RF73 res)) [(5,vi a0),(1,vi x1),(0,v0)] ⟨0,[]⟩:=by
 have hb':=hb;try simp only[qa]at hb'
 intro m;induction m with
 |zero=>
  intro a0 a7 a5 a1 z;rw[lv]at z;refine bv (am (sR (mV O (mV O (af (cp O (ca r0 Tryz.underlying29 _)) (bN cn O O (mV O ?_)))))));refine cm 7 (d:=18) (v:=vb ((decide (a0 < (x0.length:Int)))&&(decide ((ix x0 a0) < x1)))) ?_ ?_
  ·intro S Q r;cases a6:(decide (a0 < (x0.length:Int)))
   ·exact gN 6 O O O O O O
   ·intro k;have a3:=a6;try simp only[qa]at a3
    refine ai O O (ay O) (ai O O (ay O) (ai O O (bd O O (slI r0 V V)) (ai O O (ck O O O) (ai O O (ay O) (ai O O (ct O O cn) ?_)))));exact gK O O O O O k
  refine nS ?_;refine bp O ?_ ?_<;>intro c<;>try simp only[qa]at c
  ·omega
  refine dg (dq (dc ?_));exact wP (a8 V z) O
 |succ m ih=>
  intro a0 a7 a5 a1 z;rw[lv]at z;refine bv (am (sR (mV O (mV O (af (cp O (ca r0 Tryz.underlying29 _)) (bN cn O O (mV O ?_)))))));refine cm 7 (d:=18) (v:=vb ((decide (a0 < (x0.length:Int)))&&(decide ((ix x0 a0) < x1)))) ?_ ?_
  ·intro S Q r;cases a4:(decide (a0 < (x0.length:Int)))
   ·exact gN 6 O O O O O O
   ·intro k;have a2:=a4;try simp only[qa]at a2
    refine ai O O (ay O) (ai O O (ay O) (ai O O (bd O O (slI r0 V V)) (ai O O (ck O O O) (ai O O (ay O) (ai O O (ct O O cn) ?_)))));exact gK O O O O O k
  refine nS ?_;refine cd z O ?_ ?_<;>clear z<;>intro c z<;>try simp only[qa]at c
  ·refine ax (ap (bf (av (mV O (bN dp O O (mV O (bn (cy ?_))))))));refine cv ?_;have s:=da r0;have o:wr (a0+1)=a0+1:=dj V V;erw[o];exact wC (ih V V V z) O
  ·refine dg (dq (dc ?_));exact wP (a8 V z) O
theorem as2{x0:List Int}{x1:Int}{v0:PV}(r0:(tSl tI).R x0 v0)(hb:x0.length<=2000000):∃r,FnR Tryz.prog 73 [v0,vi x1] r/\(tSl tI).R (mj x0 x1) r:=by
 refine fnT (R:=RF73) dk2 O λres z=>?_;unfold mj at z;refine sR (af (v:=nilS) (ay O) (nR (mI O (nS (am (bf ?_))))));refine wC (yb r0 hb ?_ O V V z) O
 ·intro a0 d0 z;refine dy (ap (am (sR (mV O (bN cn O O (mV O ?_))))));refine cm 13 (d:=36) (v:=vb ((decide (x1 < 0))||((decide (a0 < (x0.length:Int)))&&(decide ((ix x0 a0)=x1))))) ?_ ?_
  ·intro S Q r;cases c2:(decide (x1 < 0))
   ·intro k;have b1:=c2;try simp only[qa]at b1
    refine ai O O (ay O) (ai O O (ay O) (ai O O (cp O (ca r0 Tryz.underlying29 _)) (ai O O (ct O O cn) (ai O O (ay O) ?_))));refine cm 7 (d:=35) (v:=vb ((decide (a0 < (x0.length:Int)))&&(decide ((ix x0 a0)=x1)))) ?_ ?_
    ·intro S Q r;cases b9:(decide (a0 < (x0.length:Int)))
     ·intro k;refine ja O O (ja O O (ja O O (ja O O (ja O O (ja O O (ai (v:=vb false) O O (po O O O O) ?_))))));exact wD k O
     ·intro k;have b4:=b9;try simp only[qa]at b4
      refine ai O O (ay O) (ai O O (ay O) (ai O O (bd O O (slI r0 V V)) (ai O O (ck O O O) (ai O O (ay O) (ai O O (ct O O dt) (ai (v:=vb (decide ((ix x0 a0)=x1))) O O (po O O O O) ?_))))));exact wD k O
    exact gK O O O O O k
   ·exact gN 12 O O O O O O
  refine nS ?_;refine cd z O ?_ ?_<;>clear z<;>intro c z<;>try simp only[qa]at c
  ·refine sR (mV O (mV O (nS ?_)));exact rR z O (TR.clo (tSl tI) r0) r0
  ·refine ax (ap (sR (af (v:= .fs true []) (gb O ji) ?_)));have d7:(tSl tI).R ([]:List Int) (.fs true []):=pd trivial OZ;refine mV O (mV O (ww (E0:=[(40,vi a0),(39,v0),(38,.fs true []),(36,vb ((decide (x1 < 0))||((decide (a0 < (x0.length:Int)))&&(decide ((ix x0 a0)=x1))))),(23,vb (decide (x1 < 0))),(22,vb (decide (x1 < 0))),(21,vi x1),(0,v0),(1,vi x1),(5,vi a0)]) (sB O) ?_));obtain⟨b2,e3,e7⟩:=at4 (P:=Tryz.prog) (hf:=false) (E:=[(40,vi a0),(39,v0),(38,.fs true []),(36,vb ((decide (x1 < 0))||((decide (a0 < (x0.length:Int)))&&(decide ((ix x0 a0)=x1))))),(23,vb (decide (x1 < 0))),(22,vb (decide (x1 < 0))),(21,vi x1),(0,v0),(1,vi x1),(5,vi a0)]) (h:=⟨0,[]⟩) (t:=tI) (tt:=29) (x:=(.tmp 39)) (lo:=none) (hi:=(some (.tmp 40))) (a:=0) (b:=a0) r0 O O O (show 0<=0 by omega) (show 0<=a0 by omega) (show a0<=(x0.length:Int) by omega) (λad=>by kernel_rfl);have f3:=wo (l:=x0) (show 0<=0 by omega) (show 0<=a0 by omega) (show a0<=(x0.length:Int) by omega);refine af (v:=b2) (e3) ?_;have d9:=d7;have a9:All2 tI.R ([]:List Int) ([]:List PV):=cq4 d9;have d4:=ou (sz:=1) (es:=([]:List PV)) (Mem.nil ⟨0,[]⟩) 3 (.inr O) (All2.cnt (t:=tI) a9);obtain⟨a1,b7,a7⟩:=ly (t:=tI) (h:=⟨0,[]⟩) e7;have c9:fits (([]:List PV).length+a1.length) 8=true:=by rw[All2.length_eq a9,All2.length_eq a7];(try simp only[List.length_cons,List.length_nil]);exact iq V V
   refine jt (k:=0) (es:=([]:List PV)) (news:=a1) d4 O O O O (.inl O) b7 c9 (λa5 d5 e1 b8 e4=>?_);have b3:All2 tI.R (sub x0 0 a0) (([]:List PV)++a1):=All2.app a9 a7;have f2:(sub x0 0 a0).length<=4611686018427387904:=by rw[<-All2.length_eq b3,List.length_append];exact gg c9
   refine mV O (nR (mV O (mV O (af (v:= .fs true [vi x1]) (gb O (all_cons O ji)) ?_))));have e2:(tSl tI).R ([x1]:List Int) (.fs true [vi x1]):=pd ⟨O,trivial⟩ OZ;obtain⟨a2,c8,a6⟩:=ly (t:=tI) (h:=d5) e2;have c4:fits ((([]:List PV)++a1).length+a2.length) 8=true:=by rw[All2.length_eq b3,All2.length_eq a6];(try simp only[List.length_cons,List.length_nil]);exact iq V V
   refine jt (k:=0) (es:=(([]:List PV)++a1)) (news:=a2) e4 O O O e1 b8 c8 c4 (λa3 b5 e5 c5 d1=>?_);have b0:All2 tI.R ((sub x0 0 a0)++([x1]:List Int)) ((([]:List PV)++a1)++a2):=All2.app b3 a6;have f1:((sub x0 0 a0)++([x1]:List Int)).length<=4611686018427387904:=by rw[<-All2.length_eq b0,List.length_append];exact gg c4
   refine mV O (nR (mV O (mV O (mV O (ww (E0:=[(49,vi a0),(48,v0),(47,a3),(6,a3),(46,a3),(45,.fs true [vi x1]),(44,vi x1),(43,a5),(42,a5),(41,b2),(40,vi a0),(39,v0),(38,.fs true ([]:List PV)),(36,vb ((decide (x1 < 0))||((decide (a0 < (x0.length:Int)))&&(decide ((ix x0 a0)=x1))))),(23,vb (decide (x1 < 0))),(22,vb (decide (x1 < 0))),(21,vi x1),(0,v0),(1,vi x1),(5,vi a0)]) (sB O) ?_)))));obtain⟨e8,d8,d6⟩:=at4 (P:=Tryz.prog) (hf:=false) (E:=[(49,vi a0),(48,v0),(47,a3),(6,a3),(46,a3),(45,.fs true [vi x1]),(44,vi x1),(43,a5),(42,a5),(41,b2),(40,vi a0),(39,v0),(38,.fs true ([]:List PV)),(36,vb ((decide (x1 < 0))||((decide (a0 < (x0.length:Int)))&&(decide ((ix x0 a0)=x1))))),(23,vb (decide (x1 < 0))),(22,vb (decide (x1 < 0))),(21,vi x1),(0,v0),(1,vi x1),(5,vi a0)]) (h:=b5) (t:=tI) (tt:=29) (x:=(.tmp 48)) (lo:=(some (.tmp 49))) (hi:=none) (a:=a0) (b:=(x0.length:Int)) r0 O O O (show 0<=a0 by omega) (show a0<=(x0.length:Int) by omega) (show(x0.length:Int)<=(x0.length:Int) by omega) (λad=>by kernel_rfl);have f0:=wo (l:=x0) (show 0<=a0 by omega) (show a0<=(x0.length:Int) by omega) (show(x0.length:Int)<=(x0.length:Int) by omega);refine af (v:=e8) (d8) ?_;obtain⟨a4,c6,a8⟩:=ly (t:=tI) (h:=b5) d6;have c7:fits (((([]:List PV)++a1)++a2).length+a4.length) 8=true:=by rw[All2.length_eq b0,All2.length_eq a8];(try simp only[List.length_cons,List.length_nil]);exact iq (by((simp only[List.length_append,List.length_cons,List.length_nil];omega))) (by((simp only[List.length_append,List.length_cons,List.length_nil];omega)))
   refine jt (k:=0) (es:=((([]:List PV)++a1)++a2)) (news:=a4) d1 O O O e5 c5 c6 c7 (λf6 f4 e0 e9 e6=>?_);have c3:All2 tI.R (((sub x0 0 a0)++([x1]:List Int))++(sub x0 a0 (x0.length:Int))) (((([]:List PV)++a1)++a2)++a4):=All2.app b0 a8;have b6:(((sub x0 0 a0)++([x1]:List Int))++(sub x0 a0 (x0.length:Int))).length<=4611686018427387904:=by rw[<-All2.length_eq c3,List.length_append];exact gg c7
   refine mV O (nS ?_);obtain⟨f5,d3,d2⟩:=qc (P:=Tryz.prog) (k:=0) (t:=tI) e6 O e0 c3 (Nat.le_trans b6 OO);subst z;exact gi (.tmp O .nil) d3 d2
end Go.Proofs.YtmonnlkagniolaaGreat
