/-
 The code of each function does what its plain program says.
-/
import Derived.Test.YtmonnlkagniolaaGreatL5W1
set_option linter.all false
set_option maxRecDepth 100000
namespace Go.Proofs.YtmonnlkagniolaaGreat
open Go Go.Pb Go.RowKit
def RF68(i0_ w0_:Nat)(R_:List Ent)(res:(List Int))(r:PV)(h:Heap):Prop:=∃asR0_:PV,∃esR0_:List PV,Mem h (⟨asR0_,3,1,esR0_⟩::R_)/\(All2 tI.R res esR0_)/\(isL asR0_=true)/\(res.length<=4611686018427387904)/\(Wri asR0_ esR0_)/\r=asR0_
theorem be9{x0:ak}{a5 a2 a0 a3 a6 a7 a4 a1 a8:PV}{a9:List PV}{R_:List Ent}{h_:Heap}{d8 d5:Nat}(c2:(tSl bz.t).R x0.p.Headers a5)(b4:(tSl az.t).R x0.p.Metadata a2)(b3:(tSl cq.t).R x0.p.Registers a0)(b9:(tSl bm.t).R x0.p.Actions a3)(c7:(tSl bw.t).R x0.p.Tables a6)(c8:(tSl bt.t).R x0.p.States a7)(c3:(tSl aw.t).R x0.p.Control a4)(b5:(tSl tI).R x0.p.Deparser a1)(d7:All2 tI.R x0.cells a9)(b0:isL a8=true)(e0:x0.cells.length<=4611686018427387904)(d6:Wri a8 a9)(M_:Mem h_ (⟨.op d8 d5 0,118,10,[.agg [vs x0.p.Name,a5,a2,a0,a3,a6,a7,a4,a1,a8]]⟩::⟨a8,3,1,a9⟩::R_))(hb:x0.cells.length<=1000000):∃r f3,FnX Tryz.prog 68 [.op d8 d5 0] h_ r f3/\RF68 d8 d5 R_ (em x0) r f3:=by
 refine fnXX (R:=RF68 d8 d5 R_) dh2 O λres z=>?_;unfold em at z;refine sR (af (v:=nilS) (ay O) (nS (am (fc (cw (mV O (cx (cw ?_))))))));refine af (ir O O) (cx (cw (af (bg O) (cx (cw (af (cg (k:=0) M_ O O (mk1 (gn (k:=1) M_ O b0).2)) (cx ?_)))))));have e7:Mem h_ (⟨a8,3,1,a9⟩::⟨.op d8 d5 0,118,10,[.agg [vs x0.p.Name,a5,a2,a0,a3,a6,a7,a4,a1,a8]]⟩::R_):=(Mem.front (k:=1) M_ O);obtain⟨f0,e3,z⟩:=br z;obtain⟨f2,e6,e2,d3⟩:=ah5 (x0:=x0.cells) d7 b0 e0 d6 e7 OY;rw[e3]at d3;obtain⟨b7,d9,b8,c6,c5,c4⟩:=d3;replace c4:=c4.symm;subst c4;refine gu O O e2 (kn (ap (am (fc (cw (mV O (cx (cw ?_))))))));refine af (ir O O) (cx (cw (af (bg O) (cx (cw (af (cg (k:=1) d9 O O (mk1 (gn (k:=0) d9 O b0).2)) (cx ?_)))))));have e9:Mem e6 (⟨a8,3,1,b7⟩::⟨.op d8 d5 0,118,10,[.agg [vs x0.p.Name,a5,a2,a0,a3,a6,a7,a4,a1,a8]]⟩::R_):=(Mem.front (k:=0) d9 O);obtain⟨f5,e4,z⟩:=br z;obtain⟨f4,f1,e5,d4⟩:=ai5 (x0:=f0) b8 b0 c6 c5 e9;rw[e4]at d4;obtain⟨b2,b1,e8,d2,d1,c9,d0,b6⟩:=d4;replace b6:=b6.symm;subst b6;refine gu O O e5 (cw (mV O (cx (kn (ap ?_)))));have e1:Mem f1 (⟨b2,3,1,b1⟩::⟨.op d8 d5 0,118,10,[.agg [vs x0.p.Name,a5,a2,a0,a3,a6,a7,a4,a1,a8]]⟩::R_):=(Mem.front (k:=0) e8 O);subst z;exact tr (.tmp O .nil) ⟨b2,b1,Mem.sub e1 (.cons_cons _ (.cons _ (List.Sublist.refl R_))),d2,d1,c9,d0,O⟩
def RF69(res:bw×Bool)(r:PV):Prop:=∃c0,r= .tup [c0,vb res.2]/\bw.t.R res.1 c0
theorem bz0{x0:ae}{x1:ba}{v0 v1:PV}(r0:ae.t.R x0 v0)(r1:ba.t.R x1 v1):∃c0,FnR Tryz.prog 69 [v0,v1] (.tup [c0,vb ((gq x0 x1).2)])/\bw.t.R (gq x0 x1).1 c0:=by
 obtain⟨res,z⟩:∃res,gq x0 x1=res:=⟨_,O⟩;suffices H:RC Tryz.prog ec7 [] (QR Tryz.prog [(4,some (6,true)),(5,none)] (RF69 res)) (argE 0 [v0,v1]) ⟨0,[]⟩ by
  rw[z];obtain⟨r,h1,c0,rfl,b8⟩:=fnE di6 OZ H;exact⟨c0,h1,b8⟩
 unfold gq at z;refine sR (af (dw O (TR.cnt ae.t r0)) (af (dw O (TR.cnt ba.t r1)) ?_));refine fa (x:= .agg [vs [],nilS,nilS,vi 0,nilS,vi 0]) (Mem.nil ⟨0,[]⟩) O O (λa9 a8 b7 a7=>?_);refine mB O (nS (am (sR (fL O (ba.g_Table r1) O O (bN cn O O (mV O ?_))))));refine cm 7 (d:=16) (v:=vb ((decide (x1.Table < 0))||(decide ((x0.Tables.length:Int)<=x1.Table)))) ?_ ?_
 ·intro S Q r;cases a6:(decide (x1.Table < 0))
  ·intro k;have a2:=a6;try simp only[qa]at a2
   refine ai O O (co O (ba.g_Table r1)) (ai O O (ck O O O) ?_);obtain⟨b5,b3,a4⟩:=ae.g_Tables r0;refine ai O O (co O b3) (ai O O (ck O (TR.cnt (tSl bw.t) a4) (TR.agg (tSl bw.t) a4)) (ai O O (cp O (ca a4 Tryz.underlying26 _)) (ai O O (ct O O kj) ?_)));exact gK O O O O O k
  ·exact gN 6 O O O O O O
 refine nS ?_;refine cd z O ?_ ?_<;>clear z<;>intro c z<;>try simp only[qa]at c
 ·refine sR (af (v:= .agg [vs [],nilS,nilS,vi 0,nilS,vi 0]) (mr (cs:=[vs [],nilS,nilS,vi 0,nilS,vi 0]) O O) ?_);refine ek (k:=0) (v:= .agg [vs [],nilS,nilS,vi 0,nilS,vi 0]) a7 O O O O (λb4 a3=>?_);replace a3:Mem b4 [⟨.op a9 a8 0,59,6,[.agg [vs [],nilS,nilS,vi 0,nilS,vi 0]]⟩]:=a3;refine mB O (nS ?_);subst z;exact gi (.cell O (pt (k:=0) a3 O O) (.tmp O .nil)) (eh (show closed (.tup _)=true from(aj (TR.clo bw.t (show bw.t.R ({Name:=([]:List UInt8),Keys:=([]:List fb),Actions:=([]:List Int),Default:=({Action:=0,Args:=([]:List (BitVec 32))}:ga),Size:=0}:bw) (.agg [vs [],nilS,nilS,vi 0,nilS,vi 0]) from⟨nilS,nilS,nilS,O,ft,ft,ft⟩)) (aj O bh)))) ⟨.agg [vs [],nilS,nilS,vi 0,nilS,vi 0],O,⟨nilS,nilS,nilS,O,ft,ft,ft⟩⟩
 ·refine ax (ap (sR (gL (ae.g_Tables r0) O O O λb6 b2=>(fL O (ba.g_Table r1) O O ?_))));obtain⟨a5,b0,a0⟩:=de (i:=x1.Table) b2 V V;refine af (bd O O b0) (lD a0 O O O ?_);refine ek (k:=0) (v:=a5) a7 O O O (TR.cnt bw.t a0) (λb1 a1=>?_);replace a1:Mem b1 [⟨.op a9 a8 0,59,6,[a5]⟩]:=a1;refine mB O (nS ?_);subst z;exact gi (.cell O (pt (k:=0) a1 O (TR.agg bw.t a0)) (.tmp O .nil)) (eh (show closed (.tup _)=true from(aj (TR.clo bw.t a0) (aj O bh)))) ⟨a5,O,a0⟩
def RF221(res:Bool)(r:PV):Prop:=r=vb res
theorem bk9{x0:UInt8}:FnR Tryz.prog 221 [vu8 x0] (vb (mq x0)):=by
 refine fnS (R:=RF221) ci2 (λ_ h=>h) O λres z=>?_;unfold mq at z;refine sR (mB O (nR (mV O (af (ct (a:=vu8 x0) (b:=vu8 (97:UInt8)) O O ar1) (mV O ?_)))));refine cm 3 (d:=8) (v:=vb ((decide ((97:UInt8)<=x0))&&(decide (x0<=(122:UInt8))))) ?_ ?_
 ·intro S Q r;cases a4:(decide ((97:UInt8)<=x0))
  ·exact gN 2 O O O O O O
  ·intro k;have a2:=a4;try simp only[qa]at a2
   refine ai O O (ay O) (ai O O (ct (a:=vu8 x0) (b:=vu8 (122:UInt8)) O O ap7) ?_);exact gK O O O O O k
 refine mV O ?_;refine cm 7 (d:=16) (v:=vb (((decide ((97:UInt8)<=x0))&&(decide (x0<=(122:UInt8))))||((decide ((65:UInt8)<=x0))&&(decide (x0<=(90:UInt8)))))) ?_ ?_
 ·intro S Q r;cases a5:((decide ((97:UInt8)<=x0))&&(decide (x0<=(122:UInt8))))
  ·intro k;have a0:=a5;try simp only[qa]at a0
   refine ai O O (ay O) (ai O O (ct (a:=vu8 x0) (b:=vu8 (65:UInt8)) O O ar1) (ai O O (ay O) ?_));refine cm 3 (d:=15) (v:=vb ((decide ((65:UInt8)<=x0))&&(decide (x0<=(90:UInt8))))) ?_ ?_
   ·intro S Q r;cases a3:(decide ((65:UInt8)<=x0))
    ·intro k;refine ja O O (ja O O (ai (v:=vb false) O O (po O O O O) ?_));exact wD k O
    ·intro k;have a1:=a3;try simp only[qa]at a1
     refine ai O O (ay O) (ai O O (ct (a:=vu8 x0) (b:=vu8 (90:UInt8)) O O ap7) (ai (v:=vb (decide (x0<=(90:UInt8)))) O O (po O O O O) ?_));exact wD k O
   exact gK O O O O O k
  ·exact gN 6 O O O O O O
 refine mV O (nS ?_);exact rR z O O O
def RF222(res:Int)(r:PV):Prop:=r=vi res
theorem yl{S:List Fr}{res:Int}{x0:List UInt8}{x1:UInt8->Bool}{v1:PV}(r1:(tFn Tryz.prog tU8 tB).R x1 v1)(hs:x0.length<=1000){K0:Int->Int}
 (b1:∀{a0:Int},K0 a0=res->PX Tryz.prog 0 S (QR Tryz.prog [(4,none)] (RF222 res)) [(5,vi a0)] ⟨0,[]⟩):
 ∀{m:Nat}{a0:Int}(b0:m=Int.toNat ((x0.length:Int)-a0))(a5:0<=a0),nh x0 x1 K0 m a0=res->RC Tryz.prog (.loop bx5) S (QR Tryz.prog [(4,none)] (RF222 res)) [(5,vi a0),(1,v1),(0,vs x0)] ⟨0,[]⟩:=by
 intro m;induction m with
 |zero=>
  intro a0 b0 a5 z;rw[nh]at z;refine bv (am (sR (mV O (mV O (af (cp O (pn Tryz.underlying9)) (bN cn O O (mV O ?_)))))));refine cm 6 (d:=16) (v:=vb ((decide (a0 < (x0.length:Int)))&&(x1 (ix x0 a0)))) ?_ ?_
  ·intro S Q r;cases a7:(decide (a0 < (x0.length:Int)))
   ·exact gN 5 O O O O O O
   ·intro k;have a4:=a7;try simp only[qa]at a4
    refine ai O O (ay O) (ai O O (ay O) (ai O O (ay O) (ai O O (rp O O (uw Tryz.underlying9 V V)) ?_)));refine an7 O O O r1 O (show tU8.R (ix x0 a0) (vu8 (ix x0 a0)) from O) (λa8 a1=>?_);have a1:a8=vb (x1 (ix x0 a0)):=a1;subst a1;exact gK O O O O O k
  refine nS ?_;refine bp O ?_ ?_<;>intro c<;>try simp only[qa]at c
  ·omega
  refine dg (dq (dc ?_));exact wP (b1 z) O
 |succ m ih=>
  intro a0 b0 a5 z;rw[nh]at z;refine bv (am (sR (mV O (mV O (af (cp O (pn Tryz.underlying9)) (bN cn O O (mV O ?_)))))));refine cm 6 (d:=16) (v:=vb ((decide (a0 < (x0.length:Int)))&&(x1 (ix x0 a0)))) ?_ ?_
  ·intro S Q r;cases a6:(decide (a0 < (x0.length:Int)))
   ·exact gN 5 O O O O O O
   ·intro k;have a2:=a6;try simp only[qa]at a2
    refine ai O O (ay O) (ai O O (ay O) (ai O O (ay O) (ai O O (rp O O (uw Tryz.underlying9 V V)) ?_)));refine an7 O O O r1 O (show tU8.R (ix x0 a0) (vu8 (ix x0 a0)) from O) (λa9 a3=>?_);have a3:a9=vb (x1 (ix x0 a0)):=a3;subst a3;exact gK O O O O O k
  refine nS ?_;refine cd z O ?_ ?_<;>clear z<;>intro c z<;>try simp only[qa]at c
  ·refine ax (ap (bf (av (mV O (bN dp O O (mV O (bn (cy ?_))))))));refine cv ?_;have o:wr (a0+1)=a0+1:=dj V V;erw[o];exact wC (ih V V z) O
  ·refine dg (dq (dc ?_));exact wP (b1 z) O
theorem cr7{x0:List UInt8}{x1:UInt8->Bool}{v1:PV}(r1:(tFn Tryz.prog tU8 tB).R x1 v1)(hs:x0.length<=1000):FnR Tryz.prog 222 [vs x0,v1] (vi (sq x0 x1)):=by
 refine fnS (R:=RF222) cg4 (λ_ h=>h) O λres z=>?_;unfold sq at z;refine sR (mI O (nR (mI O (nS (am (bf ?_))))));refine wC (yl r1 hs ?_ O V z) O
 ·intro a0 z;refine dy (ap (sR (mV O (mV O (nS ?_)))));exact rR z O O O
def RF224(res:Bool)(r:PV):Prop:=r=vb res
theorem cu8{x0:UInt8}:FnR Tryz.prog 224 [vu8 x0] (vb (ny x0)):=by
 refine fnS (R:=RF224) ci6 (λ_ h=>h) O λres z=>?_;unfold ny at z;refine sR (mB O (nR (mV O (af (ct (a:=vu8 x0) (b:=vu8 (48:UInt8)) O O ar1) (mV O ?_)))));refine cm 3 (d:=8) (v:=vb ((decide ((48:UInt8)<=x0))&&(decide (x0<=(57:UInt8))))) ?_ ?_
 ·intro S Q r;cases a1:(decide ((48:UInt8)<=x0))
  ·exact gN 2 O O O O O O
  ·intro k;have a0:=a1;try simp only[qa]at a0
   refine ai O O (ay O) (ai O O (ct (a:=vu8 x0) (b:=vu8 (57:UInt8)) O O ap7) ?_);exact gK O O O O O k
 refine mV O (nS ?_);exact rR z O O O
def RF223(res:Bool)(r:PV):Prop:=r=vb res
theorem ct1{x0:UInt8}:FnR Tryz.prog 223 [vu8 x0] (vb (ku x0)):=by
 refine fnS (R:=RF223) cp6 (λ_ h=>h) O λres z=>?_;unfold ku at z;refine sR (mB O (nR (mV O ?_)));obtain⟨a0,a6,z⟩:=br z;have a4:=bk9 (x0:=x0);rw[a6]at a4;refine cL a4 O O (aj O bh) (mV O ?_);refine cm 3 (d:=8) (v:=vb (a0||(ny x0))) ?_ ?_
 ·intro S Q r;cases a5:a0
  ·intro k;have a1:=a5;try simp only[qa]at a1
   refine ai O O (ay O) ?_;have a7:=cu8 (x0:=x0);refine lf O O (rl O O (aj O bh) a7) ?_;exact gK O O O O O k
  ·exact gN 2 O O O O O O
 refine mV O ?_;refine cm 3 (d:=12) (v:=vb ((a0||(ny x0))||(decide (x0=(95:UInt8))))) ?_ ?_
 ·intro S Q r;cases a3:(a0||(ny x0))
  ·intro k;have a2:=a3;try simp only[qa]at a2
   refine ai O O (ay O) (ai O O (ct (a:=vu8 x0) (b:=vu8 (95:UInt8)) O O dy9) ?_);exact gK O O O O O k
  ·exact gN 2 O O O O O O
 refine mV O (nS ?_);exact rR z O O O
theorem dr2:(tFn Tryz.prog tU8 tB).R ku (.fn (.func 223) [] []):=ds6 λa va ra=>by obtain rfl:=ra;exact⟨_,ct1,O⟩
def RF169(res:Bool)(r:PV):Prop:=r=vb res
theorem bh9{x0:List UInt8}:FnR Tryz.prog 169 [vs x0] (vb (km x0)):=by
 refine fnS (R:=RF169) cy2 (λ_ h=>h) O λres z=>?_;unfold km at z;refine sR (mB O (nS (am (sR (mV O (af (cp O (pn Tryz.underlying9)) (bN dt O O (mV O ?_))))))));refine cm 4 (d:=10) (v:=vb ((decide ((x0.length:Int)=0))||(decide (16 < (x0.length:Int))))) ?_ ?_
 ·intro S Q r;cases a3:(decide ((x0.length:Int)=0))
  ·intro k;have a1:=a3;try simp only[qa]at a1
   refine ai O O (ay O) (ai O O (cp O (pn Tryz.underlying9)) (ai O O (ct O O jr) ?_));exact gK O O O O O k
  ·exact gN 3 O O O O O O
 refine mV O ?_;refine cm 5 (d:=16) (v:=vb (((decide ((x0.length:Int)=0))||(decide (16 < (x0.length:Int))))||(!(mq (ix x0 0))))) ?_ ?_
 ·intro S Q r;cases a5:((decide ((x0.length:Int)=0))||(decide (16 < (x0.length:Int))))
  ·intro k;have a0:=a5;try simp only[qa]at a0
   refine ai O O (ay O) (ai O O (rp O O (uw (i:=0) Tryz.underlying9 V V)) ?_);have a6:=bk9 (x0:=(ix x0 0));refine lf O O (rl O O (aj O bh) a6) (ai O O (ju O) ?_);exact gK O O O O O k
  ·exact gN 4 O O O O O O
 refine nS ?_;refine cd z O ?_ ?_<;>clear z<;>intro c z<;>try simp only[qa]at c
 ·refine sR (mB O (nS ?_));exact rR z O O O
 ·refine ax (ap (sR (mV O ?_)));obtain⟨a7,a4,z⟩:=br z;have a2:=cr7 (x0:=x0) dr2 V;rw[a4]at a2;refine cL a2 O O (aj O (aj O bh)) (mV O (af (cp O (pn Tryz.underlying9)) (bN dt O O (mV O (nS ?_)))));exact rR z O O O
def RF171(res:Bool)(r:PV):Prop:=r=vb res
theorem cf9{x0:az}{c0:az}{v0 w0:PV}(r0:az.t.R x0 v0)(a0:az.t.R c0 w0):FnR Tryz.prog 171 [v0,.fp w0] (vb (gf x0 c0)):=by
 refine fnS (R:=RF171) da6 (λ_ h=>h) O λres z=>?_;unfold gf at z;refine sR (af (dw O (TR.cnt az.t r0)) (mB O (nR (fL O (az.g_Name r0) O O (fL O (az.g_Name a0) O O (af (ct (a:=vs x0.Name) (b:=vs c0.Name) O O au4) (mV O (nS ?_))))))));exact rR z O O O
def RF225(res:Int)(r:PV):Prop:=r=vi res
theorem pg{S:List Fr}{res:Int}{x0:List az}{x1:az->Bool}{v0 v1:PV}(r0:(tSl az.t).R x0 v0)(r1:(tFn Tryz.prog az.t tB).R x1 v1){K0:Unit->Int}
 (a8:K0 ()=res->PX Tryz.prog 0 S (QR Tryz.prog [(4,none)] (RF225 res)) [] ⟨0,[]⟩):
 ∀{m:Nat}{a0:Int}(a7:m=Int.toNat ((x0.length:Int)-a0))(a2:0<=a0),dm x0 x1 K0 m a0=res->RC Tryz.prog (.loop by4) S (QR Tryz.prog [(4,none)] (RF225 res)) [(8,vi a0),(7,vi (x0.length:Int)),(1,v1),(0,v0)] ⟨0,[]⟩:=by
 intro m;induction m with
 |zero=>
  intro a0 a7 a2 z;rw[dm]at z;refine bv (sR (bN cn O O (nS (am ?_))));refine bp O ?_ ?_<;>intro c<;>try simp only[qa]at c
  ·omega
  refine dg (dq (dc ?_));exact wP (a8 z) O
 |succ m ih=>
  intro a0 a7 a2 z;rw[dm]at z;refine bv (sR (bN cn O O (nS (am ?_))));refine bp O ?_ ?_<;>intro c<;>try simp only[qa]at c
  rotate_left
  ·omega
  refine ax (ap (am (bf (sR (mV O (mV O (nR (mV O ?_))))))));refine mV O (mV O ?_);obtain⟨a6,a5,a3⟩:=de (i:=a0) r0 V V;refine af (bd O O a5) (lD a3 O O O ?_);refine bb3 O r1 O (show az.t.R (ix x0 a0) a6 from a3) (λa4 a1=>?_);have a1:a4=vb (x1 (ix x0 a0)):=a1;subst a1;refine nS ?_;refine cd z O ?_ ?_<;>clear z<;>intro c z<;>try simp only[qa]at c
  ·refine sR (mV O (mV O (nS ?_)));exact rR z O O O
  ·refine ax (cy (ap (av (bN dp O O (mV O (bn (cv ?_)))))));have s:=da r0;have o:wr (a0+1)=a0+1:=dj V V;erw[o];exact wC (ih V V z) O
theorem cr1{x0:List az}{x1:az->Bool}{v0 v1:PV}(r0:(tSl az.t).R x0 v0)(r1:(tFn Tryz.prog az.t tB).R x1 v1):FnR Tryz.prog 225 [v0,v1] (vi (gw x0 x1)):=by
 refine fnS (R:=RF225) cp8 (λ_ h=>h) O λres z=>?_;unfold gw at z;refine sR (mI O (nS (am (sR (mV O (af (cp O (ca r0 Tryz.underlying23 _)) (mI O (nS ?_))))))));refine bf ?_;refine wC (pg r0 r1 ?_ O V z) O
 ·intro z;refine dy (ap (sR (mI O (nS ?_))));exact rR z O O O
def RF170(res:Bool)(r:PV):Prop:=r=vb res
theorem cn2{x0:List az}{x1:az->Bool}{v0 v1:PV}(r0:(tSl az.t).R x0 v0)(r1:(tFn Tryz.prog az.t tB).R x1 v1):FnR Tryz.prog 170 [v0,v1] (vb (gh x0 x1)):=by
 refine fnS (R:=RF170) cw8 (λ_ h=>h) O λres z=>?_;unfold gh at z;refine sR (mB O (nR (mV O (mV O ?_))));obtain⟨a2,a0,z⟩:=br z;have a1:=cr1 r0 r1;rw[a0]at a1;refine cL a1 O O (aj (TR.clo (tSl az.t) r0) (aj (TR.clo (tFn Tryz.prog az.t tB) r1) bh)) (bN kj O O (mV O (nS ?_)));exact rR z O O O
def RF103(res:Int)(r:PV):Prop:=r=vi res
theorem tz{S:List Fr}{res:Int}{x0:bm}{c4:Bool}{v0 a4:PV}(r0:bm.t.R x0 v0)(d6:km x0.Name=c4)(b9:(!c4)=false)(c2:((decide (4 < (x0.Params.length:Int)))||(decide (12 < (x0.Body.length:Int))))=false)(b6:(tSl az.t).R x0.Params a4){K1:Unit->Int}
 (e0:∀{h:Heap}(M0:Mem h []),K1 ()=res->PX Tryz.prog 1 S (QR Tryz.prog [(2,none)] (RF103 res)) [] h):
 ∀{m:Nat}{a0:Int}(d5:m=Int.toNat ((x0.Params.length:Int)-a0))(b5:0<=a0){h:Heap}(M0:Mem h []),ie x0 K1 m a0=res->RC Tryz.prog (.loop bx2) S (QR Tryz.prog [(2,none)] (RF103 res)) [(24,vi a0),(23,vi (x0.Params.length:Int)),(22,a4),(1,.fp v0)] h:=by
 have b0:=b9;try simp only[qa]at b0
 have a8:=c2;try simp only[qa]at a8
 intro m;induction m with
 |zero=>
  intro a0 d5 b5 h M0 z;rw[ie]at z;refine bv (sR (bN cn O O (nS (am ?_))));refine bp O ?_ ?_<;>intro c<;>try simp only[qa]at c
  ·omega
  refine dg (dq (dc ?_));exact wP (e0 (Mem.sub M0 .slnil) z) O
 |succ m ih=>
  intro a0 d5 b5 h M0 z;rw[ie]at z;refine bv (sR (bN cn O O (nS (am ?_))));refine bp O ?_ ?_<;>intro c<;>try simp only[qa]at c
  rotate_left
  ·omega
  refine ax (ap (am (bf (sR (mV O ?_)))));obtain⟨a1,d2,a3⟩:=de (i:=a0) b6 V V;refine af (bd O O d2) (lD a3 O O O ?_);refine fa (x:= .agg [vs [],vi 0]) M0 O O (λc9 d3 d9 c7=>?_);refine mV O ?_;refine ek (k:=0) (v:=a1) c7 O O O (TR.cnt az.t a3) (λc8 a6=>?_);replace a6:Mem c8 [⟨.op c9 d3 0,166,2,[a1]⟩]:=a6;refine nS (bf (am (fc (cw (af (bg O) (cx (cw (af (cg (k:=0) a6 O O (az.g_Name a3)) ?_))))))));refine cx (cw ?_);obtain⟨a2,b8,z⟩:=br z;have b4:=bh9 (x0:=(ix x0.Params a0).Name);rw[b8]at b4;refine cL b4 O O (aj O bh) (cx (cw (af (ju O) (cx (cw (mV O (cx ?_)))))));refine yi (k:=0) (E':=[(29,vb (!a2)),(33,vb (!a2)),(32,vb a2),(31,vs ((ix x0.Params a0).Name)),(3,vi a0),(4,.fp a1),(28,a1),(27,.fp a1),(26,vi a0),(25,vb (decide (a0 < (x0.Params.length:Int)))),(24,vi a0),(23,vi (x0.Params.length:Int)),(22,a4),(1,.fp v0)]) a6 O (du O (du O (du O (du O (du O (vx O (du O (du O (du O (du O (du O (du O (du O (du O ah0)))))))))))))) (λb1 a7=>?_);replace a7:Mem b1 []:=a7;refine kn (ap ?_);refine cd z O ?_ ?_<;>clear z<;>intro c z<;>try simp only[qa]at c
  ·refine sR (mI O (nS ?_));exact rR z O O O
  ·refine sR (fL O (az.g_Width a3) O O (bN cn O O (mV O ?_)));refine cm 4 (d:=42) (v:=vb ((decide (((ix x0.Params a0).Width) < 1))||(decide (32 < ((ix x0.Params a0).Width))))) ?_ ?_
   ·intro S Q r;cases c6:(decide (((ix x0.Params a0).Width) < 1))
    ·intro k;have a9:=c6;try simp only[qa]at a9
     refine ai O O (co O (az.g_Width a3)) (ai O O (ck O O O) (ai O O (ct O O jr) ?_));exact gK O O O O O k
    ·exact gN 3 O O O O O O
   refine mV O (nS ?_);refine cd z O ?_ ?_<;>clear z<;>intro c z<;>try simp only[qa]at c
   ·refine sR (mI O (nS ?_));exact rR z O O O
   ·refine sR ?_;obtain⟨a5,d0,c5⟩:=bm.g_Params r0;refine fA O d0 (lD c5 O O O (mV O (ww (E0:=[(46,vi a0),(45,a5),(44,.fp a5),(34,vb ((decide (((ix x0.Params a0).Width) < 1))||(decide (32 < ((ix x0.Params a0).Width))))),(42,vb ((decide (((ix x0.Params a0).Width) < 1))||(decide (32 < ((ix x0.Params a0).Width))))),(38,vb (decide (((ix x0.Params a0).Width) < 1))),(37,vb (decide (((ix x0.Params a0).Width) < 1))),(36,vi ((ix x0.Params a0).Width)),(35,.fp (vi ((ix x0.Params a0).Width))),(29,vb (!a2)),(33,vb (!a2)),(32,vb a2),(31,vs ((ix x0.Params a0).Name)),(3,vi a0),(4,.fp a1),(28,a1),(27,.fp a1),(26,vi a0),(25,vb (decide (a0 < (x0.Params.length:Int)))),(24,vi a0),(23,vi (x0.Params.length:Int)),(22,a4),(1,.fp v0)]) (sB O) ?_)));obtain⟨d1,d4,b2⟩:=at4 (P:=Tryz.prog) (hf:=false) (E:=[(46,vi a0),(45,a5),(44,.fp a5),(34,vb ((decide (((ix x0.Params a0).Width) < 1))||(decide (32 < ((ix x0.Params a0).Width))))),(42,vb ((decide (((ix x0.Params a0).Width) < 1))||(decide (32 < ((ix x0.Params a0).Width))))),(38,vb (decide (((ix x0.Params a0).Width) < 1))),(37,vb (decide (((ix x0.Params a0).Width) < 1))),(36,vi ((ix x0.Params a0).Width)),(35,.fp (vi ((ix x0.Params a0).Width))),(29,vb (!a2)),(33,vb (!a2)),(32,vb a2),(31,vs ((ix x0.Params a0).Name)),(3,vi a0),(4,.fp a1),(28,a1),(27,.fp a1),(26,vi a0),(25,vb (decide (a0 < (x0.Params.length:Int)))),(24,vi a0),(23,vi (x0.Params.length:Int)),(22,a4),(1,.fp v0)]) (h:=b1) (t:=az.t) (tt:=23) (x:=(.tmp 45)) (lo:=none) (hi:=(some (.tmp 46))) (a:=0) (b:=a0) c5 O O O (show 0<=0 by omega) (show 0<=a0 by omega) (show a0<=(x0.Params.length:Int) by omega) (λad=>by kernel_rfl);have d7:=wo (l:=x0.Params) (show 0<=0 by omega) (show 0<=a0 by omega) (show a0<=(x0.Params.length:Int) by omega);refine af (v:=d1) (d4) ?_;have b7:(tFn Tryz.prog az.t tB).R (λa_=>gf a_ (ix x0.Params a0)) (.fn (.func 171) [] [.fp a1]):=bl2 (aj (by3 (TR.clo az.t a3)) bh) λa va ra=>by exact⟨_,cf9 ra a3,O⟩
    refine af (v:= .fn (.func 171) [] [.fp a1]) (ae8 O O) ?_;obtain⟨d8,b3,z⟩:=br z;have c3:=cn2 b2 b7;rw[b3]at c3;refine cL c3 O O (aj (TR.clo (tSl az.t) b2) (aj (TR.clo (tFn Tryz.prog az.t tB) b7) bh)) (mV O (nS ?_));refine cd z O ?_ ?_<;>clear z<;>intro c z<;>try simp only[qa]at c
    ·refine sR (mI O (nS ?_));exact rR z O O O
    ·refine ax (cy (cy (ap (av (bN dp O O (mV O (bn (cv ?_))))))));have s:=da b6;have o:wr (a0+1)=a0+1:=dj V V;erw[o];exact wC (ih V V (Mem.sub a7 .slnil) z) O
theorem ck4{x0:bm}{v0:PV}(r0:bm.t.R x0 v0):FnR Tryz.prog 103 [v0] (vi (kp x0)):=by
 refine fnS (R:=RF103) cg2 (λ_ h=>h) O λres z=>?_;unfold kp at z;refine sR (af (dw O (TR.cnt bm.t r0)) (mI O (nS (am (bf (sR (fL O (bm.g_Name r0) O O ?_)))))));obtain⟨b7,a0,z⟩:=br z;have a9:=bh9 (x0:=x0.Name);rw[a0]at a9;refine cL a9 O O (aj O bh) (af (ju O) (mV O (nS ?_)));refine cd z O ?_ ?_<;>clear z<;>intro a1 z<;>have a6:=a1<;>try simp only[qa]at a6
 ·refine sR (mI O (nS ?_));exact rR z O O O
 ·refine sR (gL (bm.g_Params r0) O O O λb6 b0=>(af (cp O (ca b0 Tryz.underlying23 _)) (bN jr O O (mV O ?_))));refine cm 5 (d:=20) (v:=vb ((decide (4 < (x0.Params.length:Int)))||(decide (12 < (x0.Body.length:Int))))) ?_ ?_
  ·intro S Q r;cases a8:(decide (4 < (x0.Params.length:Int)))
   ·intro k;have a3:=a8;try simp only[qa]at a3
    obtain⟨b5,b1,a5⟩:=bm.g_Body r0;refine ai O O (co O b1) (ai O O (ck O (TR.cnt (tSl au.t) a5) (TR.agg (tSl au.t) a5)) (ai O O (cp O (ca a5 Tryz.underlying95 _)) (ai O O (ct O O jr) ?_)));exact gK O O O O O k
   ·exact gN 4 O O O O O O
  refine mV O (nS ?_);refine cd z O ?_ ?_<;>clear z<;>intro a2 z<;>have a4:=a2<;>try simp only[qa]at a4
  ·refine sR (mI O (nS ?_));exact rR z O O O
  ·refine ax (cy (ap (am (sR (gL (bm.g_Params r0) O O O λb4 a7=>(af (cp O (ca a7 Tryz.underlying23 _)) (mI O (nS ?_))))))));refine bf ?_;refine wC (tz r0 a0 a1 a2 a7 ?_ O V (Mem.sub (Mem.nil ⟨0,[]⟩) .slnil) z) O
   ·intro b3 b2 z;refine dy (ap (sR (mI O (nS ?_))));exact rR z O O O
def RF172(res:Int×Bool)(r:PV):Prop:=r= .tup [vi res.1,vb res.2]
theorem cp5{x0:ae}{x1:aa}{v0 v1:PV}(r0:ae.t.R x0 v0)(r1:aa.t.R x1 v1):FnR Tryz.prog 172 [v0,v1] (.tup [vi ((qo x0 x1).1),vb ((qo x0 x1).2)]):=by
 refine fnS (R:=RF172) da2 (λ_ h=>h) O λres z=>?_;unfold qo at z;refine sR (af (dw O (TR.cnt ae.t r0)) (af (dw O (TR.cnt aa.t r1)) (mI O (mB O (nR (gL (ae.g_Metadata r0) O O O λc5 b7=>(mV O (nS ?_))))))));refine am (sR (fL O (aa.g_Header r1) O O (bN (lx (b:= -1)) O O (nS ?_))));obtain⟨b4,a8,z⟩:=br z;refine nd (F:=λb S Q=>∀(a0:List az)(a1:PV)(a2:(tSl az.t).R a0 a1),b4 a0=res->RC Tryz.prog b S Q [(6,a1),(3,.fp v1)] ⟨0,[]⟩) ?_ ?_
 ·intro a0 a1 a2 z;rw[<-a8]at z;refine am (sR (fL O (aa.g_Field r1) O O (bN cn O O (mV O ?_))));refine cm 6 (d:=39) (v:=vb ((decide (x1.Field < 0))||(decide ((a0.length:Int)<=x1.Field)))) ?_ ?_
  ·intro S Q r;cases a7:(decide (x1.Field < 0))
   ·intro k;have a4:=a7;try simp only[qa]at a4
    refine ai O O (co O (aa.g_Field r1)) (ai O O (ck O O O) (ai O O (ay O) (ai O O (cp O (ca a2 Tryz.underlying23 _)) (ai O O (ct O O kj) ?_))));exact gK O O O O O k
   ·exact gN 5 O O O O O O
  refine nS ?_;refine cd z O ?_ ?_<;>clear z<;>intro c z<;>try simp only[qa]at c
  ·refine sR (mI O (mB O (nS ?_)));exact rT z O O O O O
  ·refine ax (ap (sR (mV O (fL O (aa.g_Field r1) O O ?_))));obtain⟨c4,b5,b3⟩:=de (i:=x1.Field) a2 V V;refine af (bd O O b5) (fL O (az.g_Width b3) O O (mV O (mB O (nS ?_))));exact rT z O O O O O
 ·intro J;refine cd z O ?_ ?_<;>clear z<;>intro c z<;>try simp only[qa]at c
  ·refine am (sR (fL O (aa.g_Header r1) O O (bN cn O O (mV O ?_))));refine cm 7 (d:=22) (v:=vb ((decide (x1.Header < 0))||(decide ((x0.Headers.length:Int)<=x1.Header)))) ?_ ?_
   ·intro S Q r;cases a6:(decide (x1.Header < 0))
    ·intro k;have a3:=a6;try simp only[qa]at a3
     refine ai O O (co O (aa.g_Header r1)) (ai O O (ck O O O) ?_);obtain⟨c3,b1,a5⟩:=ae.g_Headers r0;refine ai O O (co O b1) (ai O O (ck O (TR.cnt (tSl bz.t) a5) (TR.agg (tSl bz.t) a5)) (ai O O (cp O (ca a5 Tryz.underlying22 _)) (ai O O (ct O O kj) ?_)));exact gK O O O O O k
    ·exact gN 6 O O O O O O
   refine nS ?_;refine cd z O ?_ ?_<;>clear z<;>intro c z<;>try simp only[qa]at c
   ·refine sR (mI O (mB O (nS ?_)));exact rT z O O O O O
   ·refine ax (ap (av (gL (ae.g_Headers r0) O O O λb9 a9=>(fL O (aa.g_Header r1) O O ?_))));obtain⟨b8,b2,b0⟩:=de (i:=x1.Header) a9 V V;refine af (bd O O b2) (gL (bz.g_Fields b0) O O O λc2 b6=>(mV O (bn ?_)));refine ap (wC (J _ _ b6 z) O)
  ·refine ax ?_;refine ap (wC (J _ _ b7 z) O)
def RF267(res:Int)(r:PV):Prop:=r=vi res
theorem at7{x0:Int}:FnR Tryz.prog 267 [vi x0] (vi (en x0)):=by
 refine fnS (R:=RF267) cu9 (λ_ h=>h) O λres z=>?_;unfold en at z;refine sR (mI O (nS (am (sR (mV O (nS (bf (am ?_))))))));refine sR (bN dt O O (mV O (nS ?_)));obtain⟨a7,a3,z⟩:=br z;refine nd (F:=λb S Q=>∀(a2:Bool),a7 a2=res->RC Tryz.prog b S Q [(4,vb a2),(3,vi x0)] ⟨0,[]⟩) ?_ ?_
 ·intro a2 z;rw[<-a3]at z;refine cd z O ?_ ?_<;>clear z<;>intro c z<;>try simp only[qa]at c
  ·refine sR (mI O (nS ?_));exact rR z O O O
  ·refine am (sR (bN dt O O (mV O (nS ?_))));obtain⟨a6,a5,z⟩:=br z;refine nd (F:=λb S Q=>∀(a1:Bool),a6 a1=res->RC Tryz.prog b S Q [(9,vb a1),(3,vi x0)] ⟨0,[]⟩) ?_ ?_
   ·intro a1 z;rw[<-a5]at z;refine cd z O ?_ ?_<;>clear z<;>intro c z<;>try simp only[qa]at c
    ·refine sR (mI O (nS ?_));exact rR z O O O
    ·refine am (sR (bN dt O O (mV O (nS ?_))));obtain⟨a8,a4,z⟩:=br z;refine nd (F:=λb S Q=>∀(a0:Bool),a8 a0=res->RC Tryz.prog b S Q [(14,vb a0),(3,vi x0)] ⟨0,[]⟩) ?_ ?_
     ·intro a0 z;rw[<-a4]at z;refine cd z O ?_ ?_<;>clear z<;>intro c z<;>try simp only[qa]at c
      ·refine sR (mI O (nS ?_));exact rR z O O O
      ·refine sR (bN dt O O (mV O (nS ?_)));refine cd z O ?_ ?_<;>clear z<;>intro c z<;>try simp only[qa]at c
       ·refine sR (mI O (nS ?_));exact rR z O O O
       ·refine ax (cy (ap (sR (mI O (nS ?_)))));exact rR z O O O
     ·intro J;refine cd z O ?_ ?_<;>clear z<;>intro c z<;>try simp only[qa]at c
      ·refine ax ?_;refine ap (wC (J _ z) O)
      ·refine sR (bN dt O O (mV O (nS ?_)));refine cd z O ?_ ?_<;>clear z<;>intro c z<;>try simp only[qa]at c
       ·refine ax ?_;refine ap (wC (J _ z) O)
       ·refine sR (bN dt O O (mV O (nS ?_)));refine cd z O ?_ ?_<;>clear z<;>intro c z<;>try simp only[qa]at c
        ·refine ax ?_;refine ap (wC (J _ z) O)
        ·refine sR (bN dt O O (mV O (nS ?_)));refine cd z O ?_ ?_<;>clear z<;>intro c z<;>try simp only[qa]at c
         ·refine ax ?_;refine ap (wC (J _ z) O)
         ·refine sR (bN dt O O (mV O (nS ?_)));refine cd z O ?_ ?_<;>clear z<;>intro c z<;>try simp only[qa]at c
          ·refine ax ?_;refine ap (wC (J _ z) O)
          ·refine sR (bN dt O O (mV O (nS ?_)));refine cd z O ?_ ?_<;>clear z<;>intro c z<;>try simp only[qa]at c
           ·refine ax ?_;refine ap (wC (J _ z) O)
           ·refine sR (bN dt O O (mV O (nS ?_)));refine cd z O ?_ ?_<;>clear z<;>intro c z<;>try simp only[qa]at c
            ·refine ax ?_;refine ap (wC (J _ z) O)
            ·refine av (bN dt O O (mV O (bn ?_)));refine ap (wC (J _ z) O)
   ·intro J;refine cd z O ?_ ?_<;>clear z<;>intro c z<;>try simp only[qa]at c
    ·refine ax ?_;refine ap (wC (J _ z) O)
    ·refine sR (bN dt O O (mV O (nS ?_)));refine cd z O ?_ ?_<;>clear z<;>intro c z<;>try simp only[qa]at c
     ·refine ax ?_;refine ap (wC (J _ z) O)
     ·refine sR (bN dt O O (mV O (nS ?_)));refine cd z O ?_ ?_<;>clear z<;>intro c z<;>try simp only[qa]at c
      ·refine ax ?_;refine ap (wC (J _ z) O)
      ·refine av (bN dt O O (mV O (bn ?_)));refine ap (wC (J _ z) O)
 ·intro J;refine cd z O ?_ ?_<;>clear z<;>intro c z<;>try simp only[qa]at c
  ·refine ax ?_;refine ap (wC (J _ z) O)
  ·refine sR (bN dt O O (mV O (nS ?_)));refine cd z O ?_ ?_<;>clear z<;>intro c z<;>try simp only[qa]at c
   ·refine ax ?_;refine ap (wC (J _ z) O)
   ·refine sR (bN dt O O (mV O (nS ?_)));refine cd z O ?_ ?_<;>clear z<;>intro c z<;>try simp only[qa]at c
    ·refine ax ?_;refine ap (wC (J _ z) O)
    ·refine av (bN dt O O (mV O (bn ?_)));refine ap (wC (J _ z) O)
def RF287(res:Int×Int)(r:PV):Prop:=r= .tup [vi res.1,vi res.2]
theorem ab5{x0:Int}:FnR Tryz.prog 287 [vi x0] (.tup [vi ((oi x0).1),vi ((oi x0).2)]):=by
 refine fnS (R:=RF287) cy0 (λ_ h=>h) O λres z=>?_;unfold oi at z;refine sR (mI O (mI O (nS (am (sR (mV O (bN cn O O (mV O ?_))))))));refine cm 3 (d:=9) (v:=vb ((decide (x0 < 1))||(decide (32 < x0)))) ?_ ?_
 ·intro S Q r;cases a1:(decide (x0 < 1))
  ·intro k;have a0:=a1;try simp only[qa]at a0
   refine ai O O (ay O) (ai O O (ct O O jr) ?_);exact gK O O O O O k
  ·exact gN 2 O O O O O O
 refine nS ?_;refine cd z O ?_ ?_<;>clear z<;>intro c z<;>try simp only[qa]at c
 ·refine sR (mI O (mI O (nS ?_)));exact rT z O O O O O
 ·refine ax (ap (sR (mV O (mV O (mI O (nS ?_))))));exact rT z O O O O O
def RF181(res:Bool)(r:PV):Prop:=r=vb res
theorem za{S:List Fr}{res:Bool}{x0:List Int}{v0:PV}(r0:(tSl tI).R x0 v0){K0:Unit->Bool}
 (a5:K0 ()=res->PX Tryz.prog 0 S (QR Tryz.prog [(2,none)] (RF181 res)) [] ⟨0,[]⟩):
 ∀{m:Nat}{a0:Int}(a4:m=Int.toNat ((x0.length:Int)-a0))(a3:0<=a0),nk x0 K0 m a0=res->RC Tryz.prog (.loop ca9) S (QR Tryz.prog [(2,none)] (RF181 res)) [(7,vi a0),(6,vi (x0.length:Int)),(5,v0)] ⟨0,[]⟩:=by
 intro m;induction m with
 |zero=>
  intro a0 a4 a3 z;rw[nk]at z;refine bv (sR (bN cn O O (nS (am ?_))));refine bp O ?_ ?_<;>intro c<;>try simp only[qa]at c
  ·omega
  refine dg (dq (dc ?_));exact wP (a5 z) O
 |succ m ih=>
  intro a0 a4 a3 z;rw[nk]at z;refine bv (sR (bN cn O O (nS (am ?_))));refine bp O ?_ ?_<;>intro c<;>try simp only[qa]at c
  rotate_left
  ·omega
  refine ax (ap (am (bf (sR (af (bd O O (slI r0 V V)) (lR O O O (mV O (nR ?_))))))));refine mV O (bN cn O O (mV O ?_));refine cm 3 (d:=16) (v:=vb ((decide ((ix x0 a0) < 1))||(decide (32 < (ix x0 a0))))) ?_ ?_
  ·intro S Q r;cases a2:(decide ((ix x0 a0) < 1))
   ·intro k;have a1:=a2;try simp only[qa]at a1
    refine ai O O (ay O) (ai O O (ct O O jr) ?_);exact gK O O O O O k
   ·exact gN 2 O O O O O O
  refine nS ?_;refine cd z O ?_ ?_<;>clear z<;>intro c z<;>try simp only[qa]at c
  ·refine sR (mB O (nS ?_));exact rR z O O O
  ·refine ax (cy (ap (av (bN dp O O (mV O (bn (cv ?_)))))));have s:=da r0;have o:wr (a0+1)=a0+1:=dj V V;erw[o];exact wC (ih V V z) O
theorem cm5{x0:List Int}{v0:PV}(r0:(tSl tI).R x0 v0):FnR Tryz.prog 181 [v0] (vb (qr x0)):=by
 refine fnS (R:=RF181) cu3 (λ_ h=>h) O λres z=>?_;unfold qr at z;refine sR (mB O (nS (am (sR (mV O (af (cp O (ca r0 Tryz.underlying29 _)) (mI O (nS ?_))))))));refine bf ?_;refine wC (za r0 ?_ O V z) O
 ·intro z;refine dy (ap (sR (mB O (nS ?_))));exact rR z O O O
end Go.Proofs.YtmonnlkagniolaaGreat
