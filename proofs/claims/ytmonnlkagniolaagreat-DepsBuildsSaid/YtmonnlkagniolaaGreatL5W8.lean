/-
 The code of each function does what its plain program says.
-/
import Derived.Test.YtmonnlkagniolaaGreatL5W7
set_option linter.all false
set_option maxRecDepth 100000
namespace Go.Proofs.YtmonnlkagniolaaGreat
open Go Go.Pb Go.RowKit
def RF216(res:Int×Int×Int)(r:PV):Prop:=r= .tup [vi res.1,vi res.2.1,vi res.2.2]
theorem ac8{S:List Fr}{res:Int×Int×Int}{x0:List ah}{x1:Int}{x2:bc}{rec_:(List ah)->Int->bc->(Int×Int×Int)}{mu_:Nat}{a8:Int}{v0 v2:PV}(r0:(tSl ah.t).R x0 v0)(r2:bc.t.R x2 v2)(h0:0<=x1)(hb:x0.length<=1000000)(ihR:∀{z0:List ah}{z1:Int}{z2:bc}{d4 d7:PV}(e3:(tSl ah.t).R z0 d4)(e2:bc.t.R z2 d7)(h0:0<=z1)(hb:z0.length<=1000000),(z0.length-z1.toNat) < mu_->FnR Tryz.prog 216 [d4,vi z1,d7] (.tup [vi ((rec_ z0 z1 z2).1),vi ((rec_ z0 z1 z2).2.1),vi ((rec_ z0 z1 z2).2.2)]))(hmu:mu_=(x0.length-x1.toNat))(hrec:∀(z0:List ah)(z1:Int)(z2:bc),0<=z1->z0.length<=1000000->(rec_ z0 z1 z2).2.2=0->z1 < (rec_ z0 z1 z2).2.1)(c9:(decide ((x0.length:Int)<=x1))=false)(d8:mn ((ix x0 x1).Op)=a8)(c8:(decide (a8 < 0))=false)(b9:(decide (a8=0))=false){K0:Int->(List Int)->(Int×Int×Int)}
 (e1:∀{a3:Int}{zE109:List Int}{a0:List PV}{a1:PV}(a5:All2 tI.R zE109 a0)(a7:isL a1=true)(a2:Wri a1 a0)(a6:zE109.length<=4611686018427387904)(e4:(zE109.length:Int)=a8){h:Heap}(M0:Mem h [⟨a1,3,1,a0⟩]),K0 a3 zE109=res->PX Tryz.prog 0 S (QR Tryz.prog [(6,none),(7,none),(8,none)] (RF216 res)) [(0,v0),(1,vi x1),(12,a1),(13,vi a3)] h):
 ∀{m:Nat}{a3 a4:Int}{zE109:List Int}{a0:List PV}{a1:PV}(a5:All2 tI.R zE109 a0)(a7:isL a1=true)(a2:Wri a1 a0)(a6:zE109.length<=4611686018427387904)(d6:m=Int.toNat (a8-a4))(c4:0<=a4)(b2:x1 < a3)(b3:(zE109.length:Int)=a4)(b4:a4<=a8){h:Heap}(M0:Mem h [⟨a1,3,1,a0⟩]),mv x0 x2 rec_ K0 m a3 a4 zE109=res->RC Tryz.prog (.loop ca1) S (QR Tryz.prog [(6,none),(7,none),(8,none)] (RF216 res)) [(14,vi a4),(13,vi a3),(12,a1),(9,vi a8),(5,.fp v2),(1,vi x1),(0,v0)] h:=by
 have hb':=hb;try simp only[qa]at hb'
 have b8:=c9;try simp only[qa]at b8
 have b6:=c8;try simp only[qa]at b6
 have b7:=b9;try simp only[qa]at b7
 intro m;induction m with
 |zero=>
  intro a3 a4 zE109 a0 a1 a5 a7 a2 a6 d6 c4 b2 b3 b4 h M0 z;rw[mv]at z;refine bv (am (sR (mV O (mV O (bN cn O O (nS ?_))))));refine bp O ?_ ?_<;>intro c<;>try simp only[qa]at c
  ·omega
  refine dg (dq (dc ?_));exact wP (e1 a5 a7 a2 a6 V (Mem.sub M0 (.cons_cons _ .slnil)) z) O
 |succ m ih=>
  intro a3 a4 zE109 a0 a1 a5 a7 a2 a6 d6 c4 b2 b3 b4 h M0 z;rw[mv]at z;refine bv (am (sR (mV O (mV O (bN cn O O (nS ?_))))));refine bp O ?_ ?_<;>intro c<;>try simp only[qa]at c
  rotate_left
  ·omega
  refine ax (ap (am (bf (sR (mV O (mV O (lD r2 O O O ?_)))))));obtain⟨a9,b5,z⟩:=br z;have c6:=ihR (z0:=x0) (z1:=a3) (z2:=x2) r0 r2 V OY V;rw[b5]at c6;have d5:a9.2.2=0->a3 < a9.2.1:=by rw[<-b5];exact hrec _ _ _ V V
  refine cL c6 O O (aj (TR.clo (tSl ah.t) r0) (aj O (aj (TR.clo bc.t r2) bh))) (mV O (xT O O (xT O O (xT O O (mV O (mV O (mV O (nS ?_))))))));refine am (sR (mV O (bN lx O O (nS ?_))));refine cd z O ?_ ?_<;>clear z<;>intro c z<;>try simp only[qa]at c
  ·refine sR (mV O (mV O (mI O (mV O (mV O (nS ?_))))));subst z;exact gi (.tmp O (.tmp O (.tmp O .nil))) (eh (show closed (.tup _)=true from(aj O (aj O (aj O bh))))) O
  ·refine ax (ap (sR (mV O (mV O (af (v:= .fs true [vi a9.1]) (gb O (all_cons O ji)) ?_)))));have d2:(tSl tI).R ([a9.1]:List Int) (.fs true [vi a9.1]):=pd ⟨O,trivial⟩ OZ;obtain⟨b0,d0,b1⟩:=ly (t:=tI) (h:=h) d2;have c3:fits (a0.length+b0.length) 8=true:=by rw[All2.length_eq a5,All2.length_eq b1];(try simp only[List.length_cons,List.length_nil]);exact iq (by((have hk:=rar OY;omega))) (by((have hk:=rar OY;omega)))
   refine jt (k:=0) (es:=a0) (news:=b0) M0 O O O a7 a2 d0 c3 (λe0 d9 d3 c5 d1=>?_);have c2:All2 tI.R (zE109++([a9.1]:List Int)) (a0++b0):=All2.app a5 b1;have c7:(zE109++([a9.1]:List Int)).length<=4611686018427387904:=by rw[<-All2.length_eq c2,List.length_append];exact gg c3
   refine mV O (nS (av (mV O (mV O (bn (cy (ap (av ?_))))))));refine mV O (bN dp O O (mV O (bn (cv ?_))));have o:wr (a4+1)=a4+1:=dj V (by(have hk:=rar OY;omega));erw[o];exact wC (ih c2 d3 c5 c7 V V V (by((simp only[List.length_append,List.length_cons,List.length_nil];omega))) V (Mem.sub d1 (.cons_cons _ .slnil)) z) O
theorem cf0{rec_:(List ah)->Int->bc->(Int×Int×Int)}{mu_:Nat}{x0:List ah}{x1:Int}{x2:bc}{v0 v2:PV}(r0:(tSl ah.t).R x0 v0)(r2:bc.t.R x2 v2)(h0:0<=x1)(hb:x0.length<=1000000)(hmu:mu_=(x0.length-x1.toNat))(hrec:∀(z0:List ah)(z1:Int)(z2:bc),0<=z1->z0.length<=1000000->(rec_ z0 z1 z2).2.2=0->z1 < (rec_ z0 z1 z2).2.1)(ihR:∀{z0:List ah}{z1:Int}{z2:bc}{d3 d4:PV}(e4:(tSl ah.t).R z0 d3)(e3:bc.t.R z2 d4)(h0:0<=z1)(hb:z0.length<=1000000),(z0.length-z1.toNat) < mu_->FnR Tryz.prog 216 [d3,vi z1,d4] (.tup [vi ((rec_ z0 z1 z2).1),vi ((rec_ z0 z1 z2).2.1),vi ((rec_ z0 z1 z2).2.2)])):FnR Tryz.prog 216 [v0,vi x1,v2] (.tup [vi ((pb rec_ x0 x1 x2).1),vi ((pb rec_ x0 x1 x2).2.1),vi ((pb rec_ x0 x1 x2).2.2)]):=by
 refine fnS (R:=RF216) cn4 (λ_ h=>h) O λres z=>?_;unfold pb at z;refine sR (af (dw O (TR.cnt bc.t r2)) (mI O (mI O (mI O (nS (am (sR (mV O ?_))))))));refine mV O (af (cp O (ca r0 Tryz.underlying32 _)) (bN kj O O (nS ?_)));refine cd z O ?_ ?_<;>clear z<;>intro a5 z<;>have b1:=a5<;>try simp only[qa]at b1
 ·refine sR (mV O (mI O (mV O (mI O (nS ?_)))));subst z;exact gi (.tmp O (.tmp O (.tmp O .nil))) (eh (show closed (.tup _)=true from(aj O (aj O (aj O bh))))) O
 ·refine ax (ap (sR (mV O (mV O ?_))));obtain⟨d7,d1,c6⟩:=de (i:=x1) r0 V V;refine af (bd O O d1) (fL O (ah.g_Op c6) O O ?_);obtain⟨d6,a6,z⟩:=br z;have b8:=cu6 (x0:=(ix x0 x1).Op);rw[a6]at b8;refine cL b8 O O (aj O bh) (mV O (nS (am (sR (mV O (bN cn O O (nS ?_)))))));refine cd z O ?_ ?_<;>clear z<;>intro a4 z<;>have a8:=a4<;>try simp only[qa]at a8
  ·refine sR (mV O (mI O (mV O (mI O (nS ?_)))));subst z;exact gi (.tmp O (.tmp O (.tmp O .nil))) (eh (show closed (.tup _)=true from(aj O (aj O (aj O bh))))) O
  ·refine ax (ap (am (sR (mV O (bN dt O O (nS ?_))))));refine cd z O ?_ ?_<;>clear z<;>intro a3 z<;>have b0:=a3<;>try simp only[qa]at b0
   ·refine sR (mV O (mV O ?_));obtain⟨e2,c9,a9⟩:=de (i:=x1) r0 V V;refine af (bd O O c9) (lD a9 O O O (lD r2 O O O ?_));obtain⟨d5,b6,z⟩:=br z;have b5:=cj7 a9 r2;rw[b6]at b5;refine cL b5 O O (aj (TR.clo ah.t a9) (aj (TR.clo bc.t r2) bh)) (mV O (xT O O (xT O O (mV O (mV O (nR (mV O (mV O ?_))))))));refine bN dp O O (mV O (mV O (mV O (mV O (nS ?_)))));subst z;exact gi (.tmp O (.tmp O (.tmp O .nil))) (eh (show closed (.tup _)=true from(aj O (aj O (aj O bh))))) O
   ·refine ax (ap (sR (af (v:=nilS) (ay O) (nR (mV O (bN dp O O (mV O (nS ?_))))))));refine am (sR (mI O (nS (bf ?_))));have c8:=ou (sz:=1) (es:=[]) (Mem.nil ⟨0,[]⟩) 3 (.inl ⟨none,O,O⟩) OZ;refine wC (ac8 r0 r2 h0 hb ihR hmu hrec a5 a6 a4 a3 ?_ aL O (.inl O) OO O V (by((rw[dj V V];omega))) OZ V (Mem.sub c8 (.cons_cons _ .slnil)) z) O
    ·intro c4 b3 b2 b9 a1 a2 b4 a0 c3 e0 d0 z;refine dy (ap (sR (mV O (mV O ?_))));obtain⟨d8,c7,a7⟩:=de (i:=x1) r0 V V;refine af (bd O O c7) (lD a7 O O O (mV O ?_));obtain⟨d9,c5,d2⟩:=qc (P:=Tryz.prog) (k:=0) (t:=tI) d0 O a2 a1 (Nat.le_trans a0 OO);obtain⟨e1,c2,z⟩:=br z;have b7:=cx1 a7 d2 V V;rw[c2]at b7;refine ar8 (ck9 O O (tl (eh (TR.clo ah.t a7)) (tl c5 be4)) b7 O) (mV O (xT O O (xT O O (mV O (mV O (nR (mV O (mV O ?_))))))));refine mV O (mV O (mV O (mV O (nS ?_))));subst z;exact gi (.tmp O (.tmp O (.tmp O .nil))) (eh (show closed (.tup _)=true from(aj O (aj O (aj O bh))))) O
theorem bv6:∀(n_:Nat){x0:List ah}{x1:Int}{x2:bc}{v0 v2:PV}(r0:(tSl ah.t).R x0 v0)(r2:bc.t.R x2 v2)(h0:0<=x1)(hb:x0.length<=1000000),(x0.length-x1.toNat) < n_->FnR Tryz.prog 216 [v0,vi x1,v2] (.tup [vi ((jb n_ x0 x1 x2).1),vi ((jb n_ x0 x1 x2).2.1),vi ((jb n_ x0 x1 x2).2.2)]):=by
 intro n_;induction n_ with
 |zero=>intros;rename_i hlt;exact absurd hlt (Nat.not_lt_zero _)
 |succ n_ ihn=>
  intro x0 x1 x2 v0 v2 r0 r2 h0 hb hlt;have e_:jb (n_+1) x0 x1 x2=pb (jb n_) x0 x1 x2:=by rw[jb]
  rw[e_];exact cf0 r0 r2 h0 hb O (ax5 n_) (λ{z0}{z1}{z2}{zv0}{zv2} zr0 zr2 h0 hb hz=>ihn zr0 zr2 h0 hb V)
theorem cn8{x0:List ah}{x1:Int}{x2:bc}{v0 v2:PV}(r0:(tSl ah.t).R x0 v0)(r2:bc.t.R x2 v2)(h0:0<=x1)(hb:x0.length<=1000000):FnR Tryz.prog 216 [v0,vi x1,v2] (.tup [vi ((si x0 x1 x2).1),vi ((si x0 x1 x2).2.1),vi ((si x0 x1 x2).2.2)]):=bv6 _ r0 r2 h0 hb (Nat.lt_succ_self _)
def RF156(res:Int×Int)(r:PV):Prop:=r= .tup [vi res.1,vi res.2]
theorem au7{x0:List ah}{x1:bc}{v0 v1:PV}(r0:(tSl ah.t).R x0 v0)(r1:bc.t.R x1 v1):FnR Tryz.prog 156 [v0,v1] (.tup [vi ((pk x0 x1).1),vi ((pk x0 x1).2)]):=by
 refine fnS (R:=RF156) cr3 (λ_ h=>h) O λres z=>?_;unfold pk at z;refine sR (af (dw O (TR.cnt bc.t r1)) (mI O (mI O (nS (am (sR (mV O (af (cp O (ca r0 Tryz.underlying32 _)) ?_))))))));refine bN jr O O (nS ?_);refine cd z O ?_ ?_<;>clear z<;>intro c z<;>try simp only[qa]at c
 ·refine sR (mI O (mI O (nS ?_)));exact rT z O O O O O
 ·refine ax (ap (sR (mV O (lD r1 O O O ?_))));obtain⟨a2,a1,z⟩:=br z;have a0:=cn8 (x1:=0) r0 r1 V V;rw[a1]at a0;refine cL a0 O O (aj (TR.clo (tSl ah.t) r0) (aj O (aj (TR.clo bc.t r1) bh))) (mV O (xT O O (xT O O (xT O O (mV O (mV O (mV O (nS ?_))))))));refine am (bf (sR (mV O (bN lx O O (mV O (nS ?_))))));refine cd z O ?_ ?_<;>clear z<;>intro c z<;>try simp only[qa]at c
  ·refine sR (mV O (mI O (mV O (nS ?_))));exact rT z O O O O O
  ·refine sR (mV O (mV O (af (cp O (ca r0 Tryz.underlying32 _)) (bN cn O O (mV O (nS ?_))))));refine cd z O ?_ ?_<;>clear z<;>intro c z<;>try simp only[qa]at c
   ·refine sR (mI O (mI O (nS ?_)));exact rT z O O O O O
   ·refine ax (cy (ap (sR (mV O (mV O (mI O (nS ?_)))))));exact rT z O O O O O
def RF178(res:Int)(r:PV):Prop:=r=vi res
theorem bm4{x0:List ah}{x1:bc}{x2:Int}{v0 v1:PV}(r0:(tSl ah.t).R x0 v0)(r1:bc.t.R x1 v1):FnR Tryz.prog 178 [v0,v1,vi x2] (vi (rc x0 x1 x2)):=by
 refine fnS (R:=RF178) cl5 (λ_ h=>h) O λres z=>?_;unfold rc at z;refine sR (af (dw O (TR.cnt bc.t r1)) (mI O (nR (mV O (lD r1 O O O ?_)))));obtain⟨a0,a3,z⟩:=br z;have a4:=au7 r0 r1;rw[a3]at a4;refine cL a4 O O (aj (TR.clo (tSl ah.t) r0) (aj (TR.clo bc.t r1) bh)) (mV O (xT O O (xT O O (mV O (mV O (nS (am (sR ?_))))))));refine mV O (bN dt O O (mV O ?_));refine cm 4 (d:=21) (v:=vb ((decide (a0.2=0))&&(!decide (a0.1=x2)))) ?_ ?_
 ·intro S Q r;cases a2:(decide (a0.2=0))
  ·exact gN 3 O O O O O O
  ·intro k;have a1:=a2;try simp only[qa]at a1
   refine ai O O (ay O) (ai O O (ay O) (ai O O (ct O O lx) ?_));exact gK O O O O O k
 refine nS ?_;refine cd z O ?_ ?_<;>clear z<;>intro c z<;>try simp only[qa]at c
 ·refine sR (mI O (nS ?_));exact rR z O O O
 ·refine ax (ap (sR (mV O (mV O (nS ?_)))));exact rR z O O O
def RF107(res:Int)(r:PV):Prop:=r=vi res
theorem cr9{x0:ae}{x1:au}{x2:bc}{v0 v1 v2:PV}(r0:ae.t.R x0 v0)(r1:au.t.R x1 v1)(r2:bc.t.R x2 v2):FnR Tryz.prog 107 [v0,v1,v2] (vi (py x0 x1 x2)):=by
 refine fnS (R:=RF107) cw6 (λ_ h=>h) O λres z=>?_;unfold py at z;refine sR (af (dw O (TR.cnt ae.t r0)) (af (dw O (TR.cnt au.t r1)) (af (dw O (TR.cnt bc.t r2)) (mI O (nR (lD r0 O O O (gL (au.g_Dst r1) O O O λf1 d1=>?_)))))));obtain⟨a1,c2,z⟩:=br z;have c8:=bm5 r0 d1;rw[c2]at c8;refine cL c8 O O (aj (TR.clo ae.t r0) (aj (TR.clo aa.t d1) bh)) (mV O (xT O O (xT O O (mV O (mV O (nR (fL O (au.g_Register r1) O O (bN kj O O ?_))))))));refine mV O ?_;refine cm 7 (d:=31) (v:=vb ((decide (0<=x1.Register))&&(decide (x1.Register < (x0.Registers.length:Int))))) ?_ ?_
 ·intro S Q r;cases b6:(decide (0<=x1.Register))
  ·exact gN 6 O O O O O O
  ·intro k;have a4:=b6;try simp only[qa]at a4
   refine ai O O (co O (au.g_Register r1)) (ai O O (ck O O O) ?_);obtain⟨e7,e0,a6⟩:=ae.g_Registers r0;refine ai O O (co O e0) (ai O O (ck O (TR.cnt (tSl cq.t) a6) (TR.agg (tSl cq.t) a6)) (ai O O (cp O (ca a6 Tryz.underlying24 _)) (ai O O (ct O O cn) ?_)));exact gK O O O O O k
 refine mV O (nS (am (sR (fL O (au.g_Kind r1) O O (nS (bf (sR (bN dt O O ?_))))))));refine mV O (nS ?_);refine cd z O ?_ ?_<;>clear z<;>intro c z<;>try simp only[qa]at c
 ·refine am (sR (mV O (af (ju O) (nS ?_))));refine cd z O ?_ ?_<;>clear z<;>intro c z<;>try simp only[qa]at c
  ·refine sR (mI O (nS ?_));exact rR z O O O
  ·refine ax (ap (sR (gL (au.g_Value r1) O O O λe8 b8=>(lD r2 O O O (mV O ?_)))));obtain⟨f3,b5,z⟩:=br z;have c3:=bm4 (x2:=a1.1) b8 r2;rw[b5]at c3;refine cL c3 O O (aj (TR.clo (tSl ah.t) b8) (aj (TR.clo bc.t r2) (aj O bh))) (mV O (nS ?_));exact rR z O O O
 ·refine am (sR (bN dt O O (mV O (nS ?_))));obtain⟨d8,c9,z⟩:=br z;refine nd (F:=λb S Q=>∀(a0:Bool),d8 a0=res->RC Tryz.prog b S Q [(43,vb a0),(33,vi x1.Kind),(9,vb ((decide (0<=x1.Register))&&(decide (x1.Register < (x0.Registers.length:Int))))),(8,vb a1.2),(7,vi a1.1),(5,.fp v2),(4,.fp v1),(3,.fp v0)] ⟨0,[]⟩) ?_ ?_
  ·intro a0 z;rw[<-c9]at z;refine cd z O ?_ ?_<;>clear z<;>intro c z<;>try simp only[qa]at c
   ·refine am (sR (fL O (au.g_Header r1) O O (bN cn O O (mV O ?_))));refine cm 7 (d:=56) (v:=vb ((decide (x1.Header < 0))||(decide ((x0.Headers.length:Int)<=x1.Header)))) ?_ ?_
    ·intro S Q r;cases b1:(decide (x1.Header < 0))
     ·intro k;have a7:=b1;try simp only[qa]at a7
      refine ai O O (co O (au.g_Header r1)) (ai O O (ck O O O) ?_);obtain⟨e3,d3,a8⟩:=ae.g_Headers r0;refine ai O O (co O d3) (ai O O (ck O (TR.cnt (tSl bz.t) a8) (TR.agg (tSl bz.t) a8)) (ai O O (cp O (ca a8 Tryz.underlying22 _)) (ai O O (ct O O kj) ?_)));exact gK O O O O O k
     ·exact gN 6 O O O O O O
    refine nS ?_;refine cd z O ?_ ?_<;>clear z<;>intro c z<;>try simp only[qa]at c
    ·refine sR (mI O (nS ?_));exact rR z O O O
    ·refine ax (ap (sR (mI O (nS ?_))));exact rR z O O O
   ·refine sR (bN dt O O (mV O (nS ?_)));refine cd z O ?_ ?_<;>clear z<;>intro c z<;>try simp only[qa]at c
    ·refine am (sR (mV O (af (ju O) (mV O ?_))));refine cm 3 (d:=64) (v:=vb ((!a1.2)||(!((decide (0<=x1.Register))&&(decide (x1.Register < (x0.Registers.length:Int))))))) ?_ ?_
     ·intro S Q r;cases c5:(!a1.2)
      ·intro k;have a3:=c5;try simp only[qa]at a3
       refine ai O O (ay O) (ai O O (ju O) ?_);exact gK O O O O O k
      ·exact gN 2 O O O O O O
     refine nS ?_;refine cd z O ?_ ?_<;>clear z<;>intro c z<;>try simp only[qa]at c
     ·refine sR (mI O (nS ?_));exact rR z O O O
     ·refine ax (ap (sR ?_));obtain⟨e5,d6,a2⟩:=au.g_Index r1;refine fA O d6 (lD a2 O O O (lD r2 O O O ?_));obtain⟨b3,c6,z⟩:=br z;have b7:=au7 a2 r2;rw[c6]at b7;refine cL b7 O O (aj (TR.clo (tSl ah.t) a2) (aj (TR.clo bc.t r2) bh)) (mV O (xT O O (xT O O (mV O (mV O (nS (am (sR ?_))))))));refine mV O (bN dt O O (mV O ?_));refine cm 10 (d:=84) (v:=vb ((decide (b3.2=0))&&(!decide (a1.1=((ix x0.Registers x1.Register).Width))))) ?_ ?_
      ·intro S Q r;cases d0:(decide (b3.2=0))
       ·exact gN 9 O O O O O O
       ·intro k;have a9:=d0;try simp only[qa]at a9
        refine ai O O (ay O) ?_;obtain⟨f5,d9,a5⟩:=ae.g_Registers r0;refine ai O O (co O d9) (ai O O (ck O (TR.cnt (tSl cq.t) a5) (TR.agg (tSl cq.t) a5)) (ai O O (co O (au.g_Register r1)) (ai O O (ck O O O) ?_)));obtain⟨e2,d2,d5⟩:=de (i:=x1.Register) a5 V V;refine ai O O (bd O O d2) (ai O O (co O (cq.g_Width d5)) (ai O O (ck O O O) (ai O O (ct O O lx) ?_)));exact gK O O O O O k
      refine nS ?_;refine cd z O ?_ ?_<;>clear z<;>intro c z<;>try simp only[qa]at c
      ·refine sR (mI O (nS ?_));exact rR z O O O
      ·refine ax (ap (sR (mV O (mV O (nS ?_)))));exact rR z O O O
    ·refine sR (bN dt O O (mV O (nS ?_)));refine cd z O ?_ ?_<;>clear z<;>intro c z<;>try simp only[qa]at c
     ·refine am (sR (mV O (af (ju O) (nS ?_))));refine cd z O ?_ ?_<;>clear z<;>intro c z<;>try simp only[qa]at c
      ·refine sR (mI O (nS ?_));exact rR z O O O
      ·refine ax (ap (sR (gL (au.g_Index r1) O O O λe4 b2=>(lD r2 O O O ?_))));obtain⟨e9,b0,z⟩:=br z;have c7:=au7 b2 r2;rw[b0]at c7;refine cL c7 O O (aj (TR.clo (tSl ah.t) b2) (aj (TR.clo bc.t r2) bh)) (mV O (xT O O (xT O O (mV O (mV O (nS (am (sR ?_))))))));refine mV O (bN lx O O (nS ?_));refine cd z O ?_ ?_<;>clear z<;>intro c z<;>try simp only[qa]at c
       ·refine sR (mV O (mV O (nS ?_)));exact rR z O O O
       ·refine ax (ap (sR (gL (au.g_Value r1) O O O λf0 c4=>(lD r2 O O O (gL (ae.g_Registers r0) O O O λe6 e1=>(fL O (au.g_Register r1) O O ?_))))));obtain⟨f4,d4,d7⟩:=de (i:=x1.Register) e1 V V;refine af (bd O O d4) (fL O (cq.g_Width d7) O O ?_);obtain⟨f2,b9,z⟩:=br z;have b4:=bm4 (x2:=(ix x0.Registers x1.Register).Width) c4 r2;rw[b9]at b4;refine cL b4 O O (aj (TR.clo (tSl ah.t) c4) (aj (TR.clo bc.t r2) (aj O bh))) (mV O (nS ?_));exact rR z O O O
     ·refine ax (cy (ap (sR (mI O (nS ?_)))));exact rR z O O O
  ·intro J;refine cd z O ?_ ?_<;>clear z<;>intro c z<;>try simp only[qa]at c
   ·refine ax ?_;refine ap (wC (J _ z) O)
   ·refine av (bN dt O O (mV O (bn ?_)));refine ap (wC (J _ z) O)
def RF36(res:Int×Int)(r:PV):Prop:=r= .tup [vi res.1,vi res.2]
theorem aa1{S:List Fr}{res:Int×Int}{x0:ae}{x1:Int}{b7:Bool}{b2:Int}{v0 a4:PV}{a3 a6:Nat}(r0:ae.t.R x0 v0)(b4:((decide (x1 < 0))||(decide ((x0.Actions.length:Int)<=x1)))=false)(a8:bm.t.R (ix x0.Actions x1) a4)(d1:jl ((ix x0.Actions x1).Name)=b7)(c3:(!b7)=false)(b8:((decide (4 < (((ix x0.Actions x1).Params).length:Int)))||(decide (12 < (((ix x0.Actions x1).Body).length:Int))))=false)(d3:qp ((ix x0.Actions x1).Params)=b2)(b5:(!decide (b2=0))=false){K1:Unit->(Int×Int)}
 (d7:∀{h:Heap}(M0:Mem h [⟨.op a3 a6 0,97,3,[a4]⟩]),K1 ()=res->PX Tryz.prog 1 S (QR Tryz.prog [(4,none),(5,none)] (RF36 res)) [] h):
 ∀{m:Nat}{a0:Int}(d2:m=Int.toNat ((((ix x0.Actions x1).Body).length:Int)-a0))(b3:0<=a0){h:Heap}(M0:Mem h [⟨.op a3 a6 0,97,3,[a4]⟩]),oe x0 x1 K1 m a0=res->RC Tryz.prog (.loop cj0) S (QR Tryz.prog [(4,none),(5,none)] (RF36 res)) [(7,vi a0),(6,.op a3 a6 0),(2,.fp v0),(1,vi x1)] h:=by
 have a2:=b4;try simp only[qa]at a2
 have a5:=c3;try simp only[qa]at a5
 have a1:=b8;try simp only[qa]at a1
 have a9:=b5;try simp only[qa]at a9
 intro m;induction m with
 |zero=>
  intro a0 d2 b3 h M0 z;rw[oe]at z;refine bv (am (sR (mV O (af (bg O) ?_))));obtain⟨d8,d0,c8⟩:=bm.g_Body a8;refine af (cg (k:=0) M0 O O d0) (af (cp O (ca c8 Tryz.underlying95 _)) (bN cn O O (nS ?_)));refine bp O ?_ ?_<;>intro c<;>try simp only[qa]at c
  ·omega
  refine dg (dq (dc ?_));exact wP (d7 (Mem.sub M0 (.cons_cons _ .slnil)) z) O
 |succ m ih=>
  intro a0 d2 b3 h M0 z;rw[oe]at z;refine bv (am (sR (mV O (af (bg O) ?_))));obtain⟨e1,c4,b1⟩:=bm.g_Body a8;refine af (cg (k:=0) M0 O O c4) (af (cp O (ca b1 Tryz.underlying95 _)) (bN cn O O (nS ?_)));refine bp O ?_ ?_<;>intro c<;>try simp only[qa]at c
  rotate_left
  ·omega
  refine ax (ap (am (bf (sR (lD r0 O O O (af (bg O) ?_))))));obtain⟨d4,c6,c5⟩:=bm.g_Body a8;refine af (cg (k:=0) M0 O O c6) (mV O ?_);obtain⟨d6,c7,b0⟩:=de (i:=a0) c5 V V;refine af (bd O O c7) (lD b0 O O O (lD r0 O O O (mV O ?_)));obtain⟨d9,b6,z⟩:=br z;obtain⟨d5,c9,a7⟩:=dq4 (x1:=x1) r0 V;rw[b6]at a7;refine cL c9 O O (aj (TR.clo ae.t r0) (aj O bh)) ?_;obtain⟨e0,c2,z⟩:=br z;have b9:=cr9 r0 b0 a7;rw[c2]at b9;refine cL b9 O O (aj (TR.clo ae.t r0) (aj (TR.clo au.t b0) (aj (TR.clo bc.t a7) bh))) (mV O (nR (mV O (bN lx O O (nS ?_)))));refine cd z O ?_ ?_<;>clear z<;>intro c z<;>try simp only[qa]at c
  ·refine sR (mV O (mV O (mV O (mV O (nS ?_)))));exact rT z O O O O O
  ·refine ax (cy (ap (av (mV O (bN dp O O (mV O (bn (cv ?_))))))));have s:=da b1;have o:wr (a0+1)=a0+1:=dj V V;erw[o];exact wC (ih V V (Mem.sub M0 (.cons_cons _ .slnil)) z) O
theorem bs1{x0:ae}{x1:Int}{v0:PV}(r0:ae.t.R x0 v0):FnR Tryz.prog 36 [v0,vi x1] (.tup [vi ((mo x0 x1).1),vi ((mo x0 x1).2)]):=by
 refine fnS (R:=RF36) dp1 (λ_ h=>h) O λres z=>?_;unfold mo at z;refine sR (af (dw O (TR.cnt ae.t r0)) (mI O (mI O (nS (am (sR (mV O (bN cn O O ?_))))))));refine mV O ?_;refine cm 6 (d:=17) (v:=vb ((decide (x1 < 0))||(decide ((x0.Actions.length:Int)<=x1)))) ?_ ?_
 ·intro S Q r;cases b9:(decide (x1 < 0))
  ·intro k;have b4:=b9;try simp only[qa]at b4
   refine ai O O (ay O) ?_;obtain⟨e2,d6,a8⟩:=ae.g_Actions r0;refine ai O O (co O d6) (ai O O (ck O (TR.cnt (tSl bm.t) a8) (TR.agg (tSl bm.t) a8)) (ai O O (cp O (ca a8 Tryz.underlying25 _)) (ai O O (ct O O kj) ?_)));exact gK O O O O O k
  ·exact gN 5 O O O O O O
 refine nS ?_;refine cd z O ?_ ?_<;>clear z<;>intro a4 z<;>have b0:=a4<;>try simp only[qa]at b0
 ·refine sR (mI O (mI O (nS ?_)));exact rT z O O O O O
 ·refine ax (ap (sR (gL (ae.g_Actions r0) O O O λe6 d3=>(mV O ?_))));obtain⟨c3,d7,a1⟩:=de (i:=x1) d3 V V;refine af (bd O O d7) (lD a1 O O O ?_);refine fa (x:= .agg [vs [],nilS,nilS]) (Mem.nil ⟨0,[]⟩) O O (λd4 d5 f0 d2=>?_);refine ek (k:=0) (v:=c3) d2 O O O (TR.cnt bm.t a1) (λc6 a0=>?_);replace a0:Mem c6 [⟨.op d4 d5 0,97,3,[c3]⟩]:=a0;refine nS (am (bf (sR (af (bg O) (af (cg (k:=0) a0 O O (bm.g_Name a1)) ?_)))));obtain⟨e9,a2,z⟩:=br z;have b8:=bj3 (x0:=(ix x0.Actions x1).Name);rw[a2]at b8;refine cL b8 O O (aj O bh) (af (ju O) (mV O (nS ?_)));refine cd z O ?_ ?_<;>clear z<;>intro a7 z<;>have b1:=a7<;>try simp only[qa]at b1
  ·refine sR (mI O (mI O (nS ?_)));exact rT z O O O O O
  ·refine sR (af (bg O) ?_);obtain⟨e7,c7,d0⟩:=bm.g_Params a1;refine af (cg (k:=0) a0 O O c7) (af (cp O (ca d0 Tryz.underlying23 _)) (bN jr O O (mV O ?_)));refine cm 5 (d:=38) (v:=vb ((decide (4 < (((ix x0.Actions x1).Params).length:Int)))||(decide (12 < (((ix x0.Actions x1).Body).length:Int))))) ?_ ?_
   ·intro S Q r;cases b5:(decide (4 < (((ix x0.Actions x1).Params).length:Int)))
    ·intro k;have b2:=b5;try simp only[qa]at b2
     refine ai O O (bg O) ?_;obtain⟨e3,c8,d8⟩:=bm.g_Body a1;refine ai O O (cg (k:=0) a0 O O c8) (ai O O (cp O (ca d8 Tryz.underlying95 _)) (ai O O (ct O O jr) ?_));exact gK O O O O O k
    ·exact gN 4 O O O O O O
   refine mV O (nS ?_);refine cd z O ?_ ?_<;>clear z<;>intro a6 z<;>have a9:=a6<;>try simp only[qa]at a9
   ·refine sR (mI O (mI O (nS ?_)));exact rT z O O O O O
   ·refine sR (af (bg O) ?_);obtain⟨e8,c9,c2⟩:=bm.g_Params a1;refine af (cg (k:=0) a0 O O c9) ?_;obtain⟨e5,a3,z⟩:=br z;have c4:=bi2 c2;rw[a3]at c4;refine cL c4 O O (aj (TR.clo (tSl az.t) c2) bh) (bN lx O O (mV O (nS ?_)));refine cd z O ?_ ?_<;>clear z<;>intro a5 z<;>have b3:=a5<;>try simp only[qa]at b3
    ·refine sR (af (bg O) ?_);obtain⟨e4,d1,b6⟩:=bm.g_Params a1;refine af (cg (k:=0) a0 O O d1) ?_;obtain⟨e0,c5,z⟩:=br z;have b7:=bi2 b6;rw[c5]at b7;refine cL b7 O O (aj (TR.clo (tSl az.t) b6) bh) (mI O (mV O (nS ?_)));exact rT z O O O O O
    ·refine ax (cy (ap (am (sR (mI O (nS (bf ?_)))))));refine wC (aa1 r0 a4 a1 a2 a7 a6 a3 a5 ?_ O V (Mem.sub a0 (.cons_cons _ .slnil)) z) O
     ·intro d9 e1 z;refine dy (ap (sR (mI O (mI O (nS ?_)))));exact rT z O O O O O
def RF180(res:Bool)(r:PV):Prop:=r=vb res
theorem cv6{x0:aa}{x1:aa}{v0 v1:PV}(r0:aa.t.R x0 v0)(r1:aa.t.R x1 v1):FnR Tryz.prog 180 [v0,v1] (vb (jg x0 x1)):=by
 refine fnS (R:=RF180) cy9 (λ_ h=>h) O λres z=>?_;unfold jg at z;refine sR (af (dw O (TR.cnt aa.t r0)) (af (dw O (TR.cnt aa.t r1)) (mB O (nR (fL O (aa.g_Header r0) O O (fL O (aa.g_Header r1) O O (bN cn O O (mV O ?_))))))));refine cm 13 (d:=23) (v:=vb ((decide (x0.Header < x1.Header))||((decide (x0.Header=x1.Header))&&(decide (x0.Field < x1.Field))))) ?_ ?_
 ·intro S Q r;cases a2:(decide (x0.Header < x1.Header))
  ·intro k;have a1:=a2;try simp only[qa]at a1
   refine ai O O (co O (aa.g_Header r0)) (ai O O (ck O O O) (ai O O (co O (aa.g_Header r1)) (ai O O (ck O O O) (ai O O (ct O O dt) (ai O O (ay O) ?_)))));refine cm 6 (d:=22) (v:=vb ((decide (x0.Header=x1.Header))&&(decide (x0.Field < x1.Field)))) ?_ ?_
   ·intro S Q r;cases a3:(decide (x0.Header=x1.Header))
    ·intro k;refine ja O O (ja O O (ja O O (ja O O (ja O O (ai (v:=vb false) O O (po O O O O) ?_)))));exact wD k O
    ·intro k;have a0:=a3;try simp only[qa]at a0
     refine ai O O (co O (aa.g_Field r0)) (ai O O (ck O O O) (ai O O (co O (aa.g_Field r1)) (ai O O (ck O O O) (ai O O (ct O O cn) (ai (v:=vb (decide (x0.Field < x1.Field))) O O (po O O O O) ?_)))));exact wD k O
   exact gK O O O O O k
  ·exact gN 12 O O O O O O
 refine mV O (nS ?_);exact rR z O O O
def RF113(res:(List aa))(r:PV):Prop:=(tSl aa.t).R res r
theorem vy{S:List Fr}{res:(List aa)}{x0:List aa}{x1:aa}{v0 v1:PV}(r0:(tSl aa.t).R x0 v0)(r1:aa.t.R x1 v1)(hb:x0.length<=100000){K0:Bool->(List aa)->(List aa)}
 (h1:∀{b1:Bool}{zE102:List aa}{a0:List PV}{a1:PV}(a2:All2 aa.t.R zE102 a0)(a5:isL a1=true)(a3:Wri a1 a0)(a7:zE102.length<=4611686018427387904)(i1:zE102.length<=200000){h:Heap}(M0:Mem h [⟨a1,87,2,a0⟩]),K0 b1 zE102=res->PX Tryz.prog 0 S (QR Tryz.prog [(4,none)] (RF113 res)) [(3,.fp v1),(5,a1),(6,vb b1)] h):
 ∀{m:Nat}{b1:Bool}{a4:Int}{zE102:List aa}{a0:List PV}{a1:PV}(a2:All2 aa.t.R zE102 a0)(a5:isL a1=true)(a3:Wri a1 a0)(a7:zE102.length<=4611686018427387904)(g9:m=Int.toNat ((x0.length:Int)-a4))(d7:0<=a4)(b4:(zE102.length:Int)<=2*a4)(b5:a4<=(x0.length:Int)){h:Heap}(M0:Mem h [⟨a1,87,2,a0⟩]),fq x0 x1 K0 m b1 a4 zE102=res->RC Tryz.prog (.loop br2) S (QR Tryz.prog [(4,none)] (RF113 res)) [(7,vi a4),(6,vb b1),(5,a1),(3,.fp v1),(0,v0)] h:=by
 have hb':=hb;try simp only[qa]at hb'
 intro m;induction m with
 |zero=>
  intro b1 a4 zE102 a0 a1 a2 a5 a3 a7 g9 d7 b4 b5 h M0 z;rw[fq]at z;refine bv (am (sR (mV O (mV O (af (cp O (ca r0 Tryz.underlying75 _)) (bN cn O O (nS ?_)))))));refine bp O ?_ ?_<;>intro c<;>try simp only[qa]at c
  ·omega
  refine dg (dq (dc ?_));exact wP (h1 a2 a5 a3 a7 V (Mem.sub M0 (.cons_cons _ .slnil)) z) O
 |succ m ih=>
  intro b1 a4 zE102 a0 a1 a2 a5 a3 a7 g9 d7 b4 b5 h M0 z;rw[fq]at z;refine bv (am (sR (mV O (mV O (af (cp O (ca r0 Tryz.underlying75 _)) (bN cn O O (nS ?_)))))));refine bp O ?_ ?_<;>intro c<;>try simp only[qa]at c
  rotate_left
  ·omega
  refine ax (ap (am (bf (am (sR (mV O (af (ju O) (mV O ?_))))))));refine cm 8 (d:=24) (v:=vb ((!b1)&&(!(jg (ix x0 a4) x1)))) ?_ ?_
  ·intro S Q r;cases e7:(!b1)
   ·exact gN 7 O O O O O O
   ·intro k;have c2:=e7;try simp only[qa]at c2
    refine ai O O (ay O) (ai O O (ay O) ?_);obtain⟨h2,g6,b2⟩:=de (i:=a4) r0 V V;refine ai O O (bd O O g6) (ai O O (ck O (TR.cnt aa.t b2) (TR.agg aa.t b2)) (ai O O (ck O (TR.cnt aa.t r1) (TR.agg aa.t r1)) ?_));have f3:=cv6 b2 r1;refine lf O O (rl O O (aj (TR.clo aa.t b2) (aj (TR.clo aa.t r1) bh)) f3) (ai O O (ju O) ?_);exact gK O O O O O k
  refine nS ?_;refine cd z O ?_ ?_<;>clear z<;>intro c z<;>try simp only[qa]at c
  ·refine sR (mB O (nR (mV O (mV O ?_))));obtain⟨h7,f9,d4⟩:=de (i:=a4) r0 V V;refine af (bd O O f9) (lD d4 O O O (lD r1 O O O (bN (aa.neq_87 d4 r1) O O (nS ?_))));refine cd z O ?_ ?_<;>clear z<;>intro c z<;>try simp only[qa]at c
   ·refine av (mV O (lD r1 O O O (af (v:= .fs true [v1]) (gb O (all_cons (TR.cnt aa.t r1) ji)) ?_)));have g0:(tSl aa.t).R ([x1]:List aa) (.fs true [v1]):=pd ⟨r1,trivial⟩ OZ;obtain⟨a6,c8,b7⟩:=ly (t:=aa.t) (h:=h) g0;have d9:fits (a0.length+a6.length) 16=true:=by rw[All2.length_eq a2,All2.length_eq b7];(try simp only[List.length_cons,List.length_nil]);exact iq V V
    refine jt (k:=0) (es:=a0) (news:=a6) M0 O O O a5 a3 c8 d9 (λh5 g2 f5 d5 g3=>?_);have c3:All2 aa.t.R (zE102++([x1]:List aa)) (a0++a6):=All2.app a2 b7;have h0:(zE102++([x1]:List aa)).length<=4611686018427387904:=by rw[<-All2.length_eq c3,List.length_append];exact gg d9
    refine mV O (nS (av (mV O (mV O (mV O ?_)))));obtain⟨d6,f6,b9⟩:=de (i:=a4) r0 V V;refine af (bd O O f6) (lD b9 O O O (af (v:= .fs true [d6]) (gb O (all_cons (TR.cnt aa.t b9) ji)) ?_));have g8:(tSl aa.t).R ([(ix x0 a4)]:List aa) (.fs true [d6]):=pd ⟨b9,trivial⟩ OZ;obtain⟨a9,e9,b3⟩:=ly (t:=aa.t) (h:=g2) g8;have e4:fits ((a0++a6).length+a9.length) 16=true:=by rw[All2.length_eq c3,All2.length_eq b3];(try simp only[List.length_cons,List.length_nil]);exact iq (by((simp only[List.length_append,List.length_cons,List.length_nil];omega))) (by((simp only[List.length_append,List.length_cons,List.length_nil];omega)))
    refine jt (k:=0) (es:=(a0++a6)) (news:=a9) g3 O O O f5 d5 e9 e4 (λh6 h9 g5 d3 f8=>?_);have d1:All2 aa.t.R ((zE102++([x1]:List aa))++([(ix x0 a4)]:List aa)) ((a0++a6)++a9):=All2.app c3 b3;have e1:((zE102++([x1]:List aa))++([(ix x0 a4)]:List aa)).length<=4611686018427387904:=by rw[<-All2.length_eq d1,List.length_append];exact gg e4
    refine mV O (bn (cy (ap (av (mV O (bN dp O O (mV O (bn ?_))))))));refine cv ?_;have s:=da r0;have o:wr (a4+1)=a4+1:=dj V V;erw[o];exact wC (ih d1 g5 d3 e1 V V (by((simp only[List.length_append,List.length_cons,List.length_nil];omega))) V (Mem.sub f8 (.cons_cons _ .slnil)) z) O
   ·refine ax (ap (av (mV O (mV O (mV O ?_)))));obtain⟨c9,g7,c4⟩:=de (i:=a4) r0 V V;refine af (bd O O g7) (lD c4 O O O (af (v:= .fs true [c9]) (gb O (all_cons (TR.cnt aa.t c4) ji)) ?_));have f4:(tSl aa.t).R ([(ix x0 a4)]:List aa) (.fs true [c9]):=pd ⟨c4,trivial⟩ OZ;obtain⟨a8,d0,b8⟩:=ly (t:=aa.t) (h:=h) f4;have c6:fits (a0.length+a8.length) 16=true:=by rw[All2.length_eq a2,All2.length_eq b8];(try simp only[List.length_cons,List.length_nil]);exact iq V V
    refine jt (k:=0) (es:=a0) (news:=a8) M0 O O O a5 a3 d0 c6 (λi0 h3 f1 d8 f0=>?_);have c7:All2 aa.t.R (zE102++([(ix x0 a4)]:List aa)) (a0++a8):=All2.app a2 b8;have e6:(zE102++([(ix x0 a4)]:List aa)).length<=4611686018427387904:=by rw[<-All2.length_eq c7,List.length_append];exact gg c6
    refine mV O (bn (cy (ap (av (mV O (bN dp O O (mV O (bn ?_))))))));refine cv ?_;have s:=da r0;have o:wr (a4+1)=a4+1:=dj V V;erw[o];exact wC (ih c7 f1 d8 e6 V V (by((simp only[List.length_append,List.length_cons,List.length_nil];omega))) V (Mem.sub f0 (.cons_cons _ .slnil)) z) O
  ·refine ax (ap (av (mV O (mV O (mV O ?_)))));obtain⟨e5,g4,c5⟩:=de (i:=a4) r0 V V;refine af (bd O O g4) (lD c5 O O O (af (v:= .fs true [e5]) (gb O (all_cons (TR.cnt aa.t c5) ji)) ?_));have f2:(tSl aa.t).R ([(ix x0 a4)]:List aa) (.fs true [e5]):=pd ⟨c5,trivial⟩ OZ;obtain⟨b0,e0,b6⟩:=ly (t:=aa.t) (h:=h) f2;have e3:fits (a0.length+b0.length) 16=true:=by rw[All2.length_eq a2,All2.length_eq b6];(try simp only[List.length_cons,List.length_nil]);exact iq V V
   refine jt (k:=0) (es:=a0) (news:=b0) M0 O O O a5 a3 e0 e3 (λh8 h4 f7 e2 g1=>?_);have d2:All2 aa.t.R (zE102++([(ix x0 a4)]:List aa)) (a0++b0):=All2.app a2 b6;have e8:(zE102++([(ix x0 a4)]:List aa)).length<=4611686018427387904:=by rw[<-All2.length_eq d2,List.length_append];exact gg e3
   refine mV O (bn (cy (ap (av (mV O (bN dp O O (mV O (bn ?_))))))));refine cv ?_;have s:=da r0;have o:wr (a4+1)=a4+1:=dj V V;erw[o];exact wC (ih d2 f7 e2 e8 V V (by((simp only[List.length_append,List.length_cons,List.length_nil];omega))) V (Mem.sub g1 (.cons_cons _ .slnil)) z) O
theorem ai3{x0:List aa}{x1:aa}{v0 v1:PV}(r0:(tSl aa.t).R x0 v0)(r1:aa.t.R x1 v1)(hb:x0.length<=100000):∃r,FnR Tryz.prog 113 [v0,v1] r/\(tSl aa.t).R (kb x0 x1) r:=by
 refine fnT (R:=RF113) cg6 O λres z=>?_;unfold kb at z;refine sR (af (dw O (TR.cnt aa.t r1)) (af (v:=nilS) (ay O) (nR (af (v:=nilS) (ay O) (nR (mB O (nS (am ?_))))))));refine sR (mI O (nS (bf ?_)));have b9:=ou (sz:=2) (es:=[]) (Mem.nil ⟨0,[]⟩) 87 (.inl ⟨none,O,O⟩) OZ;refine wC (vy r0 r1 hb ?_ aL O (.inl O) OO O V OZ V (Mem.sub b9 (.cons_cons _ .slnil)) z) O
 ·intro c2 a2 a0 a9 a1 a3 a5 a4 b4 b8 b2 z;refine dy (ap (am (sR (mV O (af (ju O) (nS ?_))))));refine cd z O ?_ ?_<;>clear z<;>intro c z<;>try simp only[qa]at c
  ·refine av (mV O (lD r1 O O O (af (v:= .fs true [v1]) (gb O (all_cons (TR.cnt aa.t r1) ji)) ?_)));have b5:(tSl aa.t).R ([x1]:List aa) (.fs true [v1]):=pd ⟨r1,trivial⟩ OZ;obtain⟨a6,b3,a7⟩:=ly (t:=aa.t) (h:=b8) b5;have b0:fits (a0.length+a6.length) 16=true:=by rw[All2.length_eq a1,All2.length_eq a7];(try simp only[List.length_cons,List.length_nil]);exact iq V V
   refine jt (k:=0) (es:=a0) (news:=a6) b2 O O O a3 a5 b3 b0 (λc8 d1 c4 c7 c6=>?_);have b1:All2 aa.t.R (a2++([x1]:List aa)) (a0++a6):=All2.app a1 a7;have a8:(a2++([x1]:List aa)).length<=4611686018427387904:=by rw[<-All2.length_eq b1,List.length_append];exact gg b0
   refine mV O (nR (mV O (mV O (nS ?_))));obtain⟨d0,c5,b6⟩:=qc (P:=Tryz.prog) (k:=0) (t:=aa.t) c6 O c4 b1 (Nat.le_trans a8 OO);subst z;exact gi (.tmp O .nil) c5 b6
  ·refine ax (ap (sR (mV O (mV O (nS ?_)))));obtain⟨c9,b7,c3⟩:=qc (P:=Tryz.prog) (k:=0) (t:=aa.t) b2 O a3 a1 (Nat.le_trans a4 OO);subst z;exact gi (.tmp O .nil) b7 c3
end Go.Proofs.YtmonnlkagniolaaGreat
