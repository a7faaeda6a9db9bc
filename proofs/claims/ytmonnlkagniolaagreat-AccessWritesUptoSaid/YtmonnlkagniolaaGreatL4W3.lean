/-
 The code of each function does what its plain program says.
-/
import Derived.Test.YtmonnlkagniolaaGreatL4W2
set_option linter.all false
set_option maxRecDepth 100000
namespace Go.Proofs.YtmonnlkagniolaaGreat
open Go Go.Pb Go.RowKit
def RF216(res:Int×Int×Int)(r:PV):Prop:=r= .tup [vi res.1,vi res.2.1,vi res.2.2]
theorem an0{S:List Fr}{res:Int×Int×Int}{x0:List ak}{x1:Int}{x2:au}{rec_:(List ak)->Int->au->(Int×Int×Int)}{mu_:Nat}{a8:Int}{v0 v2:PV}(r0:(tSl ak.t).R x0 v0)(r2:au.t.R x2 v2)(h0:0<=x1)(hb:x0.length<=1000000)(ihR:∀{z0:List ak}{z1:Int}{z2:au}{d8 d9:PV}(e5:(tSl ak.t).R z0 d8)(e3:au.t.R z2 d9)(h0:0<=z1)(hb:z0.length<=1000000),(z0.length-z1.toNat) < mu_->FnR Tryz.prog 216 [d8,vi z1,d9] (.tup [vi ((rec_ z0 z1 z2).1),vi ((rec_ z0 z1 z2).2.1),vi ((rec_ z0 z1 z2).2.2)]))(hmu:mu_=(x0.length-x1.toNat))(hrec:∀(z0:List ak)(z1:Int)(z2:au),0<=z1->z0.length<=1000000->(rec_ z0 z1 z2).2.2=0->z1 < (rec_ z0 z1 z2).2.1)(d0:(decide ((x0.length:Int)<=x1))=false)(d6:gi ((ix x0 x1).Op)=a8)(c6:(decide (a8 < 0))=false)(c8:(decide (a8=0))=false){K0:Int->(List Int)->(Int×Int×Int)}
 (e1:∀{a3:Int}{zE109:List Int}{a0:List PV}{a1:PV}(a5:All2 tI.R zE109 a0)(a7:isL a1=true)(a2:Wri a1 a0)(a6:zE109.length<=4611686018427387904)(e4:(zE109.length:Int)=a8){h:Heap}(M0:Mem h [⟨a1,3,1,a0⟩]),K0 a3 zE109=res->PX Tryz.prog 0 S (QR Tryz.prog [(6,none),(7,none),(8,none)] (RF216 res)) [(0,v0),(1,vi x1),(12,a1),(13,vi a3)] h):
 ∀{m:Nat}{a3 a4:Int}{zE109:List Int}{a0:List PV}{a1:PV}(a5:All2 tI.R zE109 a0)(a7:isL a1=true)(a2:Wri a1 a0)(a6:zE109.length<=4611686018427387904)(d7:m=Int.toNat (a8-a4))(b9:0<=a4)(b2:x1 < a3)(b5:(zE109.length:Int)=a4)(b3:a4<=a8){h:Heap}(M0:Mem h [⟨a1,3,1,a0⟩]),mb x0 x2 rec_ K0 m a3 a4 zE109=res->RC Tryz.prog (.loop cl1) S (QR Tryz.prog [(6,none),(7,none),(8,none)] (RF216 res)) [(14,vi a4),(13,vi a3),(12,a1),(9,vi a8),(5,.fp v2),(1,vi x1),(0,v0)] h:=by
 have hb':=hb;try simp only[qa]at hb'
 have b6:=d0;try simp only[qa]at b6
 have b7:=c6;try simp only[qa]at b7
 have b8:=c8;try simp only[qa]at b8
 intro m;induction m with
 |zero=>
  intro a3 a4 zE109 a0 a1 a5 a7 a2 a6 d7 b9 b2 b5 b3 h M0 s;rw[mb]at s;refine ck (am (sR (mV O (mV O (bN cn O O (nS ?_))))));refine ci O ?_ ?_<;>intro c<;>try simp only[qa]at c
  ·omega
  refine dg (dx (da ?_));exact wP (e1 a5 a7 a2 a6 Y (Mem.sub M0 (.cons_cons _ .slnil)) s) O
 |succ m ih=>
  intro a3 a4 zE109 a0 a1 a5 a7 a2 a6 d7 b9 b2 b5 b3 h M0 s;rw[mb]at s;refine ck (am (sR (mV O (mV O (bN cn O O (nS ?_))))));refine ci O ?_ ?_<;>intro c<;>try simp only[qa]at c
  rotate_left
  ·omega
  refine aw (aq (am (bg (sR (mV O (mV O (lD r2 O O O ?_)))))));obtain⟨a9,b1,s⟩:=bp s;have c7:=ihR (z0:=x0) (z1:=a3) (z2:=x2) r0 r2 (by first|assumption|omega|(rw[cz Y Y];omega)|(have hk:=rval rfl (And.right (And.left OY));omega)|(have hk:=rval OY OY;omega)|(have hk:=rval OY (And.left OY);omega)|(have hk:=rval OY (And.left (And.left OY));have hz:=rslc OY;omega)|(simp;done)|(simp only[List.length_append,List.length_nil,List.length_cons];omega)|(have hk:=(cq OY OY).1;omega)|(simp only[List.length_cons,List.length_nil];omega)|(simp only[List.length_append];have hk:=(cq OY OY).1;omega)|(simp only[List.length_append,List.length_nil];have hk:=(cq OY OY).1;omega)) (by first|assumption|omega|(rw[cz Y Y];omega)|(have hk:=rval rfl (And.right (And.left OY));omega)|(have hk:=rval OY OY;omega)|(have hk:=rval OY (And.left OY);omega)|(have hk:=rval OY (And.left (And.left OY));have hz:=rslc OY;omega)|(simp;done)|(simp only[List.length_append,List.length_nil,List.length_cons];omega)|(have hk:=(cq OY OY).1;omega)|(simp only[List.length_cons,List.length_nil];omega)|(simp only[List.length_append];have hk:=(cq OY OY).1;omega)|(simp only[List.length_append,List.length_nil];have hk:=(cq OY OY).1;omega)) (by first|omega|(rw[cz Y Y];omega));rw[b1]at c7;have d5:a9.2.2=0->a3 < a9.2.1:=by rw[<-b1];exact hrec _ _ _ Y Y
  refine cL c7 O O (aj (TR.clo (tSl ak.t) r0) (aj O (aj (TR.clo au.t r2) bc))) (mV O (xT O O (xT O O (xT O O (mV O (mV O (mV O (nS ?_))))))));refine am (sR (mV O (bN ie O O (nS ?_))));refine bv s O ?_ ?_<;>clear s<;>intro c s<;>try simp only[qa]at c
  ·refine sR (mV O (mV O (mI O (mV O (mV O (nS ?_))))));subst s;exact fa (.tmp O (.tmp O (.tmp O .nil))) (cw (show closed (.tup _)=true from(aj O (aj O (aj O bc))))) O
  ·refine aw (aq (sR (mV O (mV O (ah (v:= .fs true [vi a9.1]) (lq O (all_cons O pr)) ?_)))));have d4:(tSl tI).R ([a9.1]:List Int) (.fs true [vi a9.1]):=aa6 ⟨O,trivial⟩ OZ;obtain⟨b0,c1,b4⟩:=st (t:=tI) (h:=h) d4;have c9:fits (a0.length+b0.length) 8=true:=by rw[All2.length_eq a5,All2.length_eq b4];(try simp only[List.length_cons,List.length_nil]);exact nm (by first|omega|(have hk:=rar OY;omega)|(simp only[List.length_append,List.length_cons,List.length_nil];have hk:=rar OY;omega)) (by first|omega|(have hk:=rar OY;omega)|(simp only[List.length_append,List.length_cons,List.length_nil];have hk:=rar OY;omega))
   refine pt (k:=0) (es:=a0) (news:=b0) M0 O O O a7 a2 c1 c9 (λe2 e0 d2 c5 d3=>?_);have c4:All2 tI.R (zE109++([a9.1]:List Int)) (a0++b0):=All2.app a5 b4;have d1:(zE109++([a9.1]:List Int)).length<=4611686018427387904:=by rw[<-All2.length_eq c4,List.length_append];exact sk c9
   refine mV O (nS (az (mV O (mV O (cd (db (aq (az ?_))))))));refine mV O (bN dw O O (mV O (cd (cy ?_))));have hinc:wr (a4+1)=a4+1:=cz Y (by(have hk:=rar OY;omega));erw[hinc];exact wC (ih c4 d2 c5 d1 Y Y (by first|(simp only[List.length_append,List.length_cons,List.length_nil];omega)|omega) (by first|(simp only[List.length_append,List.length_cons,List.length_nil];omega)|omega) (by first|(simp only[List.length_append,List.length_cons,List.length_nil];omega)|omega) (Mem.sub d3 (.cons_cons _ .slnil)) s) O
theorem cr9{rec_:(List ak)->Int->au->(Int×Int×Int)}{mu_:Nat}{x0:List ak}{x1:Int}{x2:au}{v0 v2:PV}(r0:(tSl ak.t).R x0 v0)(r2:au.t.R x2 v2)(h0:0<=x1)(hb:x0.length<=1000000)(hmu:mu_=(x0.length-x1.toNat))(hrec:∀(z0:List ak)(z1:Int)(z2:au),0<=z1->z0.length<=1000000->(rec_ z0 z1 z2).2.2=0->z1 < (rec_ z0 z1 z2).2.1)(ihR:∀{z0:List ak}{z1:Int}{z2:au}{d4 d5:PV}(e5:(tSl ak.t).R z0 d4)(e4:au.t.R z2 d5)(h0:0<=z1)(hb:z0.length<=1000000),(z0.length-z1.toNat) < mu_->FnR Tryz.prog 216 [d4,vi z1,d5] (.tup [vi ((rec_ z0 z1 z2).1),vi ((rec_ z0 z1 z2).2.1),vi ((rec_ z0 z1 z2).2.2)])):FnR Tryz.prog 216 [v0,vi x1,v2] (.tup [vi ((oo rec_ x0 x1 x2).1),vi ((oo rec_ x0 x1 x2).2.1),vi ((oo rec_ x0 x1 x2).2.2)]):=by
 refine fnS (R:=RF216) dn3 (λ_ h=>h) O λres s=>?_;unfold oo at s;refine sR (ah (di O (TR.cnt au.t r2)) (mI O (mI O (mI O (nS (am (sR (mV O ?_))))))));refine mV O (ah (co O (ca r0 Tryz.underlying32 _)) (bN iz O O (nS ?_)));refine bv s O ?_ ?_<;>clear s<;>intro a6 s<;>have a7:=a6<;>try simp only[qa]at a7
 ·refine sR (mV O (mI O (mV O (mI O (nS ?_)))));subst s;exact fa (.tmp O (.tmp O (.tmp O .nil))) (cw (show closed (.tup _)=true from(aj O (aj O (aj O bc))))) O
 ·refine aw (aq (sR (mV O (mV O ?_))));obtain⟨d8,d0,d1⟩:=cv (i:=x1) r0 Y Y;refine ah (bd O O d0) (fL O (ak.g_Op d1) O O ?_);obtain⟨d9,a3,s⟩:=bp s;have c1:=bg4 (x0:=(ix x0 x1).Op);rw[a3]at c1;refine cL c1 O O (aj O bc) (mV O (nS (am (sR (mV O (bN cn O O (nS ?_)))))));refine bv s O ?_ ?_<;>clear s<;>intro a4 s<;>have b0:=a4<;>try simp only[qa]at b0
  ·refine sR (mV O (mI O (mV O (mI O (nS ?_)))));subst s;exact fa (.tmp O (.tmp O (.tmp O .nil))) (cw (show closed (.tup _)=true from(aj O (aj O (aj O bc))))) O
  ·refine aw (aq (am (sR (mV O (bN du O O (nS ?_))))));refine bv s O ?_ ?_<;>clear s<;>intro a5 s<;>have b1:=a5<;>try simp only[qa]at b1
   ·refine sR (mV O (mV O ?_));obtain⟨d6,d2,a8⟩:=cv (i:=x1) r0 Y Y;refine ah (bd O O d2) (lD a8 O O O (lD r2 O O O ?_));obtain⟨e1,b5,s⟩:=bp s;have b9:=cz3 a8 r2;rw[b5]at b9;refine cL b9 O O (aj (TR.clo ak.t a8) (aj (TR.clo au.t r2) bc)) (mV O (xT O O (xT O O (mV O (mV O (nR (mV O (mV O ?_))))))));refine bN dw O O (mV O (mV O (mV O (mV O (nS ?_)))));subst s;exact fa (.tmp O (.tmp O (.tmp O .nil))) (cw (show closed (.tup _)=true from(aj O (aj O (aj O bc))))) O
   ·refine aw (aq (sR (ah (v:=nilS) (ba O) (nR (mV O (bN dw O O (mV O (nS ?_))))))));refine am (sR (mI O (nS (bg ?_))));have c8:=qf (sz:=1) (es:=[]) (Mem.nil ⟨0,[]⟩) 3 (.inl ⟨none,O,O⟩) OZ;refine wC (an0 r0 r2 h0 hb ihR hmu hrec a6 a3 a4 a5 ?_ aL O (.inl O) (by first|decide|simp) O Y (by first|omega|simp|(rw[cz Y Y];omega)) (by first|omega|simp|(rw[cz Y Y];omega)) (by first|omega|simp|(rw[cz Y Y];omega)) (Mem.sub c8 (.cons_cons _ .slnil)) s) O
    ·intro c5 b2 b4 b6 a2 a1 b3 a0 c4 d7 c9 s;refine ek (aq (sR (mV O (mV O ?_))));obtain⟨e2,c7,a9⟩:=cv (i:=x1) r0 Y Y;refine ah (bd O O c7) (lD a9 O O O (mV O ?_));obtain⟨e0,c6,d3⟩:=xk (P:=Tryz.prog) (k:=0) (t:=tI) c9 O a1 a2 (Nat.le_trans a0 OO);obtain⟨e3,b8,s⟩:=bp s;have b7:=dr7 a9 d3 (by first|omega|(have hk:=rar OY;omega)) (by first|omega|(have hk:=rar OY;omega));rw[b8]at b7;refine as8 (bz6 O O (yz (cw (TR.clo ak.t a9)) (yz c6 bo4)) b7 O) (mV O (xT O O (xT O O (mV O (mV O (nR (mV O (mV O ?_))))))));refine mV O (mV O (mV O (mV O (nS ?_))));subst s;exact fa (.tmp O (.tmp O (.tmp O .nil))) (cw (show closed (.tup _)=true from(aj O (aj O (aj O bc))))) O
theorem cj6:∀(n_:Nat){x0:List ak}{x1:Int}{x2:au}{v0 v2:PV}(r0:(tSl ak.t).R x0 v0)(r2:au.t.R x2 v2)(h0:0<=x1)(hb:x0.length<=1000000),(x0.length-x1.toNat) < n_->FnR Tryz.prog 216 [v0,vi x1,v2] (.tup [vi ((jc n_ x0 x1 x2).1),vi ((jc n_ x0 x1 x2).2.1),vi ((jc n_ x0 x1 x2).2.2)]):=by
 intro n_;induction n_ with
 |zero=>intros;rename_i hlt;exact absurd hlt (Nat.not_lt_zero _)
 |succ n_ ihn=>
  intro x0 x1 x2 v0 v2 r0 r2 h0 hb hlt;have e_:jc (n_+1) x0 x1 x2=oo (jc n_) x0 x1 x2:=by rw[jc]
  rw[e_];exact cr9 r0 r2 h0 hb O (bi6 n_) (λ{z0}{z1}{z2}{zv0}{zv2} zr0 zr2 h0 hb hz=>ihn zr0 zr2 h0 hb Y)
theorem bx5{x0:List ak}{x1:Int}{x2:au}{v0 v2:PV}(r0:(tSl ak.t).R x0 v0)(r2:au.t.R x2 v2)(h0:0<=x1)(hb:x0.length<=1000000):FnR Tryz.prog 216 [v0,vi x1,v2] (.tup [vi ((ph x0 x1 x2).1),vi ((ph x0 x1 x2).2.1),vi ((ph x0 x1 x2).2.2)]):=cj6 _ r0 r2 h0 hb (Nat.lt_succ_self _)
def RF156(res:Int×Int)(r:PV):Prop:=r= .tup [vi res.1,vi res.2]
theorem ai9{x0:List ak}{x1:au}{v0 v1:PV}(r0:(tSl ak.t).R x0 v0)(r1:au.t.R x1 v1):FnR Tryz.prog 156 [v0,v1] (.tup [vi ((ma x0 x1).1),vi ((ma x0 x1).2)]):=by
 refine fnS (R:=RF156) dh8 (λ_ h=>h) O λres s=>?_;unfold ma at s;refine sR (ah (di O (TR.cnt au.t r1)) (mI O (mI O (nS (am (sR (mV O (ah (co O (ca r0 Tryz.underlying32 _)) ?_))))))));refine bN fu O O (nS ?_);refine bv s O ?_ ?_<;>clear s<;>intro c s<;>try simp only[qa]at c
 ·refine sR (mI O (mI O (nS ?_)));exact rT s O O O O O
 ·refine aw (aq (sR (mV O (lD r1 O O O ?_))));obtain⟨a2,a1,s⟩:=bp s;have a0:=bx5 (x1:=0) r0 r1 (by first|assumption|omega|(rw[cz Y Y];omega)|(have hk:=rval rfl (And.right (And.left OY));omega)|(have hk:=rval OY OY;omega)|(have hk:=rval OY (And.left OY);omega)|(have hk:=rval OY (And.left (And.left OY));have hz:=rslc OY;omega)|(simp;done)|(simp only[List.length_append,List.length_nil,List.length_cons];omega)|(have hk:=(cq OY OY).1;omega)|(simp only[List.length_cons,List.length_nil];omega)|(simp only[List.length_append];have hk:=(cq OY OY).1;omega)|(simp only[List.length_append,List.length_nil];have hk:=(cq OY OY).1;omega)) (by first|assumption|omega|(rw[cz Y Y];omega)|(have hk:=rval rfl (And.right (And.left OY));omega)|(have hk:=rval OY OY;omega)|(have hk:=rval OY (And.left OY);omega)|(have hk:=rval OY (And.left (And.left OY));have hz:=rslc OY;omega)|(simp;done)|(simp only[List.length_append,List.length_nil,List.length_cons];omega)|(have hk:=(cq OY OY).1;omega)|(simp only[List.length_cons,List.length_nil];omega)|(simp only[List.length_append];have hk:=(cq OY OY).1;omega)|(simp only[List.length_append,List.length_nil];have hk:=(cq OY OY).1;omega));rw[a1]at a0;refine cL a0 O O (aj (TR.clo (tSl ak.t) r0) (aj O (aj (TR.clo au.t r1) bc))) (mV O (xT O O (xT O O (xT O O (mV O (mV O (mV O (nS ?_))))))));refine am (bg (sR (mV O (bN ie O O (mV O (nS ?_))))));refine bv s O ?_ ?_<;>clear s<;>intro c s<;>try simp only[qa]at c
  ·refine sR (mV O (mI O (mV O (nS ?_))));exact rT s O O O O O
  ·refine sR (mV O (mV O (ah (co O (ca r0 Tryz.underlying32 _)) (bN cn O O (mV O (nS ?_))))));refine bv s O ?_ ?_<;>clear s<;>intro c s<;>try simp only[qa]at c
   ·refine sR (mI O (mI O (nS ?_)));exact rT s O O O O O
   ·refine aw (db (aq (sR (mV O (mV O (mI O (nS ?_)))))));exact rT s O O O O O
def RF178(res:Int)(r:PV):Prop:=r=vi res
theorem bt8{x0:List ak}{x1:au}{x2:Int}{v0 v1:PV}(r0:(tSl ak.t).R x0 v0)(r1:au.t.R x1 v1):FnR Tryz.prog 178 [v0,v1,vi x2] (vi (tf x0 x1 x2)):=by
 refine fnS (R:=RF178) dj9 (λ_ h=>h) O λres s=>?_;unfold tf at s;refine sR (ah (di O (TR.cnt au.t r1)) (mI O (nR (mV O (lD r1 O O O ?_)))));obtain⟨a1,a4,s⟩:=bp s;have a2:=ai9 r0 r1;rw[a4]at a2;refine cL a2 O O (aj (TR.clo (tSl ak.t) r0) (aj (TR.clo au.t r1) bc)) (mV O (xT O O (xT O O (mV O (mV O (nS (am (sR ?_))))))));refine mV O (bN du O O (mV O ?_));refine bw 4 (d:=21) (v:=vb ((decide (a1.2=0))&&(!decide (a1.1=x2)))) ?_ ?_
 ·intro S Q r;cases a3:(decide (a1.2=0))
  ·exact gN 3 O O O O O O
  ·intro k;have a0:=a3;try simp only[qa]at a0
   refine ai O O (ba O) (ai O O (ba O) (ai O O (br O O ie) ?_));exact gK O O O O O k
 refine nS ?_;refine bv s O ?_ ?_<;>clear s<;>intro c s<;>try simp only[qa]at c
 ·refine sR (mI O (nS ?_));exact rR s O O O
 ·refine aw (aq (sR (mV O (mV O (nS ?_)))));exact rR s O O O
def RF107(res:Int)(r:PV):Prop:=r=vi res
theorem do5{x0:aa}{x1:bf}{x2:au}{v0 v1 v2:PV}(r0:aa.t.R x0 v0)(r1:bf.t.R x1 v1)(r2:au.t.R x2 v2):FnR Tryz.prog 107 [v0,v1,v2] (vi (pv x0 x1 x2)):=by
 refine fnS (R:=RF107) db8 (λ_ h=>h) O λres s=>?_;unfold pv at s;refine sR (ah (di O (TR.cnt aa.t r0)) (ah (di O (TR.cnt bf.t r1)) (ah (di O (TR.cnt au.t r2)) (mI O (nR (lD r0 O O O (gL (bf.g_Dst r1) O O O λe3 c9=>?_)))))));obtain⟨a1,c8,s⟩:=bp s;have b6:=cc0 r0 c9;rw[c8]at b6;refine cL b6 O O (aj (TR.clo aa.t r0) (aj (TR.clo ae.t c9) bc)) (mV O (xT O O (xT O O (mV O (mV O (nR (fL O (bf.g_Register r1) O O (bN iz O O ?_))))))));refine mV O ?_;refine bw 7 (d:=31) (v:=vb ((decide (0<=x1.Register))&&(decide (x1.Register < (x0.Registers.length:Int))))) ?_ ?_
 ·intro S Q r;cases d1:(decide (0<=x1.Register))
  ·exact gN 6 O O O O O O
  ·intro k;have a3:=d1;try simp only[qa]at a3
   refine ai O O (bt O (bf.g_Register r1)) (ai O O (bq O O O) ?_);obtain⟨f2,d6,a6⟩:=aa.g_Registers r0;refine ai O O (bt O d6) (ai O O (bq O (TR.cnt (tSl cj.t) a6) (TR.agg (tSl cj.t) a6)) (ai O O (co O (ca a6 Tryz.underlying24 _)) (ai O O (br O O cn) ?_)));exact gK O O O O O k
 refine mV O (nS (am (sR (fL O (bf.g_Kind r1) O O (nS (bg (sR (bN du O O ?_))))))));refine mV O (nS ?_);refine bv s O ?_ ?_<;>clear s<;>intro c s<;>try simp only[qa]at c
 ·refine am (sR (mV O (ah (fw O) (nS ?_))));refine bv s O ?_ ?_<;>clear s<;>intro c s<;>try simp only[qa]at c
  ·refine sR (mI O (nS ?_));exact rR s O O O
  ·refine aw (aq (sR (gL (bf.g_Value r1) O O O λf0 c6=>(lD r2 O O O (mV O ?_)))));obtain⟨e8,c1,s⟩:=bp s;have c7:=bt8 (x2:=a1.1) c6 r2;rw[c1]at c7;refine cL c7 O O (aj (TR.clo (tSl ak.t) c6) (aj (TR.clo au.t r2) (aj O bc))) (mV O (nS ?_));exact rR s O O O
 ·refine am (sR (bN du O O (mV O (nS ?_))));obtain⟨d3,b2,s⟩:=bp s;refine kp (F:=λb S Q=>∀(a0:Bool),d3 a0=res->RC Tryz.prog b S Q [(43,vb a0),(33,vi x1.Kind),(9,vb ((decide (0<=x1.Register))&&(decide (x1.Register < (x0.Registers.length:Int))))),(8,vb a1.2),(7,vi a1.1),(5,.fp v2),(4,.fp v1),(3,.fp v0)] ⟨0,[]⟩) ?_ ?_
  ·intro a0 s;rw[<-b2]at s;refine bv s O ?_ ?_<;>clear s<;>intro c s<;>try simp only[qa]at c
   ·refine am (sR (fL O (bf.g_Header r1) O O (bN cn O O (mV O ?_))));refine bw 7 (d:=56) (v:=vb ((decide (x1.Header < 0))||(decide ((x0.Headers.length:Int)<=x1.Header)))) ?_ ?_
    ·intro S Q r;cases d2:(decide (x1.Header < 0))
     ·intro k;have a5:=d2;try simp only[qa]at a5
      refine ai O O (bt O (bf.g_Header r1)) (ai O O (bq O O O) ?_);obtain⟨f3,d5,a7⟩:=aa.g_Headers r0;refine ai O O (bt O d5) (ai O O (bq O (TR.cnt (tSl bm.t) a7) (TR.agg (tSl bm.t) a7)) (ai O O (co O (ca a7 Tryz.underlying22 _)) (ai O O (br O O iz) ?_)));exact gK O O O O O k
     ·exact gN 6 O O O O O O
    refine nS ?_;refine bv s O ?_ ?_<;>clear s<;>intro c s<;>try simp only[qa]at c
    ·refine sR (mI O (nS ?_));exact rR s O O O
    ·refine aw (aq (sR (mI O (nS ?_))));exact rR s O O O
   ·refine sR (bN du O O (mV O (nS ?_)));refine bv s O ?_ ?_<;>clear s<;>intro c s<;>try simp only[qa]at c
    ·refine am (sR (mV O (ah (fw O) (mV O ?_))));refine bw 3 (d:=64) (v:=vb ((!a1.2)||(!((decide (0<=x1.Register))&&(decide (x1.Register < (x0.Registers.length:Int))))))) ?_ ?_
     ·intro S Q r;cases b7:(!a1.2)
      ·intro k;have a4:=b7;try simp only[qa]at a4
       refine ai O O (ba O) (ai O O (fw O) ?_);exact gK O O O O O k
      ·exact gN 2 O O O O O O
     refine nS ?_;refine bv s O ?_ ?_<;>clear s<;>intro c s<;>try simp only[qa]at c
     ·refine sR (mI O (nS ?_));exact rR s O O O
     ·refine aw (aq (sR ?_));obtain⟨f5,d9,a2⟩:=bf.g_Index r1;refine fA O d9 (lD a2 O O O (lD r2 O O O ?_));obtain⟨b4,b9,s⟩:=bp s;have c5:=ai9 a2 r2;rw[b9]at c5;refine cL c5 O O (aj (TR.clo (tSl ak.t) a2) (aj (TR.clo au.t r2) bc)) (mV O (xT O O (xT O O (mV O (mV O (nS (am (sR ?_))))))));refine mV O (bN du O O (mV O ?_));refine bw 10 (d:=84) (v:=vb ((decide (b4.2=0))&&(!decide (a1.1=((ix x0.Registers x1.Register).Width))))) ?_ ?_
      ·intro S Q r;cases d0:(decide (b4.2=0))
       ·exact gN 9 O O O O O O
       ·intro k;have a8:=d0;try simp only[qa]at a8
        refine ai O O (ba O) ?_;obtain⟨e6,e0,a9⟩:=aa.g_Registers r0;refine ai O O (bt O e0) (ai O O (bq O (TR.cnt (tSl cj.t) a9) (TR.agg (tSl cj.t) a9)) (ai O O (bt O (bf.g_Register r1)) (ai O O (bq O O O) ?_)));obtain⟨f1,e2,d8⟩:=cv (i:=x1.Register) a9 Y Y;refine ai O O (bd O O e2) (ai O O (bt O (cj.g_Width d8)) (ai O O (bq O O O) (ai O O (br O O ie) ?_)));exact gK O O O O O k
      refine nS ?_;refine bv s O ?_ ?_<;>clear s<;>intro c s<;>try simp only[qa]at c
      ·refine sR (mI O (nS ?_));exact rR s O O O
      ·refine aw (aq (sR (mV O (mV O (nS ?_)))));exact rR s O O O
    ·refine sR (bN du O O (mV O (nS ?_)));refine bv s O ?_ ?_<;>clear s<;>intro c s<;>try simp only[qa]at c
     ·refine am (sR (mV O (ah (fw O) (nS ?_))));refine bv s O ?_ ?_<;>clear s<;>intro c s<;>try simp only[qa]at c
      ·refine sR (mI O (nS ?_));exact rR s O O O
      ·refine aw (aq (sR (gL (bf.g_Index r1) O O O λe9 b1=>(lD r2 O O O ?_))));obtain⟨f4,c4,s⟩:=bp s;have b8:=ai9 b1 r2;rw[c4]at b8;refine cL b8 O O (aj (TR.clo (tSl ak.t) b1) (aj (TR.clo au.t r2) bc)) (mV O (xT O O (xT O O (mV O (mV O (nS (am (sR ?_))))))));refine mV O (bN ie O O (nS ?_));refine bv s O ?_ ?_<;>clear s<;>intro c s<;>try simp only[qa]at c
       ·refine sR (mV O (mV O (nS ?_)));exact rR s O O O
       ·refine aw (aq (sR (gL (bf.g_Value r1) O O O λf6 b3=>(lD r2 O O O (gL (aa.g_Registers r0) O O O λe4 d7=>(fL O (bf.g_Register r1) O O ?_))))));obtain⟨e5,d4,e1⟩:=cv (i:=x1.Register) d7 Y Y;refine ah (bd O O d4) (fL O (cj.g_Width e1) O O ?_);obtain⟨e7,b5,s⟩:=bp s;have b0:=bt8 (x2:=(ix x0.Registers x1.Register).Width) b3 r2;rw[b5]at b0;refine cL b0 O O (aj (TR.clo (tSl ak.t) b3) (aj (TR.clo au.t r2) (aj O bc))) (mV O (nS ?_));exact rR s O O O
     ·refine aw (db (aq (sR (mI O (nS ?_)))));exact rR s O O O
  ·intro J;refine bv s O ?_ ?_<;>clear s<;>intro c s<;>try simp only[qa]at c
   ·refine aw ?_;refine aq (wC (J _ s) O)
   ·refine az (bN du O O (mV O (cd ?_)));refine aq (wC (J _ s) O)
def RF36(res:Int×Int)(r:PV):Prop:=r= .tup [vi res.1,vi res.2]
theorem ak9{S:List Fr}{res:Int×Int}{x0:aa}{x1:Int}{b5:Bool}{c1:Int}{v0 a3:PV}{a8 a9:Nat}(r0:aa.t.R x0 v0)(b3:((decide (x1 < 0))||(decide ((x0.Actions.length:Int)<=x1)))=false)(a5:cm.t.R (ix x0.Actions x1) a3)(d4:fb ((ix x0.Actions x1).Name)=b5)(b2:(!b5)=false)(b6:((decide (4 < (((ix x0.Actions x1).Params).length:Int)))||(decide (12 < (((ix x0.Actions x1).Body).length:Int))))=false)(d3:sa ((ix x0.Actions x1).Params)=c1)(c4:(!decide (c1=0))=false){K1:Unit->(Int×Int)}
 (e0:∀{h:Heap}(M0:Mem h [⟨.op a8 a9 0,97,3,[a3]⟩]),K1 ()=res->PX Tryz.prog 1 S (QR Tryz.prog [(4,none),(5,none)] (RF36 res)) [] h):
 ∀{m:Nat}{a0:Int}(d2:m=Int.toNat ((((ix x0.Actions x1).Body).length:Int)-a0))(b1:0<=a0){h:Heap}(M0:Mem h [⟨.op a8 a9 0,97,3,[a3]⟩]),nl x0 x1 K1 m a0=res->RC Tryz.prog (.loop du1) S (QR Tryz.prog [(4,none),(5,none)] (RF36 res)) [(7,vi a0),(6,.op a8 a9 0),(2,.fp v0),(1,vi x1)] h:=by
 have a6:=b3;try simp only[qa]at a6
 have a1:=b2;try simp only[qa]at a1
 have b0:=b6;try simp only[qa]at b0
 have a2:=c4;try simp only[qa]at a2
 intro m;induction m with
 |zero=>
  intro a0 d2 b1 h M0 s;rw[nl]at s;refine ck (am (sR (mV O (ah (cg O) ?_))));obtain⟨d5,d1,c8⟩:=cm.g_Body a5;refine ah (ct (k:=0) M0 O O d1) (ah (co O (ca c8 Tryz.underlying95 _)) (bN cn O O (nS ?_)));refine ci O ?_ ?_<;>intro c<;>try simp only[qa]at c
  ·omega
  refine dg (dx (da ?_));exact wP (e0 (Mem.sub M0 (.cons_cons _ .slnil)) s) O
 |succ m ih=>
  intro a0 d2 b1 h M0 s;rw[nl]at s;refine ck (am (sR (mV O (ah (cg O) ?_))));obtain⟨e2,c9,b7⟩:=cm.g_Body a5;refine ah (ct (k:=0) M0 O O c9) (ah (co O (ca b7 Tryz.underlying95 _)) (bN cn O O (nS ?_)));refine ci O ?_ ?_<;>intro c<;>try simp only[qa]at c
  rotate_left
  ·omega
  refine aw (aq (am (bg (sR (lD r0 O O O (ah (cg O) ?_))))));obtain⟨d6,c6,d0⟩:=cm.g_Body a5;refine ah (ct (k:=0) M0 O O c6) (mV O ?_);obtain⟨e1,c5,a7⟩:=cv (i:=a0) d0 Y Y;refine ah (bd O O c5) (lD a7 O O O (lD r0 O O O (mV O ?_)));obtain⟨d8,b8,s⟩:=bp s;obtain⟨d9,c7,a4⟩:=cv3 (x1:=x1) r0 (by first|assumption|omega|(rw[cz Y Y];omega)|(have hk:=rval rfl (And.right (And.left OY));omega)|(have hk:=rval OY OY;omega)|(have hk:=rval OY (And.left OY);omega)|(have hk:=rval OY (And.left (And.left OY));have hz:=rslc OY;omega)|(simp;done)|(simp only[List.length_append,List.length_nil,List.length_cons];omega)|(have hk:=(cq OY OY).1;omega)|(simp only[List.length_cons,List.length_nil];omega)|(simp only[List.length_append];have hk:=(cq OY OY).1;omega)|(simp only[List.length_append,List.length_nil];have hk:=(cq OY OY).1;omega));rw[b8]at a4;refine cL c7 O O (aj (TR.clo aa.t r0) (aj O bc)) ?_;obtain⟨d7,b9,s⟩:=bp s;have b4:=do5 r0 a7 a4;rw[b9]at b4;refine cL b4 O O (aj (TR.clo aa.t r0) (aj (TR.clo bf.t a7) (aj (TR.clo au.t a4) bc))) (mV O (nR (mV O (bN ie O O (nS ?_)))));refine bv s O ?_ ?_<;>clear s<;>intro c s<;>try simp only[qa]at c
  ·refine sR (mV O (mV O (mV O (mV O (nS ?_)))));exact rT s O O O O O
  ·refine aw (db (aq (az (mV O (bN dw O O (mV O (cd (cy ?_))))))));have hbd:=dn b7;have hinc:wr (a0+1)=a0+1:=cz Y Y;erw[hinc];exact wC (ih Y Y (Mem.sub M0 (.cons_cons _ .slnil)) s) O
theorem cg3{x0:aa}{x1:Int}{v0:PV}(r0:aa.t.R x0 v0):FnR Tryz.prog 36 [v0,vi x1] (.tup [vi ((me x0 x1).1),vi ((me x0 x1).2)]):=by
 refine fnS (R:=RF36) eo9 (λ_ h=>h) O λres s=>?_;unfold me at s;refine sR (ah (di O (TR.cnt aa.t r0)) (mI O (mI O (nS (am (sR (mV O (bN cn O O ?_))))))));refine mV O ?_;refine bw 6 (d:=17) (v:=vb ((decide (x1 < 0))||(decide ((x0.Actions.length:Int)<=x1)))) ?_ ?_
 ·intro S Q r;cases c1:(decide (x1 < 0))
  ·intro k;have b1:=c1;try simp only[qa]at b1
   refine ai O O (ba O) ?_;obtain⟨e3,d1,b3⟩:=aa.g_Actions r0;refine ai O O (bt O d1) (ai O O (bq O (TR.cnt (tSl cm.t) b3) (TR.agg (tSl cm.t) b3)) (ai O O (co O (ca b3 Tryz.underlying25 _)) (ai O O (br O O iz) ?_)));exact gK O O O O O k
  ·exact gN 5 O O O O O O
 refine nS ?_;refine bv s O ?_ ?_<;>clear s<;>intro a3 s<;>have b0:=a3<;>try simp only[qa]at b0
 ·refine sR (mI O (mI O (nS ?_)));exact rT s O O O O O
 ·refine aw (aq (sR (gL (aa.g_Actions r0) O O O λe7 d5=>(mV O ?_))));obtain⟨b5,d3,a0⟩:=cv (i:=x1) d5 Y Y;refine ah (bd O O d3) (lD a0 O O O ?_);refine dv (x:= .agg [vs [],nilS,nilS]) (Mem.nil ⟨0,[]⟩) O O (λd2 d6 e1 c8=>?_);refine cx (k:=0) (v:=b5) c8 O O O (TR.cnt cm.t a0) (λd7 a1=>?_);replace a1:Mem d7 [⟨.op d2 d6 0,97,3,[b5]⟩]:=a1;refine nS (am (bg (sR (ah (cg O) (ah (ct (k:=0) a1 O O (cm.g_Name a0)) ?_)))));obtain⟨e4,a6,s⟩:=bp s;have c4:=vh (x0:=(ix x0.Actions x1).Name);rw[a6]at c4;refine cL c4 O O (aj O bc) (ah (fw O) (mV O (nS ?_)));refine bv s O ?_ ?_<;>clear s<;>intro a2 s<;>have a8:=a2<;>try simp only[qa]at a8
  ·refine sR (mI O (mI O (nS ?_)));exact rT s O O O O O
  ·refine sR (ah (cg O) ?_);obtain⟨e6,d4,c9⟩:=cm.g_Params a0;refine ah (ct (k:=0) a1 O O d4) (ah (co O (ca c9 Tryz.underlying23 _)) (bN fu O O (mV O ?_)));refine bw 5 (d:=38) (v:=vb ((decide (4 < (((ix x0.Actions x1).Params).length:Int)))||(decide (12 < (((ix x0.Actions x1).Body).length:Int))))) ?_ ?_
   ·intro S Q r;cases c5:(decide (4 < (((ix x0.Actions x1).Params).length:Int)))
    ·intro k;have b2:=c5;try simp only[qa]at b2
     refine ai O O (cg O) ?_;obtain⟨e8,c7,d9⟩:=cm.g_Body a0;refine ai O O (ct (k:=0) a1 O O c7) (ai O O (co O (ca d9 Tryz.underlying95 _)) (ai O O (br O O fu) ?_));exact gK O O O O O k
    ·exact gN 4 O O O O O O
   refine mV O (nS ?_);refine bv s O ?_ ?_<;>clear s<;>intro a5 s<;>have b4:=a5<;>try simp only[qa]at b4
   ·refine sR (mI O (mI O (nS ?_)));exact rT s O O O O O
   ·refine sR (ah (cg O) ?_);obtain⟨f1,d8,b6⟩:=cm.g_Params a0;refine ah (ct (k:=0) a1 O O d8) ?_;obtain⟨e9,a4,s⟩:=bp s;have c6:=cb9 b6;rw[a4]at c6;refine cL c6 O O (aj (TR.clo (tSl av.t) b6) bc) (bN ie O O (mV O (nS ?_)));refine bv s O ?_ ?_<;>clear s<;>intro a7 s<;>have a9:=a7<;>try simp only[qa]at a9
    ·refine sR (ah (cg O) ?_);obtain⟨f0,d0,b7⟩:=cm.g_Params a0;refine ah (ct (k:=0) a1 O O d0) ?_;obtain⟨e2,b8,s⟩:=bp s;have b9:=cb9 b7;rw[b8]at b9;refine cL b9 O O (aj (TR.clo (tSl av.t) b7) bc) (mI O (mV O (nS ?_)));exact rT s O O O O O
    ·refine aw (db (aq (am (sR (mI O (nS (bg ?_)))))));refine wC (ak9 r0 a3 a0 a6 a2 a5 a4 a7 ?_ O Y (Mem.sub a1 (.cons_cons _ .slnil)) s) O
     ·intro e0 e5 s;refine ek (aq (sR (mI O (mI O (nS ?_)))));exact rT s O O O O O
def RF79(res:af)(r:PV):Prop:=af.t.R res r
theorem ae5{S:List Fr}{res:af}{x0:aa}{a7:Int}{b4:Int×Int}{v0:PV}{a4 a3:Nat}(r0:aa.t.R x0 v0)(d7:x0.Actions.length<=1000)(d0:0<=a7)(b5:(decide (a7 < (x0.Actions.length:Int)))=true)(c9:me x0 a7=b4)(b6:(!decide (b4.2=0))=false){K2:af->af}
 (d1:∀{a1:af}{a0:PV}(a2:af.t.R a1 a0){h:Heap}(M0:Mem h [⟨.op a4 a3 0,53,4,[a0]⟩]),K2 a1=res->PX Tryz.prog 2 S (QR Tryz.prog [(2,some (4,true))] (RF79 res)) [(1,.fp v0),(2,.op a4 a3 0),(3,vi a7)] h):
 ∀{m:Nat}{a6:Int}{a1:af}{a0:PV}(a2:af.t.R a1 a0)(c8:m=Int.toNat (a7-a6))(b2:0<=a6){h:Heap}(M0:Mem h [⟨.op a4 a3 0,53,4,[a0]⟩]),oq x0 a7 K2 m a6 a1=res->RC Tryz.prog (.loop dr5) S (QR Tryz.prog [(2,some (4,true))] (RF79 res)) [(6,vi a6),(3,vi a7),(2,.op a4 a3 0),(1,.fp v0)] h:=by
 have a9:=b5;try simp only[qa]at a9
 have b0:=b6;try simp only[qa]at b0
 intro m;induction m with
 |zero=>
  intro a6 a1 a0 a2 c8 b2 h M0 s;rw[oq]at s;refine ck (am (sR (mV O (mV O (bN cn O O (nS ?_))))));refine ci O ?_ ?_<;>intro c<;>try simp only[qa]at c
  ·omega
  refine dg (dx (da ?_));exact wP (d1 a2 (Mem.sub M0 (.cons_cons _ .slnil)) s) O
 |succ m ih=>
  intro a6 a1 a0 a2 c8 b2 h M0 s;rw[oq]at s;refine ck (am (sR (mV O (mV O (bN cn O O (nS ?_))))));refine ci O ?_ ?_<;>intro c<;>try simp only[qa]at c
  rotate_left
  ·omega
  refine aw (aq (am (bg (sR (gL (aa.g_Actions r0) O O O λd4 c4=>(mV O ?_))))));obtain⟨d6,c7,b8⟩:=cv (i:=a6) c4 Y Y;refine ah (bd O O c7) (fL O (cm.g_Name b8) O O (gL (aa.g_Actions r0) O O O λd3 b7=>(mV O ?_)));obtain⟨d5,b9,c1⟩:=cv (i:=a7) b7 Y Y;refine ah (bd O O b9) (fL O (cm.g_Name c1) O O (ah (br (a:=vs ((ix x0.Actions a6).Name)) (b:=vs ((ix x0.Actions a7).Name)) O O tk) (nS ?_)));refine bv s O ?_ ?_<;>clear s<;>intro c s<;>try simp only[qa]at c
  ·refine sR (mV O ?_);obtain⟨d2,b3,s⟩:=bp s;obtain⟨b1,c5,a5⟩:=nw (x0:=7) (x1:=4) (x2:=a7) (x3:=0);rw[b3]at a5;refine cL c5 O O (aj O (aj O (aj O (aj O bc)))) ?_;refine cx (k:=0) (v:=b1) M0 O O O (TR.cnt af.t a5) (λc6 a8=>?_);replace a8:Mem c6 [⟨.op a4 a3 0,53,4,[b1]⟩]:=a8;refine nS ?_;subst s;exact fa (.cell O (dq (k:=0) a8 O (TR.agg af.t a5)) .nil) (cw (TR.clo af.t a5)) a5
  ·refine aw (db (aq (az (mV O (bN dw O O (mV O (cd (cy ?_))))))));have hinc:wr (a6+1)=a6+1:=cz Y Y;erw[hinc];exact wC (ih a2 Y Y (Mem.sub M0 (.cons_cons _ .slnil)) s) O
theorem ae8{S:List Fr}{res:af}{x0:aa}{v0:PV}{a5 a4:Nat}(r0:aa.t.R x0 v0)(d4:x0.Actions.length<=1000){K0:af->af}
 (d2:∀{a1:af}{a0:PV}(a2:af.t.R a1 a0){h:Heap}(M0:Mem h [⟨.op a5 a4 0,53,4,[a0]⟩]),K0 a1=res->PX Tryz.prog 0 S (QR Tryz.prog [(2,some (4,true))] (RF79 res)) [(2,.op a5 a4 0)] h):
 ∀{m:Nat}{a8:Int}{a1:af}{a0:PV}(a2:af.t.R a1 a0)(c9:m=Int.toNat ((x0.Actions.length:Int)-a8))(b2:0<=a8){h:Heap}(M0:Mem h [⟨.op a5 a4 0,53,4,[a0]⟩]),pf x0 K0 m a8 a1=res->RC Tryz.prog (.loop dp7) S (QR Tryz.prog [(2,some (4,true))] (RF79 res)) [(3,vi a8),(2,.op a5 a4 0),(1,.fp v0)] h:=by
 intro m;induction m with
 |zero=>
  intro a8 a1 a0 a2 c9 b2 h M0 s;rw[pf]at s;refine ck (am (sR (mV O (gL (aa.g_Actions r0) O O O λd5 c8=>(ah (co O (ca c8 Tryz.underlying25 _)) (bN cn O O (nS ?_)))))));refine ci O ?_ ?_<;>intro c<;>try simp only[qa]at c
  ·omega
  refine dg (dx (da ?_));exact wP (d2 a2 (Mem.sub M0 (.cons_cons _ .slnil)) s) O
 |succ m ih=>
  intro a8 a1 a0 a2 c9 b2 h M0 s;rw[pf]at s;refine ck (am (sR (mV O (gL (aa.g_Actions r0) O O O λd0 b6=>(ah (co O (ca b6 Tryz.underlying25 _)) (bN cn O O (nS ?_)))))));refine ci O (λa3=>?_) (λa3=>?_)
  ·have hgo:=s;have b3:=a3;try simp only[qa]at b3
   refine aw (aq (am (bg (sR (lD r0 O O O (mV O ?_))))));obtain⟨c1,a9,s⟩:=bp s;have c4:=cg3 (x1:=a8) r0;rw[a9]at c4;refine cL c4 O O (aj (TR.clo aa.t r0) (aj O bc)) (mV O (xT O O (xT O O (mV O (mV O (nS (am (sR ?_))))))));refine mV O (bN ie O O (nS ?_));refine bv s O ?_ ?_<;>clear s<;>intro b1 s<;>have b4:=b1<;>try simp only[qa]at b4
   ·refine sR (mV O (mV O (mV O ?_)));obtain⟨d3,b9,s⟩:=bp s;obtain⟨b8,c7,a6⟩:=nw (x0:=c1.2) (x1:=4) (x2:=a8) (x3:=c1.1);rw[b9]at a6;refine cL c7 O O (aj O (aj O (aj O (aj O bc)))) ?_;refine cx (k:=0) (v:=b8) M0 O O O (TR.cnt af.t a6) (λc6 b5=>?_);replace b5:Mem c6 [⟨.op a5 a4 0,53,4,[b8]⟩]:=b5;refine nS ?_;subst s;exact fa (.cell O (dq (k:=0) b5 O (TR.agg af.t a6)) .nil) (cw (TR.clo af.t a6)) a6
   ·refine aw (aq (sR (mI O (nS (bg ?_)))));refine wC (ae5 r0 d4 b2 a3 a9 b1 ?_ a2 O Y (Mem.sub M0 (.cons_cons _ .slnil)) s) O
    ·intro b0 b7 a7 d1 c5 s;refine ek (db (aq (az (mV O (bN dw O O (mV O (cd (cy ?_))))))));have hbd:=dn b6;have hinc:wr (a8+1)=a8+1:=cz Y Y;erw[hinc];exact wC (ih a7 Y Y (Mem.sub c5 (.cons_cons _ .slnil)) s) O
  ·exfalso;try simp only[qa]at a3
   omega
theorem ef6{x0:aa}{v0:PV}(r0:aa.t.R x0 v0)(b0:x0.Actions.length<=1000):∃r,FnR Tryz.prog 79 [v0] r/\af.t.R (xx x0) r:=by
 refine fnT (R:=RF79) er8 O λres s=>?_;unfold xx at s;refine sR (ah (di O (TR.cnt aa.t r0)) ?_);refine dv (x:= .agg [vi 0,vi 0,vi 0,vi 0]) (Mem.nil ⟨0,[]⟩) O O (λa8 a5 b1 a6=>?_);refine nS (am (sR (mI O (nS (bg ?_)))));refine wC (ae8 r0 b0 ?_ O O Y (Mem.sub a6 (.cons_cons _ .slnil)) s) O
 ·intro a1 a3 a2 a9 a7 s;refine ek (aq (sR (ah (v:= .agg [vi 0,vi 0,vi 0,vi 0]) (gm (cs:=[vi 0,vi 0,vi 0,vi 0]) O O) ?_)));refine cx (k:=0) (v:= .agg [vi 0,vi 0,vi 0,vi 0]) a7 O O O O (λa4 a0=>?_);replace a0:Mem a4 [⟨.op a8 a5 0,53,4,[.agg [vi 0,vi 0,vi 0,vi 0]]⟩]:=a0;refine nS ?_;subst s;exact fa (.cell O (dq (k:=0) a0 O O) .nil) (cw (TR.clo af.t (show af.t.R ({Code:=0,Part:=0,Item:=0,Sub:=0}:af) (.agg [vi 0,vi 0,vi 0,vi 0]) from O))) (show af.t.R ({Code:=0,Part:=0,Item:=0,Sub:=0}:af) (.agg [vi 0,vi 0,vi 0,vi 0]) from O)
end Go.Proofs.YtmonnlkagniolaaGreat
