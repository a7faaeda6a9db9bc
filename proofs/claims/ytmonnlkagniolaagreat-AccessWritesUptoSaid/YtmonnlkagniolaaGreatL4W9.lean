/-
 The code of each function does what its plain program says.
-/
import Derived.Test.YtmonnlkagniolaaGreatL4W8
set_option linter.all false
set_option maxRecDepth 100000
namespace Go.Proofs.YtmonnlkagniolaaGreat
open Go Go.Pb Go.RowKit
def RF226(res:Int×Int×Int)(r:PV):Prop:=r= .tup [vi res.1,vi res.2.1,vi res.2.2]
theorem xv{S:List Fr}{res:Int×Int×Int}{x0:au}{x1:List ak}{x2:Int}{rec_:au->(List ak)->Int->(Int×Int×Int)}{mu_:Nat}{a5:Int}{v0 v1:PV}{a7 a4:Nat}(r0:au.t.R x0 v0)(r1:(tSl ak.t).R x1 v1)(h0:0<=x2)(hb:x1.length<=1000000)(ihR:∀{z0:au}{z1:List ak}{z2:Int}{d2 d3:PV}(d6:au.t.R z0 d2)(d5:(tSl ak.t).R z1 d3)(h0:0<=z2)(hb:z1.length<=1000000),(z1.length-z2.toNat) < mu_->FnR Tryz.prog 226 [d2,d3,vi z2] (.tup [vi ((rec_ z0 z1 z2).1),vi ((rec_ z0 z1 z2).2.1),vi ((rec_ z0 z1 z2).2.2)]))(hmu:mu_=(x1.length-x2.toNat))(hrec:∀(z0:au)(z1:List ak)(z2:Int),0<=z2->z1.length<=1000000->(rec_ z0 z1 z2).2.2=0->z2 < (rec_ z0 z1 z2).2.1)(c7:(decide ((x1.length:Int)<=x2))=false)(d0:ej ((ix x1 x2).Op)=a5)(c4:(decide (a5 < 0))=false)(c6:(decide (a5=0))=false){K1:Int->(List Int)->(Int×Int×Int)}
 (d4:∀{a9:Int}{zE109:List Int}{a1:PV}(a2:(tAr 3 tI).R zE109 a1){h:Heap}(M0:Mem h [⟨.op a7 a4 0,293,3,[a1]⟩]),K1 a9 zE109=res->PX Tryz.prog 1 S (QR Tryz.prog [(6,none),(7,none),(8,none)] (RF226 res)) [(1,v1),(2,vi x2),(7,vi a9),(10,.op a7 a4 0)] h):
 ∀{m:Nat}{a9 a0:Int}{zE109:List Int}{a1:PV}(a2:(tAr 3 tI).R zE109 a1)(d1:m=Int.toNat (a5-a0))(b7:0<=a0)(b1:x2 < a9){h:Heap}(M0:Mem h [⟨.op a7 a4 0,293,3,[a1]⟩]),dm x0 x1 rec_ K1 m a9 a0 zE109=res->RC Tryz.prog (.loop cw8) S (QR Tryz.prog [(6,none),(7,none),(8,none)] (RF226 res)) [(44,vi a0),(43,vi a5),(10,.op a7 a4 0),(7,vi a9),(3,.fp v0),(2,vi x2),(1,v1)] h:=by
 have hb':=hb;try simp only[qa]at hb'
 have b3:=c7;try simp only[qa]at b3
 have b5:=c4;try simp only[qa]at b5
 have b6:=c6;try simp only[qa]at b6
 intro m;induction m with
 |zero=>
  intro a9 a0 zE109 a1 a2 d1 b7 b1 h M0 s;rw[dm]at s;refine ck (sR (bN cn O O (nS (am ?_))));refine ci O ?_ ?_<;>intro c<;>try simp only[qa]at c
  ·omega
  refine dg (dx (da ?_));exact wP (d4 a2 (Mem.sub M0 (.cons_cons _ .slnil)) s) O
 |succ m ih=>
  intro a9 a0 zE109 a1 a2 d1 b7 b1 h M0 s;rw[dm]at s;refine ck (sR (bN cn O O (nS (am ?_))));refine ci O ?_ ?_<;>intro c<;>try simp only[qa]at c
  rotate_left
  ·omega
  refine aw (aq (am (bg (sR (mV O (mV O (nR (mV O ?_))))))));refine lD r0 O O O (mV O (mV O ?_));obtain⟨a3,b0,s⟩:=bp s;have c5:=ihR (z0:=x0) (z1:=x1) (z2:=a9) r0 r1 (by first|assumption|omega|(rw[cz Y Y];omega)|(have hk:=rval rfl (And.right (And.left OY));omega)|(have hk:=rval OY OY;omega)|(have hk:=rval OY (And.left OY);omega)|(have hk:=rval OY (And.left (And.left OY));have hz:=rslc OY;omega)|(simp;done)|(simp only[List.length_append,List.length_nil,List.length_cons];omega)|(have hk:=(cq OY OY).1;omega)|(simp only[List.length_cons,List.length_nil];omega)|(simp only[List.length_append];have hk:=(cq OY OY).1;omega)|(simp only[List.length_append,List.length_nil];have hk:=(cq OY OY).1;omega)) (by first|assumption|omega|(rw[cz Y Y];omega)|(have hk:=rval rfl (And.right (And.left OY));omega)|(have hk:=rval OY OY;omega)|(have hk:=rval OY (And.left OY);omega)|(have hk:=rval OY (And.left (And.left OY));have hz:=rslc OY;omega)|(simp;done)|(simp only[List.length_append,List.length_nil,List.length_cons];omega)|(have hk:=(cq OY OY).1;omega)|(simp only[List.length_cons,List.length_nil];omega)|(simp only[List.length_append];have hk:=(cq OY OY).1;omega)|(simp only[List.length_append,List.length_nil];have hk:=(cq OY OY).1;omega)) (by first|omega|(rw[cz Y Y];omega));rw[b0]at c5;have c9:a3.2.2=0->a9 < a3.2.1:=by rw[<-b0];exact hrec _ _ _ Y Y
  refine cL c5 O O (aj (TR.clo au.t r0) (aj (TR.clo (tSl ak.t) r1) (aj O bc))) (mV O (xT O O (xT O O (xT O O ?_))));have a8:0<=a0:=by first|omega|(have hk:=ar OY;omega)
  have a6:a0 < 3:=by first|omega|(have hk:=ar OY;omega)
  refine ah (ag7 O O a8 a6) ?_;obtain⟨c1,b8,b2,b9⟩:=bb0 (t:=tI) (i:=a0) a2 a8 a6 (show tI.R a3.1 (vi a3.1) from O) O;refine ax9 (k:=0) (v:=vi a3.1) M0 O O O b8 O b2.1 b2.2 (λc8 b4=>?_);replace b4:Mem c8 [⟨.op a7 a4 0,293,3,[.agg (spl c1 (a0.toNat*1) [vi a3.1])]⟩]:=b4;refine mV O (mV O (nR (mV O (bN ie O O (nS ?_)))));refine bv s O ?_ ?_<;>clear s<;>intro c s<;>try simp only[qa]at c
  ·refine sR (mV O (mI O (mI O (mV O (nS ?_)))));subst s;exact fa (.tmp O (.tmp O (.tmp O .nil))) (cw (show closed (.tup _)=true from(aj O (aj O (aj O bc))))) O
  ·refine aw (db (aq (az (bN dw O O (mV O (cd (cy ?_)))))));have hinc:wr (a0+1)=a0+1:=cz Y (by first|omega|(have hk:=ar OY;omega));erw[hinc];exact wC (ih b9 Y Y (by first|omega|(simp;done)|(simp only[List.length_append,List.length_cons,List.length_nil,List.length_set];omega)) (Mem.sub b4 (.cons_cons _ .slnil)) s) O
theorem ck2{rec_:au->(List ak)->Int->(Int×Int×Int)}{mu_:Nat}{x0:au}{x1:List ak}{x2:Int}{v0 v1:PV}(r0:au.t.R x0 v0)(r1:(tSl ak.t).R x1 v1)(h0:0<=x2)(hb:x1.length<=1000000)(hmu:mu_=(x1.length-x2.toNat))(hrec:∀(z0:au)(z1:List ak)(z2:Int),0<=z2->z1.length<=1000000->(rec_ z0 z1 z2).2.2=0->z2 < (rec_ z0 z1 z2).2.1)(ihR:∀{z0:au}{z1:List ak}{z2:Int}{c7 c8:PV}(e0:au.t.R z0 c7)(d9:(tSl ak.t).R z1 c8)(h0:0<=z2)(hb:z1.length<=1000000),(z1.length-z2.toNat) < mu_->FnR Tryz.prog 226 [c7,c8,vi z2] (.tup [vi ((rec_ z0 z1 z2).1),vi ((rec_ z0 z1 z2).2.1),vi ((rec_ z0 z1 z2).2.2)])):FnR Tryz.prog 226 [v0,v1,vi x2] (.tup [vi ((fe rec_ x0 x1 x2).1),vi ((fe rec_ x0 x1 x2).2.1),vi ((fe rec_ x0 x1 x2).2.2)]):=by
 refine fnS (R:=RF226) bu9 (λ_ h=>h) O λres s=>?_;unfold fe at s;refine sR (ah (di O (TR.cnt au.t r0)) (mI O (mI O (mI O (nS (am (sR (mV O ?_))))))));refine mV O (ah (co O (ca r1 Tryz.underlying32 _)) (bN iz O O (nS ?_)));refine bv s O ?_ ?_<;>clear s<;>intro a4 s<;>have a5:=a4<;>try simp only[qa]at a5
 ·refine sR (mI O (mI O (mI O (nS ?_))));subst s;exact fa (.tmp O (.tmp O (.tmp O .nil))) (cw (show closed (.tup _)=true from(aj O (aj O (aj O bc))))) O
 ·refine aw (aq (sR (mV O (mV O ?_))));obtain⟨d1,c1,c4⟩:=cv (i:=x2) r1 Y Y;refine ah (bd O O c1) (fL O (ak.g_Op c4) O O ?_);obtain⟨d3,a1,s⟩:=bp s;have b6:=be7 (x0:=(ix x1 x2).Op);rw[a1]at b6;refine cL b6 O O (aj O bc) (mV O (nS (am (bg (sR (mV O (bN cn O O (mV O ?_))))))));refine nS ?_;refine bv s O ?_ ?_<;>clear s<;>intro a2 s<;>have a8:=a2<;>try simp only[qa]at a8
  ·refine sR (mI O (mI O (mI O (nS ?_))));subst s;exact fa (.tmp O (.tmp O (.tmp O .nil))) (cw (show closed (.tup _)=true from(aj O (aj O (aj O bc))))) O
  ·refine sR (mV O (bN du O O (mV O (nS ?_))));refine bv s O ?_ ?_<;>clear s<;>intro a3 s<;>have a9:=a3<;>try simp only[qa]at a9
   ·refine sR (lD r0 O O O (mV O (mV O ?_)));obtain⟨c9,c5,a6⟩:=cv (i:=x2) r1 Y Y;refine ah (bd O O c5) (lD a6 O O O ?_);obtain⟨d5,b2,s⟩:=bp s;have b5:=db9 r0 a6;rw[b2]at b5;refine cL b5 O O (aj (TR.clo au.t r0) (aj (TR.clo ak.t a6) bc)) (mV O (xT O O (xT O O (mV O (mV O (nR (mV O (mV O ?_))))))));refine bN dw O O (mV O (mV O (mV O (mV O (nS ?_)))));subst s;exact fa (.tmp O (.tmp O (.tmp O .nil))) (cw (show closed (.tup _)=true from(aj O (aj O (aj O bc))))) O
   ·refine aw (db (aq (sR ?_)));refine dv (x:= .agg [vi 0,vi 0,vi 0]) (Mem.nil ⟨0,[]⟩) O O (λd4 d2 d8 b8=>?_);refine nR (mV O (bN dw O O (mV O (nS (am (sR (mV O (mI O ?_))))))));refine nS (bg ?_);refine wC (xv r0 r1 h0 hb ihR hmu hrec a4 a1 a2 a3 ?_ (show(tAr 3 tI).R ([0,0,0]:List Int) (.agg [vi 0,vi 0,vi 0]) from⟨O,[vi 0,vi 0,vi 0],[vi 0,vi 0,vi 0],⟨O,⟨O,⟨O,trivial⟩⟩⟩,O,O⟩) O Y (by(rw[cz Y Y];omega)) (Mem.sub b8 (.cons_cons _ .slnil)) s) O
    ·intro c6 b0 b1 a0 d0 b9 s;refine ek (aq (sR (mV O (mV O ?_))));obtain⟨d6,b7,a7⟩:=cv (i:=x2) r1 Y Y;refine ah (bd O O b7) (lD a7 O O O (ah (gx (k:=0) b9 O O (TR.agg (tAr 3 tI) a0)) ?_));obtain⟨d7,b4,s⟩:=bp s;have b3:=dq5 a7 a0;rw[b4]at b3;refine cL b3 O O (aj (TR.clo ak.t a7) (aj (TR.clo (tAr 3 tI) a0) bc)) (mV O (xT O O (xT O O (mV O (mV O (nR (mV O (mV O ?_))))))));refine mV O (mV O (mV O (mV O (nS ?_))));subst s;exact fa (.tmp O (.tmp O (.tmp O .nil))) (cw (show closed (.tup _)=true from(aj O (aj O (aj O bc))))) O
theorem co3:∀(n_:Nat){x0:au}{x1:List ak}{x2:Int}{v0 v1:PV}(r0:au.t.R x0 v0)(r1:(tSl ak.t).R x1 v1)(h0:0<=x2)(hb:x1.length<=1000000),(x1.length-x2.toNat) < n_->FnR Tryz.prog 226 [v0,v1,vi x2] (.tup [vi ((dp n_ x0 x1 x2).1),vi ((dp n_ x0 x1 x2).2.1),vi ((dp n_ x0 x1 x2).2.2)]):=by
 intro n_;induction n_ with
 |zero=>intros;rename_i hlt;exact absurd hlt (Nat.not_lt_zero _)
 |succ n_ ihn=>
  intro x0 x1 x2 v0 v1 r0 r1 h0 hb hlt;have e_:dp (n_+1) x0 x1 x2=fe (dp n_) x0 x1 x2:=by rw[dp]
  rw[e_];exact ck2 r0 r1 h0 hb O (tz n_) (λ{z0}{z1}{z2}{zv0}{zv1} zr0 zr1 h0 hb hz=>ihn zr0 zr1 h0 hb Y)
theorem dm2{x0:au}{x1:List ak}{x2:Int}{v0 v1:PV}(r0:au.t.R x0 v0)(r1:(tSl ak.t).R x1 v1)(h0:0<=x2)(hb:x1.length<=1000000):FnR Tryz.prog 226 [v0,v1,vi x2] (.tup [vi ((dc x0 x1 x2).1),vi ((dc x0 x1 x2).2.1),vi ((dc x0 x1 x2).2.2)]):=co3 _ r0 r1 h0 hb (Nat.lt_succ_self _)
def RF174(res:Int×Int)(r:PV):Prop:=r= .tup [vi res.1,vi res.2]
theorem bv4{x0:List ak}{x1:au}{v0 v1:PV}(r0:(tSl ak.t).R x0 v0)(r1:au.t.R x1 v1):FnR Tryz.prog 174 [v0,v1] (.tup [vi ((mh x0 x1).1),vi ((mh x0 x1).2)]):=by
 refine fnS (R:=RF174) bw7 (λ_ h=>h) O λres s=>?_;unfold mh at s;refine sR (ah (di O (TR.cnt au.t r1)) (mI O (mI O (nS (am (sR (mV O (ah (co O (ca r0 Tryz.underlying32 _)) ?_))))))));refine bN fu O O (nS ?_);refine bv s O ?_ ?_<;>clear s<;>intro c s<;>try simp only[qa]at c
 ·refine sR (mI O (mI O (nS ?_)));exact rT s O O O O O
 ·refine aw (aq (sR (lD r1 O O O (mV O ?_))));obtain⟨a2,a1,s⟩:=bp s;have a0:=dm2 (x2:=0) r1 r0 (by first|assumption|omega|(rw[cz Y Y];omega)|(have hk:=rval rfl (And.right (And.left OY));omega)|(have hk:=rval OY OY;omega)|(have hk:=rval OY (And.left OY);omega)|(have hk:=rval OY (And.left (And.left OY));have hz:=rslc OY;omega)|(simp;done)|(simp only[List.length_append,List.length_nil,List.length_cons];omega)|(have hk:=(cq OY OY).1;omega)|(simp only[List.length_cons,List.length_nil];omega)|(simp only[List.length_append];have hk:=(cq OY OY).1;omega)|(simp only[List.length_append,List.length_nil];have hk:=(cq OY OY).1;omega)) (by first|assumption|omega|(rw[cz Y Y];omega)|(have hk:=rval rfl (And.right (And.left OY));omega)|(have hk:=rval OY OY;omega)|(have hk:=rval OY (And.left OY);omega)|(have hk:=rval OY (And.left (And.left OY));have hz:=rslc OY;omega)|(simp;done)|(simp only[List.length_append,List.length_nil,List.length_cons];omega)|(have hk:=(cq OY OY).1;omega)|(simp only[List.length_cons,List.length_nil];omega)|(simp only[List.length_append];have hk:=(cq OY OY).1;omega)|(simp only[List.length_append,List.length_nil];have hk:=(cq OY OY).1;omega));rw[a1]at a0;refine cL a0 O O (aj (TR.clo au.t r1) (aj (TR.clo (tSl ak.t) r0) (aj O bc))) (mV O (xT O O (xT O O (xT O O (mV O (mV O (mV O (nS ?_))))))));refine am (bg (sR (mV O (bN ie O O (mV O (nS ?_))))));refine bv s O ?_ ?_<;>clear s<;>intro c s<;>try simp only[qa]at c
  ·refine sR (mV O (mI O (mV O (nS ?_))));exact rT s O O O O O
  ·refine sR (mV O (mV O (ah (co O (ca r0 Tryz.underlying32 _)) (bN cn O O (mV O (nS ?_))))));refine bv s O ?_ ?_<;>clear s<;>intro c s<;>try simp only[qa]at c
   ·refine sR (mI O (mI O (nS ?_)));exact rT s O O O O O
   ·refine aw (db (aq (sR (mV O (mV O (mI O (nS ?_)))))));exact rT s O O O O O
def RF173(res:Int)(r:PV):Prop:=r=vi res
theorem bv1{x0:dt}{x1:List ak}{x2:Int}{v0 v1:PV}(r0:dt.t.R x0 v0)(r1:(tSl ak.t).R x1 v1):FnR Tryz.prog 173 [v0,v1,vi x2] (vi (ij x0 x1 x2)):=by
 refine fnS (R:=RF173) bw0 (λ_ h=>h) O λres s=>?_;unfold ij at s;refine sR (ah (di O (TR.cnt dt.t r0)) (mI O (nR (mV O ?_))));obtain⟨a7,a6,a1⟩:=dt.g_scope r0;refine fA O a6 (lD a1 O O O ?_);obtain⟨a2,a4,s⟩:=bp s;have a3:=bv4 r1 a1;rw[a4]at a3;refine cL a3 O O (aj (TR.clo (tSl ak.t) r1) (aj (TR.clo au.t a1) bc)) (mV O (xT O O (xT O O (mV O (mV O (nS (am (sR ?_))))))));refine mV O (bN du O O (mV O ?_));refine bw 4 (d:=22) (v:=vb ((decide (a2.2=0))&&(!decide (a2.1=x2)))) ?_ ?_
 ·intro S Q r;cases a5:(decide (a2.2=0))
  ·exact gN 3 O O O O O O
  ·intro k;have a0:=a5;try simp only[qa]at a0
   refine ai O O (ba O) (ai O O (ba O) (ai O O (br O O ie) ?_));exact gK O O O O O k
 refine nS ?_;refine bv s O ?_ ?_<;>clear s<;>intro c s<;>try simp only[qa]at c
 ·refine sR (mI O (nS ?_));exact rR s O O O
 ·refine aw (aq (sR (mV O (mV O (nS ?_)))));exact rR s O O O
def RF104(res:Int)(r:PV):Prop:=r=vi res
theorem dc6{x0:dt}{x1:bf}{v0 v1:PV}(r0:dt.t.R x0 v0)(r1:bf.t.R x1 v1):FnR Tryz.prog 104 [v0,v1] (vi (fi x0 x1)):=by
 refine fnS (R:=RF104) bx0 (λ_ h=>h) O λres s=>?_;unfold fi at s;refine sR (ah (di O (TR.cnt dt.t r0)) (ah (di O (TR.cnt bf.t r1)) (mI O (nR ?_))));obtain⟨g0,f2,e5⟩:=dt.g_scope r0;refine fA O f2 (gL (au.g_Program e5) O O O λb1 a3=>?_);refine dv (x:= .agg [vs [],nilS,nilS,nilS,nilS,nilS,nilS,nilS,nilS]) (Mem.nil ⟨0,[]⟩) O O (λa8 a9 g9 e9=>?_);refine cx (k:=0) (v:=b1) e9 O O O (TR.cnt aa.t a3) (λf1 a5=>?_);replace a5:Mem f1 [⟨.op a8 a9 0,31,9,[b1]⟩]:=a5;refine nR (ah (gx (k:=0) a5 O O (TR.agg aa.t a3)) (gL (bf.g_Dst r1) O O O λg7 d1=>?_));obtain⟨a2,b6,s⟩:=bp s;have d7:=db3 a3 d1;rw[b6]at d7;refine cL d7 O O (aj (TR.clo aa.t a3) (aj (TR.clo ae.t d1) bc)) (mV O (xT O O (xT O O (mV O (mV O (nR (fL O (bf.g_Register r1) O O (bN iz O O ?_))))))));refine mV O ?_;refine bw 7 (d:=31) (v:=vb ((decide (0<=x1.Register))&&(decide (x1.Register < (x0.scope.Program.Registers.length:Int))))) ?_ ?_
 ·intro S Q r;cases c1:(decide (0<=x1.Register))
  ·exact gN 6 O O O O O O
  ·intro k;have b2:=c1;try simp only[qa]at b2
   refine ai O O (bt O (bf.g_Register r1)) (ai O O (bq O O O) (ai O O (cg O) ?_));obtain⟨f8,e1,d8⟩:=aa.g_Registers a3;refine ai O O (ct (k:=0) a5 O O e1) (ai O O (co O (ca d8 Tryz.underlying24 _)) (ai O O (br O O cn) ?_));exact gK O O O O O k
 refine mV O (nS (am (sR (fL O (bf.g_Kind r1) O O (nS (bg (sR (bN du O O ?_))))))));refine mV O (nS ?_);refine bv s O ?_ ?_<;>clear s<;>intro c s<;>try simp only[qa]at c
 ·refine am (sR (mV O (ah (fw O) (nS ?_))));refine bv s O ?_ ?_<;>clear s<;>intro c s<;>try simp only[qa]at c
  ·refine sR (mI O (nS ?_));exact rR s O O O
  ·refine aw (aq (sR (lD r0 O O O (gL (bf.g_Value r1) O O O λh0 d6=>(mV O ?_)))));obtain⟨g3,c9,s⟩:=bp s;have d0:=bv1 (x2:=a2.1) r0 d6;rw[c9]at d0;refine cL d0 O O (aj (TR.clo dt.t r0) (aj (TR.clo (tSl ak.t) d6) (aj O bc))) (mV O (nS ?_));exact rR s O O O
 ·refine am (sR (bN du O O (mV O (nS ?_))));obtain⟨d9,c4,s⟩:=bp s;refine kp (F:=λb S Q=>∀(a0:Bool)(a6:Heap)(a4:Mem a6 [⟨.op a8 a9 0,31,9,[b1]⟩]),d9 a0=res->RC Tryz.prog b S Q [(43,vb a0),(33,vi x1.Kind),(8,vb ((decide (0<=x1.Register))&&(decide (x1.Register < (x0.scope.Program.Registers.length:Int))))),(7,vb a2.2),(6,vi a2.1),(5,.op a8 a9 0),(3,.fp v1),(2,.fp v0)] a6) ?_ ?_
  ·intro a0 a6 a4 s;rw[<-c4]at s;refine bv s O ?_ ?_<;>clear s<;>intro c s<;>try simp only[qa]at c
   ·refine am (sR (fL O (bf.g_Header r1) O O (bN cn O O (mV O ?_))));refine bw 7 (d:=56) (v:=vb ((decide (x1.Header < 0))||(decide ((x0.scope.Program.Headers.length:Int)<=x1.Header)))) ?_ ?_
    ·intro S Q r;cases d5:(decide (x1.Header < 0))
     ·intro k;have b5:=d5;try simp only[qa]at b5
      refine ai O O (bt O (bf.g_Header r1)) (ai O O (bq O O O) (ai O O (cg O) ?_));obtain⟨g6,f5,f4⟩:=aa.g_Headers a3;refine ai O O (ct (k:=0) a4 O O f5) (ai O O (co O (ca f4 Tryz.underlying22 _)) (ai O O (br O O iz) ?_));exact gK O O O O O k
     ·exact gN 6 O O O O O O
    refine nS ?_;refine bv s O ?_ ?_<;>clear s<;>intro c s<;>try simp only[qa]at c
    ·refine sR (mI O (nS ?_));exact rR s O O O
    ·refine aw (aq (sR (mI O (nS ?_))));exact rR s O O O
   ·refine am (sR (bN du O O (mV O (nS ?_))));obtain⟨f3,c5,s⟩:=bp s;refine kp (F:=λb S Q=>∀(a1:Bool)(a7:Heap)(b0:Mem a7 [⟨.op a8 a9 0,31,9,[b1]⟩]),f3 a1=res->RC Tryz.prog b S Q [(57,vb a1),(8,vb ((decide (0<=x1.Register))&&(decide (x1.Register < (x0.scope.Program.Registers.length:Int))))),(7,vb a2.2),(6,vi a2.1),(5,.op a8 a9 0),(3,.fp v1),(2,.fp v0)] a7) ?_ ?_
    ·intro a1 a7 b0 s;rw[<-c5]at s;refine bv s O ?_ ?_<;>clear s<;>intro c s<;>try simp only[qa]at c
     ·refine am (sR (mV O (ah (fw O) (mV O ?_))));refine bw 8 (d:=70) (v:=vb ((!((decide (0<=x1.Register))&&(decide (x1.Register < (x0.scope.Program.Registers.length:Int)))))||((decide (x1.Kind=4))&&(!a2.2)))) ?_ ?_
      ·intro S Q r;cases c6:(!((decide (0<=x1.Register))&&(decide (x1.Register < (x0.scope.Program.Registers.length:Int)))))
       ·intro k;have b3:=c6;try simp only[qa]at b3
        refine ai O O (bt O (bf.g_Kind r1)) (ai O O (bq O O O) (ai O O (br O O du) (ai O O (ba O) ?_)));refine bw 3 (d:=69) (v:=vb ((decide (x1.Kind=4))&&(!a2.2))) ?_ ?_
        ·intro S Q r;cases c7:(decide (x1.Kind=4))
         ·intro k;refine kr O O (kr O O (ai (v:=vb false) O O (pp O O O O) ?_));exact wD k O
         ·intro k;have b4:=c7;try simp only[qa]at b4
          refine ai O O (ba O) (ai O O (fw O) (ai (v:=vb (!a2.2)) O O (pp O O O O) ?_));exact wD k O
        exact gK O O O O O k
       ·exact gN 7 O O O O O O
      refine nS ?_;refine bv s O ?_ ?_<;>clear s<;>intro c s<;>try simp only[qa]at c
      ·refine sR (mI O (nS ?_));exact rR s O O O
      ·refine aw (aq (am (sR (gL (bf.g_Index r1) O O O λg2 b9=>(gL (dt.g_scope r0) O O O λg5 c8=>?_)))));obtain⟨g4,d3,s⟩:=bp s;have b8:=bv4 b9 c8;rw[d3]at b8;refine cL b8 O O (aj (TR.clo (tSl ak.t) b9) (aj (TR.clo au.t c8) bc)) (mV O (xT O O (xT O O (mV O (mV O (nR (mV O (bN ie O O ?_))))))));refine nS ?_;refine bv s O ?_ ?_<;>clear s<;>intro c s<;>try simp only[qa]at c
       ·refine sR (mV O (mV O (nS ?_)));exact rR s O O O
       ·refine aw (aq (am (sR (fL O (bf.g_Kind r1) O O (bN du O O (nS ?_))))));refine bv s O ?_ ?_<;>clear s<;>intro c s<;>try simp only[qa]at c
        ·refine sR (lD r0 O O O (gL (bf.g_Value r1) O O O λg1 d4=>(ah (cg O) ?_)));obtain⟨g8,e4,f0⟩:=aa.g_Registers a3;refine ah (ct (k:=0) b0 O O e4) (fL O (bf.g_Register r1) O O ?_);obtain⟨f6,e3,e7⟩:=cv (i:=x1.Register) f0 Y Y;refine ah (bd O O e3) (fL O (cj.g_Width e7) O O ?_);obtain⟨h1,b7,s⟩:=bp s;have d2:=bv1 (x2:=(ix x0.scope.Program.Registers x1.Register).Width) r0 d4;rw[b7]at d2;refine cL d2 O O (aj (TR.clo dt.t r0) (aj (TR.clo (tSl ak.t) d4) (aj O bc))) (mV O (nS ?_));exact rR s O O O
        ·refine aw (aq (am (sR (mV O (ah (cg O) ?_)))));obtain⟨f9,e6,e0⟩:=aa.g_Registers a3;refine ah (ct (k:=0) b0 O O e6) (fL O (bf.g_Register r1) O O ?_);obtain⟨f7,e2,e8⟩:=cv (i:=x1.Register) e0 Y Y;refine ah (bd O O e2) (fL O (cj.g_Width e8) O O (bN ie O O (nS ?_)));refine bv s O ?_ ?_<;>clear s<;>intro c s<;>try simp only[qa]at c
         ·refine sR (mI O (nS ?_));exact rR s O O O
         ·refine aw (aq (sR (mI O (nS ?_))));exact rR s O O O
     ·refine aw (db (aq (sR (mI O (nS ?_)))));exact rR s O O O
    ·intro J;refine bv s O ?_ ?_<;>clear s<;>intro c s<;>try simp only[qa]at c
     ·refine aw ?_;refine aq (wC (J _ _ (Mem.sub a4 (.cons_cons _ .slnil)) s) O)
     ·refine az (bN du O O (mV O (cd ?_)));refine aq (wC (J _ _ (Mem.sub a4 (.cons_cons _ .slnil)) s) O)
  ·intro J;refine bv s O ?_ ?_<;>clear s<;>intro c s<;>try simp only[qa]at c
   ·refine aw ?_;refine aq (wC (J _ _ (Mem.sub a5 (.cons_cons _ .slnil)) s) O)
   ·refine az (bN du O O (mV O (cd ?_)));refine aq (wC (J _ _ (Mem.sub a5 (.cons_cons _ .slnil)) s) O)
def RF35(res:Int×Int)(r:PV):Prop:=r= .tup [vi res.1,vi res.2]
theorem ag2{S:List Fr}{res:Int×Int}{x0:aa}{x1 c5:Int}{b2 a0 a7 a5 a4 a2 a1 a3 a6 c6:PV}{b1 b3:Nat}(c4:((decide (x1 < 0))||(decide ((x0.Actions.length:Int)<=x1)))=false)(d5:jz (ix x0.Actions x1)=c5)(b9:(!decide (c5=0))=false)(b7:(tSl bf.t).R ((ix x0.Actions x1).Body) c6)(b5:dt.t.R ({scope:=({Program:=x0,Params:=(ix x0.Actions x1).Params}:au)}:dt) (.agg [vs x0.Name,a0,a7,a5,a4,a2,a1,a3,a6,b2])){K0:Unit->(Int×Int)}
 (d6:∀{h:Heap}(M0:Mem h [⟨.op b1 b3 0,151,10,[.agg [vs x0.Name,a0,a7,a5,a4,a2,a1,a3,a6,b2]]⟩]),K0 ()=res->PX Tryz.prog 0 S (QR Tryz.prog [(4,none),(5,none)] (RF35 res)) [] h):
 ∀{m:Nat}{a8:Int}(d4:m=Int.toNat ((((ix x0.Actions x1).Body).length:Int)-a8))(b8:0<=a8){h:Heap}(M0:Mem h [⟨.op b1 b3 0,151,10,[.agg [vs x0.Name,a0,a7,a5,a4,a2,a1,a3,a6,b2]]⟩]),ja x0 x1 K0 m a8=res->RC Tryz.prog (.loop dk3) S (QR Tryz.prog [(4,none),(5,none)] (RF35 res)) [(37,vi a8),(36,vi (((ix x0.Actions x1).Body).length:Int)),(35,c6),(7,.op b1 b3 0)] h:=by
 have b6:=c4;try simp only[qa]at b6
 have b4:=b9;try simp only[qa]at b4
 intro m;induction m with
 |zero=>
  intro a8 d4 b8 h M0 s;rw[ja]at s;refine ck (sR (bN cn O O (nS (am ?_))));refine ci O ?_ ?_<;>intro c<;>try simp only[qa]at c
  ·omega
  refine dg (dx (da ?_));exact wP (d6 (Mem.sub M0 (.cons_cons _ .slnil)) s) O
 |succ m ih=>
  intro a8 d4 b8 h M0 s;rw[ja]at s;refine ck (sR (bN cn O O (nS (am ?_))));refine ci O ?_ ?_<;>intro c<;>try simp only[qa]at c
  rotate_left
  ·omega
  refine aw (aq (am (bg (sR (mV O ?_)))));obtain⟨c1,d2,a9⟩:=cv (i:=a8) b7 Y Y;refine ah (bd O O d2) (lD a9 O O O ?_);refine dv (x:= .agg [vi 0,vi 0,vi 0,vi 0,vi 0,nilS,nilS]) M0 O O (λd3 c9 d8 d0=>?_);refine mV O ?_;refine cx (k:=0) (v:=c1) d0 O O O (TR.cnt bf.t a9) (λd1 b0=>?_);replace b0:Mem d1 [⟨.op d3 c9 0,135,7,[c1]⟩,⟨.op b1 b3 0,151,10,[.agg [vs x0.Name,a0,a7,a5,a4,a2,a1,a3,a6,b2]]⟩]:=b0;refine nR (ah (gx (k:=1) b0 O O (TR.agg dt.t b5)) (ah (gx (k:=0) b0 O O (TR.agg bf.t a9)) ?_));obtain⟨d7,c8,s⟩:=bp s;have c7:=dc6 b5 a9;rw[c8]at c7;refine cL c7 O O (aj (TR.clo dt.t b5) (aj (TR.clo bf.t a9) bc)) (mV O (nR (mV O (bN ie O O (nS ?_)))));refine bv s O ?_ ?_<;>clear s<;>intro c s<;>try simp only[qa]at c
  ·refine sR (mV O (mV O (mV O (mV O (nS ?_)))));exact rT s O O O O O
  ·refine aw (db (aq (az (bN dw O O (mV O (cd (cy ?_)))))));have hbd:=dn b7;have hinc:wr (a8+1)=a8+1:=cz Y Y;erw[hinc];exact wC (ih Y Y (Mem.sub b0 (.cons _ (.cons_cons _ .slnil))) s) O
theorem ee5{x0:aa}{x1:Int}{v0:PV}(r0:aa.t.R x0 v0):FnR Tryz.prog 35 [v0,vi x1] (.tup [vi ((lc x0 x1).1),vi ((lc x0 x1).2)]):=by
 refine fnS (R:=RF35) cx2 (λ_ h=>h) O λres s=>?_;unfold lc at s;refine sR (ah (di O (TR.cnt aa.t r0)) (mI O (mI O (nS (am (sR (mV O (bN cn O O ?_))))))));refine mV O ?_;refine bw 6 (d:=18) (v:=vb ((decide (x1 < 0))||(decide ((x0.Actions.length:Int)<=x1)))) ?_ ?_
 ·intro S Q r;cases d3:(decide (x1 < 0))
  ·intro k;have d0:=d3;try simp only[qa]at d0
   refine ai O O (ba O) ?_;obtain⟨f3,e5,d1⟩:=aa.g_Actions r0;refine ai O O (bt O e5) (ai O O (bq O (TR.cnt (tSl cm.t) d1) (TR.agg (tSl cm.t) d1)) (ai O O (co O (ca d1 Tryz.underlying25 _)) (ai O O (br O O iz) ?_)));exact gK O O O O O k
  ·exact gN 5 O O O O O O
 refine nS ?_;refine bv s O ?_ ?_<;>clear s<;>intro c4 s<;>have c9:=c4<;>try simp only[qa]at c9
 ·refine sR (mI O (mI O (nS ?_)));exact rT s O O O O O
 ·refine aw (aq (sR ?_));obtain⟨f8,d8,d6⟩:=aa.g_Actions r0;refine fA O d8 (lD d6 O O O (mV O ?_));obtain⟨c7,e7,a9⟩:=cv (i:=x1) d6 Y Y;refine ah (bd O O e7) (lD a9 O O O ?_);refine dv (x:= .agg [vs [],nilS,nilS]) (Mem.nil ⟨0,[]⟩) O O (λd4 d7 f2 d9=>?_);refine cx (k:=0) (v:=c7) d9 O O O (TR.cnt cm.t a9) (λf0 b0=>?_);replace b0:Mem f0 [⟨.op d4 d7 0,97,3,[c7]⟩]:=b0;refine nS (am (sR (ah (gx (k:=0) b0 O O (TR.agg cm.t a9)) ?_)));obtain⟨f4,c5,s⟩:=bp s;have d5:=dt9 a9;rw[c5]at d5;refine cL d5 O O (aj (TR.clo cm.t a9) bc) (mV O (nR (mV O (bN ie O O (nS ?_)))));refine bv s O ?_ ?_<;>clear s<;>intro c1 s<;>have c6:=c1<;>try simp only[qa]at c6
  ·refine sR (mV O (mI O (mV O (nS ?_))));exact rT s O O O O O
  ·refine aw (aq (sR (lD r0 O O O (ah (cg O) ?_))));obtain⟨a8,e8,c8⟩:=cm.g_Params a9;refine ah (ct (k:=0) b0 O O e8) ?_;obtain⟨a0,a7,a5,a3,a2,a1,a4,a6,e2,b7,b4,b6,b5,b9,b8,b1,b2⟩:=r0;subst e2;refine ah (v:= .agg [vs x0.Name,a0,a7,a5,a3,a2,a1,a4,a6,a8]) (gm (cs:=[vs x0.Name,a0,a7,a5,a3,a2,a1,a4,a6,a8]) O (by simp only[buildV,bc3 (TR.cnt (tSl av.t) c8) (TR.agg (tSl av.t) c8)];rfl)) (ah (v:= .agg [vs x0.Name,a0,a7,a5,a3,a2,a1,a4,a6,a8]) (gm (cs:=[vs x0.Name,a0,a7,a5,a3,a2,a1,a4,a6,a8]) O O) ?_);refine dv (x:= .agg [vs [],nilS,nilS,nilS,nilS,nilS,nilS,nilS,nilS,nilS]) b0 O O (λe3 e9 f6 e4=>?_);refine cx (k:=0) (v:= .agg [vs x0.Name,a0,a7,a5,a3,a2,a1,a4,a6,a8]) e4 O O O O (λe0 b3=>?_);replace b3:Mem e0 [⟨.op e3 e9 0,151,10,[.agg [vs x0.Name,a0,a7,a5,a3,a2,a1,a4,a6,a8]]⟩,⟨.op d4 d7 0,97,3,[c7]⟩]:=b3;refine nS (am (sR (ah (cg O) ?_)));obtain⟨f5,e6,d2⟩:=cm.g_Body a9;refine ah (ct (k:=1) b3 O O e6) (ah (co O (ca d2 Tryz.underlying95 _)) (mI O (nS (bg ?_))));have e1:dt.t.R ({scope:=({Program:=x0,Params:=(ix x0.Actions x1).Params}:au)}:dt) (.agg [vs x0.Name,a0,a7,a5,a3,a2,a1,a4,a6,a8]):=⟨a0,a7,a5,a3,a2,a1,a4,a6,a8,O,b7,b4,b6,b5,b9,b8,b1,b2,c8⟩;refine wC (ag2 c4 c5 c1 d2 e1 ?_ O Y (Mem.sub b3 (.cons_cons _ (.cons _ .slnil))) s) O
   ·intro f1 f7 s;refine ek (aq (sR (mI O (mI O (nS ?_)))));exact rT s O O O O O
def RF108(res:(List bf))(r:PV):Prop:=(tSl bf.t).R res r
theorem dd6{x0:aa}{x1:Int}{v0:PV}(r0:aa.t.R x0 v0):∃r,FnR Tryz.prog 108 [v0,vi x1] r/\(tSl bf.t).R (ko x0 x1) r:=by
 refine fnT (R:=RF108) bv0 O λres s=>?_;unfold ko at s;refine sR (ah (di O (TR.cnt aa.t r0)) (ah (v:=nilS) (ba O) (nS (am (sR (lD r0 O O O (mV O ?_)))))));obtain⟨a8,a2,s⟩:=bp s;have a1:=ee5 (x1:=x1) r0;rw[a2]at a1;refine cL a1 O O (aj (TR.clo aa.t r0) (aj O bc)) (mV O (xT O O (xT O O (mV O (mV O (nR (mV O (bN ie O O ?_))))))));refine nS ?_;refine bv s O ?_ ?_<;>clear s<;>intro c s<;>try simp only[qa]at c
 ·refine sR (ah (v:=nilS) (ba O) (nS ?_));exact rR s O (TR.clo (tSl bf.t) pa) pa
 ·refine aw (aq (sR (gL (aa.g_Actions r0) O O O λa9 a5=>(mV O ?_))));obtain⟨a7,a3,a4⟩:=cv (i:=x1) a5 (by first|omega|(have hk:=ec7 OY OY;omega)) (by first|omega|(have hk:=ec7 OY OY;omega));refine ah (bd O O a3) (gL (cm.g_Body a4) O O O λa6 a0=>(mV O (nS ?_)));exact rR s O (TR.clo (tSl bf.t) a0) a0
def RF206(res:Bool)(r:PV):Prop:=r=vb res
theorem bv6{x0:Int}:FnR Tryz.prog 206 [vi x0] (vb (sj x0)):=by
 refine fnS (R:=RF206) bz3 (λ_ h=>h) O λres s=>?_;unfold sj at s;refine sR (mB O (nR (mV O (mV O (bN ie O O (mV O (nS ?_)))))));exact rR s O O O
def RF141(res:Int)(r:PV):Prop:=r=vi res
theorem bv3{x0 x1:Int}:FnR Tryz.prog 141 [vi x0,vi x1] (vi (li x0 x1)):=by
 refine fnS (R:=RF141) bz2 (λ_ h=>h) O λres s=>?_;unfold li at s;refine sR (mI O (nR (mV O ?_)));obtain⟨a5,a3,s⟩:=bp s;have a1:=bv6 (x0:=x0);rw[a3]at a1;refine cL a1 O O (aj O bc) (mV O (nR (mV O ?_)));obtain⟨a4,a2,s⟩:=bp s;have a0:=bv6 (x0:=x1);rw[a2]at a0;refine cL a0 O O (aj O bc) (mV O (nS (am (sR (mV O (nS ?_))))));refine bv s O ?_ ?_<;>clear s<;>intro c s<;>try simp only[qa]at c
 ·refine am (sR (mV O (nS ?_)));refine bv s O ?_ ?_<;>clear s<;>intro c s<;>try simp only[qa]at c
  ·refine sR (mI O (nS ?_));exact rR s O O O
  ·refine aw (aq (sR (mI O (nS ?_))));exact rR s O O O
 ·refine aw (aq (am (sR (mV O (nS ?_)))));refine bv s O ?_ ?_<;>clear s<;>intro c s<;>try simp only[qa]at c
  ·refine sR (mI O (nS ?_));exact rR s O O O
  ·refine aw (aq (am (sR (mV O (mV O (bN cn O O (nS ?_)))))));refine bv s O ?_ ?_<;>clear s<;>intro c s<;>try simp only[qa]at c
   ·refine sR (mI O (nS ?_));exact rR s O O O
   ·refine aw (aq (am (sR (mV O (mV O (bN fu O O (nS ?_)))))));refine bv s O ?_ ?_<;>clear s<;>intro c s<;>try simp only[qa]at c
    ·refine sR (mI O (nS ?_));exact rR s O O O
    ·refine aw (aq (sR (mI O (nS ?_))));exact rR s O O O
def RF140(res:Int)(r:PV):Prop:=r=vi res
theorem ao1{S:List Fr}{res:Int}{x0:List Int}{v0:PV}(r0:(tSl tI).R x0 v0){K0:Unit->Int}
 (a3:K0 ()=res->PX Tryz.prog 0 S (QR Tryz.prog [(2,none)] (RF140 res)) [(3,vi 0)] ⟨0,[]⟩):
 ∀{m:Nat}{a0:Int}(a2:m=Int.toNat ((x0.length:Int)-a0))(a1:0<=a0),mo x0 K0 m a0=res->RC Tryz.prog (.loop cn3) S (QR Tryz.prog [(2,none)] (RF140 res)) [(8,vi a0),(7,vi (x0.length:Int)),(6,v0),(3,vi 0)] ⟨0,[]⟩:=by
 intro m;induction m with
 |zero=>
  intro a0 a2 a1 s;rw[mo]at s;refine ck (sR (bN cn O O (nS (am ?_))));refine ci O ?_ ?_<;>intro c<;>try simp only[qa]at c
  ·omega
  refine dg (dx (da ?_));exact wP (a3 s) O
 |succ m ih=>
  intro a0 a2 a1 s;rw[mo]at s;refine ck (sR (bN cn O O (nS (am ?_))));refine ci O ?_ ?_<;>intro c<;>try simp only[qa]at c
  rotate_left
  ·omega
  refine aw (aq (am (bg (sR (ah (bd O O (slI r0 Y Y)) (lR O O O (mV O (nR ?_))))))));refine mV O (mV O (bN ie O O (nS ?_)));refine bv s O ?_ ?_<;>clear s<;>intro c s<;>try simp only[qa]at c
  ·refine sR (mV O (mV O (nS ?_)));exact rR s O O O
  ·refine aw (db (aq (az (bN dw O O (mV O (cd (cy ?_)))))));have hbd:=dn r0;have hinc:wr (a0+1)=a0+1:=cz Y Y;erw[hinc];exact wC (ih Y Y s) O
theorem cy3{x0:List Int}{v0:PV}(r0:(tSl tI).R x0 v0):FnR Tryz.prog 140 [v0] (vi (tw x0)):=by
 refine fnS (R:=RF140) bx9 (λ_ h=>h) O λres s=>?_;unfold tw at s;refine sR (mI O (nR (mI O (nS (am (sR (mV O (ah (co O (ca r0 Tryz.underlying29 _)) ?_))))))));refine mI O (nS (bg ?_));refine wC (ao1 r0 ?_ O Y s) O
 ·intro s;refine ek (aq (sR (mV O (mV O (nS ?_)))));exact rR s O O O
def RF139(res:Int)(r:PV):Prop:=r=vi res
end Go.Proofs.YtmonnlkagniolaaGreat
