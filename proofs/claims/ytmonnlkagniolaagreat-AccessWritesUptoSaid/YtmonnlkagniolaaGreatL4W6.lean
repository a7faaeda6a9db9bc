/-
 The code of each function does what its plain program says.
-/
import Derived.Test.YtmonnlkagniolaaGreatL4W5
set_option linter.all false
set_option maxRecDepth 100000
namespace Go.Proofs.YtmonnlkagniolaaGreat
open Go Go.Pb Go.RowKit
def RF214(res:(List ab))(r:PV):Prop:=(tSl ab.t).R res r
theorem zm{S:List Fr}{res:(List ab)}{x0:List ab}{rec_:(List ab)->(List ab)}{mu_:Nat}{v0:PV}(r0:(tSl ab.t).R x0 v0)(hs:csl x0<=1048576)(ihR:∀{z0:List ab}{g4:PV}(h6:(tSl ab.t).R z0 g4)(hs:csl z0<=1048576),csl z0 < mu_->∃r,FnR Tryz.prog 214 [g4] r/\(tSl ab.t).R (rec_ z0) r)(hmu:mu_=csl x0)(hrec:∀z,(rec_ z).length<=csl z){K0:(List ab)->(List ab)}
 (h1:∀{a1:List ab}{a0:List PV}{a2:PV}(a6:All2 ab.t.R a1 a0)(a9:isL a2=true)(a5:Wri a2 a0)(a8:a1.length<=4611686018427387904){h:Heap}(M0:Mem h [⟨a2,180,5,a0⟩]),K0 a1=res->PX Tryz.prog 0 S (QR Tryz.prog [(2,none)] (RF214 res)) [(3,a2)] h):
 ∀{m:Nat}{a4:Int}{a1:List ab}{a0:List PV}{a2:PV}(a6:All2 ab.t.R a1 a0)(a9:isL a2=true)(a5:Wri a2 a0)(a8:a1.length<=4611686018427387904)(g2:m=Int.toNat ((x0.length:Int)-a4))(c5:0<=a4)(b2:a1.length+csl (x0.drop a4.toNat)<=csl x0){h:Heap}(M0:Mem h [⟨a2,180,5,a0⟩]),jr x0 rec_ K0 m a4 a1=res->RC Tryz.prog (.loop cv6) S (QR Tryz.prog [(2,none)] (RF214 res)) [(4,vi a4),(3,a2),(0,v0)] h:=by
 intro m;induction m with
 |zero=>
  intro a4 a1 a0 a2 a6 a9 a5 a8 g2 c5 b2 h M0 s;rw[jr]at s;refine ck (am (sR (mV O (mV O (ah (co O (ca r0 Tryz.underlying28 _)) (bN cn O O (nS ?_)))))));refine ci O ?_ ?_<;>intro c<;>try simp only[qa]at c
  ·omega
  refine dg (dx (da ?_));exact wP (h1 a6 a9 a5 a8 (Mem.sub M0 (.cons_cons _ .slnil)) s) O
 |succ m ih=>
  intro a4 a1 a0 a2 a6 a9 a5 a8 g2 c5 b2 h M0 s;rw[jr]at s;refine ck (am (sR (mV O (mV O (ah (co O (ca r0 Tryz.underlying28 _)) (bN cn O O (nS ?_)))))));refine ci O ?_ ?_<;>intro c<;>try simp only[qa]at c
  rotate_left
  ·omega
  refine aw (aq (am (bg (sR (mV O (mV O (mV O ?_)))))));obtain⟨c9,e4,b8⟩:=cv (i:=a4) r0 Y Y;refine ah (bd O O e4) (lD b8 O O O (ah (v:= .fs true [c9]) (lq O (all_cons (TR.cnt ab.t b8) pr)) ?_));have f1:(tSl ab.t).R ([(ix x0 a4)]:List ab) (.fs true [c9]):=aa6 ⟨b8,trivial⟩ OZ;obtain⟨a3,d8,b7⟩:=st (t:=ab.t) (h:=h) f1;have e1:fits (a0.length+a3.length) 88=true:=by rw[All2.length_eq a6,All2.length_eq b7];(try simp only[List.length_cons,List.length_nil]);exact nm (by first|omega|(have hk:=uq (l:=x0) (i:=a4) Y Y;simp only[List.length_append,List.length_cons,List.length_nil];omega)) (by first|omega|(have hk:=uq (l:=x0) (i:=a4) Y Y;simp only[List.length_append,List.length_cons,List.length_nil];omega))
  refine pt (k:=0) (es:=a0) (news:=a3) M0 O O O a9 a5 d8 e1 (λh5 e9 e3 d0 f5=>?_);have c4:All2 ab.t.R (a1++([(ix x0 a4)]:List ab)) (a0++a3):=All2.app a6 b7;have g1:(a1++([(ix x0 a4)]:List ab)).length<=4611686018427387904:=by rw[<-All2.length_eq c4,List.length_append];exact sk e1
  refine mV O (nR (mV O (mV O (mV O ?_))));obtain⟨h2,f2,f7⟩:=cv (i:=a4) r0 Y Y;refine ah (bd O O f2) ?_;obtain⟨g7,e7,b9⟩:=ab.g_Then f7;refine fA O e7 (lD b9 O O O ?_);obtain⟨b1,b4,s⟩:=bp s;obtain⟨g5,f6,e0⟩:=ihR (z0:=(ix x0 a4).Then) b9 (by(have hk:=aa9 (l:=x0) Y Y;omega)) (by(have hk:=aa9 (l:=x0) Y Y;omega));rw[b4]at e0;have g3:=lenle hrec b4;refine cL f6 O O (aj (TR.clo (tSl ab.t) b9) bc) ?_;obtain⟨a7,d9,b6⟩:=st (t:=ab.t) (h:=e9) e0;have c7:fits ((a0++a3).length+a7.length) 88=true:=by rw[All2.length_eq c4,All2.length_eq b6];(try simp only[List.length_cons,List.length_nil]);exact nm (by first|omega|(have hk:=uq (l:=x0) (i:=a4) Y Y;simp only[List.length_append,List.length_cons,List.length_nil];omega)) (by first|omega|(have hk:=uq (l:=x0) (i:=a4) Y Y;simp only[List.length_append,List.length_cons,List.length_nil];omega))
  refine pt (k:=0) (es:=(a0++a3)) (news:=a7) f5 O O O e3 d0 d9 c7 (λh4 e6 f8 d2 f3=>?_);have c1:All2 ab.t.R ((a1++([(ix x0 a4)]:List ab))++b1) ((a0++a3)++a7):=All2.app c4 b6;have g0:((a1++([(ix x0 a4)]:List ab))++b1).length<=4611686018427387904:=by rw[<-All2.length_eq c1,List.length_append];exact sk c7
  refine mV O (nS (az (mV O (mV O (mV O ?_)))));obtain⟨g6,e2,e5⟩:=cv (i:=a4) r0 Y Y;refine ah (bd O O e2) (gL (ab.g_Else e5) O O O λg9 d7=>?_);obtain⟨c6,b3,s⟩:=bp s;obtain⟨h3,f4,c8⟩:=ihR (z0:=(ix x0 a4).Else) d7 (by(have hk:=aa9 (l:=x0) Y Y;omega)) (by(have hk:=aa9 (l:=x0) Y Y;omega));rw[b3]at c8;have f9:=lenle hrec b3;refine cL f4 O O (aj (TR.clo (tSl ab.t) d7) bc) ?_;obtain⟨b0,d3,b5⟩:=st (t:=ab.t) (h:=e6) c8;have d6:fits (((a0++a3)++a7).length+b0.length) 88=true:=by rw[All2.length_eq c1,All2.length_eq b5];(try simp only[List.length_cons,List.length_nil]);exact nm (by first|omega|(have hk:=uq (l:=x0) (i:=a4) Y Y;simp only[List.length_append,List.length_cons,List.length_nil];omega)) (by first|omega|(have hk:=uq (l:=x0) (i:=a4) Y Y;simp only[List.length_append,List.length_cons,List.length_nil];omega))
  refine pt (k:=0) (es:=((a0++a3)++a7)) (news:=b0) f3 O O O f8 d2 d3 d6 (λg8 h0 e8 d4 f0=>?_);have d5:All2 ab.t.R (((a1++([(ix x0 a4)]:List ab))++b1)++c6) (((a0++a3)++a7)++b0):=All2.app c1 b5;have d1:(((a1++([(ix x0 a4)]:List ab))++b1)++c6).length<=4611686018427387904:=by rw[<-All2.length_eq d5,List.length_append];exact sk d6
  refine mV O (cd (db (aq (az (mV O (bN dw O O (mV O (cd ?_))))))));refine cy ?_;have hbd:=dn r0;have hinc:wr (a4+1)=a4+1:=cz Y Y;erw[hinc];exact wC (ih d5 e8 d4 d1 Y Y (by(have hk:=uq (l:=x0) (i:=a4) Y Y;simp only[List.length_append,List.length_cons,List.length_nil];omega)) (Mem.sub f0 (.cons_cons _ .slnil)) s) O
theorem cs7{rec_:(List ab)->(List ab)}{mu_:Nat}{x0:List ab}{v0:PV}(r0:(tSl ab.t).R x0 v0)(hs:csl x0<=1048576)(hmu:mu_=csl x0)(hrec:∀z,(rec_ z).length<=csl z)(ihR:∀{z0:List ab}{b1:PV}(b4:(tSl ab.t).R z0 b1)(hs:csl z0<=1048576),csl z0 < mu_->∃r,FnR Tryz.prog 214 [b1] r/\(tSl ab.t).R (rec_ z0) r):∃r,FnR Tryz.prog 214 [v0] r/\(tSl ab.t).R (ou rec_ x0) r:=by
 refine fnT (R:=RF214) ds3 O λres s=>?_;unfold ou at s;refine sR (ah (v:=nilS) (ba O) (nR (ah (v:=nilS) (ba O) (nS (am (sR (mI O (nS ?_))))))));refine bg ?_;have a9:=qf (sz:=5) (es:=[]) (Mem.nil ⟨0,[]⟩) 180 (.inl ⟨none,O,O⟩) OZ;refine wC (zm r0 hs ihR hmu hrec ?_ aL O (.inl O) (by first|decide|simp) O Y OZ (Mem.sub a9 (.cons_cons _ .slnil)) s) O
 ·intro a5 a3 a6 a1 a2 a4 a0 b3 a8 s;refine ek (aq (sR (mV O (mV O (nS ?_)))));obtain⟨b2,a7,b0⟩:=xk (P:=Tryz.prog) (k:=0) (t:=ab.t) a8 O a2 a1 (Nat.le_trans a0 OO);subst s;exact fa (.tmp O .nil) a7 b0
theorem cu0:∀(n_:Nat){x0:List ab}{v0:PV}(r0:(tSl ab.t).R x0 v0)(hs:csl x0<=1048576),csl x0 < n_->∃r,FnR Tryz.prog 214 [v0] r/\(tSl ab.t).R (jp n_ x0) r:=by
 intro n_;induction n_ with
 |zero=>intros;rename_i hlt;exact absurd hlt (Nat.not_lt_zero _)
 |succ n_ ihn=>
  intro x0 v0 r0 hs hlt;have e_:jp (n_+1) x0=ou (jp n_) x0:=by rw[jp]
  rw[e_];exact cs7 r0 hs O (ai4 n_) (λ{z0}{zv0} zr0 hs hz=>ihn zr0 hs Y)
theorem dm8{x0:List ab}{v0:PV}(r0:(tSl ab.t).R x0 v0)(hs:csl x0<=1048576):∃r,FnR Tryz.prog 214 [v0] r/\(tSl ab.t).R (vx x0) r:=cu0 _ r0 hs (Nat.lt_succ_self _)
def RF284(res:Bool)(r:PV):Prop:=r=vb res
theorem dc3{x0:ab}{v0:PV}(r0:ab.t.R x0 v0):FnR Tryz.prog 284 [v0] (vb (xl x0)):=by
 refine fnS (R:=RF284) dd8 (λ_ h=>h) O λres s=>?_;unfold xl at s;refine sR (ah (di O (TR.cnt ab.t r0)) (mB O (nR (fL O (ab.g_Kind r0) O O (bN du O O (mV O ?_))))));refine bw 4 (d:=10) (v:=vb ((decide (x0.Kind=1))||(decide (x0.Kind=3)))) ?_ ?_
 ·intro S Q r;cases a1:(decide (x0.Kind=1))
  ·intro k;have a0:=a1;try simp only[qa]at a0
   refine ai O O (bt O (ab.g_Kind r0)) (ai O O (bq O O O) (ai O O (br O O du) ?_));exact gK O O O O O k
  ·exact gN 3 O O O O O O
 refine mV O (nS ?_);exact rR s O O O
def RF257(res:Bool)(r:PV):Prop:=r=vb res
theorem wm{S:List Fr}{res:Bool}{x0:List ab}{x1:Int}{v0:PV}(r0:(tSl ab.t).R x0 v0)(h0:0<=x1)(h1:x1 < (x0.length:Int)){K0:Unit->Bool}
 (b5:K0 ()=res->PX Tryz.prog 0 S (QR Tryz.prog [(4,none)] (RF257 res)) [] ⟨0,[]⟩):
 ∀{m:Nat}{a0:Int}(b3:m=Int.toNat (x1-a0))(a4:0<=a0),lb x0 x1 K0 m a0=res->RC Tryz.prog (.loop cq2) S (QR Tryz.prog [(4,none)] (RF257 res)) [(5,vi a0),(1,vi x1),(0,v0)] ⟨0,[]⟩:=by
 intro m;induction m with
 |zero=>
  intro a0 b3 a4 s;rw[lb]at s;refine ck (am (sR (mV O (mV O (bN cn O O (nS ?_))))));refine ci O ?_ ?_<;>intro c<;>try simp only[qa]at c
  ·omega
  refine dg (dx (da ?_));exact wP (b5 s) O
 |succ m ih=>
  intro a0 b3 a4 s;rw[lb]at s;refine ck (am (sR (mV O (mV O (bN cn O O (nS ?_))))));refine ci O ?_ ?_<;>intro c<;>try simp only[qa]at c
  rotate_left
  ·omega
  refine aw (aq (am (bg (sR (mV O (mV O ?_))))));obtain⟨b7,b1,a2⟩:=cv (i:=a0) r0 Y Y;refine ah (bd O O b1) (lD a2 O O O ?_);obtain⟨a3,a7,s⟩:=bp s;have a5:=dc3 a2;rw[a7]at a5;refine cL a5 O O (aj (TR.clo ab.t a2) bc) (mV O ?_);refine bw 12 (d:=28) (v:=vb (a3&&(decide (((ix x0 a0).Table)=((ix x0 x1).Table))))) ?_ ?_
  ·intro S Q r;cases a6:a3
   ·exact gN 11 O O O O O O
   ·intro k;have a1:=a6;try simp only[qa]at a1
    refine ai O O (ba O) (ai O O (ba O) ?_);obtain⟨b4,b2,a8⟩:=cv (i:=a0) r0 Y Y;refine ai O O (bd O O b2) (ai O O (bt O (ab.g_Table a8)) (ai O O (bq O O O) (ai O O (ba O) (ai O O (ba O) ?_))));obtain⟨b6,a9,b0⟩:=cv (i:=x1) r0 Y Y;refine ai O O (bd O O a9) (ai O O (bt O (ab.g_Table b0)) (ai O O (bq O O O) (ai O O (br O O du) ?_)));exact gK O O O O O k
  refine nS ?_;refine bv s O ?_ ?_<;>clear s<;>intro c s<;>try simp only[qa]at c
  ·refine sR (mB O (nS ?_));exact rR s O O O
  ·refine aw (db (aq (az (mV O (bN dw O O (mV O (cd (cy ?_))))))));have hinc:wr (a0+1)=a0+1:=cz Y (by(have hk:=dn r0;omega));erw[hinc];exact wC (ih Y Y s) O
theorem dc7{x0:List ab}{x1:Int}{v0:PV}(r0:(tSl ab.t).R x0 v0)(h0:0<=x1)(h1:x1 < (x0.length:Int)):FnR Tryz.prog 257 [v0,vi x1] (vb (sf x0 x1)):=by
 refine fnS (R:=RF257) dn4 (λ_ h=>h) O λres s=>?_;unfold sf at s;refine sR (mB O (nS (am (sR (mI O (nS (bg ?_)))))));refine wC (wm r0 h0 h1 ?_ O Y s) O
 ·intro s;refine ek (aq (sR (mB O (nS ?_))));exact rR s O O O
def RF215(res:Int)(r:PV):Prop:=r=vi res
theorem du9{x0:aa}{x1:List ab}{x2:Int}{v0 v1:PV}(r0:aa.t.R x0 v0)(r1:(tSl ab.t).R x1 v1)(h0:0<=x2)(h1:x2 < (x1.length:Int)):FnR Tryz.prog 215 [v0,v1,vi x2] (vi (vc x0 x1 x2)):=by
 refine fnS (R:=RF215) dw2 (λ_ h=>h) O λres s=>?_;unfold vc at s;refine sR (ah (di O (TR.cnt aa.t r0)) (mI O (nR (mV O (mV O ?_)))));obtain⟨d0,f0,a8⟩:=cv (i:=x2) r1 Y Y;refine ah (bd O O f0) (lD a8 O O O ?_);refine dv (x:= .agg [vi 0,vi 0,nilS,nilS,nilS]) (Mem.nil ⟨0,[]⟩) O O (λe2 f1 f3 e0=>?_);refine cx (k:=0) (v:=d0) e0 O O O (TR.cnt ab.t a8) (λc8 a9=>?_);replace a9:Mem c8 [⟨.op e2 f1 0,180,5,[d0]⟩]:=a9;refine nS (am (bg (sR (ah (cg O) (ah (ct (k:=0) a9 O O (ab.g_Kind a8)) (bN cn O O (mV O ?_)))))));refine bw 4 (d:=22) (v:=vb ((decide (((ix x1 x2).Kind) < 1))||(decide (3 < ((ix x1 x2).Kind))))) ?_ ?_
 ·intro S Q r;cases d3:(decide (((ix x1 x2).Kind) < 1))
  ·intro k;have c7:=d3;try simp only[qa]at c7
   refine ai O O (cg O) (ai O O (ct (k:=0) a9 O O (ab.g_Kind a8)) (ai O O (br O O fu) ?_));exact gK O O O O O k
  ·exact gN 3 O O O O O O
 refine mV O (nS ?_);refine bv s O ?_ ?_<;>clear s<;>intro c s<;>try simp only[qa]at c
 ·refine sR (mI O (nS ?_));exact rR s O O O
 ·refine sR (ah (cg O) (ah (ct (k:=0) a9 O O (ab.g_Kind a8)) (bN du O O (mV O (nS ?_)))));refine bv s O ?_ ?_<;>clear s<;>intro c s<;>try simp only[qa]at c
  ·refine sR (ah (cg O) ?_);obtain⟨f5,e7,d7⟩:=ab.g_Cond a8;refine ah (ct (k:=0) a9 O O e7) (lD r0 O O O ?_);obtain⟨a5,a6,a3,a0,a7,a1,a4,a2,e4,b5,b7,b1,b3,b8,b4,b2,b6⟩:=r0;subst e4;refine ah (v:= .agg [vs x0.Name,a5,a6,a3,a0,a7,a1,a4,a2,nilS]) (gm (cs:=[vs x0.Name,a5,a6,a3,a0,a7,a1,a4,a2,nilS]) O O) ?_;obtain⟨c5,d1,s⟩:=bp s;have d6:=ai9 d7 (show au.t.R ({Program:=x0,Params:=([]:List av)}:au) (.agg [vs x0.Name,a5,a6,a3,a0,a7,a1,a4,a2,nilS]) from⟨a5,a6,a3,a0,a7,a1,a4,a2,nilS,O,b5,b7,b1,b3,b8,b4,b2,b6,pa⟩);rw[d1]at d6;refine cL d6 O O (aj (TR.clo (tSl ak.t) d7) (aj (TR.clo au.t (show au.t.R ({Program:=x0,Params:=([]:List av)}:au) (.agg [vs x0.Name,a5,a6,a3,a0,a7,a1,a4,a2,nilS]) from⟨a5,a6,a3,a0,a7,a1,a4,a2,nilS,O,b5,b7,b1,b3,b8,b4,b2,b6,pa⟩)) bc)) (mV O (xT O O (xT O O (mV O (mV O (nS (am (sR ?_))))))));refine mV O (bN du O O (mV O ?_));refine bw 3 (d:=40) (v:=vb ((decide (c5.2=0))&&(!decide (c5.1=1)))) ?_ ?_
   ·intro S Q r;cases d8:(decide (c5.2=0))
    ·exact gN 2 O O O O O O
    ·intro k;have c6:=d8;try simp only[qa]at c6
     refine ai O O (ba O) (ai O O (br O O ie) ?_);exact gK O O O O O k
   refine nS ?_;obtain⟨e6,d4,s⟩:=bp s;refine kp (F:=λb S Q=>∀(b0:Int),e6 b0=res->RC Tryz.prog b S Q [(9,vi b0)] c8) ?_ ?_
   ·intro b0 s;rw[<-d4]at s;refine sR (mV O (mV O (nS ?_)));exact rR s O O O
   ·intro J;refine bv s O ?_ ?_<;>clear s<;>intro c s<;>try simp only[qa]at c
    ·refine az (mI O (cd ?_));refine aq (wC (J _ s) O)
    ·refine aw ?_;refine aq (wC (J _ s) O)
  ·refine sR (ah (cg O) (ah (ct (k:=0) a9 O O (ab.g_Table a8)) (bN cn O O (mV O ?_))));refine bw 7 (d:=53) (v:=vb ((decide (((ix x1 x2).Table) < 0))||(decide ((x0.Tables.length:Int)<=((ix x1 x2).Table))))) ?_ ?_
   ·intro S Q r;cases d5:(decide (((ix x1 x2).Table) < 0))
    ·intro k;have c1:=d5;try simp only[qa]at c1
     refine ai O O (cg O) (ai O O (ct (k:=0) a9 O O (ab.g_Table a8)) ?_);obtain⟨f7,e9,b9⟩:=aa.g_Tables r0;refine ai O O (bt O e9) (ai O O (bq O (TR.cnt (tSl bz.t) b9) (TR.agg (tSl bz.t) b9)) (ai O O (co O (ca b9 Tryz.underlying26 _)) (ai O O (br O O iz) ?_)));exact gK O O O O O k
    ·exact gN 6 O O O O O O
   refine mV O (nS ?_);refine bv s O ?_ ?_<;>clear s<;>intro c s<;>try simp only[qa]at c
   ·refine sR (mI O (nS ?_));exact rR s O O O
   ·refine sR (mV O (mV O ?_));obtain⟨f4,d9,s⟩:=bp s;have d2:=dc7 (x1:=x2) r1 (by first|assumption|omega|(rw[cz Y Y];omega)|(have hk:=rval rfl (And.right (And.left OY));omega)|(have hk:=rval OY OY;omega)|(have hk:=rval OY (And.left OY);omega)|(have hk:=rval OY (And.left (And.left OY));have hz:=rslc OY;omega)|(simp;done)|(simp only[List.length_append,List.length_nil,List.length_cons];omega)|(have hk:=(cq OY OY).1;omega)|(simp only[List.length_cons,List.length_nil];omega)|(simp only[List.length_append];have hk:=(cq OY OY).1;omega)|(simp only[List.length_append,List.length_nil];have hk:=(cq OY OY).1;omega)) (by first|assumption|omega|(rw[cz Y Y];omega)|(have hk:=rval rfl (And.right (And.left OY));omega)|(have hk:=rval OY OY;omega)|(have hk:=rval OY (And.left OY);omega)|(have hk:=rval OY (And.left (And.left OY));have hz:=rslc OY;omega)|(simp;done)|(simp only[List.length_append,List.length_nil,List.length_cons];omega)|(have hk:=(cq OY OY).1;omega)|(simp only[List.length_cons,List.length_nil];omega)|(simp only[List.length_append];have hk:=(cq OY OY).1;omega)|(simp only[List.length_append,List.length_nil];have hk:=(cq OY OY).1;omega));rw[d9]at d2;refine cL d2 O O (aj (TR.clo (tSl ab.t) r1) (aj O bc)) (mV O (nS ?_));refine bv s O ?_ ?_<;>clear s<;>intro c s<;>try simp only[qa]at c
    ·refine sR (mI O (nS ?_));exact rR s O O O
    ·refine sR (ah (cg O) (ah (ct (k:=0) a9 O O (ab.g_Kind a8)) (bN du O O (mV O ?_))));refine bw 9 (d:=71) (v:=vb ((decide (((ix x1 x2).Kind)=1))&&(decide (0 < (wr ((((ix x1 x2).Then).length:Int)+(((ix x1 x2).Else).length:Int))))))) ?_ ?_
     ·intro S Q r;cases c9:(decide (((ix x1 x2).Kind)=1))
      ·exact gN 8 O O O O O O
      ·intro k;have c4:=c9;try simp only[qa]at c4
       refine ai O O (cg O) ?_;obtain⟨f6,e1,e3⟩:=ab.g_Then a8;refine ai O O (ct (k:=0) a9 O O e1) (ai O O (co O (ca e3 Tryz.underlying28 _)) (ai O O (cg O) ?_));obtain⟨f2,e5,e8⟩:=ab.g_Else a8;refine ai O O (ct (k:=0) a9 O O e5) (ai O O (co O (ca e8 Tryz.underlying28 _)) (ai O O (br O O dw) (ai O O (br O O fu) ?_)));exact gK O O O O O k
     refine mV O (nS ?_);refine bv s O ?_ ?_<;>clear s<;>intro c s<;>try simp only[qa]at c
     ·refine sR (mI O (nS ?_));exact rR s O O O
     ·refine aw (db (aq (sR (mI O (nS ?_)))));exact rR s O O O
def RF154(res:Int×Int)(r:PV):Prop:=r= .tup [vi res.1,vi res.2]
theorem ai7{S:List Fr}{res:Int×Int}{x0:aa}{b1 a6:Int}{a1:(List ab)}{v0 b2:PV}(r0:aa.t.R x0 v0)(hs:csl x0.Control<=1048576)(b6:ac1 x0.Control=b1)(a8:(decide (24 < b1))=false)(b4:xp x0.Control=a6)(b0:(decide (6 < a6))=false)(b5:vx x0.Control=a1)(a0:(tSl ab.t).R a1 b2){K1:Unit->(Int×Int)}
 (b7:K1 ()=res->PX Tryz.prog 1 S (QR Tryz.prog [(2,none),(3,none)] (RF154 res)) [] ⟨0,[]⟩):
 ∀{m:Nat}{a2:Int}(b3:m=Int.toNat ((a1.length:Int)-a2))(a5:0<=a2),qh x0 a1 K1 m a2=res->RC Tryz.prog (.loop ch7) S (QR Tryz.prog [(2,none),(3,none)] (RF154 res)) [(5,vi a2),(4,b2),(1,.fp v0)] ⟨0,[]⟩:=by
 have a3:=a8;try simp only[qa]at a3
 have a4:=b0;try simp only[qa]at a4
 intro m;induction m with
 |zero=>
  intro a2 b3 a5 s;rw[qh]at s;refine ck (am (sR (mV O (mV O (ah (co O (ca a0 Tryz.underlying28 _)) (bN cn O O (nS ?_)))))));refine ci O ?_ ?_<;>intro c<;>try simp only[qa]at c
  ·omega
  refine dg (dx (da ?_));exact wP (b7 s) O
 |succ m ih=>
  intro a2 b3 a5 s;rw[qh]at s;refine ck (am (sR (mV O (mV O (ah (co O (ca a0 Tryz.underlying28 _)) (bN cn O O (nS ?_)))))));refine ci O ?_ ?_<;>intro c<;>try simp only[qa]at c
  rotate_left
  ·omega
  refine aw (aq (am (bg (sR (lD r0 O O O (mV O (mV O ?_)))))));obtain⟨b8,a7,s⟩:=bp s;have a9:=du9 (x2:=a2) r0 a0 (by first|assumption|omega|(rw[cz Y Y];omega)|(have hk:=rval rfl (And.right (And.left OY));omega)|(have hk:=rval OY OY;omega)|(have hk:=rval OY (And.left OY);omega)|(have hk:=rval OY (And.left (And.left OY));have hz:=rslc OY;omega)|(simp;done)|(simp only[List.length_append,List.length_nil,List.length_cons];omega)|(have hk:=(cq OY OY).1;omega)|(simp only[List.length_cons,List.length_nil];omega)|(simp only[List.length_append];have hk:=(cq OY OY).1;omega)|(simp only[List.length_append,List.length_nil];have hk:=(cq OY OY).1;omega)) (by first|assumption|omega|(rw[cz Y Y];omega)|(have hk:=rval rfl (And.right (And.left OY));omega)|(have hk:=rval OY OY;omega)|(have hk:=rval OY (And.left OY);omega)|(have hk:=rval OY (And.left (And.left OY));have hz:=rslc OY;omega)|(simp;done)|(simp only[List.length_append,List.length_nil,List.length_cons];omega)|(have hk:=(cq OY OY).1;omega)|(simp only[List.length_cons,List.length_nil];omega)|(simp only[List.length_append];have hk:=(cq OY OY).1;omega)|(simp only[List.length_append,List.length_nil];have hk:=(cq OY OY).1;omega));rw[a7]at a9;refine cL a9 O O (aj (TR.clo aa.t r0) (aj (TR.clo (tSl ab.t) a0) (aj O bc))) (mV O (nR (mV O (bN ie O O (nS ?_)))));refine bv s O ?_ ?_<;>clear s<;>intro c s<;>try simp only[qa]at c
  ·refine sR (mV O (mV O (mV O (mV O (nS ?_)))));exact rT s O O O O O
  ·refine aw (db (aq (az (mV O (bN dw O O (mV O (cd (cy ?_))))))));have hbd:=dn a0;have hinc:wr (a2+1)=a2+1:=cz Y Y;erw[hinc];exact wC (ih Y Y s) O
theorem dd7{x0:aa}{v0:PV}(r0:aa.t.R x0 v0)(hs:csl x0.Control<=1048576):FnR Tryz.prog 154 [v0] (.tup [vi ((xc x0).1),vi ((xc x0).2)]):=by
 refine fnS (R:=RF154) di8 (λ_ h=>h) O λres s=>?_;unfold xc at s;refine sR (ah (di O (TR.cnt aa.t r0)) (mI O (mI O (nS (am (bg (sR ?_)))))));obtain⟨b6,b3,a8⟩:=aa.g_Control r0;refine fA O b3 (lD a8 O O O ?_);obtain⟨c4,a3,s⟩:=bp s;have b0:=cz1 a8;rw[a3]at b0;refine cL b0 O O (aj (TR.clo (tSl ab.t) a8) bc) (bN fu O O (mV O (nS ?_)));refine bv s O ?_ ?_<;>clear s<;>intro a0 s<;>have a5:=a0<;>try simp only[qa]at a5
 ·refine sR (mI O (mI O (nS ?_)));exact rT s O O O O O
 ·refine sR (gL (aa.g_Control r0) O O O λc1 b2=>?_);obtain⟨b7,a1,s⟩:=bp s;have b1:=dl0 b2;rw[a1]at b1;refine cL b1 O O (aj (TR.clo (tSl ab.t) b2) bc) (bN fu O O (mV O (nS ?_)));refine bv s O ?_ ?_<;>clear s<;>intro a4 s<;>have a7:=a4<;>try simp only[qa]at a7
  ·refine sR (mI O (mI O (nS ?_)));exact rT s O O O O O
  ·refine aw (db (aq (sR ?_)));obtain⟨b9,b4,a6⟩:=aa.g_Control r0;refine fA O b4 (lD a6 O O O ?_);obtain⟨b8,a2,s⟩:=bp s;obtain⟨c5,b5,a9⟩:=dm8 a6 (by first|assumption|omega|(rw[cz Y Y];omega)|(have hk:=rval rfl (And.right (And.left OY));omega)|(have hk:=rval OY OY;omega)|(have hk:=rval OY (And.left OY);omega)|(have hk:=rval OY (And.left (And.left OY));have hz:=rslc OY;omega)|(simp;done)|(simp only[List.length_append,List.length_nil,List.length_cons];omega)|(have hk:=(cq OY OY).1;omega)|(simp only[List.length_cons,List.length_nil];omega)|(simp only[List.length_append];have hk:=(cq OY OY).1;omega)|(simp only[List.length_append,List.length_nil];have hk:=(cq OY OY).1;omega));rw[a2]at a9;refine cL b5 O O (aj (TR.clo (tSl ab.t) a6) bc) (mV O (nS (am (sR (mI O (nS (bg ?_)))))));refine wC (ai7 r0 hs a3 a0 a1 a4 a2 a9 ?_ O Y s) O
   ·intro s;refine ek (aq (sR (mI O (mI O (nS ?_)))));exact rT s O O O O O
def RF155(res:Int×Int)(r:PV):Prop:=r= .tup [vi res.1,vi res.2]
theorem am7{S:List Fr}{res:Int×Int}{x0:aa}{a1:Int}{v0:PV}(r0:aa.t.R x0 v0)(b6:x0.Deparser.length<=1000)(a5:(decide (8 < (x0.Deparser.length:Int)))=false)(b2:0<=a1)(a7:(decide (a1 < (x0.Deparser.length:Int)))=true)(a8:((decide ((ix x0.Deparser a1) < 0))||(decide ((x0.Headers.length:Int)<=(ix x0.Deparser a1))))=false){K2:Unit->(Int×Int)}
 (b3:K2 ()=res->PX Tryz.prog 2 S (QR Tryz.prog [(2,none),(3,none)] (RF155 res)) [(1,.fp v0),(4,vi a1)] ⟨0,[]⟩):
 ∀{m:Nat}{a0:Int}(b1:m=Int.toNat (a1-a0))(a6:0<=a0),rj x0 a1 K2 m a0=res->RC Tryz.prog (.loop cp4) S (QR Tryz.prog [(2,none),(3,none)] (RF155 res)) [(5,vi a0),(4,vi a1),(1,.fp v0)] ⟨0,[]⟩:=by
 have a4:=a5;try simp only[qa]at a4
 have a3:=a7;try simp only[qa]at a3
 have a2:=a8;try simp only[qa]at a2
 intro m;induction m with
 |zero=>
  intro a0 b1 a6 s;rw[rj]at s;refine ck (am (sR (mV O (mV O (bN cn O O (nS ?_))))));refine ci O ?_ ?_<;>intro c<;>try simp only[qa]at c
  ·omega
  refine dg (dx (da ?_));exact wP (b3 s) O
 |succ m ih=>
  intro a0 b1 a6 s;rw[rj]at s;refine ck (am (sR (mV O (mV O (bN cn O O (nS ?_))))));refine ci O ?_ ?_<;>intro c<;>try simp only[qa]at c
  rotate_left
  ·omega
  refine aw (aq (am (bg (sR (gL (aa.g_Deparser r0) O O O λb4 b0=>(mV O (ah (bd O O (slI b0 Y Y)) (lR O O O ?_))))))));refine gL (aa.g_Deparser r0) O O O λb5 a9=>(mV O (ah (bd O O (slI a9 Y Y)) (lR O O O (bN du O O (nS ?_)))));refine bv s O ?_ ?_<;>clear s<;>intro c s<;>try simp only[qa]at c
  ·refine sR (mV O (mV O (mI O (nS ?_))));exact rT s O O O O O
  ·refine aw (db (aq (az (mV O (bN dw O O (mV O (cd (cy ?_))))))));have hinc:wr (a0+1)=a0+1:=cz Y Y;erw[hinc];exact wC (ih Y Y s) O
theorem ak6{S:List Fr}{res:Int×Int}{x0:aa}{v0:PV}(r0:aa.t.R x0 v0)(c4:x0.Deparser.length<=1000)(a2:(decide (8 < (x0.Deparser.length:Int)))=false){K0:Unit->(Int×Int)}
 (b9:K0 ()=res->PX Tryz.prog 0 S (QR Tryz.prog [(2,none),(3,none)] (RF155 res)) [] ⟨0,[]⟩):
 ∀{m:Nat}{a1:Int}(b7:m=Int.toNat ((x0.Deparser.length:Int)-a1))(a4:0<=a1),qm x0 K0 m a1=res->RC Tryz.prog (.loop cp0) S (QR Tryz.prog [(2,none),(3,none)] (RF155 res)) [(4,vi a1),(1,.fp v0)] ⟨0,[]⟩:=by
 have b0:=a2;try simp only[qa]at b0
 intro m;induction m with
 |zero=>
  intro a1 b7 a4 s;rw[qm]at s;refine ck (am (sR (mV O (gL (aa.g_Deparser r0) O O O λc7 b6=>(ah (co O (ca b6 Tryz.underlying29 _)) (bN cn O O (nS ?_)))))));refine ci O ?_ ?_<;>intro c<;>try simp only[qa]at c
  ·omega
  refine dg (dx (da ?_));exact wP (b9 s) O
 |succ m ih=>
  intro a1 b7 a4 s;rw[qm]at s;refine ck (am (sR (mV O (gL (aa.g_Deparser r0) O O O λb8 b1=>(ah (co O (ca b1 Tryz.underlying29 _)) (bN cn O O (nS ?_)))))));refine ci O (λa0=>?_) (λa0=>?_)
  ·have hgo:=s;have a9:=a0;try simp only[qa]at a9
   refine aw (aq (am (bg (am (sR (gL (aa.g_Deparser r0) O O O λc5 b4=>(mV O (ah (bd O O (slI b4 Y Y)) ?_))))))));refine lR O O O (bN cn O O (mV O ?_));refine bw 10 (d:=33) (v:=vb ((decide ((ix x0.Deparser a1) < 0))||(decide ((x0.Headers.length:Int)<=(ix x0.Deparser a1))))) ?_ ?_
   ·intro S Q r;cases b2:(decide ((ix x0.Deparser a1) < 0))
    ·intro k;have a5:=b2;try simp only[qa]at a5
     obtain⟨c6,b3,a7⟩:=aa.g_Deparser r0;refine ai O O (bt O b3) (ai O O (bq O (TR.cnt (tSl tI) a7) (TR.agg (tSl tI) a7)) (ai O O (ba O) (ai O O (bd O O (slI a7 Y Y)) (ai O O (bq O O O) ?_))));obtain⟨c1,b5,a8⟩:=aa.g_Headers r0;refine ai O O (bt O b5) (ai O O (bq O (TR.cnt (tSl bm.t) a8) (TR.agg (tSl bm.t) a8)) (ai O O (co O (ca a8 Tryz.underlying22 _)) (ai O O (br O O iz) ?_)));exact gK O O O O O k
    ·exact gN 9 O O O O O O
   refine nS ?_;refine bv s O ?_ ?_<;>clear s<;>intro a3 s<;>have a6:=a3<;>try simp only[qa]at a6
   ·refine sR (mV O (mV O (mI O (nS ?_))));exact rT s O O O O O
   ·refine aw (aq (sR (mI O (nS (bg ?_)))));refine wC (am7 r0 c4 a2 a4 a0 a3 ?_ O Y s) O
    ·intro s;refine ek (db (aq (az (mV O (bN dw O O (mV O (cd (cy ?_))))))));have hbd:=dn b1;have hinc:wr (a1+1)=a1+1:=cz Y Y;erw[hinc];exact wC (ih Y Y s) O
  ·exfalso;try simp only[qa]at a0
   omega
theorem de6{x0:aa}{v0:PV}(r0:aa.t.R x0 v0)(a4:x0.Deparser.length<=1000):FnR Tryz.prog 155 [v0] (.tup [vi ((xd x0).1),vi ((xd x0).2)]):=by
 refine fnS (R:=RF155) ds1 (λ_ h=>h) O λres s=>?_;unfold xd at s;refine sR (ah (di O (TR.cnt aa.t r0)) (mI O (mI O (nS (am (sR (gL (aa.g_Deparser r0) O O O λa3 a2=>(ah (co O (ca a2 Tryz.underlying29 _)) ?_))))))));refine bN fu O O (nS ?_);refine bv s O ?_ ?_<;>clear s<;>intro a0 s<;>have a1:=a0<;>try simp only[qa]at a1
 ·refine sR (mI O (mI O (nS ?_)));exact rT s O O O O O
 ·refine aw (aq (am (sR (mI O (nS (bg ?_))))));refine wC (ak6 r0 a4 a0 ?_ O Y s) O
  ·intro s;refine ek (aq (sR (mI O (mI O (nS ?_)))));exact rT s O O O O O
def RF81(res:af)(r:PV):Prop:=af.t.R res r
theorem ek6{x0:aa}{v0:PV}(r0:aa.t.R x0 v0)(tb:TLB x0)(hs:csl x0.Control<=1048576):∃r,FnR Tryz.prog 81 [v0] r/\af.t.R (ag8 x0) r:=by
 refine fnT (R:=RF81) en7 O λres s=>?_;unfold ag8 at s;refine sR (ah (di O (TR.cnt aa.t r0)) ?_);refine dv (x:= .agg [vi 0,vi 0,vi 0,vi 0]) (Mem.nil ⟨0,[]⟩) O O (λa4 a3 d8 a5=>?_);refine nR (lD r0 O O O ?_);obtain⟨a7,b5,s⟩:=bp s;have c7:=du6 r0 (by first|assumption|omega|exact tb.hh|exact tb.hm|exact tb.hr|exact tb.ha|exact tb.ht|exact tb.hs|exact tb.hd);rw[b5]at c7;refine cL c7 O O (aj (TR.clo aa.t r0) bc) (mV O (xT O O (xT O O (xT O O (mV O (mV O (mV O (nS ?_))))))));refine am (sR (mV O (bN ie O O (nS ?_))));refine bv s O ?_ ?_<;>clear s<;>intro c s<;>try simp only[qa]at c
 ·refine sR (mV O (mV O (mV O ?_)));obtain⟨d5,b6,s⟩:=bp s;obtain⟨b1,d1,a1⟩:=nw (x0:=a7.2.2) (x1:=6) (x2:=a7.1) (x3:=a7.2.1);rw[b6]at a1;refine cL d1 O O (aj O (aj O (aj O (aj O bc)))) ?_;refine cx (k:=0) (v:=b1) a5 O O O (TR.cnt af.t a1) (λd3 a9=>?_);replace a9:Mem d3 [⟨.op a4 a3 0,53,4,[b1]⟩]:=a9;refine nS ?_;subst s;exact fa (.cell O (dq (k:=0) a9 O (TR.agg af.t a1)) .nil) (cw (TR.clo af.t a1)) a1
 ·refine aw (aq (sR (lD r0 O O O ?_)));obtain⟨b8,b7,s⟩:=bp s;have c1:=dd7 r0 (by first|assumption|omega|exact tb.hh|exact tb.hm|exact tb.hr|exact tb.ha|exact tb.ht|exact tb.hs|exact tb.hd);rw[b7]at c1;refine cL c1 O O (aj (TR.clo aa.t r0) bc) (mV O (xT O O (xT O O (mV O (mV O (nS (am (sR ?_))))))));refine mV O (bN ie O O (nS ?_));refine bv s O ?_ ?_<;>clear s<;>intro c s<;>try simp only[qa]at c
  ·refine sR (mV O (mV O ?_));obtain⟨d7,c4,s⟩:=bp s;obtain⟨c5,d4,a2⟩:=nw (x0:=b8.2) (x1:=7) (x2:=b8.1) (x3:=0);rw[c4]at a2;refine cL d4 O O (aj O (aj O (aj O (aj O bc)))) ?_;refine cx (k:=0) (v:=c5) a5 O O O (TR.cnt af.t a2) (λc8 a8=>?_);replace a8:Mem c8 [⟨.op a4 a3 0,53,4,[c5]⟩]:=a8;refine nS ?_;subst s;exact fa (.cell O (dq (k:=0) a8 O (TR.agg af.t a2)) .nil) (cw (TR.clo af.t a2)) a2
  ·refine aw (aq (sR (lD r0 O O O ?_)));obtain⟨c6,b2,s⟩:=bp s;have b3:=de6 r0 (by first|assumption|omega|exact tb.hh|exact tb.hm|exact tb.hr|exact tb.ha|exact tb.ht|exact tb.hs|exact tb.hd);rw[b2]at b3;refine cL b3 O O (aj (TR.clo aa.t r0) bc) (mV O (xT O O (xT O O (mV O (mV O (nS (am (sR ?_))))))));refine mV O (bN ie O O (nS ?_));refine bv s O ?_ ?_<;>clear s<;>intro c s<;>try simp only[qa]at c
   ·refine sR (mV O (mV O ?_));obtain⟨d6,b4,s⟩:=bp s;obtain⟨b9,d2,a0⟩:=nw (x0:=c6.2) (x1:=8) (x2:=c6.1) (x3:=0);rw[b4]at a0;refine cL d2 O O (aj O (aj O (aj O (aj O bc)))) ?_;refine cx (k:=0) (v:=b9) a5 O O O (TR.cnt af.t a0) (λc9 b0=>?_);replace b0:Mem c9 [⟨.op a4 a3 0,53,4,[b9]⟩]:=b0;refine nS ?_;subst s;exact fa (.cell O (dq (k:=0) b0 O (TR.agg af.t a0)) .nil) (cw (TR.clo af.t a0)) a0
   ·refine aw (aq (sR (ah (v:= .agg [vi 0,vi 0,vi 0,vi 0]) (gm (cs:=[vi 0,vi 0,vi 0,vi 0]) O O) ?_)));refine cx (k:=0) (v:= .agg [vi 0,vi 0,vi 0,vi 0]) a5 O O O O (λd0 a6=>?_);replace a6:Mem d0 [⟨.op a4 a3 0,53,4,[.agg [vi 0,vi 0,vi 0,vi 0]]⟩]:=a6;refine nS ?_;subst s;exact fa (.cell O (dq (k:=0) a6 O O) .nil) (cw (TR.clo af.t (show af.t.R ({Code:=0,Part:=0,Item:=0,Sub:=0}:af) (.agg [vi 0,vi 0,vi 0,vi 0]) from O))) (show af.t.R ({Code:=0,Part:=0,Item:=0,Sub:=0}:af) (.agg [vi 0,vi 0,vi 0,vi 0]) from O)
def RF20(res:af)(r:PV):Prop:=af.t.R res r
theorem es8{x0:aa}{v0:PV}(r0:aa.t.R x0 v0)(tb:TLB x0)(hs:csl x0.Control<=1048576):∃r,FnR Tryz.prog 20 [v0] r/\af.t.R (lk x0) r:=by
 refine fnT (R:=RF20) ef3 O λres s=>?_;unfold lk at s;refine sR (ah (di O (TR.cnt aa.t r0)) ?_);refine dv (x:= .agg [vi 0,vi 0,vi 0,vi 0]) (Mem.nil ⟨0,[]⟩) O O (λa2 a5 k5 i7=>?_);refine nR (lD r0 O O O ?_);obtain⟨h1,g6,s⟩:=bp s;obtain⟨e5,k3,d8⟩:=ef4 r0;rw[g6]at d8;refine cL k3 O O (aj (TR.clo aa.t r0) bc) ?_;refine dv (x:= .agg [vi 0,vi 0,vi 0,vi 0]) i7 O O (λa7 b0 k4 j8=>?_);refine cx (k:=0) (v:=e5) j8 O O O (TR.cnt af.t d8) (λi8 d5=>?_);replace d5:Mem i8 [⟨.op a7 b0 0,53,4,[e5]⟩,⟨.op a2 a5 0,53,4,[.agg [vi 0,vi 0,vi 0,vi 0]]⟩]:=d5;refine nS (am (sR (ah (cg O) (ah (ct (k:=0) d5 O O (af.g_Code d8)) (bN du O O (nS ?_))))));obtain⟨j3,f9,s⟩:=bp s;refine kp (F:=λb S Q=>∀(a4:af)(b3:PV)(b9:af.t.R a4 b3)(d1:Heap)(c8:Mem d1 [⟨.op a7 b0 0,53,4,[b3]⟩,⟨.op a2 a5 0,53,4,[.agg [vi 0,vi 0,vi 0,vi 0]]⟩]),j3 a4=res->RC Tryz.prog b S Q [(3,.op a7 b0 0),(2,.op a2 a5 0),(1,.fp v0)] d1) ?_ ?_
 ·intro a4 b3 b9 d1 c8 s;rw[<-f9]at s;refine am (sR (ah (cg O) (ah (ct (k:=0) c8 O O (af.g_Code b9)) (bN du O O (nS ?_)))));obtain⟨i3,g7,s⟩:=bp s;refine kp (F:=λb S Q=>∀(a9:af)(b2:PV)(b7:af.t.R a9 b2)(d7:Heap)(c5:Mem d7 [⟨.op a7 b0 0,53,4,[b2]⟩,⟨.op a2 a5 0,53,4,[.agg [vi 0,vi 0,vi 0,vi 0]]⟩]),i3 a9=res->RC Tryz.prog b S Q [(3,.op a7 b0 0),(2,.op a2 a5 0),(1,.fp v0)] d7) ?_ ?_
  ·intro a9 b2 b7 d7 c5 s;rw[<-g7]at s;refine am (sR (ah (cg O) (ah (ct (k:=0) c5 O O (af.g_Code b7)) (bN du O O (nS ?_)))));obtain⟨i1,g1,s⟩:=bp s;refine kp (F:=λb S Q=>∀(a8:af)(b5:PV)(b6:af.t.R a8 b5)(d0:Heap)(c9:Mem d0 [⟨.op a7 b0 0,53,4,[b5]⟩,⟨.op a2 a5 0,53,4,[.agg [vi 0,vi 0,vi 0,vi 0]]⟩]),i1 a8=res->RC Tryz.prog b S Q [(3,.op a7 b0 0),(2,.op a2 a5 0),(1,.fp v0)] d0) ?_ ?_
   ·intro a8 b5 b6 d0 c9 s;rw[<-g1]at s;refine am (sR (ah (cg O) (ah (ct (k:=0) c9 O O (af.g_Code b6)) (bN du O O (nS ?_)))));obtain⟨i5,h0,s⟩:=bp s;refine kp (F:=λb S Q=>∀(a3:af)(b4:PV)(b8:af.t.R a3 b4)(d2:Heap)(c6:Mem d2 [⟨.op a7 b0 0,53,4,[b4]⟩,⟨.op a2 a5 0,53,4,[.agg [vi 0,vi 0,vi 0,vi 0]]⟩]),i5 a3=res->RC Tryz.prog b S Q [(3,.op a7 b0 0),(2,.op a2 a5 0),(1,.fp v0)] d2) ?_ ?_
    ·intro a3 b4 b8 d2 c6 s;rw[<-h0]at s;refine am (sR (ah (cg O) (ah (ct (k:=0) c6 O O (af.g_Code b8)) (bN du O O (nS ?_)))));obtain⟨j6,g4,s⟩:=bp s;refine kp (F:=λb S Q=>∀(a6:af)(b1:PV)(c4:af.t.R a6 b1)(d6:Heap)(c7:Mem d6 [⟨.op a7 b0 0,53,4,[b1]⟩,⟨.op a2 a5 0,53,4,[.agg [vi 0,vi 0,vi 0,vi 0]]⟩]),j6 a6=res->RC Tryz.prog b S Q [(3,.op a7 b0 0),(2,.op a2 a5 0),(1,.fp v0)] d6) ?_ ?_
     ·intro a6 b1 c4 d6 c7 s;rw[<-g4]at s;refine am (sR (ah (cg O) (ah (ct (k:=0) c7 O O (af.g_Code c4)) (bN du O O (nS ?_)))));obtain⟨i0,g8,s⟩:=bp s;refine kp (F:=λb S Q=>∀(c1:af)(a0:PV)(a1:af.t.R c1 a0)(d3:Heap)(d4:Mem d3 [⟨.op a7 b0 0,53,4,[a0]⟩,⟨.op a2 a5 0,53,4,[.agg [vi 0,vi 0,vi 0,vi 0]]⟩]),i0 c1=res->RC Tryz.prog b S Q [(3,.op a7 b0 0),(2,.op a2 a5 0)] d3) ?_ ?_
      ·intro c1 a0 a1 d3 d4 s;rw[<-g8]at s;refine sR (ah (gx (k:=0) d4 O O (TR.agg af.t a1)) ?_);refine cx (k:=1) (v:=a0) d4 O O O (TR.cnt af.t a1) (λj4 f5=>?_);replace f5:Mem j4 [⟨.op a7 b0 0,53,4,[a0]⟩,⟨.op a2 a5 0,53,4,[a0]⟩]:=f5;refine nS ?_;subst s;exact fa (.cell O (dq (k:=1) f5 O (TR.agg af.t a1)) .nil) (cw (TR.clo af.t a1)) a1
      ·intro J;refine bv s O ?_ ?_<;>clear s<;>intro c s<;>try simp only[qa]at c
       ·refine az (lD r0 O O O ?_);obtain⟨h5,h4,s⟩:=bp s;obtain⟨e9,h9,e3⟩:=ek6 r0 (by first|assumption|omega|exact tb.hh|exact tb.hm|exact tb.hr|exact tb.ha|exact tb.ht|exact tb.hs|exact tb.hd) (by first|assumption|omega|exact tb.hh|exact tb.hm|exact tb.hr|exact tb.ha|exact tb.ht|exact tb.hs|exact tb.hd);rw[h4]at e3;refine cL h9 O O (aj (TR.clo aa.t r0) bc) ?_;refine cx (k:=0) (v:=e9) c7 O O O (TR.cnt af.t e3) (λi4 e7=>?_);replace e7:Mem i4 [⟨.op a7 b0 0,53,4,[e9]⟩,⟨.op a2 a5 0,53,4,[.agg [vi 0,vi 0,vi 0,vi 0]]⟩]:=e7;refine cd ?_;refine aq (wC (J h5 _ (show af.t.R h5 e9 from e3) _ (Mem.sub e7 (.cons_cons _ (.cons_cons _ .slnil))) s) O)
       ·refine aw ?_;refine aq (wC (J a6 _ (show af.t.R a6 b1 from c4) _ (Mem.sub c7 (.cons_cons _ (.cons_cons _ .slnil))) s) O)
     ·intro J;refine bv s O ?_ ?_<;>clear s<;>intro c s<;>try simp only[qa]at c
      ·refine az (lD r0 O O O ?_);obtain⟨h7,h2,s⟩:=bp s;obtain⟨d9,j2,e4⟩:=el8 r0 (by first|assumption|omega|exact tb.hh|exact tb.hm|exact tb.hr|exact tb.ha|exact tb.ht|exact tb.hs|exact tb.hd);rw[h2]at e4;refine cL j2 O O (aj (TR.clo aa.t r0) bc) ?_;refine cx (k:=0) (v:=d9) c6 O O O (TR.cnt af.t e4) (λj0 e0=>?_);replace e0:Mem j0 [⟨.op a7 b0 0,53,4,[d9]⟩,⟨.op a2 a5 0,53,4,[.agg [vi 0,vi 0,vi 0,vi 0]]⟩]:=e0;refine cd ?_;refine aq (wC (J h7 _ (show af.t.R h7 d9 from e4) _ (Mem.sub e0 (.cons_cons _ (.cons_cons _ .slnil))) s) O)
      ·refine aw ?_;refine aq (wC (J a3 _ (show af.t.R a3 b4 from b8) _ (Mem.sub c6 (.cons_cons _ (.cons_cons _ .slnil))) s) O)
    ·intro J;refine bv s O ?_ ?_<;>clear s<;>intro c s<;>try simp only[qa]at c
     ·refine az (lD r0 O O O ?_);obtain⟨g9,g2,s⟩:=bp s;obtain⟨f6,j5,f4⟩:=ef6 r0 (by first|assumption|omega|exact tb.hh|exact tb.hm|exact tb.hr|exact tb.ha|exact tb.ht|exact tb.hs|exact tb.hd);rw[g2]at f4;refine cL j5 O O (aj (TR.clo aa.t r0) bc) ?_;refine cx (k:=0) (v:=f6) c9 O O O (TR.cnt af.t f4) (λj1 f3=>?_);replace f3:Mem j1 [⟨.op a7 b0 0,53,4,[f6]⟩,⟨.op a2 a5 0,53,4,[.agg [vi 0,vi 0,vi 0,vi 0]]⟩]:=f3;refine cd ?_;refine aq (wC (J g9 _ (show af.t.R g9 f6 from f4) _ (Mem.sub f3 (.cons_cons _ (.cons_cons _ .slnil))) s) O)
     ·refine aw ?_;refine aq (wC (J a8 _ (show af.t.R a8 b5 from b6) _ (Mem.sub c9 (.cons_cons _ (.cons_cons _ .slnil))) s) O)
   ·intro J;refine bv s O ?_ ?_<;>clear s<;>intro c s<;>try simp only[qa]at c
    ·refine az (lD r0 O O O ?_);obtain⟨h6,g3,s⟩:=bp s;obtain⟨f1,k0,e6⟩:=eo2 r0 (by first|assumption|omega|exact tb.hh|exact tb.hm|exact tb.hr|exact tb.ha|exact tb.ht|exact tb.hs|exact tb.hd);rw[g3]at e6;refine cL k0 O O (aj (TR.clo aa.t r0) bc) ?_;refine cx (k:=0) (v:=f1) c5 O O O (TR.cnt af.t e6) (λj9 f2=>?_);replace f2:Mem j9 [⟨.op a7 b0 0,53,4,[f1]⟩,⟨.op a2 a5 0,53,4,[.agg [vi 0,vi 0,vi 0,vi 0]]⟩]:=f2;refine cd ?_;refine aq (wC (J h6 _ (show af.t.R h6 f1 from e6) _ (Mem.sub f2 (.cons_cons _ (.cons_cons _ .slnil))) s) O)
    ·refine aw ?_;refine aq (wC (J a9 _ (show af.t.R a9 b2 from b7) _ (Mem.sub c5 (.cons_cons _ (.cons_cons _ .slnil))) s) O)
  ·intro J;refine bv s O ?_ ?_<;>clear s<;>intro c s<;>try simp only[qa]at c
   ·refine az (lD r0 O O O ?_);obtain⟨g5,h8,s⟩:=bp s;obtain⟨e2,j7,f7⟩:=ei6 r0 (by first|assumption|omega|exact tb.hh|exact tb.hm|exact tb.hr|exact tb.ha|exact tb.ht|exact tb.hs|exact tb.hd);rw[h8]at f7;refine cL j7 O O (aj (TR.clo aa.t r0) bc) ?_;refine cx (k:=0) (v:=e2) c8 O O O (TR.cnt af.t f7) (λi6 f0=>?_);replace f0:Mem i6 [⟨.op a7 b0 0,53,4,[e2]⟩,⟨.op a2 a5 0,53,4,[.agg [vi 0,vi 0,vi 0,vi 0]]⟩]:=f0;refine cd ?_;refine aq (wC (J g5 _ (show af.t.R g5 e2 from f7) _ (Mem.sub f0 (.cons_cons _ (.cons_cons _ .slnil))) s) O)
   ·refine aw ?_;refine aq (wC (J a4 _ (show af.t.R a4 b3 from b9) _ (Mem.sub c8 (.cons_cons _ (.cons_cons _ .slnil))) s) O)
 ·intro J;refine bv s O ?_ ?_<;>clear s<;>intro c s<;>try simp only[qa]at c
  ·refine az (lD r0 O O O ?_);obtain⟨g0,h3,s⟩:=bp s;obtain⟨e8,i2,e1⟩:=ej7 r0 (by first|assumption|omega|exact tb.hh|exact tb.hm|exact tb.hr|exact tb.ha|exact tb.ht|exact tb.hs|exact tb.hd);rw[h3]at e1;refine cL i2 O O (aj (TR.clo aa.t r0) bc) ?_;refine cx (k:=0) (v:=e8) d5 O O O (TR.cnt af.t e1) (λi9 f8=>?_);replace f8:Mem i9 [⟨.op a7 b0 0,53,4,[e8]⟩,⟨.op a2 a5 0,53,4,[.agg [vi 0,vi 0,vi 0,vi 0]]⟩]:=f8;refine cd ?_;refine aq (wC (J g0 _ (show af.t.R g0 e8 from e1) _ (Mem.sub f8 (.cons_cons _ (.cons_cons _ .slnil))) s) O)
  ·refine aw ?_;refine aq (wC (J h1 _ (show af.t.R h1 e5 from d8) _ (Mem.sub d5 (.cons_cons _ (.cons_cons _ .slnil))) s) O)
end Go.Proofs.YtmonnlkagniolaaGreat
