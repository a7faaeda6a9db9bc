/-
 The code of each function does what its plain program says.
-/
import Derived.Test.YtmonnlkagniolaaGreatL12W0
set_option linter.unusedVariables false
set_option linter.unusedSimpArgs false
set_option maxRecDepth 100000
namespace Go.Proofs.YtmonnlkagniolaaGreat
open Go Go.Pb Go.RowKit
def RF194(res:Int)(r:PV):Prop:=r=vi res
theorem do6{x0:List ae}{v0:PV}(r0:(tSl ae.t).R x0 v0):FnR Tryz.prog 194 [v0] (vi (wm x0)):=by
 refine fnS (R:=RF194) cy3 (λ_ h=>h) O λres z=>?_;unfold wm at z;refine sR (mI O (nR ?_));refine dz (x:=vi 0) (Mem.nil ⟨0,[]⟩) O O (λa1 a0 b5 b1=>?_);refine dm (k:=0) (v:=vi 0) b1 O O O O (λa3 a4=>?_);replace a4:Mem a3 [⟨.op a1 a0 0,3,1,[vi 0]⟩]:=a4;refine nS (am (fc (bw (mV O (bz (bw (ah (v:= .fn (.func 232) [] [.op a1 a0 0]) (sn O O) (bz ?_))))))));have b0:Mem a3 [⟨.op a1 a0 0,3,1,[vi 0]⟩]:=(Mem.front (k:=0) a4 O);obtain⟨a5,a6,z⟩:=br z;obtain⟨b2,b4,a7,a9,a2⟩:∃h2 L2,FnX Tryz.prog 196 [v0,.fn (.func 232) [] [.op a1 a0 0]] a3 (vb a5.1) h2/\ME232 a1 a0 0 a5.2 L2/\Mem h2 (L2++[]):=by
  rw[<-a6];exact av0 (dc1 a1 a0) (er2) _ _ (Nat.lt_succ_self _) (by exactλ_ _=>trivial) 0 _ 0 [⟨.op a1 a0 0,3,1,[vi 0]⟩] [] _ r0 (show ME232 a1 a0 (csl x0+0) 0 [⟨.op a1 a0 0,3,1,[vi 0]⟩] from⟨O,by trivial⟩) b0
 obtain⟨a8,b3⟩:=a9;subst a8;replace a2:Mem b2 [⟨.op a1 a0 0,3,1,[vi a5.2]⟩]:=a2;refine bl8 O O a7 (ja (aq (sR (ah (gq (k:=0) a2 O O O) (mV O (nS ?_))))));exact rR z O O O
def RF195(res:Int)(r:PV):Prop:=r=vi res
theorem ye{S:List Fr}{res:Int}{x0:List ae}{rec_:(List ae)->Int}{mu_:Nat}{v0:PV}(r0:(tSl ae.t).R x0 v0)(ihR:∀{z0:List ae}{c5:PV}(d3:(tSl ae.t).R z0 c5),csl z0 < mu_->FnR Tryz.prog 195 [c5] (vi (rec_ z0)))(hmu:mu_=csl x0)(a6:(decide ((x0.length:Int)=0))=false){K0:Int->Int}
 (d1:∀{a4:Int}{h:Heap}(M0:Mem h []),K0 a4=res->PX Tryz.prog 0 S (QR Tryz.prog [(2,none)] (RF195 res)) [(3,vi a4)] h):
 ∀{m:Nat}{a4 a0:Int}(c6:m=Int.toNat ((x0.length:Int)-a0))(b0:0<=a0){h:Heap}(M0:Mem h []),pn x0 rec_ K0 m a4 a0=res->RC Tryz.prog (.loop cf9) S (QR Tryz.prog [(2,none)] (RF195 res)) [(11,vi a0),(10,vi (x0.length:Int)),(9,v0),(3,vi a4)] h:=by
 have a3:=a6;try simp only[qa]at a3
 intro m;induction m with
 |zero=>
  intro a4 a0 c6 b0 h M0 z;rw[pn]at z;refine cg (sR (bN cx O O (nS (am ?_))));refine bv O ?_ ?_<;>intro c<;>try simp only[qa]at c
  ·omega
  refine dl (ee (dh ?_));exact wP (d1 (Mem.sub M0 .slnil) z) O
 |succ m ih=>
  intro a4 a0 c6 b0 h M0 z;rw[pn]at z;refine cg (sR (bN cx O O (nS (am ?_))));refine bv O ?_ ?_<;>intro c<;>try simp only[qa]at c
  rotate_left
  ·omega
  refine bc (aq (am (bm (sR ?_))));obtain⟨b2,b9,a2⟩:=dn (i:=a0) r0 V V;refine ah (bn O O b9) (lD a2 O O O ?_);refine dz (x:= .agg [vi 0,vi 0,nilS,nilS,nilS]) M0 O O (λb5 c4 c7 b7=>?_);refine dm (k:=0) (v:=b2) b7 O O O (TR.cnt ae.t a2) (λb4 a1=>?_);replace a1:Mem b4 [⟨.op b5 c4 0,180,5,[b2]⟩]:=a1;refine nS (ax (mV O (ah (bh O) ?_)));obtain⟨c9,b6,a8⟩:=ae.g_Then a2;refine ah (ci (k:=0) a1 O O b6) ?_;obtain⟨d0,a9,z⟩:=br z;have b1:=ihR (z0:=(ix x0 a0).Then) a8 (by(have hk:=kt (l:=x0) V V;omega));rw[a9]at b1;refine cL b1 O O (ak (TR.clo (tSl ae.t) a8) bp) (ah (bh O) ?_);obtain⟨c8,b8,a7⟩:=ae.g_Else a2;refine ah (ci (k:=0) a1 O O b8) ?_;obtain⟨d2,b3,z⟩:=br z;have a5:=ihR (z0:=(ix x0 a0).Else) a7 (by(have hk:=kt (l:=x0) V V;omega));rw[b3]at a5;refine cL a5 O O (ak (TR.clo (tSl ae.t) a7) bp) (ah (da O (ck0 _ _)) (mV O (bq (de (aq (ax (bN dt O O (mV O ?_))))))));refine bq (cy ?_);have s:=df r0;have o:wr (a0+1)=a0+1:=db V V;erw[o];exact wC (ih V V (Mem.sub a1 (.cons _ .slnil)) z) O
theorem ce4{rec_:(List ae)->Int}{mu_:Nat}{x0:List ae}{v0:PV}(r0:(tSl ae.t).R x0 v0)(hmu:mu_=csl x0)(ihR:∀{z0:List ae}{a3:PV}(a6:(tSl ae.t).R z0 a3),csl z0 < mu_->FnR Tryz.prog 195 [a3] (vi (rec_ z0))):FnR Tryz.prog 195 [v0] (vi (rj rec_ x0)):=by
 refine fnS (R:=RF195) do9 (λ_ h=>h) O λres z=>?_;unfold rj at z;refine sR (mI O (nS (am (sR (mV O (ah (da O (co r0 Tryz.underlying28 _)) (bN dy O O (nS ?_))))))));refine ck z O ?_ ?_<;>clear z<;>intro a0 z<;>have a1:=a0<;>try simp only[qa]at a1
 ·refine sR (mI O (nS ?_));exact rR z O O O
 ·refine bc (aq (sR (mI O (nS (am (sR (mV O (ah (da O (co r0 Tryz.underlying28 _)) ?_))))))));refine mI O (nS (bm ?_));refine wC (ye r0 ihR hmu a0 ?_ O V (Mem.sub (Mem.nil ⟨0,[]⟩) .slnil) z) O
  ·intro a2 a4 a5 z;refine em (aq (sR (mV O (bN dt O O (mV O (nS ?_))))));exact rR z O O O
theorem ck2:∀(n_:Nat){x0:List ae}{v0:PV}(r0:(tSl ae.t).R x0 v0),csl x0 < n_->FnR Tryz.prog 195 [v0] (vi (oi n_ x0)):=by
 intro n_;induction n_ with
 |zero=>intros;rename_i hlt;exact absurd hlt (Nat.not_lt_zero _)
 |succ n_ ihn=>
  intro x0 v0 r0 hlt;have e_:oi (n_+1) x0=rj (oi n_) x0:=by rw[oi]
  rw[e_];exact ce4 r0 O (λ{z0}{zv0} zr0 hz=>ihn zr0 V)
theorem df6{x0:List ae}{v0:PV}(r0:(tSl ae.t).R x0 v0):FnR Tryz.prog 195 [v0] (vi (yd x0)):=ck2 _ r0 (Nat.lt_succ_self _)
def RF267(res:Int)(r:PV):Prop:=r=vi res
theorem bc7{x0:Int}:FnR Tryz.prog 267 [vi x0] (vi (fg x0)):=by
 refine fnS (R:=RF267) dl8 (λ_ h=>h) O λres z=>?_;unfold fg at z;refine sR (mI O (nS (am (sR (mV O (nS (bm (am ?_))))))));refine sR (bN dy O O (mV O (nS ?_)));obtain⟨a7,a4,z⟩:=br z;refine ni (F:=λb S Q=>∀(a2:Bool),a7 a2=res->RC Tryz.prog b S Q [(4,vb a2),(3,vi x0)] ⟨0,[]⟩) ?_ ?_
 ·intro a2 z;rw[<-a4]at z;refine ck z O ?_ ?_<;>clear z<;>intro c z<;>try simp only[qa]at c
  ·refine sR (mI O (nS ?_));exact rR z O O O
  ·refine am (sR (bN dy O O (mV O (nS ?_))));obtain⟨a6,a5,z⟩:=br z;refine ni (F:=λb S Q=>∀(a1:Bool),a6 a1=res->RC Tryz.prog b S Q [(9,vb a1),(3,vi x0)] ⟨0,[]⟩) ?_ ?_
   ·intro a1 z;rw[<-a5]at z;refine ck z O ?_ ?_<;>clear z<;>intro c z<;>try simp only[qa]at c
    ·refine sR (mI O (nS ?_));exact rR z O O O
    ·refine am (sR (bN dy O O (mV O (nS ?_))));obtain⟨a8,a3,z⟩:=br z;refine ni (F:=λb S Q=>∀(a0:Bool),a8 a0=res->RC Tryz.prog b S Q [(14,vb a0),(3,vi x0)] ⟨0,[]⟩) ?_ ?_
     ·intro a0 z;rw[<-a3]at z;refine ck z O ?_ ?_<;>clear z<;>intro c z<;>try simp only[qa]at c
      ·refine sR (mI O (nS ?_));exact rR z O O O
      ·refine sR (bN dy O O (mV O (nS ?_)));refine ck z O ?_ ?_<;>clear z<;>intro c z<;>try simp only[qa]at c
       ·refine sR (mI O (nS ?_));exact rR z O O O
       ·refine bc (de (aq (sR (mI O (nS ?_)))));exact rR z O O O
     ·intro J;refine ck z O ?_ ?_<;>clear z<;>intro c z<;>try simp only[qa]at c
      ·refine bc ?_;refine aq (wC (J _ z) O)
      ·refine sR (bN dy O O (mV O (nS ?_)));refine ck z O ?_ ?_<;>clear z<;>intro c z<;>try simp only[qa]at c
       ·refine bc ?_;refine aq (wC (J _ z) O)
       ·refine sR (bN dy O O (mV O (nS ?_)));refine ck z O ?_ ?_<;>clear z<;>intro c z<;>try simp only[qa]at c
        ·refine bc ?_;refine aq (wC (J _ z) O)
        ·refine sR (bN dy O O (mV O (nS ?_)));refine ck z O ?_ ?_<;>clear z<;>intro c z<;>try simp only[qa]at c
         ·refine bc ?_;refine aq (wC (J _ z) O)
         ·refine sR (bN dy O O (mV O (nS ?_)));refine ck z O ?_ ?_<;>clear z<;>intro c z<;>try simp only[qa]at c
          ·refine bc ?_;refine aq (wC (J _ z) O)
          ·refine sR (bN dy O O (mV O (nS ?_)));refine ck z O ?_ ?_<;>clear z<;>intro c z<;>try simp only[qa]at c
           ·refine bc ?_;refine aq (wC (J _ z) O)
           ·refine sR (bN dy O O (mV O (nS ?_)));refine ck z O ?_ ?_<;>clear z<;>intro c z<;>try simp only[qa]at c
            ·refine bc ?_;refine aq (wC (J _ z) O)
            ·refine ax (bN dy O O (mV O (bq ?_)));refine aq (wC (J _ z) O)
   ·intro J;refine ck z O ?_ ?_<;>clear z<;>intro c z<;>try simp only[qa]at c
    ·refine bc ?_;refine aq (wC (J _ z) O)
    ·refine sR (bN dy O O (mV O (nS ?_)));refine ck z O ?_ ?_<;>clear z<;>intro c z<;>try simp only[qa]at c
     ·refine bc ?_;refine aq (wC (J _ z) O)
     ·refine sR (bN dy O O (mV O (nS ?_)));refine ck z O ?_ ?_<;>clear z<;>intro c z<;>try simp only[qa]at c
      ·refine bc ?_;refine aq (wC (J _ z) O)
      ·refine ax (bN dy O O (mV O (bq ?_)));refine aq (wC (J _ z) O)
 ·intro J;refine ck z O ?_ ?_<;>clear z<;>intro c z<;>try simp only[qa]at c
  ·refine bc ?_;refine aq (wC (J _ z) O)
  ·refine sR (bN dy O O (mV O (nS ?_)));refine ck z O ?_ ?_<;>clear z<;>intro c z<;>try simp only[qa]at c
   ·refine bc ?_;refine aq (wC (J _ z) O)
   ·refine sR (bN dy O O (mV O (nS ?_)));refine ck z O ?_ ?_<;>clear z<;>intro c z<;>try simp only[qa]at c
    ·refine bc ?_;refine aq (wC (J _ z) O)
    ·refine ax (bN dy O O (mV O (bq ?_)));refine aq (wC (J _ z) O)
def RF287(res:Int×Int)(r:PV):Prop:=r= .tup [vi res.1,vi res.2]
theorem aj5{x0:Int}:FnR Tryz.prog 287 [vi x0] (.tup [vi ((pz x0).1),vi ((pz x0).2)]):=by
 refine fnS (R:=RF287) de4 (λ_ h=>h) O λres z=>?_;unfold pz at z;refine sR (mI O (mI O (nS (am (sR (mV O (bN cx O O (mV O ?_))))))));refine cq 3 (d:=9) (v:=vb ((decide (x0 < 1))||(decide (32 < x0)))) ?_ ?_
 ·intro S Q r;cases a1:(decide (x0 < 1))
  ·intro k;have a0:=a1;try simp only[qa]at a0
   refine aj O O (ba O) (aj O O (ct O O kh) ?_);exact gK O O O O O k
  ·exact gN 2 O O O O O O
 refine nS ?_;refine ck z O ?_ ?_<;>clear z<;>intro c z<;>try simp only[qa]at c
 ·refine sR (mI O (mI O (nS ?_)));exact rT z O O O O O
 ·refine bc (aq (sR (mV O (mV O (mI O (nS ?_))))));exact rT z O O O O O
def RF181(res:Bool)(r:PV):Prop:=r=vb res
theorem ac8{S:List Fr}{res:Bool}{x0:List Int}{v0:PV}(r0:(tSl tI).R x0 v0){K0:Unit->Bool}
 (a5:K0 ()=res->PX Tryz.prog 0 S (QR Tryz.prog [(2,none)] (RF181 res)) [] ⟨0,[]⟩):
 ∀{m:Nat}{a0:Int}(a4:m=Int.toNat ((x0.length:Int)-a0))(a3:0<=a0),ov x0 K0 m a0=res->RC Tryz.prog (.loop ce1) S (QR Tryz.prog [(2,none)] (RF181 res)) [(7,vi a0),(6,vi (x0.length:Int)),(5,v0)] ⟨0,[]⟩:=by
 intro m;induction m with
 |zero=>
  intro a0 a4 a3 z;rw[ov]at z;refine cg (sR (bN cx O O (nS (am ?_))));refine bv O ?_ ?_<;>intro c<;>try simp only[qa]at c
  ·omega
  refine dl (ee (dh ?_));exact wP (a5 z) O
 |succ m ih=>
  intro a0 a4 a3 z;rw[ov]at z;refine cg (sR (bN cx O O (nS (am ?_))));refine bv O ?_ ?_<;>intro c<;>try simp only[qa]at c
  rotate_left
  ·omega
  refine bc (aq (am (bm (sR (ah (bn O O (slI r0 V V)) (lR O O O (mV O (nR ?_))))))));refine mV O (bN cx O O (mV O ?_));refine cq 3 (d:=16) (v:=vb ((decide ((ix x0 a0) < 1))||(decide (32 < (ix x0 a0))))) ?_ ?_
  ·intro S Q r;cases a2:(decide ((ix x0 a0) < 1))
   ·intro k;have a1:=a2;try simp only[qa]at a1
    refine aj O O (ba O) (aj O O (ct O O kh) ?_);exact gK O O O O O k
   ·exact gN 2 O O O O O O
  refine nS ?_;refine ck z O ?_ ?_<;>clear z<;>intro c z<;>try simp only[qa]at c
  ·refine sR (mB O (nS ?_));exact rR z O O O
  ·refine bc (de (aq (ax (bN dt O O (mV O (bq (cy ?_)))))));have s:=df r0;have o:wr (a0+1)=a0+1:=db V V;erw[o];exact wC (ih V V z) O
theorem dg0{x0:List Int}{v0:PV}(r0:(tSl tI).R x0 v0):FnR Tryz.prog 181 [v0] (vb (rt x0)):=by
 refine fnS (R:=RF181) dn8 (λ_ h=>h) O λres z=>?_;unfold rt at z;refine sR (mB O (nS (am (sR (mV O (ah (da O (co r0 Tryz.underlying29 _)) (mI O (nS ?_))))))));refine bm ?_;refine wC (ac8 r0 ?_ O V z) O
 ·intro z;refine em (aq (sR (mB O (nS ?_))));exact rR z O O O
def RF182(res:(BitVec 32))(r:PV):Prop:=r=wy res
theorem db6{x0:Int}:FnR Tryz.prog 182 [vi x0] (wy (qe x0)):=by
 refine fnS (R:=RF182) dc8 (λ_ h=>h) O λres z=>?_;unfold qe at z;refine sR (ah (v:=wy 0#32) (ba O) (nS (am (sR (mV O (ah (v:= .fs true [vi x0]) (fk O (all_cons O iy)) ?_))))));have a1:(tSl tI).R ([x0]:List Int) (.fs true [vi x0]):=pt ⟨O,trivial⟩ OZ;obtain⟨a3,a2,z⟩:=br z;have a0:=dg0 a1;rw[a2]at a0;refine cL a0 O O (ak (TR.clo (tSl tI) a1) bp) (ah (ku O) (nS ?_));refine ck z O ?_ ?_<;>clear z<;>intro c z<;>try simp only[qa]at c
 ·refine sR (ah (v:=wy 0#32) (ba O) (nS ?_));exact rR z O O O
 ·refine bc (aq (sR (mV O (bN vm O O (ah (ct (a:=wy 4294967295#32) (b:=vi (wr (32-x0))) O O (em9 (by first|omega|exact cs7 OY OY))) (mV O (nS ?_)))))));exact rR z O O O
def RF288(res:bg×Bool)(r:PV):Prop:=∃c0,r= .tup [c0,vb res.2]/\bg.t.R res.1 c0
theorem cv4{x0:bf}{x1 x2:Int}{v0:PV}(r0:bf.t.R x0 v0):∃c0,FnR Tryz.prog 288 [v0,vi x1,vi x2] (.tup [c0,vb ((na x0 x1 x2).2)])/\bg.t.R (na x0 x1 x2).1 c0:=by
 obtain⟨res,z⟩:∃res,na x0 x1 x2=res:=⟨_,O⟩;suffices H:RC Tryz.prog ds1 [] (QR Tryz.prog [(6,some (2,true)),(7,none)] (RF288 res)) (argE 0 [v0,vi x1,vi x2]) ⟨0,[]⟩ by
  rw[z];obtain⟨r,h1,c0,rfl,e2⟩:=fnE dk7 OZ H;exact⟨c0,h1,e2⟩
 unfold na at z;refine sR (ah (ej O (TR.cnt bf.t r0)) ?_);refine dz (x:= .agg [vs [],vi 0]) (Mem.nil ⟨0,[]⟩) O O (λa7 a6 e7 b0=>?_);refine mB O (nR ?_);obtain⟨e9,b9,c9⟩:=bf.g_Program r0;refine fA O b9 (gL (af.g_Metadata c9) O O O λe6 d0=>(mV O (nS (am (sR (mV O (bN (kx (b:= -1)) O O (nS ?_))))))));obtain⟨d1,b7,z⟩:=br z;refine ni (F:=λb S Q=>∀(a0:List bg)(a1:PV)(a2:(tSl bg.t).R a0 a1)(a4:Heap)(a5:Mem a4 [⟨.op a7 a6 0,166,2,[.agg [vs [],vi 0]]⟩]),d1 a0=res->RC Tryz.prog b S Q [(8,a1),(6,.op a7 a6 0),(2,vi x2)] a4) ?_ ?_
 ·intro a0 a1 a2 a4 a5 z;rw[<-b7]at z;refine am (sR (mV O (bN cx O O (mV O ?_))));refine cq 5 (d:=39) (v:=vb ((decide (x2 < 0))||(decide ((a0.length:Int)<=x2)))) ?_ ?_
  ·intro S Q r;cases b6:(decide (x2 < 0))
   ·intro k;have a9:=b6;try simp only[qa]at a9
    refine aj O O (ba O) (aj O O (ba O) (aj O O (da O (co a2 Tryz.underlying23 _)) (aj O O (ct O O lh) ?_)));exact gK O O O O O k
   ·exact gN 4 O O O O O O
  refine nS ?_;refine ck z O ?_ ?_<;>clear z<;>intro c z<;>try simp only[qa]at c
  ·refine sR (ah (v:= .agg [vs [],vi 0]) (lq (cs:=[vs [],vi 0]) O O) ?_);refine dm (k:=0) (v:= .agg [vs [],vi 0]) a5 O O O O (λc8 b5=>?_);replace b5:Mem c8 [⟨.op a7 a6 0,166,2,[.agg [vs [],vi 0]]⟩]:=b5;refine mB O (nS ?_);subst z;exact ft (.cell O (mb (k:=0) b5 O O) (.tmp O .nil)) (du (show closed (.tup _)=true from(ak (TR.clo bg.t (show bg.t.R ({Name:=([]:List UInt8),Width:=0}:bg) (.agg [vs [],vi 0]) from O)) (ak O bp)))) ⟨.agg [vs [],vi 0],O,O⟩
  ·refine bc (aq (sR (mV O (mV O ?_))));obtain⟨b2,c7,a3⟩:=dn (i:=x2) a2 V V;refine ah (bn O O c7) (lD a3 O O O ?_);refine dm (k:=0) (v:=b2) a5 O O O (TR.cnt bg.t a3) (λd8 a8=>?_);replace a8:Mem d8 [⟨.op a7 a6 0,166,2,[b2]⟩]:=a8;refine mB O (nS ?_);subst z;exact ft (.cell O (mb (k:=0) a8 O (TR.agg bg.t a3)) (.tmp O .nil)) (du (show closed (.tup _)=true from(ak (TR.clo bg.t a3) (ak O bp)))) ⟨b2,O,a3⟩
 ·intro J;refine ck z O ?_ ?_<;>clear z<;>intro c z<;>try simp only[qa]at c
  ·refine am (sR (mV O (bN cx O O (mV O ?_))));refine cq 7 (d:=23) (v:=vb ((decide (x1 < 0))||(decide ((x0.Program.Headers.length:Int)<=x1)))) ?_ ?_
   ·intro S Q r;cases b8:(decide (x1 < 0))
    ·intro k;have b3:=b8;try simp only[qa]at b3
     refine aj O O (ba O) ?_;obtain⟨e0,c5,d7⟩:=bf.g_Program r0;refine aj O O (cw O c5) ?_;obtain⟨e3,d2,b1⟩:=af.g_Headers d7;refine aj O O (cw O d2) (aj O O (cp O (TR.cnt (tSl cm.t) b1) (TR.agg (tSl cm.t) b1)) (aj O O (da O (co b1 Tryz.underlying22 _)) (aj O O (ct O O lh) ?_)));exact gK O O O O O k
    ·exact gN 6 O O O O O O
   refine nS ?_;refine ck z O ?_ ?_<;>clear z<;>intro c z<;>try simp only[qa]at c
   ·refine sR (ah (v:= .agg [vs [],vi 0]) (lq (cs:=[vs [],vi 0]) O O) ?_);refine dm (k:=0) (v:= .agg [vs [],vi 0]) b0 O O O O (λd4 b4=>?_);replace b4:Mem d4 [⟨.op a7 a6 0,166,2,[.agg [vs [],vi 0]]⟩]:=b4;refine mB O (nS ?_);subst z;exact ft (.cell O (mb (k:=0) b4 O O) (.tmp O .nil)) (du (show closed (.tup _)=true from(ak (TR.clo bg.t (show bg.t.R ({Name:=([]:List UInt8),Width:=0}:bg) (.agg [vs [],vi 0]) from O)) (ak O bp)))) ⟨.agg [vs [],vi 0],O,O⟩
   ·refine bc (aq (ax ?_));obtain⟨e8,d9,d5⟩:=bf.g_Program r0;refine fA O d9 (gL (af.g_Headers d5) O O O λe1 d6=>(mV O ?_));obtain⟨e5,c4,d3⟩:=dn (i:=x1) d6 V V;refine ah (bn O O c4) (gL (cm.g_Fields d3) O O O λe4 c6=>(mV O (bq ?_)));refine aq (wC (J _ _ c6 _ (Mem.sub b0 (.cons_cons _ .slnil)) z) O)
  ·refine bc ?_;refine aq (wC (J _ _ d0 _ (Mem.sub b0 (.cons_cons _ .slnil)) z) O)
def RF268(res:Int×Int)(r:PV):Prop:=r= .tup [vi res.1,vi res.2]
theorem ct7{x0:bf}{x1:ai}{v0 v1:PV}(r0:bf.t.R x0 v0)(r1:ai.t.R x1 v1):FnR Tryz.prog 268 [v0,v1] (.tup [vi ((jo x0 x1).1),vi ((jo x0 x1).2)]):=by
 refine fnS (R:=RF268) dc9 (λ_ h=>h) O λres z=>?_;unfold jo at z;refine sR (ah (ej O (TR.cnt bf.t r0)) (ah (ej O (TR.cnt ai.t r1)) (mI O (mI O (nS (am (sR (fL O (ai.g_Op r1) O O ?_))))))));refine nS (bm (sR (bN dy O O (mV O (nS ?_)))));refine ck z O ?_ ?_<;>clear z<;>intro c z<;>try simp only[qa]at c
 ·refine sR (fL O (ai.g_W r1) O O ?_);obtain⟨a0,b9,z⟩:=br z;have c4:=aj5 (x0:=x1.W);rw[b9]at c4;refine cL c4 O O (ak O bp) (mV O (xT O O (xT O O (mV O (mV O (nS (am (sR ?_))))))));refine mV O (bN dy O O (mV O ?_));refine cq 12 (d:=34) (v:=vb ((decide (a0.2=0))&&((decide (x1.N < 0))||(decide (((qe a0.1).toNat:Int) < x1.N))))) ?_ ?_
  ·intro S Q r;cases b0:(decide (a0.2=0))
   ·exact gN 11 O O O O O O
   ·intro k;have a5:=b0;try simp only[qa]at a5
    refine aj O O (cw O (ai.g_N r1)) (aj O O (cp O O O) (aj O O (ct O O cx) (aj O O (ba O) ?_)));refine cq 7 (d:=33) (v:=vb ((decide (x1.N < 0))||(decide (((qe a0.1).toNat:Int) < x1.N)))) ?_ ?_
    ·intro S Q r;cases b4:(decide (x1.N < 0))
     ·intro k;have a7:=b4;try simp only[qa]at a7
      refine aj O O (cw O (ai.g_N r1)) (aj O O (cp O O O) (aj O O (ba O) ?_));have d3:=db6 (x0:=a0.1);refine ow O O (ur O O (ak O bp) d3) (aj O O (bc2 (a:=wy (qe a0.1)) O (c_wi Tryz.underlying89 Tryz.underlying3)) (aj O O (ct O O kh) (aj (v:=vb (decide (((qe a0.1).toNat:Int) < x1.N))) O O (oo O O O O) ?_)));exact wD k O
     ·intro k;refine fx O O (fx O O (fx O O (fx O O (fx O O (fx O O (aj (v:=vb true) O O (oo O O O O) ?_))))));exact wD k O
    exact gK O O O O O k
  refine nS ?_;refine ck z O ?_ ?_<;>clear z<;>intro c z<;>try simp only[qa]at c
  ·refine sR (mI O (mI O (nS ?_)));exact rT z O O O O O
  ·refine bc (aq (sR (mV O (mV O (mV O (mV O (nS ?_)))))));exact rT z O O O O O
 ·refine sR (bN dy O O (mV O (nS ?_)));refine ck z O ?_ ?_<;>clear z<;>intro c z<;>try simp only[qa]at c
  ·refine sR (lD r0 O O O (fL O (ai.g_N r1) O O (fL O (ai.g_W r1) O O ?_)));obtain⟨d7,b1,z⟩:=br z;obtain⟨b5,b7,a1⟩:=cv4 (x1:=x1.N) (x2:=x1.W) r0;rw[b1]at b7 a1;refine cL b7 O O (ak (TR.clo bf.t r0) (ak O (ak O bp))) (mV O (xT O O (xT O O ?_)));refine dz (x:= .agg [vs [],vi 0]) (Mem.nil ⟨0,[]⟩) O O (λd1 d2 e6 d8=>?_);refine dm (k:=0) (v:=b5) d8 O O O (TR.cnt bg.t a1) (λd0 a8=>?_);replace a8:Mem d0 [⟨.op d1 d2 0,166,2,[b5]⟩]:=a8;refine mV O (nS (am (sR (mV O (ah (ku O) (nS ?_))))));refine ck z O ?_ ?_<;>clear z<;>intro c z<;>try simp only[qa]at c
   ·refine sR (mI O (mI O (nS ?_)));exact rT z O O O O O
   ·refine bc (aq (sR (ah (bh O) (ah (ci (k:=0) a8 O O (bg.g_Width a1)) ?_))));obtain⟨d9,b8,z⟩:=br z;have a9:=aj5 (x0:=d7.1.Width);rw[b8]at a9;refine cL a9 O O (ak O bp) (xT O O (xT O O (mV O (mV O (nS ?_)))));exact rT z O O O O O
  ·refine sR (bN dy O O (mV O (nS ?_)));refine ck z O ?_ ?_<;>clear z<;>intro c z<;>try simp only[qa]at c
   ·refine am (sR (fL O (ai.g_N r1) O O (bN cx O O (mV O ?_))));refine cq 7 (d:=67) (v:=vb ((decide (x1.N < 0))||(decide ((x0.Params.length:Int)<=x1.N)))) ?_ ?_
    ·intro S Q r;cases b6:(decide (x1.N < 0))
     ·intro k;have a2:=b6;try simp only[qa]at a2
      refine aj O O (cw O (ai.g_N r1)) (aj O O (cp O O O) ?_);obtain⟨e1,c8,a3⟩:=bf.g_Params r0;refine aj O O (cw O c8) (aj O O (cp O (TR.cnt (tSl bg.t) a3) (TR.agg (tSl bg.t) a3)) (aj O O (da O (co a3 Tryz.underlying23 _)) (aj O O (ct O O lh) ?_)));exact gK O O O O O k
     ·exact gN 6 O O O O O O
    refine nS ?_;refine ck z O ?_ ?_<;>clear z<;>intro c z<;>try simp only[qa]at c
    ·refine sR (mI O (mI O (nS ?_)));exact rT z O O O O O
    ·refine bc (aq (sR (gL (bf.g_Params r0) O O O λe2 c6=>(fL O (ai.g_N r1) O O ?_))));obtain⟨e4,d4,d6⟩:=dn (i:=x1.N) c6 V V;refine ah (bn O O d4) (fL O (bg.g_Width d6) O O ?_);obtain⟨e5,b3,z⟩:=br z;have b2:=aj5 (x0:=(ix x0.Params x1.N).Width);rw[b3]at b2;refine cL b2 O O (ak O bp) (xT O O (xT O O (mV O (mV O (nS ?_)))));exact rT z O O O O O
   ·refine bc (de (aq (am (sR (fL O (ai.g_N r1) O O (bN cx O O (mV O ?_)))))));refine cq 8 (d:=89) (v:=vb ((decide (x1.N < 0))||(decide ((x0.Program.Headers.length:Int)<=x1.N)))) ?_ ?_
    ·intro S Q r;cases c5:(decide (x1.N < 0))
     ·intro k;have a6:=c5;try simp only[qa]at a6
      refine aj O O (cw O (ai.g_N r1)) (aj O O (cp O O O) ?_);obtain⟨e0,c7,d5⟩:=bf.g_Program r0;refine aj O O (cw O c7) ?_;obtain⟨e3,c9,a4⟩:=af.g_Headers d5;refine aj O O (cw O c9) (aj O O (cp O (TR.cnt (tSl cm.t) a4) (TR.agg (tSl cm.t) a4)) (aj O O (da O (co a4 Tryz.underlying22 _)) (aj O O (ct O O lh) ?_)));exact gK O O O O O k
     ·exact gN 7 O O O O O O
    refine nS ?_;refine ck z O ?_ ?_<;>clear z<;>intro c z<;>try simp only[qa]at c
    ·refine sR (mI O (mI O (nS ?_)));exact rT z O O O O O
    ·refine bc (aq (sR (mI O (mI O (nS ?_)))));exact rT z O O O O O
def RF269(res:Int×Int)(r:PV):Prop:=r= .tup [vi res.1,vi res.2]
theorem di3{x0:ai}{x1:List Int}{v0 v1:PV}(r0:ai.t.R x0 v0)(r1:(tAr 3 tI).R x1 v1):FnR Tryz.prog 269 [v0,v1] (.tup [vi ((ir x0 x1).1),vi ((ir x0 x1).2)]):=by
 refine fnS (R:=RF269) cx2 (λ_ h=>h) O λres z=>?_;unfold ir at z;refine sR (ah (ej O (TR.cnt ai.t r0)) (ah (ej O (TR.cnt (tAr 3 tI) r1)) (mI O (mI O (nS (am (sR (fL O (ai.g_Op r0) O O ?_))))))));refine nS (bm (am (sR (bN dy O O (mV O (nS ?_))))));obtain⟨f1,d0,z⟩:=br z;refine ni (F:=λb S Q=>∀(a0:Bool),f1 a0=res->RC Tryz.prog b S Q [(10,vb a0),(9,vi x0.Op),(3,.fp v1),(2,.fp v0)] ⟨0,[]⟩) ?_ ?_
 ·intro a0 z;rw[<-d0]at z;refine ck z O ?_ ?_<;>clear z<;>intro c z<;>try simp only[qa]at c
  ·refine sR (fL O (ai.g_N r0) O O (bN cx O O (mV O ?_)));refine cq 4 (d:=20) (v:=vb ((decide (x0.N < 0))||(decide (31 < x0.N)))) ?_ ?_
   ·intro S Q r;cases e3:(decide (x0.N < 0))
    ·intro k;have a6:=e3;try simp only[qa]at a6
     refine aj O O (cw O (ai.g_N r0)) (aj O O (cp O O O) (aj O O (ct O O kh) ?_));exact gK O O O O O k
    ·exact gN 3 O O O O O O
   refine nS ?_;refine ck z O ?_ ?_<;>clear z<;>intro c z<;>try simp only[qa]at c
   ·refine sR (mI O (mI O (nS ?_)));exact rT z O O O O O
   ·refine bc (de (aq (am (sR (fL O (ai.g_Op r0) O O ?_)))));obtain⟨d5,e1,z⟩:=br z;have d8:=bc7 (x0:=x0.Op);rw[e1]at d8;refine cL d8 O O (ak O bp) (bN dy O O (mV O ?_));refine cq 6 (d:=80) (v:=vb ((decide (d5=2))&&(!decide ((ix x1 0)=(ix x1 1))))) ?_ ?_
    ·intro S Q r;cases d6:(decide (d5=2))
     ·exact gN 5 O O O O O O
     ·intro k;have b0:=d6;try simp only[qa]at b0
      obtain⟨g5,g8,a2⟩:=qo (t:=tI) r1 (i:=0) V V;have a2:g5=vi (ix x1 0):=a2;subst a2;refine aj O O (pl O O g8) (aj O O (cp O O O) ?_);obtain⟨g6,f2,a1⟩:=qo (t:=tI) r1 (i:=1) V V;have a1:g6=vi (ix x1 1):=a1;subst a1;refine aj O O (pl O O f2) (aj O O (cp O O O) (aj O O (ct O O kx) ?_));exact gK O O O O O k
    refine nS ?_;refine ck z O ?_ ?_<;>clear z<;>intro c z<;>try simp only[qa]at c
    ·refine sR (mI O (mI O (nS ?_)));exact rT z O O O O O
    ·refine bc (aq (am (sR (fL O (ai.g_Op r0) O O (bN dy O O (mV O ?_))))));refine cq 4 (d:=88) (v:=vb ((decide (x0.Op=15))||(decide (x0.Op=16)))) ?_ ?_
     ·intro S Q r;cases e0:(decide (x0.Op=15))
      ·intro k;have b1:=e0;try simp only[qa]at b1
       refine aj O O (cw O (ai.g_Op r0)) (aj O O (cp O O O) (aj O O (ct O O dy) ?_));exact gK O O O O O k
      ·exact gN 3 O O O O O O
     refine nS ?_;refine ck z O ?_ ?_<;>clear z<;>intro c z<;>try simp only[qa]at c
     ·refine sR (mI O (mI O (nS ?_)));exact rT z O O O O O
     ·refine bc (aq (sR ?_));obtain⟨f4,g3,b3⟩:=qo (t:=tI) r1 (i:=0) V V;have b3:f4=vi (ix x1 0):=b3;subst b3;refine ah (pl O O g3) (lR O O O (mV O (mI O (nS ?_))));exact rT z O O O O O
  ·refine sR (bN dy O O (mV O (nS ?_)));refine ck z O ?_ ?_<;>clear z<;>intro c z<;>try simp only[qa]at c
   ·refine am (sR (fL O (ai.g_N r0) O O (bN cx O O (nS ?_))));refine ck z O ?_ ?_<;>clear z<;>intro c z<;>try simp only[qa]at c
    ·refine sR (mI O (mI O (nS ?_)));exact rT z O O O O O
    ·refine bc (aq (am (sR (fL O (ai.g_W r0) O O ?_))));obtain⟨d7,c6,z⟩:=br z;have c9:=aj5 (x0:=x0.W);rw[c6]at c9;refine cL c9 O O (ak O bp) (mV O (xT O O (xT O O (mV O (mV O (nR (mV O (bN kx O O ?_))))))));refine mV O ?_;refine cq 9 (d:=43) (v:=vb ((!decide (d7.2=0))||(decide ((wr ((ix x1 0)-x0.W)) < x0.N)))) ?_ ?_
     ·intro S Q r;cases c5:(!decide (d7.2=0))
      ·intro k;have a3:=c5;try simp only[qa]at a3
       refine aj O O (cw O (ai.g_N r0)) (aj O O (cp O O O) ?_);obtain⟨e5,g9,a7⟩:=qo (t:=tI) r1 (i:=0) V V;have a7:e5=vi (ix x1 0):=a7;subst a7;refine aj O O (pl O O g9) (aj O O (cp O O O) (aj O O (cw O (ai.g_W r0)) (aj O O (cp O O O) (aj O O (ct O O vm) (aj O O (ct O O kh) ?_)))));exact gK O O O O O k
      ·exact gN 8 O O O O O O
     refine nS ?_;refine ck z O ?_ ?_<;>clear z<;>intro c z<;>try simp only[qa]at c
     ·refine sR (mI O (mI O (nS ?_)));exact rT z O O O O O
     ·refine bc (aq (sR (fL O (ai.g_W r0) O O (mV O (mI O (nS ?_))))));exact rT z O O O O O
   ·refine sR (bN dy O O (mV O (nS ?_)));refine ck z O ?_ ?_<;>clear z<;>intro c z<;>try simp only[qa]at c
    ·refine sR ?_;obtain⟨f8,f9,b4⟩:=qo (t:=tI) r1 (i:=0) V V;have b4:f8=vi (ix x1 0):=b4;subst b4;refine ah (pl O O f9) (lR O O O ?_);obtain⟨e8,g4,b5⟩:=qo (t:=tI) r1 (i:=1) V V;have b5:e8=vi (ix x1 1):=b5;subst b5;refine ah (pl O O g4) (lR O O O (bN dt O O ?_));obtain⟨h1,d1,z⟩:=br z;have c8:=aj5 (x0:=(wr ((ix x1 0)+(ix x1 1))));rw[d1]at c8;refine cL c8 O O (ak O bp) (xT O O (xT O O (mV O (mV O (nS ?_)))));exact rT z O O O O O
    ·refine sR (bN dy O O (mV O (nS ?_)));refine ck z O ?_ ?_<;>clear z<;>intro c z<;>try simp only[qa]at c
     ·refine am (sR ?_);obtain⟨e4,f0,a4⟩:=qo (t:=tI) r1 (i:=0) V V;have a4:e4=vi (ix x1 0):=a4;subst a4;refine ah (pl O O f0) (lR O O O (bN kx O O (mV O ?_)));refine cq 6 (d:=67) (v:=vb ((!decide ((ix x1 0)=1))||(!decide ((ix x1 1)=(ix x1 2))))) ?_ ?_
      ·intro S Q r;cases e2:(!decide ((ix x1 0)=1))
       ·intro k;have a9:=e2;try simp only[qa]at a9
        obtain⟨f7,h0,b2⟩:=qo (t:=tI) r1 (i:=1) V V;have b2:f7=vi (ix x1 1):=b2;subst b2;refine aj O O (pl O O h0) (aj O O (cp O O O) ?_);obtain⟨e6,g1,b7⟩:=qo (t:=tI) r1 (i:=2) V V;have b7:e6=vi (ix x1 2):=b7;subst b7;refine aj O O (pl O O g1) (aj O O (cp O O O) (aj O O (ct O O kx) ?_));exact gK O O O O O k
       ·exact gN 5 O O O O O O
      refine nS ?_;refine ck z O ?_ ?_<;>clear z<;>intro c z<;>try simp only[qa]at c
      ·refine sR (mI O (mI O (nS ?_)));exact rT z O O O O O
      ·refine bc (aq (sR ?_));obtain⟨f5,f3,b8⟩:=qo (t:=tI) r1 (i:=1) V V;have b8:f5=vi (ix x1 1):=b8;subst b8;refine ah (pl O O f3) (lR O O O (mV O (mI O (nS ?_))));exact rT z O O O O O
     ·refine bc (de (aq (am (sR (fL O (ai.g_Op r0) O O ?_)))));obtain⟨d3,c7,z⟩:=br z;have d2:=bc7 (x0:=x0.Op);rw[c7]at d2;refine cL d2 O O (ak O bp) (bN dy O O (mV O ?_));refine cq 6 (d:=80) (v:=vb ((decide (d3=2))&&(!decide ((ix x1 0)=(ix x1 1))))) ?_ ?_
      ·intro S Q r;cases d9:(decide (d3=2))
       ·exact gN 5 O O O O O O
       ·intro k;have c4:=d9;try simp only[qa]at c4
        obtain⟨g2,e7,a5⟩:=qo (t:=tI) r1 (i:=0) V V;have a5:g2=vi (ix x1 0):=a5;subst a5;refine aj O O (pl O O e7) (aj O O (cp O O O) ?_);obtain⟨e9,g0,b9⟩:=qo (t:=tI) r1 (i:=1) V V;have b9:e9=vi (ix x1 1):=b9;subst b9;refine aj O O (pl O O g0) (aj O O (cp O O O) (aj O O (ct O O kx) ?_));exact gK O O O O O k
      refine nS ?_;refine ck z O ?_ ?_<;>clear z<;>intro c z<;>try simp only[qa]at c
      ·refine sR (mI O (mI O (nS ?_)));exact rT z O O O O O
      ·refine bc (aq (am (sR (fL O (ai.g_Op r0) O O (bN dy O O (mV O ?_))))));refine cq 4 (d:=88) (v:=vb ((decide (x0.Op=15))||(decide (x0.Op=16)))) ?_ ?_
       ·intro S Q r;cases d4:(decide (x0.Op=15))
        ·intro k;have b6:=d4;try simp only[qa]at b6
         refine aj O O (cw O (ai.g_Op r0)) (aj O O (cp O O O) (aj O O (ct O O dy) ?_));exact gK O O O O O k
        ·exact gN 3 O O O O O O
       refine nS ?_;refine ck z O ?_ ?_<;>clear z<;>intro c z<;>try simp only[qa]at c
       ·refine sR (mI O (mI O (nS ?_)));exact rT z O O O O O
       ·refine bc (aq (sR ?_));obtain⟨f6,g7,a8⟩:=qo (t:=tI) r1 (i:=0) V V;have a8:f6=vi (ix x1 0):=a8;subst a8;refine ah (pl O O g7) (lR O O O (mV O (mI O (nS ?_))));exact rT z O O O O O
 ·intro J;refine ck z O ?_ ?_<;>clear z<;>intro c z<;>try simp only[qa]at c
  ·refine bc ?_;refine aq (wC (J _ z) O)
  ·refine ax (bN dy O O (mV O (bq ?_)));refine aq (wC (J _ z) O)
end Go.Proofs.YtmonnlkagniolaaGreat
