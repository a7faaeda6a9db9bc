/-
 The code of each function does what its plain program says.
-/
import Derived.Test.YtmonnlkagniolaaGreatL4W7
set_option linter.all false
set_option maxRecDepth 100000
namespace Go.Proofs.YtmonnlkagniolaaGreat
open Go Go.Pb Go.RowKit
def RF172(res:Int×Bool)(r:PV):Prop:=r= .tup [vi res.1,vb res.2]
theorem db3{x0:aa}{x1:ae}{v0 v1:PV}(r0:aa.t.R x0 v0)(r1:ae.t.R x1 v1):FnR Tryz.prog 172 [v0,v1] (.tup [vi ((rq x0 x1).1),vb ((rq x0 x1).2)]):=by
 refine fnS (R:=RF172) bz8 (λ_ h=>h) O λres s=>?_;unfold rq at s;refine sR (ah (di O (TR.cnt aa.t r0)) (ah (di O (TR.cnt ae.t r1)) (mI O (mB O (nR (gL (aa.g_Metadata r0) O O O λb8 b4=>(mV O (nS ?_))))))));refine am (sR (fL O (ae.g_Header r1) O O (bN (ie (b:= -1)) O O (nS ?_))));obtain⟨a9,a6,s⟩:=bp s;refine kp (F:=λb S Q=>∀(a0:List av)(a1:PV)(a2:(tSl av.t).R a0 a1),a9 a0=res->RC Tryz.prog b S Q [(6,a1),(3,.fp v1)] ⟨0,[]⟩) ?_ ?_
 ·intro a0 a1 a2 s;rw[<-a6]at s;refine am (sR (fL O (ae.g_Field r1) O O (bN cn O O (mV O ?_))));refine bw 6 (d:=39) (v:=vb ((decide (x1.Field < 0))||(decide ((a0.length:Int)<=x1.Field)))) ?_ ?_
  ·intro S Q r;cases a8:(decide (x1.Field < 0))
   ·intro k;have a4:=a8;try simp only[qa]at a4
    refine ai O O (bt O (ae.g_Field r1)) (ai O O (bq O O O) (ai O O (ba O) (ai O O (co O (ca a2 Tryz.underlying23 _)) (ai O O (br O O iz) ?_))));exact gK O O O O O k
   ·exact gN 5 O O O O O O
  refine nS ?_;refine bv s O ?_ ?_<;>clear s<;>intro c s<;>try simp only[qa]at c
  ·refine sR (mI O (mB O (nS ?_)));exact rT s O O O O O
  ·refine aw (aq (sR (mV O (fL O (ae.g_Field r1) O O ?_))));obtain⟨c1,b2,b5⟩:=cv (i:=x1.Field) a2 Y Y;refine ah (bd O O b2) (fL O (av.g_Width b5) O O (mV O (mB O (nS ?_))));exact rT s O O O O O
 ·intro J;refine bv s O ?_ ?_<;>clear s<;>intro c s<;>try simp only[qa]at c
  ·refine am (sR (fL O (ae.g_Header r1) O O (bN cn O O (mV O ?_))));refine bw 7 (d:=22) (v:=vb ((decide (x1.Header < 0))||(decide ((x0.Headers.length:Int)<=x1.Header)))) ?_ ?_
   ·intro S Q r;cases a7:(decide (x1.Header < 0))
    ·intro k;have a5:=a7;try simp only[qa]at a5
     refine ai O O (bt O (ae.g_Header r1)) (ai O O (bq O O O) ?_);obtain⟨c6,b6,a3⟩:=aa.g_Headers r0;refine ai O O (bt O b6) (ai O O (bq O (TR.cnt (tSl bm.t) a3) (TR.agg (tSl bm.t) a3)) (ai O O (co O (ca a3 Tryz.underlying22 _)) (ai O O (br O O iz) ?_)));exact gK O O O O O k
    ·exact gN 6 O O O O O O
   refine nS ?_;refine bv s O ?_ ?_<;>clear s<;>intro c s<;>try simp only[qa]at c
   ·refine sR (mI O (mB O (nS ?_)));exact rT s O O O O O
   ·refine aw (aq (az (gL (aa.g_Headers r0) O O O λc4 b0=>(fL O (ae.g_Header r1) O O ?_))));obtain⟨c5,b3,b1⟩:=cv (i:=x1.Header) b0 Y Y;refine ah (bd O O b3) (gL (bm.g_Fields b1) O O O λb9 b7=>(mV O (cd ?_)));refine aq (wC (J _ _ b7 s) O)
  ·refine aw ?_;refine aq (wC (J _ _ b4 s) O)
def RF267(res:Int)(r:PV):Prop:=r=vi res
theorem be7{x0:Int}:FnR Tryz.prog 267 [vi x0] (vi (ej x0)):=by
 refine fnS (R:=RF267) bu4 (λ_ h=>h) O λres s=>?_;unfold ej at s;refine sR (mI O (nS (am (sR (mV O (nS (bg (am ?_))))))));refine sR (bN du O O (mV O (nS ?_)));obtain⟨a7,a5,s⟩:=bp s;refine kp (F:=λb S Q=>∀(a2:Bool),a7 a2=res->RC Tryz.prog b S Q [(4,vb a2),(3,vi x0)] ⟨0,[]⟩) ?_ ?_
 ·intro a2 s;rw[<-a5]at s;refine bv s O ?_ ?_<;>clear s<;>intro c s<;>try simp only[qa]at c
  ·refine sR (mI O (nS ?_));exact rR s O O O
  ·refine am (sR (bN du O O (mV O (nS ?_))));obtain⟨a6,a3,s⟩:=bp s;refine kp (F:=λb S Q=>∀(a1:Bool),a6 a1=res->RC Tryz.prog b S Q [(9,vb a1),(3,vi x0)] ⟨0,[]⟩) ?_ ?_
   ·intro a1 s;rw[<-a3]at s;refine bv s O ?_ ?_<;>clear s<;>intro c s<;>try simp only[qa]at c
    ·refine sR (mI O (nS ?_));exact rR s O O O
    ·refine am (sR (bN du O O (mV O (nS ?_))));obtain⟨a8,a4,s⟩:=bp s;refine kp (F:=λb S Q=>∀(a0:Bool),a8 a0=res->RC Tryz.prog b S Q [(14,vb a0),(3,vi x0)] ⟨0,[]⟩) ?_ ?_
     ·intro a0 s;rw[<-a4]at s;refine bv s O ?_ ?_<;>clear s<;>intro c s<;>try simp only[qa]at c
      ·refine sR (mI O (nS ?_));exact rR s O O O
      ·refine sR (bN du O O (mV O (nS ?_)));refine bv s O ?_ ?_<;>clear s<;>intro c s<;>try simp only[qa]at c
       ·refine sR (mI O (nS ?_));exact rR s O O O
       ·refine aw (db (aq (sR (mI O (nS ?_)))));exact rR s O O O
     ·intro J;refine bv s O ?_ ?_<;>clear s<;>intro c s<;>try simp only[qa]at c
      ·refine aw ?_;refine aq (wC (J _ s) O)
      ·refine sR (bN du O O (mV O (nS ?_)));refine bv s O ?_ ?_<;>clear s<;>intro c s<;>try simp only[qa]at c
       ·refine aw ?_;refine aq (wC (J _ s) O)
       ·refine sR (bN du O O (mV O (nS ?_)));refine bv s O ?_ ?_<;>clear s<;>intro c s<;>try simp only[qa]at c
        ·refine aw ?_;refine aq (wC (J _ s) O)
        ·refine sR (bN du O O (mV O (nS ?_)));refine bv s O ?_ ?_<;>clear s<;>intro c s<;>try simp only[qa]at c
         ·refine aw ?_;refine aq (wC (J _ s) O)
         ·refine sR (bN du O O (mV O (nS ?_)));refine bv s O ?_ ?_<;>clear s<;>intro c s<;>try simp only[qa]at c
          ·refine aw ?_;refine aq (wC (J _ s) O)
          ·refine sR (bN du O O (mV O (nS ?_)));refine bv s O ?_ ?_<;>clear s<;>intro c s<;>try simp only[qa]at c
           ·refine aw ?_;refine aq (wC (J _ s) O)
           ·refine sR (bN du O O (mV O (nS ?_)));refine bv s O ?_ ?_<;>clear s<;>intro c s<;>try simp only[qa]at c
            ·refine aw ?_;refine aq (wC (J _ s) O)
            ·refine az (bN du O O (mV O (cd ?_)));refine aq (wC (J _ s) O)
   ·intro J;refine bv s O ?_ ?_<;>clear s<;>intro c s<;>try simp only[qa]at c
    ·refine aw ?_;refine aq (wC (J _ s) O)
    ·refine sR (bN du O O (mV O (nS ?_)));refine bv s O ?_ ?_<;>clear s<;>intro c s<;>try simp only[qa]at c
     ·refine aw ?_;refine aq (wC (J _ s) O)
     ·refine sR (bN du O O (mV O (nS ?_)));refine bv s O ?_ ?_<;>clear s<;>intro c s<;>try simp only[qa]at c
      ·refine aw ?_;refine aq (wC (J _ s) O)
      ·refine az (bN du O O (mV O (cd ?_)));refine aq (wC (J _ s) O)
 ·intro J;refine bv s O ?_ ?_<;>clear s<;>intro c s<;>try simp only[qa]at c
  ·refine aw ?_;refine aq (wC (J _ s) O)
  ·refine sR (bN du O O (mV O (nS ?_)));refine bv s O ?_ ?_<;>clear s<;>intro c s<;>try simp only[qa]at c
   ·refine aw ?_;refine aq (wC (J _ s) O)
   ·refine sR (bN du O O (mV O (nS ?_)));refine bv s O ?_ ?_<;>clear s<;>intro c s<;>try simp only[qa]at c
    ·refine aw ?_;refine aq (wC (J _ s) O)
    ·refine az (bN du O O (mV O (cd ?_)));refine aq (wC (J _ s) O)
def RF287(res:Int×Int)(r:PV):Prop:=r= .tup [vi res.1,vi res.2]
theorem ai2{x0:Int}:FnR Tryz.prog 287 [vi x0] (.tup [vi ((nr x0).1),vi ((nr x0).2)]):=by
 refine fnS (R:=RF287) bw1 (λ_ h=>h) O λres s=>?_;unfold nr at s;refine sR (mI O (mI O (nS (am (sR (mV O (bN cn O O (mV O ?_))))))));refine bw 3 (d:=9) (v:=vb ((decide (x0 < 1))||(decide (32 < x0)))) ?_ ?_
 ·intro S Q r;cases a1:(decide (x0 < 1))
  ·intro k;have a0:=a1;try simp only[qa]at a0
   refine ai O O (ba O) (ai O O (br O O fu) ?_);exact gK O O O O O k
  ·exact gN 2 O O O O O O
 refine nS ?_;refine bv s O ?_ ?_<;>clear s<;>intro c s<;>try simp only[qa]at c
 ·refine sR (mI O (mI O (nS ?_)));exact rT s O O O O O
 ·refine aw (aq (sR (mV O (mV O (mI O (nS ?_))))));exact rT s O O O O O
def RF181(res:Bool)(r:PV):Prop:=r=vb res
theorem ah6{S:List Fr}{res:Bool}{x0:List Int}{v0:PV}(r0:(tSl tI).R x0 v0){K0:Unit->Bool}
 (a5:K0 ()=res->PX Tryz.prog 0 S (QR Tryz.prog [(2,none)] (RF181 res)) [] ⟨0,[]⟩):
 ∀{m:Nat}{a0:Int}(a4:m=Int.toNat ((x0.length:Int)-a0))(a2:0<=a0),mg x0 K0 m a0=res->RC Tryz.prog (.loop cp1) S (QR Tryz.prog [(2,none)] (RF181 res)) [(7,vi a0),(6,vi (x0.length:Int)),(5,v0)] ⟨0,[]⟩:=by
 intro m;induction m with
 |zero=>
  intro a0 a4 a2 s;rw[mg]at s;refine ck (sR (bN cn O O (nS (am ?_))));refine ci O ?_ ?_<;>intro c<;>try simp only[qa]at c
  ·omega
  refine dg (dx (da ?_));exact wP (a5 s) O
 |succ m ih=>
  intro a0 a4 a2 s;rw[mg]at s;refine ck (sR (bN cn O O (nS (am ?_))));refine ci O ?_ ?_<;>intro c<;>try simp only[qa]at c
  rotate_left
  ·omega
  refine aw (aq (am (bg (sR (ah (bd O O (slI r0 Y Y)) (lR O O O (mV O (nR ?_))))))));refine mV O (bN cn O O (mV O ?_));refine bw 3 (d:=16) (v:=vb ((decide ((ix x0 a0) < 1))||(decide (32 < (ix x0 a0))))) ?_ ?_
  ·intro S Q r;cases a3:(decide ((ix x0 a0) < 1))
   ·intro k;have a1:=a3;try simp only[qa]at a1
    refine ai O O (ba O) (ai O O (br O O fu) ?_);exact gK O O O O O k
   ·exact gN 2 O O O O O O
  refine nS ?_;refine bv s O ?_ ?_<;>clear s<;>intro c s<;>try simp only[qa]at c
  ·refine sR (mB O (nS ?_));exact rR s O O O
  ·refine aw (db (aq (az (bN dw O O (mV O (cd (cy ?_)))))));have hbd:=dn r0;have hinc:wr (a0+1)=a0+1:=cz Y Y;erw[hinc];exact wC (ih Y Y s) O
theorem dr2{x0:List Int}{v0:PV}(r0:(tSl tI).R x0 v0):FnR Tryz.prog 181 [v0] (vb (ru x0)):=by
 refine fnS (R:=RF181) bz1 (λ_ h=>h) O λres s=>?_;unfold ru at s;refine sR (mB O (nS (am (sR (mV O (ah (co O (ca r0 Tryz.underlying29 _)) (mI O (nS ?_))))))));refine bg ?_;refine wC (ah6 r0 ?_ O Y s) O
 ·intro s;refine ek (aq (sR (mB O (nS ?_))));exact rR s O O O
def RF182(res:(BitVec 32))(r:PV):Prop:=r=de res
theorem du0{x0:Int}:FnR Tryz.prog 182 [vi x0] (de (kn x0)):=by
 refine fnS (R:=RF182) ca3 (λ_ h=>h) O λres s=>?_;unfold kn at s;refine sR (ah (v:=de 0#32) (ba O) (nS (am (sR (mV O (ah (v:= .fs true [vi x0]) (lq O (all_cons O pr)) ?_))))));have a2:(tSl tI).R ([x0]:List Int) (.fs true [vi x0]):=aa6 ⟨O,trivial⟩ OZ;obtain⟨a3,a1,s⟩:=bp s;have a0:=dr2 a2;rw[a1]at a0;refine cL a0 O O (aj (TR.clo (tSl tI) a2) bc) (ah (fw O) (nS ?_));refine bv s O ?_ ?_<;>clear s<;>intro c s<;>try simp only[qa]at c
 ·refine sR (ah (v:=de 0#32) (ba O) (nS ?_));exact rR s O O O
 ·refine aw (aq (sR (mV O (bN af8 O O (ah (br (a:=de 4294967295#32) (b:=vi (wr (32-x0))) O O (ew7 (by first|omega|exact cy1 OY OY))) (mV O (nS ?_)))))));exact rR s O O O
def RF288(res:av×Bool)(r:PV):Prop:=∃c0,r= .tup [c0,vb res.2]/\av.t.R res.1 c0
theorem cy2{x0:au}{x1 x2:Int}{v0:PV}(r0:au.t.R x0 v0):∃c0,FnR Tryz.prog 288 [v0,vi x1,vi x2] (.tup [c0,vb ((lu x0 x1 x2).2)])/\av.t.R (lu x0 x1 x2).1 c0:=by
 obtain⟨res,s⟩:∃res,lu x0 x1 x2=res:=⟨_,O⟩;suffices H:RC Tryz.prog dw6 [] (QR Tryz.prog [(6,some (2,true)),(7,none)] (RF288 res)) (argE 0 [v0,vi x1,vi x2]) ⟨0,[]⟩ by
  rw[s];obtain⟨r,h1,c0,rfl,e4⟩:=fnE bw9 OZ H;exact⟨c0,h1,e4⟩
 unfold lu at s;refine sR (ah (di O (TR.cnt au.t r0)) ?_);refine dv (x:= .agg [vs [],vi 0]) (Mem.nil ⟨0,[]⟩) O O (λa4 a3 e5 b3=>?_);refine mB O (nR ?_);obtain⟨e7,d3,d4⟩:=au.g_Program r0;refine fA O d3 (gL (aa.g_Metadata d4) O O O λe6 d8=>(mV O (nS (am (sR (mV O (bN (ie (b:= -1)) O O (nS ?_))))))));obtain⟨d0,b7,s⟩:=bp s;refine kp (F:=λb S Q=>∀(a0:List av)(a1:PV)(a2:(tSl av.t).R a0 a1)(a5:Heap)(a6:Mem a5 [⟨.op a4 a3 0,166,2,[.agg [vs [],vi 0]]⟩]),d0 a0=res->RC Tryz.prog b S Q [(8,a1),(6,.op a4 a3 0),(2,vi x2)] a5) ?_ ?_
 ·intro a0 a1 a2 a5 a6 s;rw[<-b7]at s;refine am (sR (mV O (bN cn O O (mV O ?_))));refine bw 5 (d:=39) (v:=vb ((decide (x2 < 0))||(decide ((a0.length:Int)<=x2)))) ?_ ?_
  ·intro S Q r;cases b6:(decide (x2 < 0))
   ·intro k;have b1:=b6;try simp only[qa]at b1
    refine ai O O (ba O) (ai O O (ba O) (ai O O (co O (ca a2 Tryz.underlying23 _)) (ai O O (br O O iz) ?_)));exact gK O O O O O k
   ·exact gN 4 O O O O O O
  refine nS ?_;refine bv s O ?_ ?_<;>clear s<;>intro c s<;>try simp only[qa]at c
  ·refine sR (ah (v:= .agg [vs [],vi 0]) (gm (cs:=[vs [],vi 0]) O O) ?_);refine cx (k:=0) (v:= .agg [vs [],vi 0]) a6 O O O O (λd1 a9=>?_);replace a9:Mem d1 [⟨.op a4 a3 0,166,2,[.agg [vs [],vi 0]]⟩]:=a9;refine mB O (nS ?_);subst s;exact fa (.cell O (dq (k:=0) a9 O O) (.tmp O .nil)) (cw (show closed (.tup _)=true from(aj (TR.clo av.t (show av.t.R ({Name:=([]:List UInt8),Width:=0}:av) (.agg [vs [],vi 0]) from O)) (aj O bc)))) ⟨.agg [vs [],vi 0],O,O⟩
  ·refine aw (aq (sR (mV O (mV O ?_))));obtain⟨b0,b9,a7⟩:=cv (i:=x2) a2 Y Y;refine ah (bd O O b9) (lD a7 O O O ?_);refine cx (k:=0) (v:=b0) a6 O O O (TR.cnt av.t a7) (λd5 a8=>?_);replace a8:Mem d5 [⟨.op a4 a3 0,166,2,[b0]⟩]:=a8;refine mB O (nS ?_);subst s;exact fa (.cell O (dq (k:=0) a8 O (TR.agg av.t a7)) (.tmp O .nil)) (cw (show closed (.tup _)=true from(aj (TR.clo av.t a7) (aj O bc)))) ⟨b0,O,a7⟩
 ·intro J;refine bv s O ?_ ?_<;>clear s<;>intro c s<;>try simp only[qa]at c
  ·refine am (sR (mV O (bN cn O O (mV O ?_))));refine bw 7 (d:=23) (v:=vb ((decide (x1 < 0))||(decide ((x0.Program.Headers.length:Int)<=x1)))) ?_ ?_
   ·intro S Q r;cases b8:(decide (x1 < 0))
    ·intro k;have b4:=b8;try simp only[qa]at b4
     refine ai O O (ba O) ?_;obtain⟨e8,d2,d6⟩:=au.g_Program r0;refine ai O O (bt O d2) ?_;obtain⟨e1,c7,b5⟩:=aa.g_Headers d6;refine ai O O (bt O c7) (ai O O (bq O (TR.cnt (tSl bm.t) b5) (TR.agg (tSl bm.t) b5)) (ai O O (co O (ca b5 Tryz.underlying22 _)) (ai O O (br O O iz) ?_)));exact gK O O O O O k
    ·exact gN 6 O O O O O O
   refine nS ?_;refine bv s O ?_ ?_<;>clear s<;>intro c s<;>try simp only[qa]at c
   ·refine sR (ah (v:= .agg [vs [],vi 0]) (gm (cs:=[vs [],vi 0]) O O) ?_);refine cx (k:=0) (v:= .agg [vs [],vi 0]) b3 O O O O (λc4 b2=>?_);replace b2:Mem c4 [⟨.op a4 a3 0,166,2,[.agg [vs [],vi 0]]⟩]:=b2;refine mB O (nS ?_);subst s;exact fa (.cell O (dq (k:=0) b2 O O) (.tmp O .nil)) (cw (show closed (.tup _)=true from(aj (TR.clo av.t (show av.t.R ({Name:=([]:List UInt8),Width:=0}:av) (.agg [vs [],vi 0]) from O)) (aj O bc)))) ⟨.agg [vs [],vi 0],O,O⟩
   ·refine aw (aq (az ?_));obtain⟨e3,c9,c1⟩:=au.g_Program r0;refine fA O c9 (gL (aa.g_Headers c1) O O O λe2 c5=>(mV O ?_));obtain⟨e0,d7,c6⟩:=cv (i:=x1) c5 Y Y;refine ah (bd O O d7) (gL (bm.g_Fields c6) O O O λd9 c8=>(mV O (cd ?_)));refine aq (wC (J _ _ c8 _ (Mem.sub b3 (.cons_cons _ .slnil)) s) O)
  ·refine aw ?_;refine aq (wC (J _ _ d8 _ (Mem.sub b3 (.cons_cons _ .slnil)) s) O)
def RF268(res:Int×Int)(r:PV):Prop:=r= .tup [vi res.1,vi res.2]
theorem db9{x0:au}{x1:ak}{v0 v1:PV}(r0:au.t.R x0 v0)(r1:ak.t.R x1 v1):FnR Tryz.prog 268 [v0,v1] (.tup [vi ((fg x0 x1).1),vi ((fg x0 x1).2)]):=by
 refine fnS (R:=RF268) bw2 (λ_ h=>h) O λres s=>?_;unfold fg at s;refine sR (ah (di O (TR.cnt au.t r0)) (ah (di O (TR.cnt ak.t r1)) (mI O (mI O (nS (am (sR (fL O (ak.g_Op r1) O O ?_))))))));refine nS (bg (sR (bN du O O (mV O (nS ?_)))));refine bv s O ?_ ?_<;>clear s<;>intro c s<;>try simp only[qa]at c
 ·refine sR (fL O (ak.g_W r1) O O ?_);obtain⟨a0,b6,s⟩:=bp s;have b1:=ai2 (x0:=x1.W);rw[b6]at b1;refine cL b1 O O (aj O bc) (mV O (xT O O (xT O O (mV O (mV O (nS (am (sR ?_))))))));refine mV O (bN du O O (mV O ?_));refine bw 12 (d:=34) (v:=vb ((decide (a0.2=0))&&((decide (x1.N < 0))||(decide (((kn a0.1).toNat:Int) < x1.N))))) ?_ ?_
  ·intro S Q r;cases c1:(decide (a0.2=0))
   ·exact gN 11 O O O O O O
   ·intro k;have a3:=c1;try simp only[qa]at a3
    refine ai O O (bt O (ak.g_N r1)) (ai O O (bq O O O) (ai O O (br O O cn) (ai O O (ba O) ?_)));refine bw 7 (d:=33) (v:=vb ((decide (x1.N < 0))||(decide (((kn a0.1).toNat:Int) < x1.N)))) ?_ ?_
    ·intro S Q r;cases b8:(decide (x1.N < 0))
     ·intro k;have a5:=b8;try simp only[qa]at a5
      refine ai O O (bt O (ak.g_N r1)) (ai O O (bq O O O) (ai O O (ba O) ?_));have d1:=du0 (x0:=a0.1);refine ik O O (og O O (aj O bc) d1) (ai O O (jb (a:=de (kn a0.1)) O (c_wi Tryz.underlying89 Tryz.underlying3)) (ai O O (br O O fu) (ai (v:=vb (decide (((kn a0.1).toNat:Int) < x1.N))) O O (pp O O O O) ?_)));exact wD k O
     ·intro k;refine kr O O (kr O O (kr O O (kr O O (kr O O (kr O O (ai (v:=vb true) O O (pp O O O O) ?_))))));exact wD k O
    exact gK O O O O O k
  refine nS ?_;refine bv s O ?_ ?_<;>clear s<;>intro c s<;>try simp only[qa]at c
  ·refine sR (mI O (mI O (nS ?_)));exact rT s O O O O O
  ·refine aw (aq (sR (mV O (mV O (mV O (mV O (nS ?_)))))));exact rT s O O O O O
 ·refine sR (bN du O O (mV O (nS ?_)));refine bv s O ?_ ?_<;>clear s<;>intro c s<;>try simp only[qa]at c
  ·refine sR (lD r0 O O O (fL O (ak.g_N r1) O O (fL O (ak.g_W r1) O O ?_)));obtain⟨c9,b4,s⟩:=bp s;obtain⟨c4,b5,a1⟩:=cy2 (x1:=x1.N) (x2:=x1.W) r0;rw[b4]at b5 a1;refine cL b5 O O (aj (TR.clo au.t r0) (aj O (aj O bc))) (mV O (xT O O (xT O O ?_)));refine dv (x:= .agg [vs [],vi 0]) (Mem.nil ⟨0,[]⟩) O O (λd2 c5 e4 d4=>?_);refine cx (k:=0) (v:=c4) d4 O O O (TR.cnt av.t a1) (λc6 a4=>?_);replace a4:Mem c6 [⟨.op d2 c5 0,166,2,[c4]⟩]:=a4;refine mV O (nS (am (sR (mV O (ah (fw O) (nS ?_))))));refine bv s O ?_ ?_<;>clear s<;>intro c s<;>try simp only[qa]at c
   ·refine sR (mI O (mI O (nS ?_)));exact rT s O O O O O
   ·refine aw (aq (sR (ah (cg O) (ah (ct (k:=0) a4 O O (av.g_Width a1)) ?_))));obtain⟨e2,b9,s⟩:=bp s;have b0:=ai2 (x0:=c9.1.Width);rw[b9]at b0;refine cL b0 O O (aj O bc) (xT O O (xT O O (mV O (mV O (nS ?_)))));exact rT s O O O O O
  ·refine sR (bN du O O (mV O (nS ?_)));refine bv s O ?_ ?_<;>clear s<;>intro c s<;>try simp only[qa]at c
   ·refine am (sR (fL O (ak.g_N r1) O O (bN cn O O (mV O ?_))));refine bw 7 (d:=67) (v:=vb ((decide (x1.N < 0))||(decide ((x0.Params.length:Int)<=x1.N)))) ?_ ?_
    ·intro S Q r;cases b2:(decide (x1.N < 0))
     ·intro k;have a6:=b2;try simp only[qa]at a6
      refine ai O O (bt O (ak.g_N r1)) (ai O O (bq O O O) ?_);obtain⟨e3,c7,a2⟩:=au.g_Params r0;refine ai O O (bt O c7) (ai O O (bq O (TR.cnt (tSl av.t) a2) (TR.agg (tSl av.t) a2)) (ai O O (co O (ca a2 Tryz.underlying23 _)) (ai O O (br O O iz) ?_)));exact gK O O O O O k
     ·exact gN 6 O O O O O O
    refine nS ?_;refine bv s O ?_ ?_<;>clear s<;>intro c s<;>try simp only[qa]at c
    ·refine sR (mI O (mI O (nS ?_)));exact rT s O O O O O
    ·refine aw (aq (sR (gL (au.g_Params r0) O O O λe1 d7=>(fL O (ak.g_N r1) O O ?_))));obtain⟨d8,d6,d0⟩:=cv (i:=x1.N) d7 Y Y;refine ah (bd O O d6) (fL O (av.g_Width d0) O O ?_);obtain⟨e0,a9,s⟩:=bp s;have b3:=ai2 (x0:=(ix x0.Params x1.N).Width);rw[a9]at b3;refine cL b3 O O (aj O bc) (xT O O (xT O O (mV O (mV O (nS ?_)))));exact rT s O O O O O
   ·refine aw (db (aq (am (sR (fL O (ak.g_N r1) O O (bN cn O O (mV O ?_)))))));refine bw 8 (d:=89) (v:=vb ((decide (x1.N < 0))||(decide ((x0.Program.Headers.length:Int)<=x1.N)))) ?_ ?_
    ·intro S Q r;cases b7:(decide (x1.N < 0))
     ·intro k;have a7:=b7;try simp only[qa]at a7
      refine ai O O (bt O (ak.g_N r1)) (ai O O (bq O O O) ?_);obtain⟨e5,d3,d5⟩:=au.g_Program r0;refine ai O O (bt O d3) ?_;obtain⟨d9,c8,a8⟩:=aa.g_Headers d5;refine ai O O (bt O c8) (ai O O (bq O (TR.cnt (tSl bm.t) a8) (TR.agg (tSl bm.t) a8)) (ai O O (co O (ca a8 Tryz.underlying22 _)) (ai O O (br O O iz) ?_)));exact gK O O O O O k
     ·exact gN 7 O O O O O O
    refine nS ?_;refine bv s O ?_ ?_<;>clear s<;>intro c s<;>try simp only[qa]at c
    ·refine sR (mI O (mI O (nS ?_)));exact rT s O O O O O
    ·refine aw (aq (sR (mI O (mI O (nS ?_)))));exact rT s O O O O O
def RF269(res:Int×Int)(r:PV):Prop:=r= .tup [vi res.1,vi res.2]
theorem dq5{x0:ak}{x1:List Int}{v0 v1:PV}(r0:ak.t.R x0 v0)(r1:(tAr 3 tI).R x1 v1):FnR Tryz.prog 269 [v0,v1] (.tup [vi ((ii x0 x1).1),vi ((ii x0 x1).2)]):=by
 refine fnS (R:=RF269) bt3 (λ_ h=>h) O λres s=>?_;unfold ii at s;refine sR (ah (di O (TR.cnt ak.t r0)) (ah (di O (TR.cnt (tAr 3 tI) r1)) (mI O (mI O (nS (am (sR (fL O (ak.g_Op r0) O O ?_))))))));refine nS (bg (am (sR (bN du O O (mV O (nS ?_))))));obtain⟨f7,d4,s⟩:=bp s;refine kp (F:=λb S Q=>∀(a0:Bool),f7 a0=res->RC Tryz.prog b S Q [(10,vb a0),(9,vi x0.Op),(3,.fp v1),(2,.fp v0)] ⟨0,[]⟩) ?_ ?_
 ·intro a0 s;rw[<-d4]at s;refine bv s O ?_ ?_<;>clear s<;>intro c s<;>try simp only[qa]at c
  ·refine sR (fL O (ak.g_N r0) O O (bN cn O O (mV O ?_)));refine bw 4 (d:=20) (v:=vb ((decide (x0.N < 0))||(decide (31 < x0.N)))) ?_ ?_
   ·intro S Q r;cases c6:(decide (x0.N < 0))
    ·intro k;have a7:=c6;try simp only[qa]at a7
     refine ai O O (bt O (ak.g_N r0)) (ai O O (bq O O O) (ai O O (br O O fu) ?_));exact gK O O O O O k
    ·exact gN 3 O O O O O O
   refine nS ?_;refine bv s O ?_ ?_<;>clear s<;>intro c s<;>try simp only[qa]at c
   ·refine sR (mI O (mI O (nS ?_)));exact rT s O O O O O
   ·refine aw (db (aq (am (sR (fL O (ak.g_Op r0) O O ?_)))));obtain⟨d3,d1,s⟩:=bp s;have c9:=be7 (x0:=x0.Op);rw[d1]at c9;refine cL c9 O O (aj O bc) (bN du O O (mV O ?_));refine bw 6 (d:=80) (v:=vb ((decide (d3=2))&&(!decide ((ix x1 0)=(ix x1 1))))) ?_ ?_
    ·intro S Q r;cases d2:(decide (d3=2))
     ·exact gN 5 O O O O O O
     ·intro k;have a3:=d2;try simp only[qa]at a3
      obtain⟨g1,g0,b3⟩:=ov (t:=tI) r1 (i:=0) Y Y;have b3:g1=vi (ix x1 0):=b3;subst b3;refine ai O O (mv O O g0) (ai O O (bq O O O) ?_);obtain⟨f2,f4,a1⟩:=ov (t:=tI) r1 (i:=1) Y Y;have a1:f2=vi (ix x1 1):=a1;subst a1;refine ai O O (mv O O f4) (ai O O (bq O O O) (ai O O (br O O ie) ?_));exact gK O O O O O k
    refine nS ?_;refine bv s O ?_ ?_<;>clear s<;>intro c s<;>try simp only[qa]at c
    ·refine sR (mI O (mI O (nS ?_)));exact rT s O O O O O
    ·refine aw (aq (am (sR (fL O (ak.g_Op r0) O O (bN du O O (mV O ?_))))));refine bw 4 (d:=88) (v:=vb ((decide (x0.Op=15))||(decide (x0.Op=16)))) ?_ ?_
     ·intro S Q r;cases d9:(decide (x0.Op=15))
      ·intro k;have b4:=d9;try simp only[qa]at b4
       refine ai O O (bt O (ak.g_Op r0)) (ai O O (bq O O O) (ai O O (br O O du) ?_));exact gK O O O O O k
      ·exact gN 3 O O O O O O
     refine nS ?_;refine bv s O ?_ ?_<;>clear s<;>intro c s<;>try simp only[qa]at c
     ·refine sR (mI O (mI O (nS ?_)));exact rT s O O O O O
     ·refine aw (aq (sR ?_));obtain⟨f1,e4,a2⟩:=ov (t:=tI) r1 (i:=0) Y Y;have a2:f1=vi (ix x1 0):=a2;subst a2;refine ah (mv O O e4) (lR O O O (mV O (mI O (nS ?_))));exact rT s O O O O O
  ·refine sR (bN du O O (mV O (nS ?_)));refine bv s O ?_ ?_<;>clear s<;>intro c s<;>try simp only[qa]at c
   ·refine am (sR (fL O (ak.g_N r0) O O (bN cn O O (nS ?_))));refine bv s O ?_ ?_<;>clear s<;>intro c s<;>try simp only[qa]at c
    ·refine sR (mI O (mI O (nS ?_)));exact rT s O O O O O
    ·refine aw (aq (am (sR (fL O (ak.g_W r0) O O ?_))));obtain⟨d0,d5,s⟩:=bp s;have e2:=ai2 (x0:=x0.W);rw[d5]at e2;refine cL e2 O O (aj O bc) (mV O (xT O O (xT O O (mV O (mV O (nR (mV O (bN ie O O ?_))))))));refine mV O ?_;refine bw 9 (d:=43) (v:=vb ((!decide (d0.2=0))||(decide ((wr ((ix x1 0)-x0.W)) < x0.N)))) ?_ ?_
     ·intro S Q r;cases d8:(!decide (d0.2=0))
      ·intro k;have b6:=d8;try simp only[qa]at b6
       refine ai O O (bt O (ak.g_N r0)) (ai O O (bq O O O) ?_);obtain⟨g5,g8,b7⟩:=ov (t:=tI) r1 (i:=0) Y Y;have b7:g5=vi (ix x1 0):=b7;subst b7;refine ai O O (mv O O g8) (ai O O (bq O O O) (ai O O (bt O (ak.g_W r0)) (ai O O (bq O O O) (ai O O (br O O af8) (ai O O (br O O fu) ?_)))));exact gK O O O O O k
      ·exact gN 8 O O O O O O
     refine nS ?_;refine bv s O ?_ ?_<;>clear s<;>intro c s<;>try simp only[qa]at c
     ·refine sR (mI O (mI O (nS ?_)));exact rT s O O O O O
     ·refine aw (aq (sR (fL O (ak.g_W r0) O O (mV O (mI O (nS ?_))))));exact rT s O O O O O
   ·refine sR (bN du O O (mV O (nS ?_)));refine bv s O ?_ ?_<;>clear s<;>intro c s<;>try simp only[qa]at c
    ·refine sR ?_;obtain⟨g6,e8,a4⟩:=ov (t:=tI) r1 (i:=0) Y Y;have a4:g6=vi (ix x1 0):=a4;subst a4;refine ah (mv O O e8) (lR O O O ?_);obtain⟨f0,f8,b2⟩:=ov (t:=tI) r1 (i:=1) Y Y;have b2:f0=vi (ix x1 1):=b2;subst b2;refine ah (mv O O f8) (lR O O O (bN dw O O ?_));obtain⟨h0,c5,s⟩:=bp s;have d7:=ai2 (x0:=(wr ((ix x1 0)+(ix x1 1))));rw[c5]at d7;refine cL d7 O O (aj O bc) (xT O O (xT O O (mV O (mV O (nS ?_)))));exact rT s O O O O O
    ·refine sR (bN du O O (mV O (nS ?_)));refine bv s O ?_ ?_<;>clear s<;>intro c s<;>try simp only[qa]at c
     ·refine am (sR ?_);obtain⟨g9,f9,a6⟩:=ov (t:=tI) r1 (i:=0) Y Y;have a6:g9=vi (ix x1 0):=a6;subst a6;refine ah (mv O O f9) (lR O O O (bN ie O O (mV O ?_)));refine bw 6 (d:=67) (v:=vb ((!decide ((ix x1 0)=1))||(!decide ((ix x1 1)=(ix x1 2))))) ?_ ?_
      ·intro S Q r;cases c4:(!decide ((ix x1 0)=1))
       ·intro k;have a5:=c4;try simp only[qa]at a5
        obtain⟨g3,g2,a8⟩:=ov (t:=tI) r1 (i:=1) Y Y;have a8:g3=vi (ix x1 1):=a8;subst a8;refine ai O O (mv O O g2) (ai O O (bq O O O) ?_);obtain⟨g7,e6,a9⟩:=ov (t:=tI) r1 (i:=2) Y Y;have a9:g7=vi (ix x1 2):=a9;subst a9;refine ai O O (mv O O e6) (ai O O (bq O O O) (ai O O (br O O ie) ?_));exact gK O O O O O k
       ·exact gN 5 O O O O O O
      refine nS ?_;refine bv s O ?_ ?_<;>clear s<;>intro c s<;>try simp only[qa]at c
      ·refine sR (mI O (mI O (nS ?_)));exact rT s O O O O O
      ·refine aw (aq (sR ?_));obtain⟨e3,e9,b8⟩:=ov (t:=tI) r1 (i:=1) Y Y;have b8:e3=vi (ix x1 1):=b8;subst b8;refine ah (mv O O e9) (lR O O O (mV O (mI O (nS ?_))));exact rT s O O O O O
     ·refine aw (db (aq (am (sR (fL O (ak.g_Op r0) O O ?_)))));obtain⟨d6,e0,s⟩:=bp s;have c7:=be7 (x0:=x0.Op);rw[e0]at c7;refine cL c7 O O (aj O bc) (bN du O O (mV O ?_));refine bw 6 (d:=80) (v:=vb ((decide (d6=2))&&(!decide ((ix x1 0)=(ix x1 1))))) ?_ ?_
      ·intro S Q r;cases e1:(decide (d6=2))
       ·exact gN 5 O O O O O O
       ·intro k;have c1:=e1;try simp only[qa]at c1
        obtain⟨e5,f5,b1⟩:=ov (t:=tI) r1 (i:=0) Y Y;have b1:e5=vi (ix x1 0):=b1;subst b1;refine ai O O (mv O O f5) (ai O O (bq O O O) ?_);obtain⟨f3,g4,b9⟩:=ov (t:=tI) r1 (i:=1) Y Y;have b9:f3=vi (ix x1 1):=b9;subst b9;refine ai O O (mv O O g4) (ai O O (bq O O O) (ai O O (br O O ie) ?_));exact gK O O O O O k
      refine nS ?_;refine bv s O ?_ ?_<;>clear s<;>intro c s<;>try simp only[qa]at c
      ·refine sR (mI O (mI O (nS ?_)));exact rT s O O O O O
      ·refine aw (aq (am (sR (fL O (ak.g_Op r0) O O (bN du O O (mV O ?_))))));refine bw 4 (d:=88) (v:=vb ((decide (x0.Op=15))||(decide (x0.Op=16)))) ?_ ?_
       ·intro S Q r;cases c8:(decide (x0.Op=15))
        ·intro k;have b5:=c8;try simp only[qa]at b5
         refine ai O O (bt O (ak.g_Op r0)) (ai O O (bq O O O) (ai O O (br O O du) ?_));exact gK O O O O O k
        ·exact gN 3 O O O O O O
       refine nS ?_;refine bv s O ?_ ?_<;>clear s<;>intro c s<;>try simp only[qa]at c
       ·refine sR (mI O (mI O (nS ?_)));exact rT s O O O O O
       ·refine aw (aq (sR ?_));obtain⟨e7,f6,b0⟩:=ov (t:=tI) r1 (i:=0) Y Y;have b0:e7=vi (ix x1 0):=b0;subst b0;refine ah (mv O O f6) (lR O O O (mV O (mI O (nS ?_))));exact rT s O O O O O
 ·intro J;refine bv s O ?_ ?_<;>clear s<;>intro c s<;>try simp only[qa]at c
  ·refine aw ?_;refine aq (wC (J _ s) O)
  ·refine az (bN du O O (mV O (cd ?_)));refine aq (wC (J _ s) O)
end Go.Proofs.YtmonnlkagniolaaGreat
