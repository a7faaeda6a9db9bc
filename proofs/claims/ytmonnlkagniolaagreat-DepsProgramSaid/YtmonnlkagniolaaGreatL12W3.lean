/-
 The code of each function does what its plain program says.
-/
import Derived.Test.YtmonnlkagniolaaGreatL12W2
set_option linter.unusedVariables false
set_option linter.unusedSimpArgs false
set_option maxRecDepth 100000
namespace Go.Proofs.YtmonnlkagniolaaGreat
open Go Go.Pb Go.RowKit
def RF54(res:(List ay))(r:PV):Prop:=(tSl ay.t).R res r
theorem ec5{x0:af}{v0:PV}(r0:af.t.R x0 v0)(hs:csl x0.Control<=1000)(hu:GU x0.Control):∃r,FnR Tryz.prog 54 [v0] r/\(tSl ay.t).R (lr x0) r:=by
 refine fnT (R:=RF54) eg3 O λres z=>?_;unfold lr at z;refine sR (ah (ej O (TR.cnt af.t r0)) (ah (v:=nilS) (ba O) (nS (am (sR (lD r0 O O O ?_))))));obtain⟨d5,b8,z⟩:=br z;have b6:=df7 r0 (by first|assumption|omega|(rw[db V V];omega));rw[b8]at b6;refine cL b6 O O (ak (TR.clo af.t r0) bp) (mV O (xT O O (xT O O (mV O (mV O (nR (mV O (bN kx O O ?_))))))));refine nS ?_;refine ck z O ?_ ?_<;>clear z<;>intro c z<;>try simp only[qa]at c
 ·refine sR (ah (v:=nilS) (ba O) (nS ?_));exact rR z O (TR.clo (tSl ay.t) fm) fm
 ·refine bc (aq (sR ?_));refine dz (x:=nilS) (Mem.nil ⟨0,[]⟩) O O (λa4 a1 d3 c4=>?_);refine nR ?_;refine dz (x:= .sc .nilFunc) c4 O O (λa3 a5 d2 c7=>?_);refine nR (ah (v:= .fn (.func 127) [] [.op a4 a1 0,.op a3 a5 0]) (sn O O) ?_);refine dm (k:=0) (v:= .fn (.func 127) [] [.op a4 a1 0,.op a3 a5 0]) c7 O O O O (λb7 a8=>?_);replace a8:Mem b7 [⟨.op a3 a5 0,178,1,[.fn (.func 127) [] [.op a4 a1 0,.op a3 a5 0]]⟩,⟨.op a4 a1 0,68,1,[nilS]⟩]:=a8;refine nS (am (fc (bw (ah (gq (k:=0) a8 O O O) (bz (bw ?_))))));obtain⟨d6,c5,b3⟩:=af.g_Control r0;refine fA O c5 (bz (bw (lD b3 O O O (bz ?_))));have c6:=my (sz:=3) (es:=[]) a8 35 (.inl ⟨none,O,O⟩) OZ;have d0:Mem b7 [⟨.op a4 a1 0,68,1,[nilS]⟩,⟨nilS,35,3,([]:List PV)⟩,⟨.op a3 a5 0,178,1,[.fn (.func 127) [] [.op a4 a1 0,.op a3 a5 0]]⟩]:=(Mem.front (k:=2) (Mem.front (k:=1) (Mem.front (k:=1) c6 O) O) O);obtain⟨d8,b4,z⟩:=br z;obtain⟨d1,d4,b9,a9⟩:=da2 (x0:=x0.Control) (x1:=([]:List bd)) (c0:=([]:List ay)) b3 fm (show All2 ay.t.R ([]:List ay) [] from trivial) O (by first|decide|simp) (.inl O) d0 (by first|omega|exact hu|(simp only[List.length_nil];omega)) (by first|omega|exact hu|(simp only[List.length_nil];omega)) (by first|omega|exact hu|(simp only[List.length_nil];omega));rw[b4]at a9;obtain⟨b5,b1,b0,a6,a0,a2,b2,a7⟩:=a9;replace a7:=a7.symm;subst a7;refine fy O O b9 (ja (aq (sR (ah (gq (k:=0) b0 O O (gf (k:=1) b0 O a0).2) (mV O (nS ?_))))));obtain⟨d7,c8,c9⟩:=py (P:=Tryz.prog) (k:=1) (t:=ay.t) b0 O a0 a6 (Nat.le_trans a2 OO);subst z;exact ft (.tmp O .nil) c8 c9
def RF206(res:Bool)(r:PV):Prop:=r=vb res
theorem bv1{x0:Int}:FnR Tryz.prog 206 [vi x0] (vb (se x0)):=by
 refine fnS (R:=RF206) dh2 (λ_ h=>h) O λres z=>?_;unfold se at z;refine sR (mB O (nR (mV O (mV O (bN kx O O (mV O (nS ?_)))))));exact rR z O O O
def RF141(res:Int)(r:PV):Prop:=r=vi res
theorem ap5{x0 x1:Int}:FnR Tryz.prog 141 [vi x0,vi x1] (vi (mo x0 x1)):=by
 refine fnS (R:=RF141) cs6 (λ_ h=>h) O λres z=>?_;unfold mo at z;refine sR (mI O (nR (mV O ?_)));obtain⟨a4,a2,z⟩:=br z;have a1:=bv1 (x0:=x0);rw[a2]at a1;refine cL a1 O O (ak O bp) (mV O (nR (mV O ?_)));obtain⟨a5,a3,z⟩:=br z;have a0:=bv1 (x0:=x1);rw[a3]at a0;refine cL a0 O O (ak O bp) (mV O (nS (am (sR (mV O (nS ?_))))));refine ck z O ?_ ?_<;>clear z<;>intro c z<;>try simp only[qa]at c
 ·refine am (sR (mV O (nS ?_)));refine ck z O ?_ ?_<;>clear z<;>intro c z<;>try simp only[qa]at c
  ·refine sR (mI O (nS ?_));exact rR z O O O
  ·refine bc (aq (sR (mI O (nS ?_))));exact rR z O O O
 ·refine bc (aq (am (sR (mV O (nS ?_)))));refine ck z O ?_ ?_<;>clear z<;>intro c z<;>try simp only[qa]at c
  ·refine sR (mI O (nS ?_));exact rR z O O O
  ·refine bc (aq (am (sR (mV O (mV O (bN cx O O (nS ?_)))))));refine ck z O ?_ ?_<;>clear z<;>intro c z<;>try simp only[qa]at c
   ·refine sR (mI O (nS ?_));exact rR z O O O
   ·refine bc (aq (am (sR (mV O (mV O (bN kh O O (nS ?_)))))));refine ck z O ?_ ?_<;>clear z<;>intro c z<;>try simp only[qa]at c
    ·refine sR (mI O (nS ?_));exact rR z O O O
    ·refine bc (aq (sR (mI O (nS ?_))));exact rR z O O O
def RF140(res:Int)(r:PV):Prop:=r=vi res
theorem am6{S:List Fr}{res:Int}{x0:List Int}{v0:PV}(r0:(tSl tI).R x0 v0){K0:Unit->Int}
 (a3:K0 ()=res->PX Tryz.prog 0 S (QR Tryz.prog [(2,none)] (RF140 res)) [(3,vi 0)] ⟨0,[]⟩):
 ∀{m:Nat}{a0:Int}(a2:m=Int.toNat ((x0.length:Int)-a0))(a1:0<=a0),pe x0 K0 m a0=res->RC Tryz.prog (.loop cd8) S (QR Tryz.prog [(2,none)] (RF140 res)) [(8,vi a0),(7,vi (x0.length:Int)),(6,v0),(3,vi 0)] ⟨0,[]⟩:=by
 intro m;induction m with
 |zero=>
  intro a0 a2 a1 z;rw[pe]at z;refine cg (sR (bN cx O O (nS (am ?_))));refine bv O ?_ ?_<;>intro c<;>try simp only[qa]at c
  ·omega
  refine dl (ee (dh ?_));exact wP (a3 z) O
 |succ m ih=>
  intro a0 a2 a1 z;rw[pe]at z;refine cg (sR (bN cx O O (nS (am ?_))));refine bv O ?_ ?_<;>intro c<;>try simp only[qa]at c
  rotate_left
  ·omega
  refine bc (aq (am (bm (sR (ah (bn O O (slI r0 V V)) (lR O O O (mV O (nR ?_))))))));refine mV O (mV O (bN kx O O (nS ?_)));refine ck z O ?_ ?_<;>clear z<;>intro c z<;>try simp only[qa]at c
  ·refine sR (mV O (mV O (nS ?_)));exact rR z O O O
  ·refine bc (de (aq (ax (bN dt O O (mV O (bq (cy ?_)))))));have s:=df r0;have o:wr (a0+1)=a0+1:=db V V;erw[o];exact wC (ih V V z) O
theorem bu2{x0:List Int}{v0:PV}(r0:(tSl tI).R x0 v0):FnR Tryz.prog 140 [v0] (vi (ub x0)):=by
 refine fnS (R:=RF140) cu8 (λ_ h=>h) O λres z=>?_;unfold ub at z;refine sR (mI O (nR (mI O (nS (am (sR (mV O (ah (da O (co r0 Tryz.underlying29 _)) ?_))))))));refine mI O (nS (bm ?_));refine wC (am6 r0 ?_ O V z) O
 ·intro z;refine em (aq (sR (mV O (mV O (nS ?_)))));exact rR z O O O
def RF139(res:Int)(r:PV):Prop:=r=vi res
theorem cu5{x0:aa}{x1:aa}{v0 v1:PV}(r0:aa.t.R x0 v0)(r1:aa.t.R x1 v1):FnR Tryz.prog 139 [v0,v1] (vi (lw x0 x1)):=by
 refine fnS (R:=RF139) bu6 (λ_ h=>h) O λres z=>?_;unfold lw at z;refine sR (ah (ej O (TR.cnt aa.t r0)) (ah (ej O (TR.cnt aa.t r1)) (mI O (nR (fL O (aa.g_Header r0) O O (fL O (aa.g_Header r1) O O ?_))))));obtain⟨a0,a4,z⟩:=br z;have a3:=ap5 (x0:=x0.Header) (x1:=x1.Header);rw[a4]at a3;refine cL a3 O O (ak O (ak O bp)) (fL O (aa.g_Field r0) O O (fL O (aa.g_Field r1) O O ?_));obtain⟨a1,a6,z⟩:=br z;have a7:=ap5 (x0:=x0.Field) (x1:=x1.Field);rw[a6]at a7;refine cL a7 O O (ak O (ak O bp)) (ah (v:= .fs true [vi a0,vi a1]) (fk O (all_cons O (all_cons O iy))) ?_);have a2:(tSl tI).R ([a0,a1]:List Int) (.fs true [vi a0,vi a1]):=pt ⟨O,⟨O,trivial⟩⟩ OZ;obtain⟨a9,a5,z⟩:=br z;have a8:=bu2 a2;rw[a5]at a8;refine cL a8 O O (ak (TR.clo (tSl tI) a2) bp) (mV O (nS ?_));exact rR z O O O
def RF179(res:Int)(r:PV):Prop:=r=vi res
theorem df4{x0:aa}{x1:aa}{v0 v1:PV}(r0:aa.t.R x0 v0)(r1:aa.t.R x1 v1):FnR Tryz.prog 179 [v0,v1] (vi (fj x0 x1)):=by
 refine fnS (R:=RF179) bw6 (λ_ h=>h) O λres z=>?_;unfold fj at z;refine sR (ah (ej O (TR.cnt aa.t r0)) (ah (ej O (TR.cnt aa.t r1)) (mI O (nR (fL O (aa.g_Header r0) O O (fL O (aa.g_Header r1) O O ?_))))));obtain⟨a0,a4,z⟩:=br z;have a3:=ap5 (x0:=x0.Header) (x1:=x1.Header);rw[a4]at a3;refine cL a3 O O (ak O (ak O bp)) (fL O (aa.g_Field r0) O O (fL O (aa.g_Field r1) O O ?_));obtain⟨a1,a6,z⟩:=br z;have a7:=ap5 (x0:=x0.Field) (x1:=x1.Field);rw[a6]at a7;refine cL a7 O O (ak O (ak O bp)) (ah (v:= .fs true [vi a0,vi a1]) (fk O (all_cons O (all_cons O iy))) ?_);have a2:(tSl tI).R ([a0,a1]:List Int) (.fs true [vi a0,vi a1]):=pt ⟨O,⟨O,trivial⟩⟩ OZ;obtain⟨a9,a5,z⟩:=br z;have a8:=bu2 a2;rw[a5]at a8;refine cL a8 O O (ak (TR.clo (tSl tI) a2) bp) (mV O (nS ?_));exact rR z O O O
def RF138139(a0:PV)(R_:List Ent)(res:List aa)(r:PV)(h:Heap):Prop:=∃es:List PV,Mem h (⟨a0,87,2,es⟩::R_)/\All2 aa.t.R res es/\res.length<=4611686018427387904/\Wri a0 es/\r= .tup []
theorem bq0{x0:List aa}{a0:PV}{a1:List PV}{R_:List Ent}{h_:Heap}(q:All2 aa.t.R x0 a1)(ne:isL a0=true)(hl:x0.length<=4611686018427387904)(wi:Wri a0 a1)(M:Mem h_ (⟨a0,87,2,a1⟩::R_))(hb:x0.length<=1000000):∃r a2,FnX Tryz.prog 138 [a0,.fn (.func 139) [] []] h_ r a2/\RF138139 a0 R_ (lj x0) r a2:=by
 obtain⟨r,h2,X,es',M2,q2,w2,hr⟩:=az7 (t:=aa.t) (mk:=frmk) (enc:=frenc) (cf:=lw) bw3.enters (λx v h=>h) (λx=>O) (λx=>O) (λx=>O) (λx u hu=>by simp[frenc]at hu;rcases hu with rfl|rfl<;>rfl) (λx y=>cu5 O O) (λblk off cap d w hc hH hb hs=>Go.Proofs.Tryz.sortF_calls frenc (λx=>O) (λx u hu=>by simp[frenc]at hu;rcases hu with rfl|rfl<;>rfl) lw du3 cg5 139 bu6.enters blk off cap d w hc hH hb hs) (λp cap w=>Go.Proofs.Tryz.sortF_none p cap _ w) q ne hb wi M;exact⟨r,h2,X,es',M2,q2,by rw[lj,List.length_mergeSort];exact hl,w2,hr⟩
def RF138179(a0:PV)(R_:List Ent)(res:List aa)(r:PV)(h:Heap):Prop:=∃es:List PV,Mem h (⟨a0,87,2,es⟩::R_)/\All2 aa.t.R res es/\res.length<=4611686018427387904/\Wri a0 es/\r= .tup []
theorem bn4{x0:List aa}{a0:PV}{a1:List PV}{R_:List Ent}{h_:Heap}(q:All2 aa.t.R x0 a1)(ne:isL a0=true)(hl:x0.length<=4611686018427387904)(wi:Wri a0 a1)(M:Mem h_ (⟨a0,87,2,a1⟩::R_))(hb:x0.length<=1000000):∃r a2,FnX Tryz.prog 138 [a0,.fn (.func 179) [] []] h_ r a2/\RF138179 a0 R_ (ga x0) r a2:=by
 obtain⟨r,h2,X,es',M2,q2,w2,hr⟩:=az7 (t:=aa.t) (mk:=frmk) (enc:=frenc) (cf:=fj) bw3.enters (λx v h=>h) (λx=>O) (λx=>O) (λx=>O) (λx u hu=>by simp[frenc]at hu;rcases hu with rfl|rfl<;>rfl) (λx y=>df4 O O) (λblk off cap d w hc hH hb hs=>Go.Proofs.Tryz.sortF_calls frenc (λx=>O) (λx u hu=>by simp[frenc]at hu;rcases hu with rfl|rfl<;>rfl) fj ec7 cq9 179 bw6.enters blk off cap d w hc hH hb hs) (λp cap w=>Go.Proofs.Tryz.sortF_none p cap _ w) q ne hb wi M;exact⟨r,h2,X,es',M2,q2,by rw[ga,List.length_mergeSort];exact hl,w2,hr⟩
theorem bv2{x0:List aa}{a0:PV}{a1:List PV}{R_:List Ent}{h_:Heap}(q:All2 aa.t.R x0 a1)(ne:isL a0=true)(hl:x0.length<=4611686018427387904)(wi:Wri a0 a1)(M:Mem h_ (⟨a0,87,2,a1⟩::R_)):∃r a2,FnX Tryz.prog 142 [a0] h_ r a2/\RF142 R_ (jt x0) r a2:=ch6 q ne hl wi M
def RF66(res:(List aa))(r:PV):Prop:=(tSl aa.t).R res r
theorem ai7{S:List Fr}{res:(List aa)}{x0:List ai}{v0:PV}(r0:(tSl ai.t).R x0 v0)(hb:x0.length<=1000){K0:(List aa)->(List aa)}
 (d5:∀{zE102:List aa}{a0:List PV}{a1:PV}(a4:All2 aa.t.R zE102 a0)(a6:isL a1=true)(a2:Wri a1 a0)(a5:zE102.length<=4611686018427387904)(d7:zE102.length<=1000){h:Heap}(M0:Mem h [⟨a1,87,2,a0⟩]),K0 zE102=res->PX Tryz.prog 0 S (QR Tryz.prog [(2,none)] (RF66 res)) [(3,a1)] h):
 ∀{m:Nat}{a3:Int}{zE102:List aa}{a0:List PV}{a1:PV}(a4:All2 aa.t.R zE102 a0)(a6:isL a1=true)(a2:Wri a1 a0)(a5:zE102.length<=4611686018427387904)(d2:m=Int.toNat ((x0.length:Int)-a3))(b7:0<=a3)(b0:(zE102.length:Int)<=a3)(b1:a3<=(x0.length:Int)){h:Heap}(M0:Mem h [⟨a1,87,2,a0⟩]),jv x0 K0 m a3 zE102=res->RC Tryz.prog (.loop cz0) S (QR Tryz.prog [(2,none)] (RF66 res)) [(8,vi a3),(7,vi (x0.length:Int)),(6,v0),(3,a1)] h:=by
 have hb':=hb;try simp only[qa]at hb'
 intro m;induction m with
 |zero=>
  intro a3 zE102 a0 a1 a4 a6 a2 a5 d2 b7 b0 b1 h M0 z;rw[jv]at z;refine cg (sR (bN cx O O (nS (am ?_))));refine bv O ?_ ?_<;>intro c<;>try simp only[qa]at c
  ·omega
  refine dl (ee (dh ?_));exact wP (d5 a4 a6 a2 a5 V (Mem.sub M0 (.cons_cons _ .slnil)) z) O
 |succ m ih=>
  intro a3 zE102 a0 a1 a4 a6 a2 a5 d2 b7 b0 b1 h M0 z;rw[jv]at z;refine cg (sR (bN cx O O (nS (am ?_))));refine bv O ?_ ?_<;>intro c<;>try simp only[qa]at c
  rotate_left
  ·omega
  refine bc (aq (am (bm (sR ?_))));obtain⟨b9,c7,a8⟩:=dn (i:=a3) r0 V V;refine ah (bn O O c7) (lD a8 O O O ?_);refine dz (x:= .agg [vi 0,vi 0,vi 0]) M0 O O (λd1 c8 d3 d0=>?_);refine dm (k:=0) (v:=b9) d0 O O O (TR.cnt ai.t a8) (λb4 a7=>?_);replace a7:Mem b4 [⟨.op d1 c8 0,113,3,[b9]⟩,⟨a1,87,2,a0⟩]:=a7;refine nR (ah (bh O) (ah (ci (k:=0) a7 O O (ai.g_Op a8)) (bN dy O O (nS ?_))));refine ck z O ?_ ?_<;>clear z<;>intro c z<;>try simp only[qa]at c
  ·refine ax (mV O (ah (bh O) (ah (ci (k:=0) a7 O O (ai.g_N a8)) (ah (bh O) (ah (ci (k:=0) a7 O O (ai.g_W a8)) (ah (v:= .agg [vi ((ix x0 a3).N),vi ((ix x0 a3).W)]) (lq (cs:=[vi ((ix x0 a3).N),vi ((ix x0 a3).W)]) O O) (ah (v:= .fs true [.agg [vi ((ix x0 a3).N),vi ((ix x0 a3).W)]]) (fk O (all_cons O iy)) ?_)))))));have c6:(tSl aa.t).R ([({Header:=(ix x0 a3).N,Field:=(ix x0 a3).W}:aa)]:List aa) (.fs true [.agg [vi ((ix x0 a3).N),vi ((ix x0 a3).W)]]):=pt ⟨O,trivial⟩ OZ;obtain⟨a9,b5,b2⟩:=kv (t:=aa.t) (h:=b4) c6;have b3:fits (a0.length+a9.length) 16=true:=by rw[All2.length_eq a4,All2.length_eq b2];(try simp only[List.length_cons,List.length_nil]);exact ii (by first|omega|(simp only[List.length_append,List.length_cons,List.length_nil];omega)) (by first|omega|(simp only[List.length_append,List.length_cons,List.length_nil];omega))
   refine jc (k:=1) (es:=a0) (news:=a9) a7 O O O a6 a2 b5 b3 (λd6 d4 c5 b6 c9=>?_);have c4:All2 aa.t.R (zE102++([({Header:=(ix x0 a3).N,Field:=(ix x0 a3).W}:aa)]:List aa)) (a0++a9):=All2.app a4 b2;have b8:(zE102++([({Header:=(ix x0 a3).N,Field:=(ix x0 a3).W}:aa)]:List aa)).length<=4611686018427387904:=by rw[<-All2.length_eq c4,List.length_append];exact gm b3
   refine mV O (bq (de (aq (ax (bN dt O O (mV O (bq (cy ?_))))))));have s:=df r0;have o:wr (a3+1)=a3+1:=db V V;erw[o];exact wC (ih c4 c5 b6 b8 V V (by first|omega|(simp only[List.length_append,List.length_cons,List.length_nil];omega)) (by first|omega|(simp only[List.length_append,List.length_cons,List.length_nil];omega)) (Mem.sub c9 (.cons _ (.cons_cons _ .slnil))) z) O
  ·refine bc (de (aq (ax (bN dt O O (mV O (bq (cy ?_)))))));have s:=df r0;have o:wr (a3+1)=a3+1:=db V V;erw[o];exact wC (ih a4 a6 a2 a5 V V (by first|omega|(simp only[List.length_append,List.length_cons,List.length_nil];omega)) (by first|omega|(simp only[List.length_append,List.length_cons,List.length_nil];omega)) (Mem.sub a7 (.cons _ (.cons_cons _ .slnil))) z) O
theorem co2{x0:List ai}{v0:PV}(r0:(tSl ai.t).R x0 v0)(hb:x0.length<=1000):∃r,FnR Tryz.prog 66 [v0] r/\(tSl aa.t).R (mr x0) r:=by
 refine fnT (R:=RF66) eh7 O λres z=>?_;unfold mr at z;refine sR (ah (v:=nilS) (ba O) (nR (ah (v:=nilS) (ba O) (nS (am (sR (mV O (ah (da O (co r0 Tryz.underlying32 _)) ?_))))))));refine mI O (nS (bm ?_));have d4:=my (sz:=2) (es:=[]) (Mem.nil ⟨0,[]⟩) 87 (.inl ⟨none,O,O⟩) OZ;refine wC (ai7 r0 hb ?_ aL O (.inl O) (by first|decide|simp) O V (by first|omega|simp) (by first|omega|simp) (Mem.sub d4 (.cons_cons _ .slnil)) z) O
 ·intro a2 a5 a0 a8 a1 a4 a3 c9 d7 e0 z;refine em (aq (am (fc (bw (mV O (bz ?_))))));have d9:Mem d7 [⟨a0,87,2,a5⟩]:=(Mem.front (k:=0) e0 O);obtain⟨d0,c4,z⟩:=br z;obtain⟨e2,d1,b8,b7⟩:=bq0 (x0:=a2) a8 a1 a3 a4 d9 (by first|assumption|omega|(rw[db V V];omega));rw[c4]at b7;obtain⟨b1,d6,a9,a6,a7,b0⟩:=b7;replace b0:=b0.symm;subst b0;refine fy O O b8 (ja (aq (am (fc (bw (mV O (bz ?_)))))));have d8:Mem d1 [⟨a0,87,2,b1⟩]:=(Mem.front (k:=0) d6 O);obtain⟨e5,c5,z⟩:=br z;obtain⟨e1,e3,b9,b6⟩:=bv2 (x0:=d0) a9 a1 a6 a7 d8;rw[c5]at b6;obtain⟨c8,c6,d5,b3,b4,b5,c7,b2⟩:=b6;replace b2:=b2.symm;subst b2;refine fy O O b9 (bw (mV O (bz (ja (aq ?_)))));obtain⟨e4,d3,d2⟩:=py (P:=Tryz.prog) (k:=0) (t:=aa.t) d5 O b4 b3 (Nat.le_trans b5 OO);subst z;exact ft (.tmp O .nil) d3 d2
def RF143(a0:PV)(R_:List Ent)(res:List Int)(r:PV)(h:Heap):Prop:=∃es:List PV,Mem h (⟨a0,3,1,es⟩::R_)/\All2 tI.R res es/\res.length<=4611686018427387904/\Wri a0 es/\r= .tup []
theorem ap1{x0:List Int}{a0:PV}{a1:List PV}{R_:List Ent}{h_:Heap}(q:All2 tI.R x0 a1)(ne:isL a0=true)(hl:x0.length<=4611686018427387904)(wi:Wri a0 a1)(M:Mem h_ (⟨a0,3,1,a1⟩::R_))(hb:x0.length<=1000000):∃r a2,FnX Tryz.prog 143 [a0] h_ r a2/\RF143 a0 R_ (en x0) r a2:=by
 obtain⟨r,h2,X,es',M2,q2,w2,hr⟩:=bq5 dc7.enters Go.Proofs.Tryz.sortI_calls Go.Proofs.Tryz.sortI_none q ne hb wi M;exact⟨r,h2,X,es',M2,q2,by rw[en,List.length_mergeSort];exact hl,w2,hr⟩
theorem ap3{x0:List Int}{a0:PV}{a1:List PV}{R_:List Ent}{h_:Heap}(q:All2 tI.R x0 a1)(ne:isL a0=true)(hl:x0.length<=4611686018427387904)(wi:Wri a0 a1)(M:Mem h_ (⟨a0,3,1,a1⟩::R_)):∃r a2,FnX Tryz.prog 144 [a0] h_ r a2/\RF144 R_ (ky x0) r a2:=cl9 q ne hl wi M
def RF67(res:(List Int))(r:PV):Prop:=(tSl tI).R res r
theorem ab2{S:List Fr}{res:(List Int)}{x0:List ai}{v0:PV}(r0:(tSl ai.t).R x0 v0)(hb:x0.length<=1000){K0:(List Int)->(List Int)}
 (d5:∀{zE102:List Int}{a0:List PV}{a1:PV}(a3:All2 tI.R zE102 a0)(a5:isL a1=true)(a2:Wri a1 a0)(a4:zE102.length<=4611686018427387904)(d7:zE102.length<=1000){h:Heap}(M0:Mem h [⟨a1,3,1,a0⟩]),K0 zE102=res->PX Tryz.prog 0 S (QR Tryz.prog [(2,none)] (RF67 res)) [(3,a1)] h):
 ∀{m:Nat}{a6:Int}{zE102:List Int}{a0:List PV}{a1:PV}(a3:All2 tI.R zE102 a0)(a5:isL a1=true)(a2:Wri a1 a0)(a4:zE102.length<=4611686018427387904)(d2:m=Int.toNat ((x0.length:Int)-a6))(b7:0<=a6)(b0:(zE102.length:Int)<=a6)(b1:a6<=(x0.length:Int)){h:Heap}(M0:Mem h [⟨a1,3,1,a0⟩]),jg x0 K0 m a6 zE102=res->RC Tryz.prog (.loop dl6) S (QR Tryz.prog [(2,none)] (RF67 res)) [(8,vi a6),(7,vi (x0.length:Int)),(6,v0),(3,a1)] h:=by
 have hb':=hb;try simp only[qa]at hb'
 intro m;induction m with
 |zero=>
  intro a6 zE102 a0 a1 a3 a5 a2 a4 d2 b7 b0 b1 h M0 z;rw[jg]at z;refine cg (sR (bN cx O O (nS (am ?_))));refine bv O ?_ ?_<;>intro c<;>try simp only[qa]at c
  ·omega
  refine dl (ee (dh ?_));exact wP (d5 a3 a5 a2 a4 V (Mem.sub M0 (.cons_cons _ .slnil)) z) O
 |succ m ih=>
  intro a6 zE102 a0 a1 a3 a5 a2 a4 d2 b7 b0 b1 h M0 z;rw[jg]at z;refine cg (sR (bN cx O O (nS (am ?_))));refine bv O ?_ ?_<;>intro c<;>try simp only[qa]at c
  rotate_left
  ·omega
  refine bc (aq (am (bm (sR ?_))));obtain⟨b9,c7,a9⟩:=dn (i:=a6) r0 V V;refine ah (bn O O c7) (lD a9 O O O ?_);refine dz (x:= .agg [vi 0,vi 0,vi 0]) M0 O O (λd1 c8 d3 d0=>?_);refine dm (k:=0) (v:=b9) d0 O O O (TR.cnt ai.t a9) (λb4 a7=>?_);replace a7:Mem b4 [⟨.op d1 c8 0,113,3,[b9]⟩,⟨a1,3,1,a0⟩]:=a7;refine nR (ah (bh O) (ah (ci (k:=0) a7 O O (ai.g_Op a9)) (bN dy O O (nS ?_))));refine ck z O ?_ ?_<;>clear z<;>intro c z<;>try simp only[qa]at c
  ·refine ax (mV O (ah (bh O) (ah (ci (k:=0) a7 O O (ai.g_N a9)) (ah (v:= .fs true [vi ((ix x0 a6).N)]) (fk O (all_cons O iy)) ?_))));have c6:(tSl tI).R ([(ix x0 a6).N]:List Int) (.fs true [vi ((ix x0 a6).N)]):=pt ⟨O,trivial⟩ OZ;obtain⟨a8,b5,b2⟩:=kv (t:=tI) (h:=b4) c6;have b3:fits (a0.length+a8.length) 8=true:=by rw[All2.length_eq a3,All2.length_eq b2];(try simp only[List.length_cons,List.length_nil]);exact ii (by first|omega|(simp only[List.length_append,List.length_cons,List.length_nil];omega)) (by first|omega|(simp only[List.length_append,List.length_cons,List.length_nil];omega))
   refine jc (k:=1) (es:=a0) (news:=a8) a7 O O O a5 a2 b5 b3 (λd6 d4 c5 b6 c9=>?_);have c4:All2 tI.R (zE102++([(ix x0 a6).N]:List Int)) (a0++a8):=All2.app a3 b2;have b8:(zE102++([(ix x0 a6).N]:List Int)).length<=4611686018427387904:=by rw[<-All2.length_eq c4,List.length_append];exact gm b3
   refine mV O (bq (de (aq (ax (bN dt O O (mV O (bq (cy ?_))))))));have s:=df r0;have o:wr (a6+1)=a6+1:=db V V;erw[o];exact wC (ih c4 c5 b6 b8 V V (by first|omega|(simp only[List.length_append,List.length_cons,List.length_nil];omega)) (by first|omega|(simp only[List.length_append,List.length_cons,List.length_nil];omega)) (Mem.sub c9 (.cons _ (.cons_cons _ .slnil))) z) O
  ·refine bc (de (aq (ax (bN dt O O (mV O (bq (cy ?_)))))));have s:=df r0;have o:wr (a6+1)=a6+1:=db V V;erw[o];exact wC (ih a3 a5 a2 a4 V V (by first|omega|(simp only[List.length_append,List.length_cons,List.length_nil];omega)) (by first|omega|(simp only[List.length_append,List.length_cons,List.length_nil];omega)) (Mem.sub a7 (.cons _ (.cons_cons _ .slnil))) z) O
theorem cr0{x0:List ai}{v0:PV}(r0:(tSl ai.t).R x0 v0)(hb:x0.length<=1000):∃r,FnR Tryz.prog 67 [v0] r/\(tSl tI).R (lc x0) r:=by
 refine fnT (R:=RF67) ed8 O λres z=>?_;unfold lc at z;refine sR (ah (v:=nilS) (ba O) (nR (ah (v:=nilS) (ba O) (nS (am (sR (mV O (ah (da O (co r0 Tryz.underlying32 _)) ?_))))))));refine mI O (nS (bm ?_));have d4:=my (sz:=1) (es:=[]) (Mem.nil ⟨0,[]⟩) 3 (.inl ⟨none,O,O⟩) OZ;refine wC (ab2 r0 hb ?_ aL O (.inl O) (by first|decide|simp) O V (by first|omega|simp) (by first|omega|simp) (Mem.sub d4 (.cons_cons _ .slnil)) z) O
 ·intro a2 a5 a0 a8 a1 a4 a3 c9 d7 e0 z;refine em (aq (am (fc (bw (mV O (bz ?_))))));have d9:Mem d7 [⟨a0,3,1,a5⟩]:=(Mem.front (k:=0) e0 O);obtain⟨d0,c4,z⟩:=br z;obtain⟨e2,d1,b8,b7⟩:=ap1 (x0:=a2) a8 a1 a3 a4 d9 (by first|assumption|omega|(rw[db V V];omega));rw[c4]at b7;obtain⟨b1,d6,a9,a6,a7,b0⟩:=b7;replace b0:=b0.symm;subst b0;refine fy O O b8 (ja (aq (am (fc (bw (mV O (bz ?_)))))));have d8:Mem d1 [⟨a0,3,1,b1⟩]:=(Mem.front (k:=0) d6 O);obtain⟨e5,c5,z⟩:=br z;obtain⟨e1,e3,b9,b6⟩:=ap3 (x0:=d0) a9 a1 a6 a7 d8;rw[c5]at b6;obtain⟨c8,c6,d5,b3,b4,b5,c7,b2⟩:=b6;replace b2:=b2.symm;subst b2;refine fy O O b9 (bw (mV O (bz (ja (aq ?_)))));obtain⟨e4,d3,d2⟩:=py (P:=Tryz.prog) (k:=0) (t:=tI) d5 O b4 b3 (Nat.le_trans b5 OO);subst z;exact ft (.tmp O .nil) d3 d2
def RF137(i1_ w1_:Nat)(R_:List Ent)(res:au)(r:PV)(h:Heap):Prop:=∃uF0H:PV,∃uF0M:PV,∃uF0R:PV,∃uF0A:PV,∃uF0T:PV,∃uF0S:PV,∃uF0C:PV,∃uF0D:PV,∃aF0_8:PV,∃esF0_8:List PV,Mem h (⟨.op i1_ w1_ 0,118,10,[.agg [vs res.p.Name,uF0H,uF0M,uF0R,uF0A,uF0T,uF0S,uF0C,uF0D,aF0_8]]⟩::⟨aF0_8,3,1,esF0_8⟩::R_)/\((tSl cm.t).R res.p.Headers uF0H)/\((tSl bg.t).R res.p.Metadata uF0M)/\((tSl cz.t).R res.p.Registers uF0R)/\((tSl bt.t).R res.p.Actions uF0A)/\((tSl ca.t).R res.p.Tables uF0T)/\((tSl cd.t).R res.p.States uF0S)/\((tSl ae.t).R res.p.Control uF0C)/\((tSl tI).R res.p.Deparser uF0D)/\(All2 tI.R res.cells esF0_8)/\(isL aF0_8=true)/\(res.cells.length<=4611686018427387904)/\(Wri aF0_8 esF0_8)/\r= .tup []
theorem bd7{x0:Int}{c0:au}{a5 a2 a0 a3 a7 a6 a4 a1 b7:PV}{a8:List PV}{R_:List Ent}{h_:Heap}{d1 c8:Nat}(b2:(tSl cm.t).R c0.p.Headers a5)(b1:(tSl bg.t).R c0.p.Metadata a2)(a9:(tSl cz.t).R c0.p.Registers a0)(b3:(tSl bt.t).R c0.p.Actions a3)(b5:(tSl ca.t).R c0.p.Tables a7)(b6:(tSl cd.t).R c0.p.States a6)(b4:(tSl ae.t).R c0.p.Control a4)(b0:(tSl tI).R c0.p.Deparser a1)(c4:All2 tI.R c0.cells a8)(b9:isL b7=true)(c9:c0.cells.length<=4611686018427387904)(c6:Wri b7 a8)(M_:Mem h_ (⟨.op d1 c8 0,118,10,[.agg [vs c0.p.Name,a5,a2,a0,a3,a7,a6,a4,a1,b7]]⟩::⟨b7,3,1,a8⟩::R_))(hb:c0.cells.length<=1000000):∃r e3,FnX Tryz.prog 137 [vi x0,.fp (.op d1 c8 0)] h_ r e3/\RF137 d1 c8 R_ (gu x0 c0) r e3:=by
 refine fnXX (R:=RF137 d1 c8 R_) cu9 O λres z=>?_;unfold gu at z;refine sR (mV O (bN lh O O (nS ?_)));refine ck z O ?_ ?_<;>clear z<;>intro c z<;>try simp only[qa]at c
 ·refine ax (lR O O O (lR O O O (ah (jl O O) (ah (bh O) (ah (ci (k:=0) M_ O O (mk1 (gf (k:=1) M_ O b9).2)) (mV O (ah (v:= .fs true [vi x0]) (fk O (all_cons O iy)) ?_)))))));have e2:(tSl tI).R ([x0]:List Int) (.fs true [vi x0]):=pt ⟨O,trivial⟩ OZ;obtain⟨b8,d6,c7⟩:=kv (t:=tI) (h:=h_) e2;have d9:fits (a8.length+b8.length) 8=true:=by rw[All2.length_eq c4,All2.length_eq c7];(try simp only[List.length_cons,List.length_nil]);exact ii (by first|omega|(simp only[List.length_append,List.length_cons,List.length_nil];omega)) (by first|omega|(simp only[List.length_append,List.length_cons,List.length_nil];omega))
  refine jc (k:=1) (es:=a8) (news:=b8) M_ O O O b9 c6 d6 d9 (λc5 e4 e1 d4 d7=>?_);have d2:All2 tI.R (c0.cells++([x0]:List Int)) (a8++b8):=All2.app c4 c7;have d3:(c0.cells++([x0]:List Int)).length<=4611686018427387904:=by rw[<-All2.length_eq d2,List.length_append];exact gm d9
  refine ah (jl O O) (ah (bh O) ?_);refine js (k:=0) (v:=c5) d7 O O O (gf (k:=1) d7 O e1).1 O (by first|decide|(simp only[List.length_cons,List.length_nil];omega)|simp) (λd8 d0=>?_);replace d0:Mem d8 (⟨.op d1 c8 0,118,10,[.agg [vs c0.p.Name,a5,a2,a0,a3,a7,a6,a4,a1,c5]]⟩::⟨c5,3,1,(a8++b8)⟩::R_):=d0;refine bq ?_;have d5:Mem d8 (⟨.op d1 c8 0,118,10,[.agg [vs c0.p.Name,a5,a2,a0,a3,a7,a6,a4,a1,c5]]⟩::⟨c5,3,1,(a8++b8)⟩::R_):=(Mem.front (k:=1) (Mem.front (k:=1) d0 O) O);subst z;exact ah7 .nil ⟨a5,a2,a0,a3,a7,a6,a4,a1,c5,(a8++b8),Mem.sub d5 (.cons_cons _ (.cons_cons _ (List.Sublist.refl R_))),b2,b1,a9,b3,b5,b6,b4,b0,d2,e1,d3,d4,O⟩
 ·refine bc ?_;have e0:Mem h_ (⟨.op d1 c8 0,118,10,[.agg [vs c0.p.Name,a5,a2,a0,a3,a7,a6,a4,a1,b7]]⟩::⟨b7,3,1,a8⟩::R_):=(Mem.front (k:=1) (Mem.front (k:=1) M_ O) O);subst z;exact ah7 .nil ⟨a5,a2,a0,a3,a7,a6,a4,a1,b7,a8,Mem.sub e0 (.cons_cons _ (.cons_cons _ (List.Sublist.refl R_))),b2,b1,a9,b3,b5,b6,b4,b0,c4,b9,c9,c6,O⟩
def RF163(res:(List Int))(r:PV):Prop:=(tAr 4 tI).R res r
theorem aa7{S:List Fr}{res:(List Int)}{x0:af}{b9:PV}{a7 a5 a4 a6:Nat}(c5:(tSl cm.t).R x0.Headers b9){K0:(List Int)->(List Int)}
 (e1:∀{a0:List Int}{a2:PV}(a3:(tAr 4 tI).R a0 a2){h:Heap}(M0:Mem h [⟨.op a4 a6 0,210,4,[a2]⟩,⟨.op a7 a5 0,210,4,[.agg [vi 0,vi 0,vi 0,vi 0]]⟩]),K0 a0=res->PX Tryz.prog 0 S (QR Tryz.prog [(2,some (4,true))] (RF163 res)) [(2,.op a7 a5 0),(3,.op a4 a6 0)] h):
 ∀{m:Nat}{a1:Int}{a0:List Int}{a2:PV}(a3:(tAr 4 tI).R a0 a2)(d8:m=Int.toNat ((x0.Headers.length:Int)-a1))(c6:0<=a1){h:Heap}(M0:Mem h [⟨.op a4 a6 0,210,4,[a2]⟩,⟨.op a7 a5 0,210,4,[.agg [vi 0,vi 0,vi 0,vi 0]]⟩]),ln x0 K0 m a1 a0=res->RC Tryz.prog (.loop cb7) S (QR Tryz.prog [(2,some (4,true))] (RF163 res)) [(19,vi a1),(18,vi (x0.Headers.length:Int)),(17,b9),(3,.op a4 a6 0),(2,.op a7 a5 0)] h:=by
 intro m;induction m with
 |zero=>
  intro a1 a0 a2 a3 d8 c6 h M0 z;rw[ln]at z;refine cg (sR (bN cx O O (nS (am ?_))));refine bv O ?_ ?_<;>intro c<;>try simp only[qa]at c
  ·omega
  refine dl (ee (dh ?_));exact wP (e1 a3 (Mem.sub M0 (.cons_cons _ (.cons_cons _ .slnil))) z) O
 |succ m ih=>
  intro a1 a0 a2 a3 d8 c6 h M0 z;rw[ln]at z;refine cg (sR (bN cx O O (nS (am ?_))));refine bv O ?_ ?_<;>intro c<;>try simp only[qa]at c
  rotate_left
  ·omega
  refine bc (aq (am (bm (sR ?_))));obtain⟨b5,d5,b7⟩:=dn (i:=a1) c5 V V;refine ah (bn O O d5) (lD b7 O O O ?_);refine dz (x:= .agg [vs [],nilS]) M0 O O (λc7 c8 d9 d4=>?_);refine dm (k:=0) (v:=b5) d4 O O O (TR.cnt cm.t b7) (λd1 a9=>?_);replace a9:Mem d1 [⟨.op c7 c8 0,92,2,[b5]⟩,⟨.op a4 a6 0,210,4,[a2]⟩,⟨.op a7 a5 0,210,4,[.agg [vi 0,vi 0,vi 0,vi 0]]⟩]:=a9;refine nS (ax ?_);have b0:0<=(0:Int):=by omega
  have a8:(0:Int) < 4:=by omega
  refine ah (ae4 O O b0 a8) ?_;obtain⟨d3,d2,b4⟩:=cr8 (t:=tI) (i:=(0:Int)) a3 b0 a8;have b4:d3=vi (ix a0 (0:Int)):=b4;subst b4;refine ah (ci (k:=1) a9 O O d2) (ah (bh O) ?_);obtain⟨e0,d6,d7⟩:=cm.g_Fields b7;refine ah (ci (k:=0) a9 O O d6) (ah (da O (co d7 Tryz.underlying23 _)) (bN dt O O ?_));have b2:0<=(0:Int):=by omega
  have b1:(0:Int) < 4:=by omega
  refine ah (ae4 O O b2 b1) ?_;obtain⟨c4,b8,b3,c9⟩:=ay4 (t:=tI) (i:=(0:Int)) a3 b2 b1 (show tI.R (wr ((ix a0 (0:Int))+(((ix x0.Headers a1).Fields).length:Int))) (vi (wr ((ix a0 (0:Int))+(((ix x0.Headers a1).Fields).length:Int)))) from O) O;refine as7 (k:=1) (v:=vi (wr ((ix a0 (0:Int))+(((ix x0.Headers a1).Fields).length:Int)))) a9 O O O b8 O b3.1 b3.2 (λd0 b6=>?_);replace b6:Mem d0 [⟨.op c7 c8 0,92,2,[b5]⟩,⟨.op a4 a6 0,210,4,[.agg (spl c4 ((0:Int).toNat*1) [vi (wr ((ix a0 (0:Int))+(((ix x0.Headers a1).Fields).length:Int)))])]⟩,⟨.op a7 a5 0,210,4,[.agg [vi 0,vi 0,vi 0,vi 0]]⟩]:=b6;refine bq (de (aq (ax (bN dt O O (mV O (bq (cy ?_)))))));have s:=df c5;have o:wr (a1+1)=a1+1:=db V V;erw[o];exact wC (ih c9 V V (Mem.sub b6 (.cons _ (.cons_cons _ (.cons_cons _ .slnil)))) z) O
theorem bu4{x0:af}{v0:PV}(r0:af.t.R x0 v0):∃r,FnR Tryz.prog 163 [v0] r/\(tAr 4 tI).R (nk x0) r:=by
 refine fnT (R:=RF163) cy5 O λres z=>?_;unfold nk at z;refine sR (ah (ej O (TR.cnt af.t r0)) ?_);refine dz (x:= .agg [vi 0,vi 0,vi 0,vi 0]) (Mem.nil ⟨0,[]⟩) O O (λb2 a8 d1 b4=>?_);refine nR (gL (af.g_Headers r0) O O O λd2 b5=>(ah (da O (co b5 Tryz.underlying22 _)) ?_));obtain⟨c9,c4,a7⟩:=af.g_Metadata r0;refine fA O c4 (lD a7 O O O (ah (da O (co a7 Tryz.underlying23 _)) ?_));obtain⟨c8,b6,a9⟩:=af.g_Registers r0;refine fA O b6 (lD a9 O O O (ah (da O (co a9 Tryz.underlying24 _)) ?_));have b3:(tAr 4 tI).R ([0,(x0.Headers.length:Int),(x0.Metadata.length:Int),(x0.Registers.length:Int)]:List Int) (.agg [vi 0,vi (x0.Headers.length:Int),vi (x0.Metadata.length:Int),vi (x0.Registers.length:Int)]):=⟨O,[vi 0,vi (x0.Headers.length:Int),vi (x0.Metadata.length:Int),vi (x0.Registers.length:Int)],[vi 0,vi (x0.Headers.length:Int),vi (x0.Metadata.length:Int),vi (x0.Registers.length:Int)],⟨O,⟨O,⟨O,⟨O,trivial⟩⟩⟩⟩,O,O⟩;refine ah (v:= .agg [vi 0,vi (x0.Headers.length:Int),vi (x0.Metadata.length:Int),vi (x0.Registers.length:Int)]) (lq (cs:=[vi 0,vi (x0.Headers.length:Int),vi (x0.Metadata.length:Int),vi (x0.Registers.length:Int)]) O O) ?_;refine dz (x:= .agg [vi 0,vi 0,vi 0,vi 0]) b4 O O (λa5 b0 c6 b9=>?_);refine dm (k:=0) (v:= .agg [vi 0,vi (x0.Headers.length:Int),vi (x0.Metadata.length:Int),vi (x0.Registers.length:Int)]) b9 O O O (TR.cnt (tAr 4 tI) b3) (λb8 a3=>?_);replace a3:Mem b8 [⟨.op a5 b0 0,210,4,[.agg [vi 0,vi (x0.Headers.length:Int),vi (x0.Metadata.length:Int),vi (x0.Registers.length:Int)]]⟩,⟨.op b2 a8 0,210,4,[.agg [vi 0,vi 0,vi 0,vi 0]]⟩]:=a3;refine nS (am (sR (gL (af.g_Headers r0) O O O λc5 a6=>(ah (da O (co a6 Tryz.underlying22 _)) (mI O (nS (bm ?_)))))));have c7:(tAr 4 tI).R ([0,0,0,0]:List Int) (.agg [vi 0,vi 0,vi 0,vi 0]):=⟨O,[vi 0,vi 0,vi 0,vi 0],[vi 0,vi 0,vi 0,vi 0],⟨O,⟨O,⟨O,⟨O,trivial⟩⟩⟩⟩,O,O⟩;refine wC (aa7 a6 ?_ b3 O V (Mem.sub a3 (.cons_cons _ (.cons_cons _ .slnil))) z) O
 ·intro a4 a1 a0 d0 b1 z;refine em (aq (sR (ah (gq (k:=0) b1 O O (TR.agg (tAr 4 tI) a0)) ?_)));refine dm (k:=1) (v:=a1) b1 O O O (TR.cnt (tAr 4 tI) a0) (λb7 a2=>?_);replace a2:Mem b7 [⟨.op a5 b0 0,210,4,[a1]⟩,⟨.op b2 a8 0,210,4,[a1]⟩]:=a2;refine nS ?_;subst z;exact ft (.cell O (mb (k:=1) a2 O (TR.agg (tAr 4 tI) a0)) .nil) (du (TR.clo (tAr 4 tI) a0)) a0
def RF135(res:Int)(r:PV):Prop:=r=vi res
theorem ae1{S:List Fr}{res:Int}{x0:af}{x1:Int}{a1:(List Int)}{a5:PV}(a9:nk x0=a1)(a8:(tAr 4 tI).R a1 a5){K0:Int->Int}
 (b1:∀{a3:Int},K0 a3=res->PX Tryz.prog 0 S (QR Tryz.prog [(4,none)] (RF135 res)) [(5,vi a3)] ⟨0,[]⟩):
 ∀{m:Nat}{a3 a0:Int}(b0:m=Int.toNat (4-a0))(a4:0<=a0),me x1 a1 K0 m a3 a0=res->RC Tryz.prog (.loop cr9) S (QR Tryz.prog [(4,none)] (RF135 res)) [(10,vi a0),(9,a5),(5,vi a3),(1,vi x1)] ⟨0,[]⟩:=by
 intro m;induction m with
 |zero=>
  intro a3 a0 b0 a4 z;rw[me]at z;refine cg (sR (bN cx O O (nS (am ?_))));refine bv O ?_ ?_<;>intro c<;>try simp only[qa]at c
  ·omega
  refine dl (ee (dh ?_));exact wP (b1 z) O
 |succ m ih=>
  intro a3 a0 b0 a4 z;rw[me]at z;refine cg (sR (bN cx O O (nS (am ?_))));refine bv O ?_ ?_<;>intro c<;>try simp only[qa]at c
  rotate_left
  ·omega
  refine bc (aq (am (bm (sR (mV O ?_)))));obtain⟨a7,a6,a2⟩:=bv5 (t:=tI) a8 (i:=a0) V V;have a2:a7=vi (ix a1 a0):=a2;subst a2;refine ah (az9 O O a6) (mV O (mV O (nR (mV O (mV O (bN cx O O (nS ?_)))))));refine ck z O ?_ ?_<;>clear z<;>intro c z<;>try simp only[qa]at c
  ·refine ax (mV O (mV O (bN dt O O (mV O (bq (de (aq (ax ?_))))))));refine bN dt O O (mV O (bq (cy ?_)));have o:wr (a0+1)=a0+1:=db V V;erw[o];exact wC (ih V V z) O
  ·refine bc (de (aq (ax (bN dt O O (mV O (bq (cy ?_)))))));have o:wr (a0+1)=a0+1:=db V V;erw[o];exact wC (ih V V z) O
theorem dm9{x0:af}{x1:Int}{v0:PV}(r0:af.t.R x0 v0):FnR Tryz.prog 135 [v0,vi x1] (vi (qc x0 x1)):=by
 refine fnS (R:=RF135) dg3 (λ_ h=>h) O λres z=>?_;unfold qc at z;refine sR (ah (ej O (TR.cnt af.t r0)) (mI O (nR (mI O (nS (am (sR (lD r0 O O O ?_))))))));obtain⟨a4,a0,z⟩:=br z;obtain⟨a5,a2,a1⟩:=bu4 r0;rw[a0]at a1;refine cL a2 O O (ak (TR.clo af.t r0) bp) (mI O (nS (bm ?_)));refine wC (ae1 a0 a1 ?_ O V z) O
 ·intro a3 z;refine em (aq (sR (mV O (mV O (nS ?_)))));exact rR z O O O
def RF92(res:Int)(r:PV):Prop:=r=vi res
theorem bn8{x0:af}{x1 x2:Int}{v0:PV}(r0:af.t.R x0 v0)(hk:0<=x1/\x1<=3):FnR Tryz.prog 92 [v0,vi x1,vi x2] (vi (rr x0 x1 x2)):=by
 refine fnS (R:=RF92) eh0 (λ_ h=>h) O λres z=>?_;unfold rr at z;refine sR (ah (ej O (TR.cnt af.t r0)) (mI O (nS (am (sR (mV O (bN cx O O (mV O ?_))))))));refine cq 7 (d:=16) (v:=vb ((decide (x2 < 0))||(decide ((ix (nk x0) x1)<=x2)))) ?_ ?_
 ·intro S Q r;cases a4:(decide (x2 < 0))
  ·intro k;have a1:=a4;try simp only[qa]at a1
   refine aj O O (ba O) (aj O O (cp O (TR.cnt af.t r0) (TR.agg af.t r0)) ?_);obtain⟨b0,a7,a5⟩:=bu4 r0;refine ow O O (ur O O (ak (TR.clo af.t r0) bp) a7) (aj O O (ba O) ?_);obtain⟨a6,a8,a0⟩:=bv5 (t:=tI) a5 (i:=x1) V V;have a0:a6=vi (ix (nk x0) x1):=a0;subst a0;refine aj O O (az9 O O a8) (aj O O (ct O O lh) ?_);exact gK O O O O O k
  ·exact gN 6 O O O O O O
 refine nS ?_;refine ck z O ?_ ?_<;>clear z<;>intro c z<;>try simp only[qa]at c
 ·refine sR (mI O (nS ?_));exact rR z O O O
 ·refine bc (aq (sR (lD r0 O O O (mV O ?_))));obtain⟨a9,a3,z⟩:=br z;have a2:=dm9 (x1:=x1) r0;rw[a3]at a2;refine cL a2 O O (ak (TR.clo af.t r0) (ak O bp)) (mV O (bN dt O O (mV O (nS ?_))));exact rR z O O O
def RF62(res:Int)(r:PV):Prop:=r=vi res
theorem xt{S:List Fr}{res:Int}{x0:af}{x1:aa}{b1:PV}(a6:(decide (x1.Header=(-1)))=false)(a7:((((decide (x1.Header < 0))||(decide ((x0.Headers.length:Int)<=x1.Header)))||(decide (x1.Field < 0)))||(decide ((((ix x0.Headers x1.Header).Fields).length:Int)<=x1.Field)))=false)(b9:((sub x0.Headers 0 x1.Header).length:Int)=x1.Header-0)(b0:(tSl cm.t).R (sub x0.Headers 0 x1.Header) b1){K0:Int->Int}
 (c7:∀{a5:Int}{h:Heap}(M0:Mem h []),K0 a5=res->PX Tryz.prog 0 S (QR Tryz.prog [(4,none)] (RF62 res)) [(5,vi a5)] h):
 ∀{m:Nat}{a5 a0:Int}(c4:m=Int.toNat (((sub x0.Headers 0 x1.Header).length:Int)-a0))(a8:0<=a0){h:Heap}(M0:Mem h []),kb x0 x1 K0 m a5 a0=res->RC Tryz.prog (.loop di9) S (QR Tryz.prog [(4,none)] (RF62 res)) [(52,vi a0),(51,vi ((sub x0.Headers 0 x1.Header).length:Int)),(50,b1),(5,vi a5)] h:=by
 have a2:=a6;try simp only[qa]at a2
 have a4:=a7;try simp only[qa]at a4
 intro m;induction m with
 |zero=>
  intro a5 a0 c4 a8 h M0 z;rw[kb]at z;refine cg (sR (bN cx O O (nS (am ?_))));refine bv O ?_ ?_<;>intro c<;>try simp only[qa]at c
  ·omega
  refine dl (ee (dh ?_));exact wP (c7 (Mem.sub M0 .slnil) z) O
 |succ m ih=>
  intro a5 a0 c4 a8 h M0 z;rw[kb]at z;refine cg (sR (bN cx O O (nS (am ?_))));refine bv O ?_ ?_<;>intro c<;>try simp only[qa]at c
  rotate_left
  ·omega
  refine bc (aq (am (bm (sR ?_))));obtain⟨a9,b7,a3⟩:=dn (i:=a0) b0 V V;refine ah (bn O O b7) (lD a3 O O O ?_);refine dz (x:= .agg [vs [],nilS]) M0 O O (λb8 b6 c6 b3=>?_);refine dm (k:=0) (v:=a9) b3 O O O (TR.cnt cm.t a3) (λb5 a1=>?_);replace a1:Mem b5 [⟨.op b8 b6 0,92,2,[a9]⟩]:=a1;refine nS (ax (mV O (ah (bh O) ?_)));obtain⟨c5,b4,b2⟩:=cm.g_Fields a3;refine ah (ci (k:=0) a1 O O b4) (ah (da O (co b2 Tryz.underlying23 _)) (bN dt O O (mV O (bq (de (aq (ax (bN dt O O ?_))))))));refine mV O (bq (cy ?_));have s:=df b0;have o:wr (a0+1)=a0+1:=db V V;erw[o];exact wC (ih V V (Mem.sub a1 (.cons _ .slnil)) z) O
theorem ec1{x0:af}{x1:aa}{v0 v1:PV}(r0:af.t.R x0 v0)(r1:aa.t.R x1 v1):FnR Tryz.prog 62 [v0,v1] (vi (ka x0 x1)):=by
 refine fnS (R:=RF62) ee1 (λ_ h=>h) O λres z=>?_;unfold ka at z;refine sR (ah (ej O (TR.cnt af.t r0)) (ah (ej O (TR.cnt aa.t r1)) (mI O (nS (am (sR (fL O (aa.g_Header r1) O O (bN (dy (b:= -1)) O O ?_))))))));refine nS ?_;refine ck z O ?_ ?_<;>clear z<;>intro a1 z<;>have a3:=a1<;>try simp only[qa]at a3
 ·refine sR (lD r0 O O O (fL O (aa.g_Field r1) O O ?_));obtain⟨d4,b4,z⟩:=br z;have b6:=bn8 (x1:=2) (x2:=x1.Field) r0 (by first|assumption|omega|(rw[db V V];omega));rw[b4]at b6;refine cL b6 O O (ak (TR.clo af.t r0) (ak O (ak O bp))) (mV O (nS ?_));exact rR z O O O
 ·refine bc (aq (am (sR (fL O (aa.g_Header r1) O O (bN cx O O (mV O ?_))))));refine cq 7 (d:=25) (v:=vb ((decide (x1.Header < 0))||(decide ((x0.Headers.length:Int)<=x1.Header)))) ?_ ?_
  ·intro S Q r;cases b1:(decide (x1.Header < 0))
   ·intro k;have a5:=b1;try simp only[qa]at a5
    refine aj O O (cw O (aa.g_Header r1)) (aj O O (cp O O O) ?_);obtain⟨d5,c8,a8⟩:=af.g_Headers r0;refine aj O O (cw O c8) (aj O O (cp O (TR.cnt (tSl cm.t) a8) (TR.agg (tSl cm.t) a8)) (aj O O (da O (co a8 Tryz.underlying22 _)) (aj O O (ct O O lh) ?_)));exact gK O O O O O k
   ·exact gN 6 O O O O O O
  refine mV O ?_;refine cq 4 (d:=30) (v:=vb (((decide (x1.Header < 0))||(decide ((x0.Headers.length:Int)<=x1.Header)))||(decide (x1.Field < 0)))) ?_ ?_
  ·intro S Q r;cases b5:((decide (x1.Header < 0))||(decide ((x0.Headers.length:Int)<=x1.Header)))
   ·intro k;have a7:=b5;try simp only[qa]at a7
    refine aj O O (cw O (aa.g_Field r1)) (aj O O (cp O O O) (aj O O (ct O O cx) ?_));exact gK O O O O O k
   ·exact gN 3 O O O O O O
  refine mV O ?_;refine cq 12 (d:=43) (v:=vb ((((decide (x1.Header < 0))||(decide ((x0.Headers.length:Int)<=x1.Header)))||(decide (x1.Field < 0)))||(decide ((((ix x0.Headers x1.Header).Fields).length:Int)<=x1.Field)))) ?_ ?_
  ·intro S Q r;cases b3:(((decide (x1.Header < 0))||(decide ((x0.Headers.length:Int)<=x1.Header)))||(decide (x1.Field < 0)))
   ·intro k;have a6:=b3;try simp only[qa]at a6
    refine aj O O (cw O (aa.g_Field r1)) (aj O O (cp O O O) ?_);obtain⟨d7,c6,b0⟩:=af.g_Headers r0;refine aj O O (cw O c6) (aj O O (cp O (TR.cnt (tSl cm.t) b0) (TR.agg (tSl cm.t) b0)) (aj O O (cw O (aa.g_Header r1)) (aj O O (cp O O O) ?_)));obtain⟨d2,c5,b8⟩:=dn (i:=x1.Header) b0 V V;refine aj O O (bn O O c5) ?_;obtain⟨d3,c4,a4⟩:=cm.g_Fields b8;refine aj O O (cw O c4) (aj O O (cp O (TR.cnt (tSl bg.t) a4) (TR.agg (tSl bg.t) a4)) (aj O O (da O (co a4 Tryz.underlying23 _)) (aj O O (ct O O lh) ?_)));exact gK O O O O O k
   ·exact gN 11 O O O O O O
  refine nS ?_;refine ck z O ?_ ?_<;>clear z<;>intro a2 z<;>have a9:=a2<;>try simp only[qa]at a9
  ·refine sR (mI O (nS ?_));exact rR z O O O
  ·refine bc (aq (sR (fL O (aa.g_Field r1) O O (mV O (nS (am (sR (gL (af.g_Headers r0) O O O λa0 b9=>?_))))))));refine fL O (aa.g_Header r1) O O (xl (E0:=[(49,vi x1.Header),(48,.fp (vi x1.Header)),(47,a0),(46,.fp a0),(5,vi x1.Field),(45,vi x1.Field),(44,.fp (vi x1.Field)),(43,vb ((((decide (x1.Header < 0))||(decide ((x0.Headers.length:Int)<=x1.Header)))||(decide (x1.Field < 0)))||(decide ((((ix x0.Headers x1.Header).Fields).length:Int)<=x1.Field)))),(31,vb (((decide (x1.Header < 0))||(decide ((x0.Headers.length:Int)<=x1.Header)))||(decide (x1.Field < 0)))),(30,vb (((decide (x1.Header < 0))||(decide ((x0.Headers.length:Int)<=x1.Header)))||(decide (x1.Field < 0)))),(26,vb ((decide (x1.Header < 0))||(decide ((x0.Headers.length:Int)<=x1.Header)))),(25,vb ((decide (x1.Header < 0))||(decide ((x0.Headers.length:Int)<=x1.Header)))),(18,vb (decide (x1.Header < 0))),(17,vb (decide (x1.Header < 0))),(16,vi x1.Header),(15,.fp (vi x1.Header)),(10,vb (decide (x1.Header=(-1)))),(9,vi x1.Header),(8,.fp (vi x1.Header)),(4,vi 0),(3,.fp v1),(2,.fp v0),(0,v0),(1,v1)]) (sB O) ?_);obtain⟨c9,c7,b7⟩:=bb3 (P:=Tryz.prog) (hf:=false) (E:=[(49,vi x1.Header),(48,.fp (vi x1.Header)),(47,a0),(46,.fp a0),(5,vi x1.Field),(45,vi x1.Field),(44,.fp (vi x1.Field)),(43,vb ((((decide (x1.Header < 0))||(decide ((x0.Headers.length:Int)<=x1.Header)))||(decide (x1.Field < 0)))||(decide ((((ix x0.Headers x1.Header).Fields).length:Int)<=x1.Field)))),(31,vb (((decide (x1.Header < 0))||(decide ((x0.Headers.length:Int)<=x1.Header)))||(decide (x1.Field < 0)))),(30,vb (((decide (x1.Header < 0))||(decide ((x0.Headers.length:Int)<=x1.Header)))||(decide (x1.Field < 0)))),(26,vb ((decide (x1.Header < 0))||(decide ((x0.Headers.length:Int)<=x1.Header)))),(25,vb ((decide (x1.Header < 0))||(decide ((x0.Headers.length:Int)<=x1.Header)))),(18,vb (decide (x1.Header < 0))),(17,vb (decide (x1.Header < 0))),(16,vi x1.Header),(15,.fp (vi x1.Header)),(10,vb (decide (x1.Header=(-1)))),(9,vi x1.Header),(8,.fp (vi x1.Header)),(4,vi 0),(3,.fp v1),(2,.fp v0),(0,v0),(1,v1)]) (h:=⟨0,[]⟩) (t:=cm.t) (tt:=22) (x:=(.tmp 47)) (lo:=none) (hi:=(some (.tmp 49))) (a:=0) (b:=x1.Header) b9 O O O (show 0<=0 by omega) (show 0<=x1.Header by omega) (show x1.Header<=(x0.Headers.length:Int) by omega) (λad=>by kernel_rfl);have b2:=za (l:=x0.Headers) (show 0<=0 by omega) (show 0<=x1.Header by omega) (show x1.Header<=(x0.Headers.length:Int) by omega);refine ah (v:=c9) (c7) (ah (da O (co b7 Tryz.underlying22 _)) (mI O (nS (bm ?_))));refine wC (xt a1 a2 b2 b7 ?_ O V (Mem.sub (Mem.nil ⟨0,[]⟩) .slnil) z) O
   ·intro d0 d6 d1 z;refine em (aq (sR (mV O (mV O (nS ?_)))));exact rR z O O O
end Go.Proofs.YtmonnlkagniolaaGreat
