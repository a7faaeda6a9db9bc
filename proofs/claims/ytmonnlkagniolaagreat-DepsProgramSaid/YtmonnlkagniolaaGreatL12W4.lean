/-
 The code of each function does what its plain program says.
-/
import Derived.Test.YtmonnlkagniolaaGreatL12W3
set_option linter.unusedVariables false
set_option linter.unusedSimpArgs false
set_option maxRecDepth 100000
namespace Go.Proofs.YtmonnlkagniolaaGreat
open Go Go.Pb Go.RowKit
def RF63(res:Int)(r:PV):Prop:=r=vi res
theorem ee9{x0:af}{x1:Int}{v0:PV}(r0:af.t.R x0 v0):FnR Tryz.prog 63 [v0,vi x1] (vi (kp x0 x1)):=by
 refine fnS (R:=RF63) ee0 (λ_ h=>h) O λres z=>?_;unfold kp at z;refine sR (ah (ej O (TR.cnt af.t r0)) (mI O (nR (lD r0 O O O (mV O ?_)))));obtain⟨a2,a1,z⟩:=br z;have a0:=bn8 (x1:=1) (x2:=x1) r0 (by first|assumption|omega|(rw[db V V];omega));rw[a1]at a0;refine cL a0 O O (ak (TR.clo af.t r0) (ak O (ak O bp))) (mV O (nS ?_));exact rR z O O O
def RF25(res:Int)(r:PV):Prop:=r=vi res
theorem eh9{x0:af}{x1:Int}{v0:PV}(r0:af.t.R x0 v0):FnR Tryz.prog 25 [v0,vi x1] (vi (je x0 x1)):=by
 refine fnS (R:=RF25) dw1 (λ_ h=>h) O λres z=>?_;unfold je at z;refine sR (ah (ej O (TR.cnt af.t r0)) (mI O (nR (lD r0 O O O (mV O ?_)))));obtain⟨a2,a1,z⟩:=br z;have a0:=bn8 (x1:=3) (x2:=x1) r0 (by first|assumption|omega|(rw[db V V];omega));rw[a1]at a0;refine cL a0 O O (ak (TR.clo af.t r0) (ak O (ak O bp))) (mV O (nS ?_));exact rR z O O O
def RF65(i0_ w0_:Nat)(R_:List Ent)(res:au)(r:PV)(h:Heap):Prop:=∃uF0H:PV,∃uF0M:PV,∃uF0R:PV,∃uF0A:PV,∃uF0T:PV,∃uF0S:PV,∃uF0C:PV,∃uF0D:PV,∃aF0_8:PV,∃esF0_8:List PV,Mem h (⟨.op i0_ w0_ 0,118,10,[.agg [vs res.p.Name,uF0H,uF0M,uF0R,uF0A,uF0T,uF0S,uF0C,uF0D,aF0_8]]⟩::⟨aF0_8,3,1,esF0_8⟩::R_)/\((tSl cm.t).R res.p.Headers uF0H)/\((tSl bg.t).R res.p.Metadata uF0M)/\((tSl cz.t).R res.p.Registers uF0R)/\((tSl bt.t).R res.p.Actions uF0A)/\((tSl ca.t).R res.p.Tables uF0T)/\((tSl cd.t).R res.p.States uF0S)/\((tSl ae.t).R res.p.Control uF0C)/\((tSl tI).R res.p.Deparser uF0D)/\(All2 tI.R res.cells esF0_8)/\(isL aF0_8=true)/\(res.cells.length<=4611686018427387904)/\(Wri aF0_8 esF0_8)/\r= .tup []
theorem ui{S:List Fr}{res:au}{x0:au}{x1:List aa}{x2 x3:List Int}{v1 v2 v3:PV}{R_:List Ent}{d8 d7 d4 d9 e2 e1 e0 d6 h2:PV}{h3:List PV}{g5 g7:Nat}(r1:(tSl aa.t).R x1 v1)(f9:(tSl cm.t).R x0.p.Headers d8)(f6:(tSl bg.t).R x0.p.Metadata d7)(e8:(tSl cz.t).R x0.p.Registers d4)(g3:(tSl bt.t).R x0.p.Actions d9)(g6:(tSl ca.t).R x0.p.Tables e2)(g4:(tSl cd.t).R x0.p.States e1)(f8:(tSl ae.t).R x0.p.Control e0)(f7:(tSl tI).R x0.p.Deparser d6)(j1:isL h2=true)(j0:x0.cells.length<=4611686018427387904)(j2:Wri h2 h3)(hb:x0.cells.length+x1.length+x2.length+x3.length<=1000000){K0:au->au}
 (j7:∀{zE1:au}{a3 a2 a0 a4 a6 a7 a5 a1 b6:PV}{b7:List PV}(b1:(tSl cm.t).R zE1.p.Headers a3)(b0:(tSl bg.t).R zE1.p.Metadata a2)(a8:(tSl cz.t).R zE1.p.Registers a0)(b3:(tSl bt.t).R zE1.p.Actions a4)(b5:(tSl ca.t).R zE1.p.Tables a6)(b4:(tSl cd.t).R zE1.p.States a7)(b2:(tSl ae.t).R zE1.p.Control a5)(a9:(tSl tI).R zE1.p.Deparser a1)(d0:All2 tI.R zE1.cells b7)(d1:isL b6=true)(c9:zE1.cells.length<=4611686018427387904)(c5:Wri b6 b7)(j9:zE1.cells.length<=x0.cells.length+x1.length){h:Heap}(M0:Mem h (⟨.op g5 g7 0,118,10,[.agg [vs zE1.p.Name,a3,a2,a0,a4,a6,a7,a5,a1,b6]]⟩::⟨b6,3,1,b7⟩::R_)),K0 zE1=res->PX Tryz.prog 0 S (retPost Tryz.prog [] (RF65 g5 g7 R_ res)) [(2,v2),(3,v3),(4,.fp (.op g5 g7 0)),(8,.fn (.func 137) [] [.fp (.op g5 g7 0)])] h):
 ∀{m:Nat}{d5:Int}{zE1:au}{a3 a2 a0 a4 a6 a7 a5 a1 b6:PV}{b7:List PV}(b1:(tSl cm.t).R zE1.p.Headers a3)(b0:(tSl bg.t).R zE1.p.Metadata a2)(a8:(tSl cz.t).R zE1.p.Registers a0)(b3:(tSl bt.t).R zE1.p.Actions a4)(b5:(tSl ca.t).R zE1.p.Tables a6)(b4:(tSl cd.t).R zE1.p.States a7)(b2:(tSl ae.t).R zE1.p.Control a5)(a9:(tSl tI).R zE1.p.Deparser a1)(d0:All2 tI.R zE1.cells b7)(d1:isL b6=true)(c9:zE1.cells.length<=4611686018427387904)(c5:Wri b6 b7)(j5:m=Int.toNat ((x1.length:Int)-d5))(i0:0<=d5)(g9:(zE1.cells.length:Int)<=(x0.cells.length:Int)+d5)(g8:d5<=(x1.length:Int)){h:Heap}(M0:Mem h (⟨.op g5 g7 0,118,10,[.agg [vs zE1.p.Name,a3,a2,a0,a4,a6,a7,a5,a1,b6]]⟩::⟨b6,3,1,b7⟩::R_)),gh x1 K0 m d5 zE1=res->RC Tryz.prog (.loop da6) S (retPost Tryz.prog [] (RF65 g5 g7 R_ res)) [(18,vi d5),(17,vi (x1.length:Int)),(16,v1),(8,.fn (.func 137) [] [.fp (.op g5 g7 0)]),(4,.fp (.op g5 g7 0)),(3,v3),(2,v2)] h:=by
 have hb':=hb;try simp only[qa]at hb'
 intro m;induction m with
 |zero=>
  intro d5 zE1 a3 a2 a0 a4 a6 a7 a5 a1 b6 b7 b1 b0 a8 b3 b5 b4 b2 a9 d0 d1 c9 c5 j5 i0 g9 g8 h M0 z;rw[gh]at z;refine cg (sR (bN cx O O (nS (am ?_))));refine bv O ?_ ?_<;>intro c<;>try simp only[qa]at c
  ·omega
  refine dl (ee (dh ?_));exact wP (j7 (zE1:=({p:=zE1.p,cells:=zE1.cells}:au)) b1 b0 a8 b3 b5 b4 b2 a9 d0 d1 c9 c5 (by first|omega|((try dsimp only);(try simp only[List.length_append,List.length_cons,List.length_nil]);omega)|simp) (Mem.sub M0 (.cons_cons _ (.cons_cons _ (List.Sublist.refl R_)))) z) O
 |succ m ih=>
  intro d5 zE1 a3 a2 a0 a4 a6 a7 a5 a1 b6 b7 b1 b0 a8 b3 b5 b4 b2 a9 d0 d1 c9 c5 j5 i0 g9 g8 h M0 z;rw[gh]at z;refine cg (sR (bN cx O O (nS (am ?_))));refine bv O ?_ ?_<;>intro c<;>try simp only[qa]at c
  rotate_left
  ·omega
  refine bc (aq (am (bm (sR ?_))));obtain⟨h4,i6,g1⟩:=dn (i:=d5) r1 V V;refine ah (bn O O i6) (lD g1 O O O ?_);refine dz (x:= .agg [vi 0,vi 0]) M0 O O (λh8 i1 j6 i8=>?_);refine dm (k:=0) (v:=h4) i8 O O O (TR.cnt aa.t g1) (λh7 g2=>?_);replace g2:Mem h7 (⟨.op h8 i1 0,87,2,[h4]⟩::⟨.op g5 g7 0,118,10,[.agg [vs zE1.p.Name,a3,a2,a0,a4,a6,a7,a5,a1,b6]]⟩::⟨b6,3,1,b7⟩::R_):=g2;refine nS (uc (mV O (lR O O O (ah (jl O O) (ah (bh O) (ah (ci (k:=1) g2 O O O) (ah (gq (k:=0) g2 O O (TR.agg aa.t g1)) ?_)))))));obtain⟨i9,i3,z⟩:=br z;have h6:=ec1 (show af.t.R zE1.p (.agg [vs zE1.p.Name,a3,a2,a0,a4,a6,a7,a5,a1]) from⟨a3,a2,a0,a4,a6,a7,a5,a1,O,b1,b0,a8,b3,b5,b4,b2,a9⟩) g1;rw[i3]at h6;refine cL h6 O O (ak (TR.clo af.t (show af.t.R zE1.p (.agg [vs zE1.p.Name,a3,a2,a0,a4,a6,a7,a5,a1]) from⟨a3,a2,a0,a4,a6,a7,a5,a1,O,b1,b0,a8,b3,b5,b4,b2,a9⟩)) (ak (TR.clo aa.t g1) bp)) ?_;refine bq (wz ?_);have j3:Mem h7 (⟨.op g5 g7 0,118,10,[.agg [vs zE1.p.Name,a3,a2,a0,a4,a6,a7,a5,a1,b6]]⟩::⟨b6,3,1,b7⟩::⟨.op h8 i1 0,87,2,[h4]⟩::R_):=(Mem.front (k:=2) (Mem.front (k:=2) g2 O) O);obtain⟨h9,h0,z⟩:=br z;obtain⟨j4,j8,i4,h1⟩:=bd7 (x0:=i9) (c0:=({p:=zE1.p,cells:=zE1.cells}:au)) b1 b0 a8 b3 b5 b4 b2 a9 d0 d1 c9 c5 j3 (by first|assumption|omega|(rw[db V V];omega));rw[h0]at h1;obtain⟨f0,e4,e3,f1,f4,f5,f3,e5,i5,h5,i7,c8,b9,b8,c7,d2,d3,c6,c4,f2,e9,e7,e6,g0⟩:=h1;replace g0:=g0.symm;subst g0;refine fy O O i4 ?_;have i2:=au2 h0;try dsimp only at i2
  refine ja (de (aq (ax (bN dt O O (mV O (bq (cy ?_)))))));have s:=df r1;have o:wr (d5+1)=d5+1:=db V V;erw[o];exact wC (ih (zE1:=({p:=h9.p,cells:=h9.cells}:au)) c8 b9 b8 c7 d2 d3 c6 c4 f2 e9 e7 e6 V V (by first|omega|((try dsimp only);(try simp only[List.length_append,List.length_cons,List.length_nil]);omega)|simp) (by first|omega|((try dsimp only);(try simp only[List.length_append,List.length_cons,List.length_nil]);omega)|simp) (Mem.sub i7 (.cons_cons _ (.cons_cons _ (.cons _ (List.Sublist.refl R_))))) z) O
theorem uj{S:List Fr}{res:au}{x0:au}{x1:List aa}{x2 x3:List Int}{b7:au}{v2 v3:PV}{R_:List Ent}{e7 e6 e3 e8 f2 f1 e9 e5 i7:PV}{j3:List PV}{d6 c5 c4 c9 e1 e0 d3 c6 f0:PV}{f7:List PV}{i3 i4:Nat}(r2:(tSl tI).R x2 v2)(h8:(tSl cm.t).R x0.p.Headers e7)(h3:(tSl bg.t).R x0.p.Metadata e6)(g8:(tSl cz.t).R x0.p.Registers e3)(i0:(tSl bt.t).R x0.p.Actions e8)(i2:(tSl ca.t).R x0.p.Tables f2)(i1:(tSl cd.t).R x0.p.States f1)(h7:(tSl ae.t).R x0.p.Control e9)(h6:(tSl tI).R x0.p.Deparser e5)(k8:isL i7=true)(k7:x0.cells.length<=4611686018427387904)(l0:Wri i7 j3)(hb:x0.cells.length+x1.length+x2.length+x3.length<=1000000)(f8:(tSl cm.t).R b7.p.Headers d6)(f4:(tSl bg.t).R b7.p.Metadata c5)(f3:(tSl cz.t).R b7.p.Registers c4)(f6:(tSl bt.t).R b7.p.Actions c9)(g4:(tSl ca.t).R b7.p.Tables e1)(g3:(tSl cd.t).R b7.p.States e0)(f9:(tSl ae.t).R b7.p.Control d3)(f5:(tSl tI).R b7.p.Deparser c6)(j2:isL f0=true)(j0:b7.cells.length<=4611686018427387904)(j1:Wri f0 f7)(k4:b7.cells.length<=x0.cells.length+x1.length){K2:au->au}
 (l4:∀{zE1:au}{a3 a2 a0 a4 a6 a7 a5 a1 b6:PV}{b8:List PV}(b1:(tSl cm.t).R zE1.p.Headers a3)(b0:(tSl bg.t).R zE1.p.Metadata a2)(a8:(tSl cz.t).R zE1.p.Registers a0)(b3:(tSl bt.t).R zE1.p.Actions a4)(b5:(tSl ca.t).R zE1.p.Tables a6)(b4:(tSl cd.t).R zE1.p.States a7)(b2:(tSl ae.t).R zE1.p.Control a5)(a9:(tSl tI).R zE1.p.Deparser a1)(d7:All2 tI.R zE1.cells b8)(d8:isL b6=true)(d5:zE1.cells.length<=4611686018427387904)(d1:Wri b6 b8)(l5:zE1.cells.length<=x0.cells.length+x1.length+x2.length){h:Heap}(M0:Mem h (⟨.op i3 i4 0,118,10,[.agg [vs zE1.p.Name,a3,a2,a0,a4,a6,a7,a5,a1,b6]]⟩::⟨b6,3,1,b8⟩::R_)),K2 zE1=res->PX Tryz.prog 2 S (retPost Tryz.prog [] (RF65 i3 i4 R_ res)) [(3,v3),(4,.fp (.op i3 i4 0)),(8,.fn (.func 137) [] [.fp (.op i3 i4 0)])] h):
 ∀{m:Nat}{e4:Int}{zE1:au}{a3 a2 a0 a4 a6 a7 a5 a1 b6:PV}{b8:List PV}(b1:(tSl cm.t).R zE1.p.Headers a3)(b0:(tSl bg.t).R zE1.p.Metadata a2)(a8:(tSl cz.t).R zE1.p.Registers a0)(b3:(tSl bt.t).R zE1.p.Actions a4)(b5:(tSl ca.t).R zE1.p.Tables a6)(b4:(tSl cd.t).R zE1.p.States a7)(b2:(tSl ae.t).R zE1.p.Control a5)(a9:(tSl tI).R zE1.p.Deparser a1)(d7:All2 tI.R zE1.cells b8)(d8:isL b6=true)(d5:zE1.cells.length<=4611686018427387904)(d1:Wri b6 b8)(l1:m=Int.toNat ((x2.length:Int)-e4))(j9:0<=e4)(i6:(zE1.cells.length:Int)<=(x0.cells.length+x1.length:Int)+e4)(i9:e4<=(x2.length:Int)){h:Heap}(M0:Mem h (⟨.op i3 i4 0,118,10,[.agg [vs zE1.p.Name,a3,a2,a0,a4,a6,a7,a5,a1,b6]]⟩::⟨b6,3,1,b8⟩::R_)),gj x2 K2 m e4 zE1=res->RC Tryz.prog (.loop cz8) S (retPost Tryz.prog [] (RF65 i3 i4 R_ res)) [(33,vi e4),(32,vi (x2.length:Int)),(31,v2),(8,.fn (.func 137) [] [.fp (.op i3 i4 0)]),(4,.fp (.op i3 i4 0)),(3,v3)] h:=by
 have hb':=hb;try simp only[qa]at hb'
 intro m;induction m with
 |zero=>
  intro e4 zE1 a3 a2 a0 a4 a6 a7 a5 a1 b6 b8 b1 b0 a8 b3 b5 b4 b2 a9 d7 d8 d5 d1 l1 j9 i6 i9 h M0 z;rw[gj]at z;refine cg (sR (bN cx O O (nS (am ?_))));refine bv O ?_ ?_<;>intro c<;>try simp only[qa]at c
  ·omega
  refine dl (ee (dh ?_));exact wP (l4 (zE1:=({p:=zE1.p,cells:=zE1.cells}:au)) b1 b0 a8 b3 b5 b4 b2 a9 d7 d8 d5 d1 (by first|omega|((try dsimp only);(try simp only[List.length_append,List.length_cons,List.length_nil]);omega)|simp) (Mem.sub M0 (.cons_cons _ (.cons_cons _ (List.Sublist.refl R_)))) z) O
 |succ m ih=>
  intro e4 zE1 a3 a2 a0 a4 a6 a7 a5 a1 b6 b8 b1 b0 a8 b3 b5 b4 b2 a9 d7 d8 d5 d1 l1 j9 i6 i9 h M0 z;rw[gj]at z;refine cg (sR (bN cx O O (nS (am ?_))));refine bv O ?_ ?_<;>intro c<;>try simp only[qa]at c
  rotate_left
  ·omega
  refine bc (aq (am (bm (sR (ah (bn O O (slI r2 V V)) (lR O O O (mV O (nS ?_))))))));refine fc (bw (mV O (bz (bw (lR O O O (bz (bw (ah (jl O O) ?_))))))));refine bz (bw (ah (bh O) (bz (bw (ah (ci (k:=0) M0 O O O) (bz (bw (mV O ?_))))))));refine bz (bw ?_);obtain⟨k5,k3,z⟩:=br z;have j5:=ee9 (x1:=(ix x2 e4)) (show af.t.R zE1.p (.agg [vs zE1.p.Name,a3,a2,a0,a4,a6,a7,a5,a1]) from⟨a3,a2,a0,a4,a6,a7,a5,a1,O,b1,b0,a8,b3,b5,b4,b2,a9⟩);rw[k3]at j5;refine cL j5 O O (ak (TR.clo af.t (show af.t.R zE1.p (.agg [vs zE1.p.Name,a3,a2,a0,a4,a6,a7,a5,a1]) from⟨a3,a2,a0,a4,a6,a7,a5,a1,O,b1,b0,a8,b3,b5,b4,b2,a9⟩)) (ak O bp)) (bz ?_);have k9:Mem h (⟨.op i3 i4 0,118,10,[.agg [vs zE1.p.Name,a3,a2,a0,a4,a6,a7,a5,a1,b6]]⟩::⟨b6,3,1,b8⟩::R_):=(Mem.front (k:=1) (Mem.front (k:=1) M0 O) O);obtain⟨j6,i5,z⟩:=br z;obtain⟨l2,l3,k0,i8⟩:=bd7 (x0:=k5) (c0:=({p:=zE1.p,cells:=zE1.cells}:au)) b1 b0 a8 b3 b5 b4 b2 a9 d7 d8 d5 d1 k9 (by first|assumption|omega|(rw[db V V];omega));rw[i5]at i8;obtain⟨g9,g1,g0,h0,h5,h4,g7,g2,j8,j4,k6,d0,c8,b9,d2,e2,d9,d4,c7,h2,h1,g5,g6,h9⟩:=i8;replace h9:=h9.symm;subst h9;refine fy O O k0 ?_;have j7:=au2 i5;try dsimp only at j7
  refine ja (de (aq (ax (bN dt O O (mV O (bq (cy ?_)))))));have s:=df r2;have o:wr (e4+1)=e4+1:=db V V;erw[o];exact wC (ih (zE1:=({p:=j6.p,cells:=j6.cells}:au)) d0 c8 b9 d2 e2 d9 d4 c7 h2 h1 g5 g6 V V (by first|omega|((try dsimp only);(try simp only[List.length_append,List.length_cons,List.length_nil]);omega)|simp) (by first|omega|((try dsimp only);(try simp only[List.length_append,List.length_cons,List.length_nil]);omega)|simp) (Mem.sub k6 (.cons_cons _ (.cons_cons _ (List.Sublist.refl R_)))) z) O
theorem uh{S:List Fr}{res:au}{x0:au}{x1:List aa}{x2 x3:List Int}{b8:au}{b7:au}{v3:PV}{R_:List Ent}{f6 f5 f2 f7 g2 g1 f8 f4 k4:PV}{l7:List PV}{e1 c7 c5 d4 e9 e6 d7 c8 f9:PV}{h5:List PV}{d3 c9 c6 e3 e8 f0 d9 d2 g0:PV}{h3:List PV}{l1 l6:Nat}(r3:(tSl tI).R x3 v3)(j8:(tSl cm.t).R x0.p.Headers f6)(j2:(tSl bg.t).R x0.p.Metadata f5)(i7:(tSl cz.t).R x0.p.Registers f2)(j9:(tSl bt.t).R x0.p.Actions f7)(k3:(tSl ca.t).R x0.p.Tables g2)(k0:(tSl cd.t).R x0.p.States g1)(j7:(tSl ae.t).R x0.p.Control f8)(j5:(tSl tI).R x0.p.Deparser f4)(n2:isL k4=true)(n0:x0.cells.length<=4611686018427387904)(n3:Wri k4 l7)(hb:x0.cells.length+x1.length+x2.length+x3.length<=1000000)(h6:(tSl cm.t).R b8.p.Headers e1)(g5:(tSl bg.t).R b8.p.Metadata c7)(g3:(tSl cz.t).R b8.p.Registers c5)(h2:(tSl bt.t).R b8.p.Actions d4)(i0:(tSl ca.t).R b8.p.Tables e9)(h9:(tSl cd.t).R b8.p.States e6)(h7:(tSl ae.t).R b8.p.Control d7)(g6:(tSl tI).R b8.p.Deparser c8)(l5:isL f9=true)(l0:b8.cells.length<=4611686018427387904)(l2:Wri f9 h5)(m7:b8.cells.length<=x0.cells.length+x1.length)(h4:(tSl cm.t).R b7.p.Headers d3)(g8:(tSl bg.t).R b7.p.Metadata c9)(g4:(tSl cz.t).R b7.p.Registers c6)(g9:(tSl bt.t).R b7.p.Actions e3)(i2:(tSl ca.t).R b7.p.Tables e8)(i3:(tSl cd.t).R b7.p.States f0)(h0:(tSl ae.t).R b7.p.Control d9)(g7:(tSl tI).R b7.p.Deparser d2)(l3:isL g0=true)(k9:b7.cells.length<=4611686018427387904)(l4:Wri g0 h3)(m6:b7.cells.length<=x0.cells.length+x1.length+x2.length){K4:au->au}
 (n7:∀{zE1:au}{a3 a2 a0 a4 a6 a7 a5 a1 b6:PV}{b9:List PV}(b1:(tSl cm.t).R zE1.p.Headers a3)(b0:(tSl bg.t).R zE1.p.Metadata a2)(a8:(tSl cz.t).R zE1.p.Registers a0)(b3:(tSl bt.t).R zE1.p.Actions a4)(b5:(tSl ca.t).R zE1.p.Tables a6)(b4:(tSl cd.t).R zE1.p.States a7)(b2:(tSl ae.t).R zE1.p.Control a5)(a9:(tSl tI).R zE1.p.Deparser a1)(e4:All2 tI.R zE1.cells b9)(e5:isL b6=true)(e0:zE1.cells.length<=4611686018427387904)(d5:Wri b6 b9)(n8:zE1.cells.length<=x0.cells.length+x1.length+x2.length+x3.length){h:Heap}(M0:Mem h (⟨.op l1 l6 0,118,10,[.agg [vs zE1.p.Name,a3,a2,a0,a4,a6,a7,a5,a1,b6]]⟩::⟨b6,3,1,b9⟩::R_)),K4 zE1=res->PX Tryz.prog 4 S (retPost Tryz.prog [] (RF65 l1 l6 R_ res)) [] h):
 ∀{m:Nat}{f3:Int}{zE1:au}{a3 a2 a0 a4 a6 a7 a5 a1 b6:PV}{b9:List PV}(b1:(tSl cm.t).R zE1.p.Headers a3)(b0:(tSl bg.t).R zE1.p.Metadata a2)(a8:(tSl cz.t).R zE1.p.Registers a0)(b3:(tSl bt.t).R zE1.p.Actions a4)(b5:(tSl ca.t).R zE1.p.Tables a6)(b4:(tSl cd.t).R zE1.p.States a7)(b2:(tSl ae.t).R zE1.p.Control a5)(a9:(tSl tI).R zE1.p.Deparser a1)(e4:All2 tI.R zE1.cells b9)(e5:isL b6=true)(e0:zE1.cells.length<=4611686018427387904)(d5:Wri b6 b9)(n5:m=Int.toNat ((x3.length:Int)-f3))(m2:0<=f3)(k6:(zE1.cells.length:Int)<=(x0.cells.length+x1.length+x2.length:Int)+f3)(k5:f3<=(x3.length:Int)){h:Heap}(M0:Mem h (⟨.op l1 l6 0,118,10,[.agg [vs zE1.p.Name,a3,a2,a0,a4,a6,a7,a5,a1,b6]]⟩::⟨b6,3,1,b9⟩::R_)),gi x3 K4 m f3 zE1=res->RC Tryz.prog (.loop cu6) S (retPost Tryz.prog [] (RF65 l1 l6 R_ res)) [(48,vi f3),(47,vi (x3.length:Int)),(46,v3),(8,.fn (.func 137) [] [.fp (.op l1 l6 0)]),(4,.fp (.op l1 l6 0))] h:=by
 have hb':=hb;try simp only[qa]at hb'
 intro m;induction m with
 |zero=>
  intro f3 zE1 a3 a2 a0 a4 a6 a7 a5 a1 b6 b9 b1 b0 a8 b3 b5 b4 b2 a9 e4 e5 e0 d5 n5 m2 k6 k5 h M0 z;rw[gi]at z;refine cg (sR (bN cx O O (nS (am ?_))));refine bv O ?_ ?_<;>intro c<;>try simp only[qa]at c
  ·omega
  refine dl (ee (dh ?_));exact wP (n7 (zE1:=({p:=zE1.p,cells:=zE1.cells}:au)) b1 b0 a8 b3 b5 b4 b2 a9 e4 e5 e0 d5 (by first|omega|((try dsimp only);(try simp only[List.length_append,List.length_cons,List.length_nil]);omega)|simp) (Mem.sub M0 (.cons_cons _ (.cons_cons _ (List.Sublist.refl R_)))) z) O
 |succ m ih=>
  intro f3 zE1 a3 a2 a0 a4 a6 a7 a5 a1 b6 b9 b1 b0 a8 b3 b5 b4 b2 a9 e4 e5 e0 d5 n5 m2 k6 k5 h M0 z;rw[gi]at z;refine cg (sR (bN cx O O (nS (am ?_))));refine bv O ?_ ?_<;>intro c<;>try simp only[qa]at c
  rotate_left
  ·omega
  refine bc (aq (am (bm (sR (ah (bn O O (slI r3 V V)) (lR O O O (mV O (nS ?_))))))));refine fc (bw (mV O (bz (bw (lR O O O (bz (bw (ah (jl O O) ?_))))))));refine bz (bw (ah (bh O) (bz (bw (ah (ci (k:=0) M0 O O O) (bz (bw (mV O ?_))))))));refine bz (bw ?_);obtain⟨m8,m0,z⟩:=br z;have m4:=eh9 (x1:=(ix x3 f3)) (show af.t.R zE1.p (.agg [vs zE1.p.Name,a3,a2,a0,a4,a6,a7,a5,a1]) from⟨a3,a2,a0,a4,a6,a7,a5,a1,O,b1,b0,a8,b3,b5,b4,b2,a9⟩);rw[m0]at m4;refine cL m4 O O (ak (TR.clo af.t (show af.t.R zE1.p (.agg [vs zE1.p.Name,a3,a2,a0,a4,a6,a7,a5,a1]) from⟨a3,a2,a0,a4,a6,a7,a5,a1,O,b1,b0,a8,b3,b5,b4,b2,a9⟩)) (ak O bp)) (bz ?_);have m9:Mem h (⟨.op l1 l6 0,118,10,[.agg [vs zE1.p.Name,a3,a2,a0,a4,a6,a7,a5,a1,b6]]⟩::⟨b6,3,1,b9⟩::R_):=(Mem.front (k:=1) (Mem.front (k:=1) M0 O) O);obtain⟨l9,k8,z⟩:=br z;obtain⟨n4,n6,m3,k7⟩:=bd7 (x0:=m8) (c0:=({p:=zE1.p,cells:=zE1.cells}:au)) b1 b0 a8 b3 b5 b4 b2 a9 e4 e5 e0 d5 m9 (by first|assumption|omega|(rw[db V V];omega));rw[k8]at k7;obtain⟨i9,h8,h1,j0,j3,j4,i6,i1,m5,l8,n1,d6,d1,c4,d8,e7,f1,e2,d0,j1,i4,i8,i5,j6⟩:=k7;replace j6:=j6.symm;subst j6;refine fy O O m3 ?_;have m1:=au2 k8;try dsimp only at m1
  refine ja (de (aq (ax (bN dt O O (mV O (bq (cy ?_)))))));have s:=df r3;have o:wr (f3+1)=f3+1:=db V V;erw[o];exact wC (ih (zE1:=({p:=l9.p,cells:=l9.cells}:au)) d6 d1 c4 d8 e7 f1 e2 d0 j1 i4 i8 i5 V V (by first|omega|((try dsimp only);(try simp only[List.length_append,List.length_cons,List.length_nil]);omega)|simp) (by first|omega|((try dsimp only);(try simp only[List.length_append,List.length_cons,List.length_nil]);omega)|simp) (Mem.sub n1 (.cons_cons _ (.cons_cons _ (List.Sublist.refl R_)))) z) O
theorem bb9{x0:au}{x1:List aa}{x2 x3:List Int}{v1 v2 v3 e2 d9 d6 e3 f3 f1 e4 d7 i1:PV}{h5:List PV}{R_:List Ent}{h_:Heap}{j5 j8:Nat}(r1:(tSl aa.t).R x1 v1)(r2:(tSl tI).R x2 v2)(r3:(tSl tI).R x3 v3)(b1:(tSl cm.t).R x0.p.Headers e2)(a4:(tSl bg.t).R x0.p.Metadata d9)(a1:(tSl cz.t).R x0.p.Registers d6)(b3:(tSl bt.t).R x0.p.Actions e3)(b5:(tSl ca.t).R x0.p.Tables f3)(b4:(tSl cd.t).R x0.p.States f1)(a9:(tSl ae.t).R x0.p.Control e4)(a5:(tSl tI).R x0.p.Deparser d7)(j2:All2 tI.R x0.cells h5)(g1:isL i1=true)(g0:x0.cells.length<=4611686018427387904)(g2:Wri i1 h5)(M_:Mem h_ (⟨.op j5 j8 0,118,10,[.agg [vs x0.p.Name,e2,d9,d6,e3,f3,f1,e4,d7,i1]]⟩::⟨i1,3,1,h5⟩::R_))(hb:x0.cells.length+x1.length+x2.length+x3.length<=1000000):∃r k7,FnX Tryz.prog 65 [.op j5 j8 0,v1,v2,v3] h_ r k7/\RF65 j5 j8 R_ (fw x0 x1 x2 x3) r k7:=by
 refine fnXX (R:=RF65 j5 j8 R_) eb7 O λres z=>?_;unfold fw at z;refine sR (ah (ej O O) (nR (ah (v:= .fn (.func 137) [] [.fp (.op j5 j8 0)]) (sn O O) (mV O (nS (am (sR (mV O ?_))))))));refine ah (da O (co r1 Tryz.underlying75 _)) (mI O (nS (bm ?_)));refine wC (ui r1 b1 a4 a1 b3 b5 b4 a9 a5 g1 g0 g2 hb ?_ (zE1:=({p:=x0.p,cells:=x0.cells}:au)) b1 a4 a1 b3 b5 b4 a9 a5 j2 g1 g0 g2 O V (by first|omega|((try dsimp only);(try simp only[List.length_append,List.length_cons,List.length_nil]);omega)|simp) (by first|omega|((try dsimp only);(try simp only[List.length_append,List.length_cons,List.length_nil]);omega)|simp) (Mem.sub M_ (.cons_cons _ (.cons_cons _ (List.Sublist.refl R_)))) z) O
 ·intro h9 i3 g5 g3 h8 i8 i6 i0 g7 j6 j4 a7 a2 a0 a6 b2 b0 a8 a3 h3 e8 e5 e7 i4 k8 k6 z;refine em (aq (am (sR (mV O (ah (da O (co r2 Tryz.underlying29 _)) (mI O (nS (bm ?_))))))));refine wC (uj r2 b1 a4 a1 b3 b5 b4 a9 a5 g1 g0 g2 hb a7 a2 a0 a6 b2 b0 a8 a3 e8 e5 e7 i4 ?_ (zE1:=({p:=h9.p,cells:=h9.cells}:au)) a7 a2 a0 a6 b2 b0 a8 a3 h3 e8 e5 e7 O V (by first|omega|((try dsimp only);(try simp only[List.length_append,List.length_cons,List.length_nil]);omega)|simp) (by first|omega|((try dsimp only);(try simp only[List.length_append,List.length_cons,List.length_nil]);omega)|simp) (Mem.sub k6 (.cons_cons _ (.cons_cons _ (List.Sublist.refl R_)))) z) O
  ·intro h6 h7 g8 g4 i5 i7 i9 i2 h2 j7 j3 c7 b9 b6 c4 d1 d3 c5 b8 h1 f8 f6 f9 j0 k9 k5 z;refine em (aq (sR (mV O (ah (da O (co r3 Tryz.underlying29 _)) (mI O (nS (bm ?_)))))));refine wC (uh r3 b1 a4 a1 b3 b5 b4 a9 a5 g1 g0 g2 hb a7 a2 a0 a6 b2 b0 a8 a3 e8 e5 e7 i4 c7 b9 b6 c4 d1 d3 c5 b8 f8 f6 f9 j0 ?_ (zE1:=({p:=h6.p,cells:=h6.cells}:au)) c7 b9 b6 c4 d1 d3 c5 b8 h1 f8 f6 f9 O V (by first|omega|((try dsimp only);(try simp only[List.length_append,List.length_cons,List.length_nil]);omega)|simp) (by first|omega|((try dsimp only);(try simp only[List.length_append,List.length_cons,List.length_nil]);omega)|simp) (Mem.sub k5 (.cons_cons _ (.cons_cons _ (List.Sublist.refl R_)))) z) O
   ·intro j1 d2 c8 b7 c9 d4 d5 d0 c6 f5 f7 e6 e1 d8 f0 f2 f4 e9 e0 h0 h4 g6 g9 k0 k3 k4 z;refine em ?_;have j9:Mem k3 (⟨.op j5 j8 0,118,10,[.agg [vs j1.p.Name,d2,c8,b7,c9,d4,d5,d0,c6,f5]]⟩::⟨f5,3,1,f7⟩::R_):=(Mem.front (k:=1) (Mem.front (k:=1) k4 O) O);subst z;exact ah7 .nil ⟨d2,c8,b7,c9,d4,d5,d0,c6,f5,f7,Mem.sub j9 (.cons_cons _ (.cons_cons _ (List.Sublist.refl R_))),e6,e1,d8,f0,f2,f4,e9,e0,h0,h4,g6,g9,O⟩
def RF68(i0_ w0_:Nat)(R_:List Ent)(res:(List Int))(r:PV)(h:Heap):Prop:=∃asR0_:PV,∃esR0_:List PV,Mem h (⟨asR0_,3,1,esR0_⟩::R_)/\(All2 tI.R res esR0_)/\(isL asR0_=true)/\(res.length<=4611686018427387904)/\(Wri asR0_ esR0_)/\r=asR0_
theorem br3{x0:au}{a4 a2 a0 a3 a7 a6 a5 a1 a8:PV}{b0:List PV}{R_:List Ent}{h_:Heap}{d7 e2:Nat}(c7:(tSl cm.t).R x0.p.Headers a4)(b5:(tSl bg.t).R x0.p.Metadata a2)(b3:(tSl cz.t).R x0.p.Registers a0)(c6:(tSl bt.t).R x0.p.Actions a3)(d0:(tSl ca.t).R x0.p.Tables a7)(c9:(tSl cd.t).R x0.p.States a6)(c8:(tSl ae.t).R x0.p.Control a5)(b4:(tSl tI).R x0.p.Deparser a1)(e0:All2 tI.R x0.cells b0)(a9:isL a8=true)(d8:x0.cells.length<=4611686018427387904)(d9:Wri a8 b0)(M_:Mem h_ (⟨.op d7 e2 0,118,10,[.agg [vs x0.p.Name,a4,a2,a0,a3,a7,a6,a5,a1,a8]]⟩::⟨a8,3,1,b0⟩::R_))(hb:x0.cells.length<=1000000):∃r f6,FnX Tryz.prog 68 [.op d7 e2 0] h_ r f6/\RF68 d7 e2 R_ (fe x0) r f6:=by
 refine fnXX (R:=RF68 d7 e2 R_) ed7 O λres z=>?_;unfold fe at z;refine sR (ah (v:=nilS) (ba O) (nS (am (fc (bw (mV O (bz (bw ?_))))))));refine ah (jl O O) (bz (bw (ah (bh O) (bz (bw (ah (ci (k:=0) M_ O O (mk1 (gf (k:=1) M_ O a9).2)) (bz ?_)))))));have e9:Mem h_ (⟨a8,3,1,b0⟩::⟨.op d7 e2 0,118,10,[.agg [vs x0.p.Name,a4,a2,a0,a3,a7,a6,a5,a1,a8]]⟩::R_):=(Mem.front (k:=1) M_ O);obtain⟨f2,e5,z⟩:=br z;obtain⟨f5,f0,e7,d6⟩:=ap1 (x0:=x0.cells) e0 a9 d8 d9 e9 (by first|assumption|omega|(rw[db V V];omega));rw[e5]at d6;obtain⟨b6,e1,b9,b8,c5,c4⟩:=d6;replace c4:=c4.symm;subst c4;refine fy O O e7 (ja (aq (am (fc (bw (mV O (bz (bw ?_))))))));refine ah (jl O O) (bz (bw (ah (bh O) (bz (bw (ah (ci (k:=1) e1 O O (mk1 (gf (k:=0) e1 O a9).2)) (bz ?_)))))));have f1:Mem f0 (⟨a8,3,1,b6⟩::⟨.op d7 e2 0,118,10,[.agg [vs x0.p.Name,a4,a2,a0,a3,a7,a6,a5,a1,a8]]⟩::R_):=(Mem.front (k:=0) e1 O);obtain⟨f7,e3,z⟩:=br z;obtain⟨f4,e8,e4,d5⟩:=ap3 (x0:=f2) b9 a9 b8 c5 f1;rw[e3]at d5;obtain⟨b1,b2,f3,d4,d3,d2,d1,b7⟩:=d5;replace b7:=b7.symm;subst b7;refine fy O O e4 (bw (mV O (bz (ja (aq ?_)))));have e6:Mem e8 (⟨b1,3,1,b2⟩::⟨.op d7 e2 0,118,10,[.agg [vs x0.p.Name,a4,a2,a0,a3,a7,a6,a5,a1,a8]]⟩::R_):=(Mem.front (k:=0) f3 O);subst z;exact pw (.tmp O .nil) ⟨b1,b2,Mem.sub e6 (.cons_cons _ (.cons _ (List.Sublist.refl R_))),d4,d3,d2,d1,O⟩
def RF69(res:ca×Bool)(r:PV):Prop:=∃c0,r= .tup [c0,vb res.2]/\ca.t.R res.1 c0
theorem ce3{x0:af}{x1:ay}{v0 v1:PV}(r0:af.t.R x0 v0)(r1:ay.t.R x1 v1):∃c0,FnR Tryz.prog 69 [v0,v1] (.tup [c0,vb ((il x0 x1).2)])/\ca.t.R (il x0 x1).1 c0:=by
 obtain⟨res,z⟩:∃res,il x0 x1=res:=⟨_,O⟩;suffices H:RC Tryz.prog ep8 [] (QR Tryz.prog [(4,some (6,true)),(5,none)] (RF69 res)) (argE 0 [v0,v1]) ⟨0,[]⟩ by
  rw[z];obtain⟨r,h1,c0,rfl,b5⟩:=fnE ec6 OZ H;exact⟨c0,h1,b5⟩
 unfold il at z;refine sR (ah (ej O (TR.cnt af.t r0)) (ah (ej O (TR.cnt ay.t r1)) ?_));refine dz (x:= .agg [vs [],nilS,nilS,vi 0,nilS,vi 0]) (Mem.nil ⟨0,[]⟩) O O (λa9 a8 b7 a7=>?_);refine mB O (nS (am (sR (fL O (ay.g_Table r1) O O (bN cx O O (mV O ?_))))));refine cq 7 (d:=16) (v:=vb ((decide (x1.Table < 0))||(decide ((x0.Tables.length:Int)<=x1.Table)))) ?_ ?_
 ·intro S Q r;cases a6:(decide (x1.Table < 0))
  ·intro k;have a1:=a6;try simp only[qa]at a1
   refine aj O O (cw O (ay.g_Table r1)) (aj O O (cp O O O) ?_);obtain⟨b6,b4,a2⟩:=af.g_Tables r0;refine aj O O (cw O b4) (aj O O (cp O (TR.cnt (tSl ca.t) a2) (TR.agg (tSl ca.t) a2)) (aj O O (da O (co a2 Tryz.underlying26 _)) (aj O O (ct O O lh) ?_)));exact gK O O O O O k
  ·exact gN 6 O O O O O O
 refine nS ?_;refine ck z O ?_ ?_<;>clear z<;>intro c z<;>try simp only[qa]at c
 ·refine sR (ah (v:= .agg [vs [],nilS,nilS,vi 0,nilS,vi 0]) (lq (cs:=[vs [],nilS,nilS,vi 0,nilS,vi 0]) O O) ?_);refine dm (k:=0) (v:= .agg [vs [],nilS,nilS,vi 0,nilS,vi 0]) a7 O O O O (λb2 a5=>?_);replace a5:Mem b2 [⟨.op a9 a8 0,59,6,[.agg [vs [],nilS,nilS,vi 0,nilS,vi 0]]⟩]:=a5;refine mB O (nS ?_);subst z;exact ft (.cell O (mb (k:=0) a5 O O) (.tmp O .nil)) (du (show closed (.tup _)=true from(ak (TR.clo ca.t (show ca.t.R ({Name:=([]:List UInt8),Keys:=([]:List fq),Actions:=([]:List Int),Default:=({Action:=0,Args:=([]:List (BitVec 32))}:gw),Size:=0}:ca) (.agg [vs [],nilS,nilS,vi 0,nilS,vi 0]) from⟨nilS,nilS,nilS,O,fm,fm,fm⟩)) (ak O bp)))) ⟨.agg [vs [],nilS,nilS,vi 0,nilS,vi 0],O,⟨nilS,nilS,nilS,O,fm,fm,fm⟩⟩
 ·refine bc (aq (sR (gL (af.g_Tables r0) O O O λb8 b1=>(fL O (ay.g_Table r1) O O ?_))));obtain⟨a3,b0,a0⟩:=dn (i:=x1.Table) b1 V V;refine ah (bn O O b0) (lD a0 O O O ?_);refine dm (k:=0) (v:=a3) a7 O O O (TR.cnt ca.t a0) (λb3 a4=>?_);replace a4:Mem b3 [⟨.op a9 a8 0,59,6,[a3]⟩]:=a4;refine mB O (nS ?_);subst z;exact ft (.cell O (mb (k:=0) a4 O (TR.agg ca.t a0)) (.tmp O .nil)) (du (show closed (.tup _)=true from(ak (TR.clo ca.t a0) (ak O bp)))) ⟨a3,O,a0⟩
def RF221(res:Bool)(r:PV):Prop:=r=vb res
theorem bw1{x0:UInt8}:FnR Tryz.prog 221 [vu8 x0] (vb (nr x0)):=by
 refine fnS (R:=RF221) dm3 (λ_ h=>h) O λres z=>?_;unfold nr at z;refine sR (mB O (nR (mV O (ah (ct (a:=vu8 x0) (b:=vu8 (97:UInt8)) O O aw4) (mV O ?_)))));refine cq 3 (d:=8) (v:=vb ((decide ((97:UInt8)<=x0))&&(decide (x0<=(122:UInt8))))) ?_ ?_
 ·intro S Q r;cases a5:(decide ((97:UInt8)<=x0))
  ·exact gN 2 O O O O O O
  ·intro k;have a1:=a5;try simp only[qa]at a1
   refine aj O O (ba O) (aj O O (ct (a:=vu8 x0) (b:=vu8 (122:UInt8)) O O aw8) ?_);exact gK O O O O O k
 refine mV O ?_;refine cq 7 (d:=16) (v:=vb (((decide ((97:UInt8)<=x0))&&(decide (x0<=(122:UInt8))))||((decide ((65:UInt8)<=x0))&&(decide (x0<=(90:UInt8)))))) ?_ ?_
 ·intro S Q r;cases a3:((decide ((97:UInt8)<=x0))&&(decide (x0<=(122:UInt8))))
  ·intro k;have a0:=a3;try simp only[qa]at a0
   refine aj O O (ba O) (aj O O (ct (a:=vu8 x0) (b:=vu8 (65:UInt8)) O O aw4) (aj O O (ba O) ?_));refine cq 3 (d:=15) (v:=vb ((decide ((65:UInt8)<=x0))&&(decide (x0<=(90:UInt8))))) ?_ ?_
   ·intro S Q r;cases a4:(decide ((65:UInt8)<=x0))
    ·intro k;refine fx O O (fx O O (aj (v:=vb false) O O (oo O O O O) ?_));exact wD k O
    ·intro k;have a2:=a4;try simp only[qa]at a2
     refine aj O O (ba O) (aj O O (ct (a:=vu8 x0) (b:=vu8 (90:UInt8)) O O aw8) (aj (v:=vb (decide (x0<=(90:UInt8)))) O O (oo O O O O) ?_));exact wD k O
   exact gK O O O O O k
  ·exact gN 6 O O O O O O
 refine mV O (nS ?_);exact rR z O O O
def RF222(res:Int)(r:PV):Prop:=r=vi res
theorem ad2{S:List Fr}{res:Int}{x0:List UInt8}{x1:UInt8->Bool}{v1:PV}(r1:(tFn Tryz.prog tU8 tB).R x1 v1)(hs:x0.length<=1000){K0:Int->Int}
 (b1:∀{a0:Int},K0 a0=res->PX Tryz.prog 0 S (QR Tryz.prog [(4,none)] (RF222 res)) [(5,vi a0)] ⟨0,[]⟩):
 ∀{m:Nat}{a0:Int}(b0:m=Int.toNat ((x0.length:Int)-a0))(a6:0<=a0),ou x0 x1 K0 m a0=res->RC Tryz.prog (.loop cl8) S (QR Tryz.prog [(4,none)] (RF222 res)) [(5,vi a0),(1,v1),(0,vs x0)] ⟨0,[]⟩:=by
 intro m;induction m with
 |zero=>
  intro a0 b0 a6 z;rw[ou]at z;refine cg (am (sR (mV O (mV O (ah (da O (qz Tryz.underlying9)) (bN cx O O (mV O ?_)))))));refine cq 6 (d:=16) (v:=vb ((decide (a0 < (x0.length:Int)))&&(x1 (ix x0 a0)))) ?_ ?_
  ·intro S Q r;cases a5:(decide (a0 < (x0.length:Int)))
   ·exact gN 5 O O O O O O
   ·intro k;have a3:=a5;try simp only[qa]at a3
    refine aj O O (ba O) (aj O O (ba O) (aj O O (ba O) (aj O O (tu O O (xr Tryz.underlying9 V V)) ?_)));refine aw3 O O O r1 O (show tU8.R (ix x0 a0) (vu8 (ix x0 a0)) from O) (λa9 a2=>?_);have a2:a9=vb (x1 (ix x0 a0)):=a2;subst a2;exact gK O O O O O k
  refine nS ?_;refine bv O ?_ ?_<;>intro c<;>try simp only[qa]at c
  ·omega
  refine dl (ee (dh ?_));exact wP (b1 z) O
 |succ m ih=>
  intro a0 b0 a6 z;rw[ou]at z;refine cg (am (sR (mV O (mV O (ah (da O (qz Tryz.underlying9)) (bN cx O O (mV O ?_)))))));refine cq 6 (d:=16) (v:=vb ((decide (a0 < (x0.length:Int)))&&(x1 (ix x0 a0)))) ?_ ?_
  ·intro S Q r;cases a7:(decide (a0 < (x0.length:Int)))
   ·exact gN 5 O O O O O O
   ·intro k;have a4:=a7;try simp only[qa]at a4
    refine aj O O (ba O) (aj O O (ba O) (aj O O (ba O) (aj O O (tu O O (xr Tryz.underlying9 V V)) ?_)));refine aw3 O O O r1 O (show tU8.R (ix x0 a0) (vu8 (ix x0 a0)) from O) (λa8 a1=>?_);have a1:a8=vb (x1 (ix x0 a0)):=a1;subst a1;exact gK O O O O O k
  refine nS ?_;refine ck z O ?_ ?_<;>clear z<;>intro c z<;>try simp only[qa]at c
  ·refine bc (aq (bm (ax (mV O (bN dt O O (mV O (bq (de ?_))))))));refine cy ?_;have o:wr (a0+1)=a0+1:=db V V;erw[o];exact wC (ih V V z) O
  ·refine dl (ee (dh ?_));exact wP (b1 z) O
theorem dj8{x0:List UInt8}{x1:UInt8->Bool}{v1:PV}(r1:(tFn Tryz.prog tU8 tB).R x1 v1)(hs:x0.length<=1000):FnR Tryz.prog 222 [vs x0,v1] (vi (uw x0 x1)):=by
 refine fnS (R:=RF222) dk9 (λ_ h=>h) O λres z=>?_;unfold uw at z;refine sR (mI O (nR (mI O (nS (am (bm ?_))))));refine wC (ad2 r1 hs ?_ O V z) O
 ·intro a0 z;refine em (aq (sR (mV O (mV O (nS ?_)))));exact rR z O O O
def RF224(res:Bool)(r:PV):Prop:=r=vb res
theorem di7{x0:UInt8}:FnR Tryz.prog 224 [vu8 x0] (vb (pg x0)):=by
 refine fnS (R:=RF224) cy0 (λ_ h=>h) O λres z=>?_;unfold pg at z;refine sR (mB O (nR (mV O (ah (ct (a:=vu8 x0) (b:=vu8 (48:UInt8)) O O aw4) (mV O ?_)))));refine cq 3 (d:=8) (v:=vb ((decide ((48:UInt8)<=x0))&&(decide (x0<=(57:UInt8))))) ?_ ?_
 ·intro S Q r;cases a1:(decide ((48:UInt8)<=x0))
  ·exact gN 2 O O O O O O
  ·intro k;have a0:=a1;try simp only[qa]at a0
   refine aj O O (ba O) (aj O O (ct (a:=vu8 x0) (b:=vu8 (57:UInt8)) O O aw8) ?_);exact gK O O O O O k
 refine mV O (nS ?_);exact rR z O O O
def RF223(res:Bool)(r:PV):Prop:=r=vb res
theorem da3{x0:UInt8}:FnR Tryz.prog 223 [vu8 x0] (vb (ll x0)):=by
 refine fnS (R:=RF223) dl1 (λ_ h=>h) O λres z=>?_;unfold ll at z;refine sR (mB O (nR (mV O ?_)));obtain⟨a0,a5,z⟩:=br z;have a4:=bw1 (x0:=x0);rw[a5]at a4;refine cL a4 O O (ak O bp) (mV O ?_);refine cq 3 (d:=8) (v:=vb (a0||(pg x0))) ?_ ?_
 ·intro S Q r;cases a3:a0
  ·intro k;have a1:=a3;try simp only[qa]at a1
   refine aj O O (ba O) ?_;have a7:=di7 (x0:=x0);refine ow O O (ur O O (ak O bp) a7) ?_;exact gK O O O O O k
  ·exact gN 2 O O O O O O
 refine mV O ?_;refine cq 3 (d:=12) (v:=vb ((a0||(pg x0))||(decide (x0=(95:UInt8))))) ?_ ?_
 ·intro S Q r;cases a6:(a0||(pg x0))
  ·intro k;have a2:=a6;try simp only[qa]at a2
   refine aj O O (ba O) (aj O O (ct (a:=vu8 x0) (b:=vu8 (95:UInt8)) O O es5) ?_);exact gK O O O O O k
  ·exact gN 2 O O O O O O
 refine mV O (nS ?_);exact rR z O O O
theorem dx8:(tFn Tryz.prog tU8 tB).R ll (.fn (.func 223) [] []):=dv5 λa va ra=>by obtain rfl:=ra;exact⟨_,da3,O⟩
def RF169(res:Bool)(r:PV):Prop:=r=vb res
theorem bs2{x0:List UInt8}:FnR Tryz.prog 169 [vs x0] (vb (li x0)):=by
 refine fnS (R:=RF169) df0 (λ_ h=>h) O λres z=>?_;unfold li at z;refine sR (mB O (nS (am (sR (mV O (ah (da O (qz Tryz.underlying9)) (bN dy O O (mV O ?_))))))));refine cq 4 (d:=10) (v:=vb ((decide ((x0.length:Int)=0))||(decide (16 < (x0.length:Int))))) ?_ ?_
 ·intro S Q r;cases a4:(decide ((x0.length:Int)=0))
  ·intro k;have a1:=a4;try simp only[qa]at a1
   refine aj O O (ba O) (aj O O (da O (qz Tryz.underlying9)) (aj O O (ct O O kh) ?_));exact gK O O O O O k
  ·exact gN 3 O O O O O O
 refine mV O ?_;refine cq 5 (d:=16) (v:=vb (((decide ((x0.length:Int)=0))||(decide (16 < (x0.length:Int))))||(!(nr (ix x0 0))))) ?_ ?_
 ·intro S Q r;cases a2:((decide ((x0.length:Int)=0))||(decide (16 < (x0.length:Int))))
  ·intro k;have a0:=a2;try simp only[qa]at a0
   refine aj O O (ba O) (aj O O (tu O O (xr (i:=0) Tryz.underlying9 V V)) ?_);have a6:=bw1 (x0:=(ix x0 0));refine ow O O (ur O O (ak O bp) a6) (aj O O (ku O) ?_);exact gK O O O O O k
  ·exact gN 4 O O O O O O
 refine nS ?_;refine ck z O ?_ ?_<;>clear z<;>intro c z<;>try simp only[qa]at c
 ·refine sR (mB O (nS ?_));exact rR z O O O
 ·refine bc (aq (sR (mV O ?_)));obtain⟨a7,a5,z⟩:=br z;have a3:=dj8 (x0:=x0) dx8 (by first|assumption|omega|(rw[db V V];omega));rw[a5]at a3;refine cL a3 O O (ak O (ak O bp)) (mV O (ah (da O (qz Tryz.underlying9)) (bN dy O O (mV O (nS ?_)))));exact rR z O O O
def RF171(res:Bool)(r:PV):Prop:=r=vb res
theorem dd8{x0:bg}{c0:bg}{v0 w0:PV}(r0:bg.t.R x0 v0)(a0:bg.t.R c0 w0):FnR Tryz.prog 171 [v0,.fp w0] (vb (gy x0 c0)):=by
 refine fnS (R:=RF171) cw4 (λ_ h=>h) O λres z=>?_;unfold gy at z;refine sR (ah (ej O (TR.cnt bg.t r0)) (mB O (nR (fL O (bg.g_Name r0) O O (fL O (bg.g_Name a0) O O (ah (ct (a:=vs x0.Name) (b:=vs c0.Name) O O bd2) (mV O (nS ?_))))))));exact rR z O O O
def RF225(res:Int)(r:PV):Prop:=r=vi res
theorem qn{S:List Fr}{res:Int}{x0:List bg}{x1:bg->Bool}{v0 v1:PV}(r0:(tSl bg.t).R x0 v0)(r1:(tFn Tryz.prog bg.t tB).R x1 v1){K0:Unit->Int}
 (a8:K0 ()=res->PX Tryz.prog 0 S (QR Tryz.prog [(4,none)] (RF225 res)) [] ⟨0,[]⟩):
 ∀{m:Nat}{a0:Int}(a7:m=Int.toNat ((x0.length:Int)-a0))(a3:0<=a0),dv x0 x1 K0 m a0=res->RC Tryz.prog (.loop cm4) S (QR Tryz.prog [(4,none)] (RF225 res)) [(8,vi a0),(7,vi (x0.length:Int)),(1,v1),(0,v0)] ⟨0,[]⟩:=by
 intro m;induction m with
 |zero=>
  intro a0 a7 a3 z;rw[dv]at z;refine cg (sR (bN cx O O (nS (am ?_))));refine bv O ?_ ?_<;>intro c<;>try simp only[qa]at c
  ·omega
  refine dl (ee (dh ?_));exact wP (a8 z) O
 |succ m ih=>
  intro a0 a7 a3 z;rw[dv]at z;refine cg (sR (bN cx O O (nS (am ?_))));refine bv O ?_ ?_<;>intro c<;>try simp only[qa]at c
  rotate_left
  ·omega
  refine bc (aq (am (bm (sR (mV O (mV O (nR (mV O ?_))))))));refine mV O (mV O ?_);obtain⟨a6,a4,a2⟩:=dn (i:=a0) r0 V V;refine ah (bn O O a4) (lD a2 O O O ?_);refine wu O r1 O (show bg.t.R (ix x0 a0) a6 from a2) (λa5 a1=>?_);have a1:a5=vb (x1 (ix x0 a0)):=a1;subst a1;refine nS ?_;refine ck z O ?_ ?_<;>clear z<;>intro c z<;>try simp only[qa]at c
  ·refine sR (mV O (mV O (nS ?_)));exact rR z O O O
  ·refine bc (de (aq (ax (bN dt O O (mV O (bq (cy ?_)))))));have s:=df r0;have o:wr (a0+1)=a0+1:=db V V;erw[o];exact wC (ih V V z) O
theorem df2{x0:List bg}{x1:bg->Bool}{v0 v1:PV}(r0:(tSl bg.t).R x0 v0)(r1:(tFn Tryz.prog bg.t tB).R x1 v1):FnR Tryz.prog 225 [v0,v1] (vi (io x0 x1)):=by
 refine fnS (R:=RF225) cz4 (λ_ h=>h) O λres z=>?_;unfold io at z;refine sR (mI O (nS (am (sR (mV O (ah (da O (co r0 Tryz.underlying23 _)) (mI O (nS ?_))))))));refine bm ?_;refine wC (qn r0 r1 ?_ O V z) O
 ·intro z;refine em (aq (sR (mI O (nS ?_))));exact rR z O O O
def RF170(res:Bool)(r:PV):Prop:=r=vb res
theorem cv1{x0:List bg}{x1:bg->Bool}{v0 v1:PV}(r0:(tSl bg.t).R x0 v0)(r1:(tFn Tryz.prog bg.t tB).R x1 v1):FnR Tryz.prog 170 [v0,v1] (vb (ib x0 x1)):=by
 refine fnS (R:=RF170) dj7 (λ_ h=>h) O λres z=>?_;unfold ib at z;refine sR (mB O (nR (mV O (mV O ?_))));obtain⟨a2,a1,z⟩:=br z;have a0:=df2 r0 r1;rw[a1]at a0;refine cL a0 O O (ak (TR.clo (tSl bg.t) r0) (ak (TR.clo (tFn Tryz.prog bg.t tB) r1) bp)) (bN lh O O (mV O (nS ?_)));exact rR z O O O
def RF103(res:Int)(r:PV):Prop:=r=vi res
theorem wj{S:List Fr}{res:Int}{x0:bt}{b5:Bool}{v0 a4:PV}(r0:bt.t.R x0 v0)(d6:li x0.Name=b5)(c6:(!b5)=false)(b6:((decide (4 < (x0.Params.length:Int)))||(decide (12 < (x0.Body.length:Int))))=false)(c5:(tSl bg.t).R x0.Params a4){K1:Unit->Int}
 (e0:∀{h:Heap}(M0:Mem h []),K1 ()=res->PX Tryz.prog 1 S (QR Tryz.prog [(2,none)] (RF103 res)) [] h):
 ∀{m:Nat}{a0:Int}(d8:m=Int.toNat ((x0.Params.length:Int)-a0))(b7:0<=a0){h:Heap}(M0:Mem h []),jb x0 K1 m a0=res->RC Tryz.prog (.loop ch8) S (QR Tryz.prog [(2,none)] (RF103 res)) [(24,vi a0),(23,vi (x0.Params.length:Int)),(22,a4),(1,.fp v0)] h:=by
 have a7:=c6;try simp only[qa]at a7
 have a8:=b6;try simp only[qa]at a8
 intro m;induction m with
 |zero=>
  intro a0 d8 b7 h M0 z;rw[jb]at z;refine cg (sR (bN cx O O (nS (am ?_))));refine bv O ?_ ?_<;>intro c<;>try simp only[qa]at c
  ·omega
  refine dl (ee (dh ?_));exact wP (e0 (Mem.sub M0 .slnil) z) O
 |succ m ih=>
  intro a0 d8 b7 h M0 z;rw[jb]at z;refine cg (sR (bN cx O O (nS (am ?_))));refine bv O ?_ ?_<;>intro c<;>try simp only[qa]at c
  rotate_left
  ·omega
  refine bc (aq (am (bm (sR (mV O ?_)))));obtain⟨a1,d4,a3⟩:=dn (i:=a0) c5 V V;refine ah (bn O O d4) (lD a3 O O O ?_);refine dz (x:= .agg [vs [],vi 0]) M0 O O (λd3 c8 e1 d1=>?_);refine mV O ?_;refine dm (k:=0) (v:=a1) d1 O O O (TR.cnt bg.t a3) (λd0 a6=>?_);replace a6:Mem d0 [⟨.op d3 c8 0,166,2,[a1]⟩]:=a6;refine nS (bm (am (fc (bw (ah (bh O) (bz (bw (ah (ci (k:=0) a6 O O (bg.g_Name a3)) ?_))))))));refine bz (bw ?_);obtain⟨a2,b9,z⟩:=br z;have b2:=bs2 (x0:=(ix x0.Params a0).Name);rw[b9]at b2;refine cL b2 O O (ak O bp) (bz (bw (ah (ku O) (bz (bw (mV O (bz ?_)))))));refine vk (k:=0) (E':=[(29,vb (!a2)),(33,vb (!a2)),(32,vb a2),(31,vs ((ix x0.Params a0).Name)),(3,vi a0),(4,.fp a1),(28,a1),(27,.fp a1),(26,vi a0),(25,vb (decide (a0 < (x0.Params.length:Int)))),(24,vi a0),(23,vi (x0.Params.length:Int)),(22,a4),(1,.fp v0)]) a6 O (cv O (cv O (cv O (cv O (cv O (ym O (cv O (cv O (cv O (cv O (cv O (cv O (cv O (cv O ag0)))))))))))))) (λb4 a9=>?_);replace a9:Mem b4 []:=a9;refine ja (aq ?_);refine ck z O ?_ ?_<;>clear z<;>intro c z<;>try simp only[qa]at c
  ·refine sR (mI O (nS ?_));exact rR z O O O
  ·refine sR (fL O (bg.g_Width a3) O O (bN cx O O (mV O ?_)));refine cq 4 (d:=42) (v:=vb ((decide (((ix x0.Params a0).Width) < 1))||(decide (32 < ((ix x0.Params a0).Width))))) ?_ ?_
   ·intro S Q r;cases b1:(decide (((ix x0.Params a0).Width) < 1))
    ·intro k;have b0:=b1;try simp only[qa]at b0
     refine aj O O (cw O (bg.g_Width a3)) (aj O O (cp O O O) (aj O O (ct O O kh) ?_));exact gK O O O O O k
    ·exact gN 3 O O O O O O
   refine mV O (nS ?_);refine ck z O ?_ ?_<;>clear z<;>intro c z<;>try simp only[qa]at c
   ·refine sR (mI O (nS ?_));exact rR z O O O
   ·refine sR (gL (bt.g_Params r0) O O O λa5 c9=>(mV O (xl (E0:=[(46,vi a0),(45,a5),(44,.fp a5),(34,vb ((decide (((ix x0.Params a0).Width) < 1))||(decide (32 < ((ix x0.Params a0).Width))))),(42,vb ((decide (((ix x0.Params a0).Width) < 1))||(decide (32 < ((ix x0.Params a0).Width))))),(38,vb (decide (((ix x0.Params a0).Width) < 1))),(37,vb (decide (((ix x0.Params a0).Width) < 1))),(36,vi ((ix x0.Params a0).Width)),(35,.fp (vi ((ix x0.Params a0).Width))),(29,vb (!a2)),(33,vb (!a2)),(32,vb a2),(31,vs ((ix x0.Params a0).Name)),(3,vi a0),(4,.fp a1),(28,a1),(27,.fp a1),(26,vi a0),(25,vb (decide (a0 < (x0.Params.length:Int)))),(24,vi a0),(23,vi (x0.Params.length:Int)),(22,a4),(1,.fp v0)]) (sB O) ?_)));obtain⟨d2,d5,c7⟩:=bb3 (P:=Tryz.prog) (hf:=false) (E:=[(46,vi a0),(45,a5),(44,.fp a5),(34,vb ((decide (((ix x0.Params a0).Width) < 1))||(decide (32 < ((ix x0.Params a0).Width))))),(42,vb ((decide (((ix x0.Params a0).Width) < 1))||(decide (32 < ((ix x0.Params a0).Width))))),(38,vb (decide (((ix x0.Params a0).Width) < 1))),(37,vb (decide (((ix x0.Params a0).Width) < 1))),(36,vi ((ix x0.Params a0).Width)),(35,.fp (vi ((ix x0.Params a0).Width))),(29,vb (!a2)),(33,vb (!a2)),(32,vb a2),(31,vs ((ix x0.Params a0).Name)),(3,vi a0),(4,.fp a1),(28,a1),(27,.fp a1),(26,vi a0),(25,vb (decide (a0 < (x0.Params.length:Int)))),(24,vi a0),(23,vi (x0.Params.length:Int)),(22,a4),(1,.fp v0)]) (h:=b4) (t:=bg.t) (tt:=23) (x:=(.tmp 45)) (lo:=none) (hi:=(some (.tmp 46))) (a:=0) (b:=a0) c9 O O O (show 0<=0 by omega) (show 0<=a0 by omega) (show a0<=(x0.Params.length:Int) by omega) (λad=>by kernel_rfl);have d7:=za (l:=x0.Params) (show 0<=0 by omega) (show 0<=a0 by omega) (show a0<=(x0.Params.length:Int) by omega);refine ah (v:=d2) (d5) ?_;have b3:(tFn Tryz.prog bg.t tB).R (λa_=>gy a_ (ix x0.Params a0)) (.fn (.func 171) [] [.fp a1]):=ao9 (ak (ba6 (TR.clo bg.t a3)) bp) λa va ra=>by exact⟨_,dd8 ra a3,O⟩
    refine ah (v:= .fn (.func 171) [] [.fp a1]) (sn O O) ?_;obtain⟨d9,c4,z⟩:=br z;have b8:=cv1 c7 b3;rw[c4]at b8;refine cL b8 O O (ak (TR.clo (tSl bg.t) c7) (ak (TR.clo (tFn Tryz.prog bg.t tB) b3) bp)) (mV O (nS ?_));refine ck z O ?_ ?_<;>clear z<;>intro c z<;>try simp only[qa]at c
    ·refine sR (mI O (nS ?_));exact rR z O O O
    ·refine bc (de (de (aq (ax (bN dt O O (mV O (bq (cy ?_))))))));have s:=df c5;have o:wr (a0+1)=a0+1:=db V V;erw[o];exact wC (ih V V (Mem.sub a9 .slnil) z) O
theorem dm4{x0:bt}{v0:PV}(r0:bt.t.R x0 v0):FnR Tryz.prog 103 [v0] (vi (lk x0)):=by
 refine fnS (R:=RF103) dg7 (λ_ h=>h) O λres z=>?_;unfold lk at z;refine sR (ah (ej O (TR.cnt bt.t r0)) (mI O (nS (am (bm (sR (fL O (bt.g_Name r0) O O ?_)))))));obtain⟨b2,a1,z⟩:=br z;have a7:=bs2 (x0:=x0.Name);rw[a1]at a7;refine cL a7 O O (ak O bp) (ah (ku O) (mV O (nS ?_)));refine ck z O ?_ ?_<;>clear z<;>intro a2 z<;>have a3:=a2<;>try simp only[qa]at a3
 ·refine sR (mI O (nS ?_));exact rR z O O O
 ·refine sR (gL (bt.g_Params r0) O O O λb7 b0=>(ah (da O (co b0 Tryz.underlying23 _)) (bN kh O O (mV O ?_))));refine cq 5 (d:=20) (v:=vb ((decide (4 < (x0.Params.length:Int)))||(decide (12 < (x0.Body.length:Int))))) ?_ ?_
  ·intro S Q r;cases a8:(decide (4 < (x0.Params.length:Int)))
   ·intro k;have a6:=a8;try simp only[qa]at a6
    obtain⟨b4,b1,a5⟩:=bt.g_Body r0;refine aj O O (cw O b1) (aj O O (cp O (TR.cnt (tSl aw.t) a5) (TR.agg (tSl aw.t) a5)) (aj O O (da O (co a5 Tryz.underlying95 _)) (aj O O (ct O O kh) ?_)));exact gK O O O O O k
   ·exact gN 4 O O O O O O
  refine mV O (nS ?_);refine ck z O ?_ ?_<;>clear z<;>intro a0 z<;>have a4:=a0<;>try simp only[qa]at a4
  ·refine sR (mI O (nS ?_));exact rR z O O O
  ·refine bc (de (aq (am (sR (gL (bt.g_Params r0) O O O λb6 a9=>(ah (da O (co a9 Tryz.underlying23 _)) (mI O (nS ?_))))))));refine bm ?_;refine wC (wj r0 a1 a2 a0 a9 ?_ O V (Mem.sub (Mem.nil ⟨0,[]⟩) .slnil) z) O
   ·intro b3 b5 z;refine em (aq (sR (mI O (nS ?_))));exact rR z O O O
end Go.Proofs.YtmonnlkagniolaaGreat
