/-
 The code of each function does what its plain program says.
-/
import Derived.Test.YtmonnlkagniolaaGreatL4W12
set_option linter.all false
set_option maxRecDepth 100000
namespace Go.Proofs.YtmonnlkagniolaaGreat
open Go Go.Pb Go.RowKit
def RF86(res:(BitVec 32))(r:PV):Prop:=r=de res
theorem cj2{x0:List ak}{x1:au}{x2:ax}{x3:List (BitVec 32)}{v0 v1 v2 v3:PV}(r0:(tSl ak.t).R x0 v0)(r1:au.t.R x1 v1)(r2:ax.t.R x2 v2)(r3:(tSl gv).R x3 v3):FnR Tryz.prog 86 [v0,v1,v2,v3] (de (yp x0 x1 x2 x3)):=by
 refine fnS (R:=RF86) en0 (λ_ h=>h) O λres s=>?_;unfold yp at s;refine sR (ah (di O (TR.cnt au.t r1)) (ah (di O (TR.cnt ax.t r2)) (ah (v:=de 0#32) (ba O) (nR (mV O (lD r1 O O O ?_))))));obtain⟨a7,a2,s⟩:=bp s;have a1:=ai9 r0 r1;rw[a2]at a1;refine cL a1 O O (aj (TR.clo (tSl ak.t) r0) (aj (TR.clo au.t r1) bc)) (mV O (xT O O (xT O O (mV O (mV O (nS (am (sR ?_))))))));refine mV O (bN ie O O (nS ?_));refine bv s O ?_ ?_<;>clear s<;>intro c s<;>try simp only[qa]at c
 ·refine sR (ah (v:=de 0#32) (ba O) (nS ?_));exact rR s O O O
 ·refine aw (aq (sR (mV O (lD r1 O O O (lD r2 O O O (mV O ?_))))));obtain⟨a5,a0,s⟩:=bp s;obtain⟨a6,a4,a3⟩:=de5 (x1:=0) r0 r1 r2 r3 (by exact db7 OY OY);rw[a0]at a3;refine cL a4 O O (aj (TR.clo (tSl ak.t) r0) (aj O (aj (TR.clo au.t r1) (aj (TR.clo ax.t r2) (aj (TR.clo (tSl gv) r3) bc))))) (ah (bm0 O (bn.g_V a3)) (mV O (nS ?_)));exact rR s O O O
def RF185(res:(List Bool))(r:PV):Prop:=(tSl tB).R res r
def RF185x(R_:List Ent)(res:(List Bool))(r:PV)(h:Heap):Prop:=∃asR0_:PV,∃esR0_:List PV,Mem h (⟨asR0_,4,1,esR0_⟩::R_)/\(All2 tB.R res esR0_)/\(isL asR0_=true)/\(res.length<=4611686018427387904)/\(Wri asR0_ esR0_)/\r=asR0_
def RF186(res:(List (BitVec 32)))(r:PV):Prop:=(tSl gv).R res r
def RF186x(R_:List Ent)(res:(List (BitVec 32)))(r:PV)(h:Heap):Prop:=∃asR0_:PV,∃esR0_:List PV,Mem h (⟨asR0_,89,1,esR0_⟩::R_)/\(All2 gv.R res esR0_)/\(isL asR0_=true)/\(res.length<=4611686018427387904)/\(Wri asR0_ esR0_)/\r=asR0_
def RF187(res:(List UInt8))(r:PV):Prop:=(tSl tU8).R res r
def RF187x(R_:List Ent)(res:(List UInt8))(r:PV)(h:Heap):Prop:=∃asR0_:PV,∃esR0_:List PV,Mem h (⟨asR0_,5,1,esR0_⟩::R_)/\(All2 tU8.R res esR0_)/\(isL asR0_=true)/\(res.length<=4611686018427387904)/\(Wri asR0_ esR0_)/\r=asR0_
theorem bm8{g:Ent}{X I R:List Ent}:(g::(X++(I++R))).Perm (X++((I++[g])++R)):=by
 have e1:X++((I++[g])++R)=(X++I)++g::R:=by simp
 have e2:X++(I++R)=(X++I)++R:=by simp
 rw[e1,e2];exact List.perm_middle.symm
def CQ(x0:ax)(R_:List Ent)(r:PV)(h:Heap):Prop:=∃a b c d eb ef em ep I,r= .agg [a,b,c,d]/\OE h x0 a b c d eb ef em ep I R_
def RF233(res:bm)(r:PV):Prop:=bm.t.R res r
def RF203(res:(List av))(r:PV):Prop:=(tSl av.t).R res r
def RF202(res:av)(r:PV):Prop:=av.t.R res r
def RF136(res:Int)(r:PV):Prop:=r=vi res
def RF270(res:Bool)(r:PV):Prop:=r=vb res
def RF271(res:(List (BitVec 32)))(r:PV):Prop:=(tSl gv).R res r
def RF272(res:Bool)(r:PV):Prop:=r=vb res
def RF227(res:(List (BitVec 32))×Bool)(r:PV):Prop:=∃c0,r= .tup [c0,vb res.2]/\(tSl gv).R res.1 c0
section
variable{h:Heap}{e:ax}{a b c d:PV}{eb ef em ep:List PV}{I R:List Ent}
end
theorem al4{S:List Fr}{E:TEnv}{h:Heap}{e:ax}{a b c d:PV}{eb ef em ep:List PV}{I R:List Ent}{i8 w8 i9 w9 dl t8 t9:Nat}{x:PV}(H:OE h e a b c d eb ef em ep I (⟨.op i9 w9 0,46,4,[.agg [a,b,c,d]]⟩::⟨.op i8 w8 0,46,4,[x]⟩::R))(hE:EB e)
 (h9:Pb.look t9 E=some (.op i9 w9 0))(h8:Pb.look t8 E=some (.op i8 w8 0))(hd:Nat.beq t8 dl=false):RC Tryz.prog (.seq (.region false [⟨some dl,.load 4 true (.tmp t9),none,false⟩,⟨none,.store 4 (.tmp t8) (.tmp dl),none,false⟩]) .ret) S (QR Tryz.prog [(t8,some (4,true))] (ax.t.R e)) E h:=by
 have e8:evE ((dl,.agg [a,b,c,d])::E) (.tmp t8)=some (.op i8 w8 0):=by
  have:Nat.beq t8 dl=false:=hd;simp only[evE,Pb.look,this,cond_false];exact h8
 have a0:Pb.look t8 ((dl,.agg [a,b,c,d])::E)=some (.op i8 w8 0):=e8;have ed:evE ((dl,.agg [a,b,c,d])::E) (.tmp dl)=some (.agg [a,b,c,d]):=by simp[evE,Pb.look]
 refine sR (ah (gx (k:=0) H.pull h9 O O) ?_);have M:=H.pull;have hk:(⟨a,4,1,eb⟩::⟨b,43,1,ef⟩::⟨c,89,1,em⟩::⟨d,5,1,ep⟩::(I++(⟨.op i9 w9 0,46,4,[.agg [a,b,c,d]]⟩::⟨.op i8 w8 0,46,4,[x]⟩::R)))[I.length+5]?=some (⟨.op i8 w8 0,46,4,[x]⟩:Ent):=by
  simp only[List.getElem?_cons_succ];rw[List.getElem?_append_right Y,show I.length+1-I.length=1 by omega];rfl
 refine cx (k:=I.length+5) (v:= .agg [a,b,c,d]) H.M e8 ed hk O (λh' M'=>nS ?_);have hset:(I++(⟨.op i9 w9 0,46,4,[.agg [a,b,c,d]]⟩::⟨.op i8 w8 0,46,4,[x]⟩::R)).set (I.length+1) ⟨.op i8 w8 0,46,4,[.agg [a,b,c,d]]⟩=I++(⟨.op i9 w9 0,46,4,[.agg [a,b,c,d]]⟩::⟨.op i8 w8 0,46,4,[.agg [a,b,c,d]]⟩::R):=by
  rw[List.set_append_right _ _ Y,show I.length+1-I.length=1 by omega];rfl
 have H':OE h' e a b c d eb ef em ep I (⟨.op i9 w9 0,46,4,[.agg [a,b,c,d]]⟩::⟨.op i8 w8 0,46,4,[.agg [a,b,c,d]]⟩::R):=H.mem (by
  simp only[List.set_cons_succ]at M'
  rwa [hset]at M')
 obtain⟨d',hd',hr⟩:=H'.deep hE;have hk':(⟨a,4,1,eb⟩::⟨b,43,1,ef⟩::⟨c,89,1,em⟩::⟨d,5,1,ep⟩::(I++(⟨.op i9 w9 0,46,4,[.agg [a,b,c,d]]⟩::⟨.op i8 w8 0,46,4,[.agg [a,b,c,d]]⟩::R)))[I.length+5]?=some (⟨.op i8 w8 0,46,4,[.agg [a,b,c,d]]⟩:Ent):=by
  simp only[List.getElem?_cons_succ];rw[List.getElem?_append_right Y,show I.length+1-I.length=1 by omega];rfl
 exact fa (.cell a0 (dq (k:=I.length+5) H'.M hk' O) .nil) hd' hr
end Go.Proofs.YtmonnlkagniolaaGreat
