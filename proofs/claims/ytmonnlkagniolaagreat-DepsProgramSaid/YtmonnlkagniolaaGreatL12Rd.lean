import Derived.Test.YtmonnlkagniolaaGreatPbA
import Derived.Test.YtmonnlkagniolaaGreatKTy
set_option linter.unusedVariables false
set_option linter.unusedSimpArgs false
set_option maxRecDepth 100000
namespace Go.Proofs.YtmonnlkagniolaaGreat
open Go Go.Pb Go.RowKit
theorem yf:Tryz.prog.cellsOf 3=1:=by kernel_rfl
theorem eu4:Tryz.prog.cellsOf 4=1:=by kernel_rfl
theorem bn3:Tryz.prog.cellsOf 9=1:=by kernel_rfl
theorem ej1:Tryz.prog.cellsOf 22=1:=by kernel_rfl
theorem cg7:Tryz.prog.cellsOf 23=1:=by kernel_rfl
theorem eo6:Tryz.prog.cellsOf 24=1:=by kernel_rfl
theorem eo4:Tryz.prog.cellsOf 25=1:=by kernel_rfl
theorem es9:Tryz.prog.cellsOf 26=1:=by kernel_rfl
theorem er7:Tryz.prog.cellsOf 27=1:=by kernel_rfl
theorem ch9:Tryz.prog.cellsOf 28=1:=by kernel_rfl
theorem cl4:Tryz.prog.cellsOf 29=1:=by kernel_rfl
theorem em1:Tryz.prog.cellsOf 31=9:=by kernel_rfl
theorem cd4:Tryz.prog.cellsOf 32=1:=by kernel_rfl
theorem eq0:Tryz.prog.cellsOf 43=1:=by kernel_rfl
theorem dq4:Tryz.prog.cellsOf 48=2:=by kernel_rfl
theorem eo7:Tryz.prog.cellsOf 57=1:=by kernel_rfl
theorem eq9:Tryz.prog.cellsOf 59=6:=by kernel_rfl
theorem en0:Tryz.prog.cellsOf 61=3:=by kernel_rfl
theorem bw8:Tryz.prog.cellsOf 87=2:=by kernel_rfl
theorem dt3:Tryz.prog.cellsOf 89=1:=by kernel_rfl
theorem em8:Tryz.prog.cellsOf 92=2:=by kernel_rfl
theorem em4:Tryz.prog.cellsOf 95=1:=by kernel_rfl
theorem es3:Tryz.prog.cellsOf 97=3:=by kernel_rfl
theorem du4:Tryz.prog.cellsOf 108=1:=by kernel_rfl
theorem eg2:Tryz.prog.cellsOf 110=7:=by kernel_rfl
theorem dz8:Tryz.prog.cellsOf 113=3:=by kernel_rfl
theorem eg5:Tryz.prog.cellsOf 126=3:=by kernel_rfl
theorem eb6:Tryz.prog.cellsOf 135=7:=by kernel_rfl
theorem ef3:Tryz.prog.cellsOf 166=2:=by kernel_rfl
theorem ef6:Tryz.prog.cellsOf 180=5:=by kernel_rfl
theorem eg1:Tryz.prog.cellsOf 313=3:=by kernel_rfl
theorem bg.reads166:∀n,Reads Tryz.prog 166 bg.t n
 |0=>λcs hc=>hc.elim
 |n+1=>λcs hc=>by
  obtain⟨hl,hf⟩:=kg Tryz.underlying166 hc;rw[ef3]at hl
  match cs,hl with
  |[c0,c1],_=>
   obtain⟨a0,rfl⟩:=rF (qw Tryz.underlying9) hf 0 O O bn3 O Tryz.underlying9 O;obtain⟨a1,rfl⟩:=rF (jy Tryz.underlying3) hf 1 O O yf O Tryz.underlying3 O;refine⟨({Name:=a0,Width:=a1}:bg),?_⟩;rw[pv Tryz.underlying166 rfl];rfl
theorem cm.reads92:∀n,Reads Tryz.prog 92 cm.t n
 |0=>λcs hc=>hc.elim
 |n+1=>λcs hc=>by
  obtain⟨hl,hf⟩:=kg Tryz.underlying92 hc;rw[em8]at hl
  match cs,hl with
  |[c0,c1],_=>
   obtain⟨a0,rfl⟩:=rF (qw Tryz.underlying9) hf 0 O O bn3 O Tryz.underlying9 O;obtain⟨a1,h1⟩:=rF (gx Tryz.underlying23 bg.reads166) hf 1 O O cg7 O Tryz.underlying23 O;refine⟨({Name:=a0,Fields:=a1}:cm),?_⟩;rw[pv Tryz.underlying92 rfl];exact⟨_,O,h1⟩
theorem cz.reads61:∀n,Reads Tryz.prog 61 cz.t n
 |0=>λcs hc=>hc.elim
 |n+1=>λcs hc=>by
  obtain⟨hl,hf⟩:=kg Tryz.underlying61 hc;rw[en0]at hl
  match cs,hl with
  |[c0,c1,c2],_=>
   obtain⟨a0,rfl⟩:=rF (qw Tryz.underlying9) hf 0 O O bn3 O Tryz.underlying9 O;obtain⟨a1,rfl⟩:=rF (jy Tryz.underlying3) hf 1 O O yf O Tryz.underlying3 O;obtain⟨a2,rfl⟩:=rF (jy Tryz.underlying3) hf 2 O O yf O Tryz.underlying3 O;refine⟨({Name:=a0,Width:=a1,Size:=a2}:cz),?_⟩;rw[pv Tryz.underlying61 rfl];rfl
theorem aa.reads87:∀n,Reads Tryz.prog 87 aa.t n
 |0=>λcs hc=>hc.elim
 |n+1=>λcs hc=>by
  obtain⟨hl,hf⟩:=kg Tryz.underlying87 hc;rw[bw8]at hl
  match cs,hl with
  |[c0,c1],_=>
   obtain⟨a0,rfl⟩:=rF (jy Tryz.underlying3) hf 0 O O yf O Tryz.underlying3 O;obtain⟨a1,rfl⟩:=rF (jy Tryz.underlying3) hf 1 O O yf O Tryz.underlying3 O;refine⟨({Header:=a0,Field:=a1}:aa),?_⟩;rw[pv Tryz.underlying87 rfl];rfl
theorem ai.reads113:∀n,Reads Tryz.prog 113 ai.t n
 |0=>λcs hc=>hc.elim
 |n+1=>λcs hc=>by
  obtain⟨hl,hf⟩:=kg Tryz.underlying113 hc;rw[dz8]at hl
  match cs,hl with
  |[c0,c1,c2],_=>
   obtain⟨a0,rfl⟩:=rF (jy Tryz.underlying3) hf 0 O O yf O Tryz.underlying3 O;obtain⟨a1,rfl⟩:=rF (jy Tryz.underlying3) hf 1 O O yf O Tryz.underlying3 O;obtain⟨a2,rfl⟩:=rF (jy Tryz.underlying3) hf 2 O O yf O Tryz.underlying3 O;refine⟨({Op:=a0,N:=a1,W:=a2}:ai),?_⟩;rw[pv Tryz.underlying113 rfl];rfl
theorem aw.reads135:∀n,Reads Tryz.prog 135 aw.t n
 |0=>λcs hc=>hc.elim
 |n+1=>λcs hc=>by
  obtain⟨hl,hf⟩:=kg Tryz.underlying135 hc;rw[eb6]at hl
  match cs,hl with
  |[c0,c1,c2,c3,c4,c5,c6],_=>
   obtain⟨a0,rfl⟩:=rF (jy Tryz.underlying3) hf 0 O O yf O Tryz.underlying3 O;have q1:HasC Tryz.prog n 87 [c1,c2]:=by
    have q:=hf _ (List.mem_of_getElem? (i:=1) O);simpa only[bw8,List.drop_succ_cons,List.drop_zero,List.take_succ_cons,List.take_zero]using q
   obtain⟨a1,h1⟩:=aa.reads87 n _ q1;rw[pv Tryz.underlying87 rfl]at h1;have e1:_=_:=h1;simp only[PV.agg.injEq,List.cons.injEq,and_true]at e1;obtain⟨rfl,rfl⟩:=e1;obtain⟨a2,rfl⟩:=rF (jy Tryz.underlying3) hf 2 O O yf O Tryz.underlying3 O;obtain⟨a3,rfl⟩:=rF (jy Tryz.underlying3) hf 3 O O yf O Tryz.underlying3 O;obtain⟨a4,h4⟩:=rF (gx Tryz.underlying32 ai.reads113) hf 4 O O cd4 O Tryz.underlying32 O;obtain⟨a5,h5⟩:=rF (gx Tryz.underlying32 ai.reads113) hf 5 O O cd4 O Tryz.underlying32 O;refine⟨({Kind:=a0,Dst:=a1,Register:=a2,Header:=a3,Index:=a4,Value:=a5}:aw),?_⟩;rw[pv Tryz.underlying135 rfl];exact⟨_,_,O,h4,h5⟩
theorem bt.reads97:∀n,Reads Tryz.prog 97 bt.t n
 |0=>λcs hc=>hc.elim
 |n+1=>λcs hc=>by
  obtain⟨hl,hf⟩:=kg Tryz.underlying97 hc;rw[es3]at hl
  match cs,hl with
  |[c0,c1,c2],_=>
   obtain⟨a0,rfl⟩:=rF (qw Tryz.underlying9) hf 0 O O bn3 O Tryz.underlying9 O;obtain⟨a1,h1⟩:=rF (gx Tryz.underlying23 bg.reads166) hf 1 O O cg7 O Tryz.underlying23 O;obtain⟨a2,h2⟩:=rF (gx Tryz.underlying95 aw.reads135) hf 2 O O em4 O Tryz.underlying95 O;refine⟨({Name:=a0,Params:=a1,Body:=a2}:bt),?_⟩;rw[pv Tryz.underlying97 rfl];exact⟨_,_,O,h1,h2⟩
theorem fq.reads126:∀n,Reads Tryz.prog 126 fq.t n
 |0=>λcs hc=>hc.elim
 |n+1=>λcs hc=>by
  obtain⟨hl,hf⟩:=kg Tryz.underlying126 hc;rw[eg5]at hl
  match cs,hl with
  |[c0,c1,c2],_=>
   have q0:HasC Tryz.prog n 87 [c0,c1]:=by
    have q:=hf _ (List.mem_of_getElem? (i:=0) O);simpa only[bw8,List.drop_succ_cons,List.drop_zero,List.take_succ_cons,List.take_zero]using q
   obtain⟨a0,h0⟩:=aa.reads87 n _ q0;rw[pv Tryz.underlying87 rfl]at h0;have e0:_=_:=h0;simp only[PV.agg.injEq,List.cons.injEq,and_true]at e0;obtain⟨rfl,rfl⟩:=e0;obtain⟨a1,rfl⟩:=rF (jy Tryz.underlying3) hf 1 O O yf O Tryz.underlying3 O;refine⟨({Field:=a0,Kind:=a1}:fq),?_⟩;rw[pv Tryz.underlying126 rfl];rfl
theorem gw.reads48:∀n,Reads Tryz.prog 48 gw.t n
 |0=>λcs hc=>hc.elim
 |n+1=>λcs hc=>by
  obtain⟨hl,hf⟩:=kg Tryz.underlying48 hc;rw[dq4]at hl
  match cs,hl with
  |[c0,c1],_=>
   obtain⟨a0,rfl⟩:=rF (jy Tryz.underlying3) hf 0 O O yf O Tryz.underlying3 O;obtain⟨a1,h1⟩:=rF (gx Tryz.underlying43 (am5 Tryz.underlying89)) hf 1 O O eq0 O Tryz.underlying43 O;refine⟨({Action:=a0,Args:=a1}:gw),?_⟩;rw[pv Tryz.underlying48 rfl];exact⟨_,O,h1⟩
theorem ca.reads59:∀n,Reads Tryz.prog 59 ca.t n
 |0=>λcs hc=>hc.elim
 |n+1=>λcs hc=>by
  obtain⟨hl,hf⟩:=kg Tryz.underlying59 hc;rw[eq9]at hl
  match cs,hl with
  |[c0,c1,c2,c3,c4,c5],_=>
   obtain⟨a0,rfl⟩:=rF (qw Tryz.underlying9) hf 0 O O bn3 O Tryz.underlying9 O;obtain⟨a1,h1⟩:=rF (gx Tryz.underlying57 fq.reads126) hf 1 O O eo7 O Tryz.underlying57 O;obtain⟨a2,h2⟩:=rF (gx Tryz.underlying29 (jy Tryz.underlying3)) hf 2 O O cl4 O Tryz.underlying29 O;have q3:HasC Tryz.prog n 48 [c3,c4]:=by
    have q:=hf _ (List.mem_of_getElem? (i:=3) O);simpa only[dq4,List.drop_succ_cons,List.drop_zero,List.take_succ_cons,List.take_zero]using q
   obtain⟨a3,h3⟩:=gw.reads48 n _ q3;rw[pv Tryz.underlying48 rfl]at h3;obtain⟨d1_3,e3,kd1_3⟩:=h3;simp only[PV.agg.injEq,List.cons.injEq,and_true]at e3;obtain⟨rfl,rfl⟩:=e3;obtain⟨a4,rfl⟩:=rF (jy Tryz.underlying3) hf 4 O O yf O Tryz.underlying3 O;refine⟨({Name:=a0,Keys:=a1,Actions:=a2,Default:=a3,Size:=a4}:ca),?_⟩;rw[pv Tryz.underlying59 rfl];exact⟨_,_,_,O,h1,h2,kd1_3⟩
theorem gv.reads313:∀n,Reads Tryz.prog 313 gv.t n
 |0=>λcs hc=>hc.elim
 |n+1=>λcs hc=>by
  obtain⟨hl,hf⟩:=kg Tryz.underlying313 hc;rw[eg1]at hl
  match cs,hl with
  |[c0,c1,c2],_=>
   obtain⟨a0,rfl⟩:=rF (am5 Tryz.underlying89) hf 0 O O dt3 O Tryz.underlying89 O;obtain⟨a1,rfl⟩:=rF (am5 Tryz.underlying89) hf 1 O O dt3 O Tryz.underlying89 O;obtain⟨a2,rfl⟩:=rF (jy Tryz.underlying3) hf 2 O O yf O Tryz.underlying3 O;refine⟨({Value:=a0,Mask:=a1,Next:=a2}:gv),?_⟩;rw[pv Tryz.underlying313 rfl];rfl
theorem cd.reads110:∀n,Reads Tryz.prog 110 cd.t n
 |0=>λcs hc=>hc.elim
 |n+1=>λcs hc=>by
  obtain⟨hl,hf⟩:=kg Tryz.underlying110 hc;rw[eg2]at hl
  match cs,hl with
  |[c0,c1,c2,c3,c4,c5,c6],_=>
   obtain⟨a0,rfl⟩:=rF (qw Tryz.underlying9) hf 0 O O bn3 O Tryz.underlying9 O;obtain⟨a1,h1⟩:=rF (gx Tryz.underlying29 (jy Tryz.underlying3)) hf 1 O O cl4 O Tryz.underlying29 O;obtain⟨a2,rfl⟩:=rF (bo7 Tryz.underlying4) hf 2 O O eu4 O Tryz.underlying4 O;have q3:HasC Tryz.prog n 87 [c3,c4]:=by
    have q:=hf _ (List.mem_of_getElem? (i:=3) O);simpa only[bw8,List.drop_succ_cons,List.drop_zero,List.take_succ_cons,List.take_zero]using q
   obtain⟨a3,h3⟩:=aa.reads87 n _ q3;rw[pv Tryz.underlying87 rfl]at h3;have e3:_=_:=h3;simp only[PV.agg.injEq,List.cons.injEq,and_true]at e3;obtain⟨rfl,rfl⟩:=e3;obtain⟨a4,h4⟩:=rF (gx Tryz.underlying108 gv.reads313) hf 4 O O du4 O Tryz.underlying108 O;obtain⟨a5,rfl⟩:=rF (jy Tryz.underlying3) hf 5 O O yf O Tryz.underlying3 O;refine⟨({Name:=a0,Extract:=a1,Select:=a2,On:=a3,Cases:=a4,Default:=a5}:cd),?_⟩;rw[pv Tryz.underlying110 rfl];exact⟨_,_,O,h1,h4⟩
theorem ae.reads180:∀n,Reads Tryz.prog 180 ae.t n
 |0=>λcs hc=>hc.elim
 |n+1=>λcs hc=>by
  obtain⟨hl,hf⟩:=kg Tryz.underlying180 hc;rw[ef6]at hl
  match cs,hl with
  |[c0,c1,c2,c3,c4],_=>
   obtain⟨a0,rfl⟩:=rF (jy Tryz.underlying3) hf 0 O O yf O Tryz.underlying3 O;obtain⟨a1,rfl⟩:=rF (jy Tryz.underlying3) hf 1 O O yf O Tryz.underlying3 O;obtain⟨a2,h2⟩:=rF (gx Tryz.underlying32 ai.reads113) hf 2 O O cd4 O Tryz.underlying32 O;have q3:HasC Tryz.prog n 28 [c3]:=by
    have q:=hf _ (List.mem_of_getElem? (i:=3) O);simpa only[ch9,List.drop_succ_cons,List.drop_zero,List.take_succ_cons,List.take_zero]using q
   obtain⟨a3,h3⟩:∃a,(tSl ae.t).R a (valC Tryz.prog 28 [c3]):=by
    cases n with
    |zero=>exact q3.elim
    |succ n=>exact yv Tryz.underlying28 (ae.reads180 n) _ q3
   rw[ut Tryz.underlying28 rfl]at h3;have q4:HasC Tryz.prog n 28 [c4]:=by
    have q:=hf _ (List.mem_of_getElem? (i:=4) O);simpa only[ch9,List.drop_succ_cons,List.drop_zero,List.take_succ_cons,List.take_zero]using q
   obtain⟨a4,h4⟩:∃a,(tSl ae.t).R a (valC Tryz.prog 28 [c4]):=by
    cases n with
    |zero=>exact q4.elim
    |succ n=>exact yv Tryz.underlying28 (ae.reads180 n) _ q4
   rw[ut Tryz.underlying28 rfl]at h4;refine⟨({Kind:=a0,Table:=a1,Cond:=a2,Then:=a3,Else:=a4}:ae),?_⟩;rw[pv Tryz.underlying180 rfl];show ae.R _ _
   simp only[ae.R];exact⟨_,_,_,O,h2,⟨⟨h3.1.choose,h3.1.choose_spec.1,by rw[ae.Rl_eq];exact h3.1.choose_spec.2⟩,h3.2⟩,⟨⟨h4.1.choose,h4.1.choose_spec.1,by rw[ae.Rl_eq];exact h4.1.choose_spec.2⟩,h4.2⟩⟩
theorem af.reads31:∀n,Reads Tryz.prog 31 af.t n
 |0=>λcs hc=>hc.elim
 |n+1=>λcs hc=>by
  obtain⟨hl,hf⟩:=kg Tryz.underlying31 hc;rw[em1]at hl
  match cs,hl with
  |[c0,c1,c2,c3,c4,c5,c6,c7,c8],_=>
   obtain⟨a0,rfl⟩:=rF (qw Tryz.underlying9) hf 0 O O bn3 O Tryz.underlying9 O;obtain⟨a1,h1⟩:=rF (gx Tryz.underlying22 cm.reads92) hf 1 O O ej1 O Tryz.underlying22 O;obtain⟨a2,h2⟩:=rF (gx Tryz.underlying23 bg.reads166) hf 2 O O cg7 O Tryz.underlying23 O;obtain⟨a3,h3⟩:=rF (gx Tryz.underlying24 cz.reads61) hf 3 O O eo6 O Tryz.underlying24 O;obtain⟨a4,h4⟩:=rF (gx Tryz.underlying25 bt.reads97) hf 4 O O eo4 O Tryz.underlying25 O;obtain⟨a5,h5⟩:=rF (gx Tryz.underlying26 ca.reads59) hf 5 O O es9 O Tryz.underlying26 O;obtain⟨a6,h6⟩:=rF (gx Tryz.underlying27 cd.reads110) hf 6 O O er7 O Tryz.underlying27 O;obtain⟨a7,h7⟩:=rF (gx Tryz.underlying28 ae.reads180) hf 7 O O ch9 O Tryz.underlying28 O;obtain⟨a8,h8⟩:=rF (gx Tryz.underlying29 (jy Tryz.underlying3)) hf 8 O O cl4 O Tryz.underlying29 O;refine⟨({Name:=a0,Headers:=a1,Metadata:=a2,Registers:=a3,Actions:=a4,Tables:=a5,States:=a6,Control:=a7,Deparser:=a8}:af),?_⟩;rw[pv Tryz.underlying31 rfl];exact⟨_,_,_,_,_,_,_,_,O,h1,h2,h3,h4,h5,h6,h7,h8⟩
theorem em5{c:PV}(h:IsArg Tryz.prog 31 c):∃a,af.t.R a c:=bg9 af.reads31 h
end Go.Proofs.YtmonnlkagniolaaGreat
