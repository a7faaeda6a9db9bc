import Derived.Test.YtmonnlkagniolaaGreatPbA
import Derived.Test.YtmonnlkagniolaaGreatKTy
set_option linter.all false
set_option maxRecDepth 100000
namespace Go.Proofs.YtmonnlkagniolaaGreat
open Go Go.Pb Go.RowKit
theorem zi:Tryz.prog.cellsOf 3=1:=by kernel_rfl
theorem fm8:Tryz.prog.cellsOf 4=1:=by kernel_rfl
theorem bo8:Tryz.prog.cellsOf 9=1:=by kernel_rfl
theorem ff1:Tryz.prog.cellsOf 22=1:=by kernel_rfl
theorem co9:Tryz.prog.cellsOf 23=1:=by kernel_rfl
theorem fh3:Tryz.prog.cellsOf 24=1:=by kernel_rfl
theorem fd2:Tryz.prog.cellsOf 25=1:=by kernel_rfl
theorem fc1:Tryz.prog.cellsOf 26=1:=by kernel_rfl
theorem ey7:Tryz.prog.cellsOf 27=1:=by kernel_rfl
theorem cv1:Tryz.prog.cellsOf 28=1:=by kernel_rfl
theorem cj9:Tryz.prog.cellsOf 29=1:=by kernel_rfl
theorem ff0:Tryz.prog.cellsOf 31=9:=by kernel_rfl
theorem cw9:Tryz.prog.cellsOf 32=1:=by kernel_rfl
theorem fi6:Tryz.prog.cellsOf 41=1:=by kernel_rfl
theorem dx5:Tryz.prog.cellsOf 42=1:=by kernel_rfl
theorem dx2:Tryz.prog.cellsOf 43=1:=by kernel_rfl
theorem ez6:Tryz.prog.cellsOf 44=1:=by kernel_rfl
theorem ec0:Tryz.prog.cellsOf 46=4:=by kernel_rfl
theorem cw4:Tryz.prog.cellsOf 48=2:=by kernel_rfl
theorem fd9:Tryz.prog.cellsOf 50=7:=by kernel_rfl
theorem ey0:Tryz.prog.cellsOf 57=1:=by kernel_rfl
theorem fa6:Tryz.prog.cellsOf 59=6:=by kernel_rfl
theorem fe3:Tryz.prog.cellsOf 61=3:=by kernel_rfl
theorem by7:Tryz.prog.cellsOf 87=2:=by kernel_rfl
theorem ec6:Tryz.prog.cellsOf 89=1:=by kernel_rfl
theorem ex3:Tryz.prog.cellsOf 92=2:=by kernel_rfl
theorem fe5:Tryz.prog.cellsOf 95=1:=by kernel_rfl
theorem fe9:Tryz.prog.cellsOf 97=3:=by kernel_rfl
theorem es9:Tryz.prog.cellsOf 108=1:=by kernel_rfl
theorem em9:Tryz.prog.cellsOf 110=7:=by kernel_rfl
theorem en9:Tryz.prog.cellsOf 113=3:=by kernel_rfl
theorem eq9:Tryz.prog.cellsOf 126=3:=by kernel_rfl
theorem eq1:Tryz.prog.cellsOf 135=7:=by kernel_rfl
theorem el9:Tryz.prog.cellsOf 166=2:=by kernel_rfl
theorem et0:Tryz.prog.cellsOf 180=5:=by kernel_rfl
theorem em4:Tryz.prog.cellsOf 313=3:=by kernel_rfl
theorem fl7{c:PV}(h:IsArg Tryz.prog 3 c):∃a,tI.R a c:=ab8 (iv Tryz.underlying3) h
theorem av.reads166:∀n,Reads Tryz.prog 166 av.t n
 |0=>λcs hc=>hc.elim
 |n+1=>λcs hc=>by
  obtain⟨hl,hf⟩:=iq Tryz.underlying166 hc;rw[el9]at hl
  match cs,hl with
  |[c0,c1],_=>
   obtain⟨a0,rfl⟩:=rF (pq Tryz.underlying9) hf 0 O O bo8 O Tryz.underlying9 O;obtain⟨a1,rfl⟩:=rF (iv Tryz.underlying3) hf 1 O O zi O Tryz.underlying3 O;refine⟨({Name:=a0,Width:=a1}:av),?_⟩;rw[lm Tryz.underlying166 rfl];rfl
theorem bm.reads92:∀n,Reads Tryz.prog 92 bm.t n
 |0=>λcs hc=>hc.elim
 |n+1=>λcs hc=>by
  obtain⟨hl,hf⟩:=iq Tryz.underlying92 hc;rw[ex3]at hl
  match cs,hl with
  |[c0,c1],_=>
   obtain⟨a0,rfl⟩:=rF (pq Tryz.underlying9) hf 0 O O bo8 O Tryz.underlying9 O;obtain⟨a1,h1⟩:=rF (fh Tryz.underlying23 av.reads166) hf 1 O O co9 O Tryz.underlying23 O;refine⟨({Name:=a0,Fields:=a1}:bm),?_⟩;rw[lm Tryz.underlying92 rfl];exact⟨_,O,h1⟩
theorem cj.reads61:∀n,Reads Tryz.prog 61 cj.t n
 |0=>λcs hc=>hc.elim
 |n+1=>λcs hc=>by
  obtain⟨hl,hf⟩:=iq Tryz.underlying61 hc;rw[fe3]at hl
  match cs,hl with
  |[c0,c1,c2],_=>
   obtain⟨a0,rfl⟩:=rF (pq Tryz.underlying9) hf 0 O O bo8 O Tryz.underlying9 O;obtain⟨a1,rfl⟩:=rF (iv Tryz.underlying3) hf 1 O O zi O Tryz.underlying3 O;obtain⟨a2,rfl⟩:=rF (iv Tryz.underlying3) hf 2 O O zi O Tryz.underlying3 O;refine⟨({Name:=a0,Width:=a1,Size:=a2}:cj),?_⟩;rw[lm Tryz.underlying61 rfl];rfl
theorem ae.reads87:∀n,Reads Tryz.prog 87 ae.t n
 |0=>λcs hc=>hc.elim
 |n+1=>λcs hc=>by
  obtain⟨hl,hf⟩:=iq Tryz.underlying87 hc;rw[by7]at hl
  match cs,hl with
  |[c0,c1],_=>
   obtain⟨a0,rfl⟩:=rF (iv Tryz.underlying3) hf 0 O O zi O Tryz.underlying3 O;obtain⟨a1,rfl⟩:=rF (iv Tryz.underlying3) hf 1 O O zi O Tryz.underlying3 O;refine⟨({Header:=a0,Field:=a1}:ae),?_⟩;rw[lm Tryz.underlying87 rfl];rfl
theorem ak.reads113:∀n,Reads Tryz.prog 113 ak.t n
 |0=>λcs hc=>hc.elim
 |n+1=>λcs hc=>by
  obtain⟨hl,hf⟩:=iq Tryz.underlying113 hc;rw[en9]at hl
  match cs,hl with
  |[c0,c1,c2],_=>
   obtain⟨a0,rfl⟩:=rF (iv Tryz.underlying3) hf 0 O O zi O Tryz.underlying3 O;obtain⟨a1,rfl⟩:=rF (iv Tryz.underlying3) hf 1 O O zi O Tryz.underlying3 O;obtain⟨a2,rfl⟩:=rF (iv Tryz.underlying3) hf 2 O O zi O Tryz.underlying3 O;refine⟨({Op:=a0,N:=a1,W:=a2}:ak),?_⟩;rw[lm Tryz.underlying113 rfl];rfl
theorem bf.reads135:∀n,Reads Tryz.prog 135 bf.t n
 |0=>λcs hc=>hc.elim
 |n+1=>λcs hc=>by
  obtain⟨hl,hf⟩:=iq Tryz.underlying135 hc;rw[eq1]at hl
  match cs,hl with
  |[c0,c1,c2,c3,c4,c5,c6],_=>
   obtain⟨a0,rfl⟩:=rF (iv Tryz.underlying3) hf 0 O O zi O Tryz.underlying3 O;have q1:HasC Tryz.prog n 87 [c1,c2]:=by
    have q:=hf _ (List.mem_of_getElem? (i:=1) O);simpa only[by7,List.drop_succ_cons,List.drop_zero,List.take_succ_cons,List.take_zero]using q
   obtain⟨a1,h1⟩:=ae.reads87 n _ q1;rw[lm Tryz.underlying87 rfl]at h1;have e1:_=_:=h1;simp only[PV.agg.injEq,List.cons.injEq,and_true]at e1;obtain⟨rfl,rfl⟩:=e1;obtain⟨a2,rfl⟩:=rF (iv Tryz.underlying3) hf 2 O O zi O Tryz.underlying3 O;obtain⟨a3,rfl⟩:=rF (iv Tryz.underlying3) hf 3 O O zi O Tryz.underlying3 O;obtain⟨a4,h4⟩:=rF (fh Tryz.underlying32 ak.reads113) hf 4 O O cw9 O Tryz.underlying32 O;obtain⟨a5,h5⟩:=rF (fh Tryz.underlying32 ak.reads113) hf 5 O O cw9 O Tryz.underlying32 O;refine⟨({Kind:=a0,Dst:=a1,Register:=a2,Header:=a3,Index:=a4,Value:=a5}:bf),?_⟩;rw[lm Tryz.underlying135 rfl];exact⟨_,_,O,h4,h5⟩
theorem cm.reads97:∀n,Reads Tryz.prog 97 cm.t n
 |0=>λcs hc=>hc.elim
 |n+1=>λcs hc=>by
  obtain⟨hl,hf⟩:=iq Tryz.underlying97 hc;rw[fe9]at hl
  match cs,hl with
  |[c0,c1,c2],_=>
   obtain⟨a0,rfl⟩:=rF (pq Tryz.underlying9) hf 0 O O bo8 O Tryz.underlying9 O;obtain⟨a1,h1⟩:=rF (fh Tryz.underlying23 av.reads166) hf 1 O O co9 O Tryz.underlying23 O;obtain⟨a2,h2⟩:=rF (fh Tryz.underlying95 bf.reads135) hf 2 O O fe5 O Tryz.underlying95 O;refine⟨({Name:=a0,Params:=a1,Body:=a2}:cm),?_⟩;rw[lm Tryz.underlying97 rfl];exact⟨_,_,O,h1,h2⟩
theorem gb.reads126:∀n,Reads Tryz.prog 126 gb.t n
 |0=>λcs hc=>hc.elim
 |n+1=>λcs hc=>by
  obtain⟨hl,hf⟩:=iq Tryz.underlying126 hc;rw[eq9]at hl
  match cs,hl with
  |[c0,c1,c2],_=>
   have q0:HasC Tryz.prog n 87 [c0,c1]:=by
    have q:=hf _ (List.mem_of_getElem? (i:=0) O);simpa only[by7,List.drop_succ_cons,List.drop_zero,List.take_succ_cons,List.take_zero]using q
   obtain⟨a0,h0⟩:=ae.reads87 n _ q0;rw[lm Tryz.underlying87 rfl]at h0;have e0:_=_:=h0;simp only[PV.agg.injEq,List.cons.injEq,and_true]at e0;obtain⟨rfl,rfl⟩:=e0;obtain⟨a1,rfl⟩:=rF (iv Tryz.underlying3) hf 1 O O zi O Tryz.underlying3 O;refine⟨({Field:=a0,Kind:=a1}:gb),?_⟩;rw[lm Tryz.underlying126 rfl];rfl
theorem cp.reads48:∀n,Reads Tryz.prog 48 cp.t n
 |0=>λcs hc=>hc.elim
 |n+1=>λcs hc=>by
  obtain⟨hl,hf⟩:=iq Tryz.underlying48 hc;rw[cw4]at hl
  match cs,hl with
  |[c0,c1],_=>
   obtain⟨a0,rfl⟩:=rF (iv Tryz.underlying3) hf 0 O O zi O Tryz.underlying3 O;obtain⟨a1,h1⟩:=rF (fh Tryz.underlying43 (vv Tryz.underlying89)) hf 1 O O dx2 O Tryz.underlying43 O;refine⟨({Action:=a0,Args:=a1}:cp),?_⟩;rw[lm Tryz.underlying48 rfl];exact⟨_,O,h1⟩
theorem bz.reads59:∀n,Reads Tryz.prog 59 bz.t n
 |0=>λcs hc=>hc.elim
 |n+1=>λcs hc=>by
  obtain⟨hl,hf⟩:=iq Tryz.underlying59 hc;rw[fa6]at hl
  match cs,hl with
  |[c0,c1,c2,c3,c4,c5],_=>
   obtain⟨a0,rfl⟩:=rF (pq Tryz.underlying9) hf 0 O O bo8 O Tryz.underlying9 O;obtain⟨a1,h1⟩:=rF (fh Tryz.underlying57 gb.reads126) hf 1 O O ey0 O Tryz.underlying57 O;obtain⟨a2,h2⟩:=rF (fh Tryz.underlying29 (iv Tryz.underlying3)) hf 2 O O cj9 O Tryz.underlying29 O;have q3:HasC Tryz.prog n 48 [c3,c4]:=by
    have q:=hf _ (List.mem_of_getElem? (i:=3) O);simpa only[cw4,List.drop_succ_cons,List.drop_zero,List.take_succ_cons,List.take_zero]using q
   obtain⟨a3,h3⟩:=cp.reads48 n _ q3;rw[lm Tryz.underlying48 rfl]at h3;obtain⟨d1_3,e3,kd1_3⟩:=h3;simp only[PV.agg.injEq,List.cons.injEq,and_true]at e3;obtain⟨rfl,rfl⟩:=e3;obtain⟨a4,rfl⟩:=rF (iv Tryz.underlying3) hf 4 O O zi O Tryz.underlying3 O;refine⟨({Name:=a0,Keys:=a1,Actions:=a2,Default:=a3,Size:=a4}:bz),?_⟩;rw[lm Tryz.underlying59 rfl];exact⟨_,_,_,O,h1,h2,kd1_3⟩
theorem en.reads313:∀n,Reads Tryz.prog 313 en.t n
 |0=>λcs hc=>hc.elim
 |n+1=>λcs hc=>by
  obtain⟨hl,hf⟩:=iq Tryz.underlying313 hc;rw[em4]at hl
  match cs,hl with
  |[c0,c1,c2],_=>
   obtain⟨a0,rfl⟩:=rF (vv Tryz.underlying89) hf 0 O O ec6 O Tryz.underlying89 O;obtain⟨a1,rfl⟩:=rF (vv Tryz.underlying89) hf 1 O O ec6 O Tryz.underlying89 O;obtain⟨a2,rfl⟩:=rF (iv Tryz.underlying3) hf 2 O O zi O Tryz.underlying3 O;refine⟨({Value:=a0,Mask:=a1,Next:=a2}:en),?_⟩;rw[lm Tryz.underlying313 rfl];rfl
theorem bh.reads110:∀n,Reads Tryz.prog 110 bh.t n
 |0=>λcs hc=>hc.elim
 |n+1=>λcs hc=>by
  obtain⟨hl,hf⟩:=iq Tryz.underlying110 hc;rw[em9]at hl
  match cs,hl with
  |[c0,c1,c2,c3,c4,c5,c6],_=>
   obtain⟨a0,rfl⟩:=rF (pq Tryz.underlying9) hf 0 O O bo8 O Tryz.underlying9 O;obtain⟨a1,h1⟩:=rF (fh Tryz.underlying29 (iv Tryz.underlying3)) hf 1 O O cj9 O Tryz.underlying29 O;obtain⟨a2,rfl⟩:=rF (au8 Tryz.underlying4) hf 2 O O fm8 O Tryz.underlying4 O;have q3:HasC Tryz.prog n 87 [c3,c4]:=by
    have q:=hf _ (List.mem_of_getElem? (i:=3) O);simpa only[by7,List.drop_succ_cons,List.drop_zero,List.take_succ_cons,List.take_zero]using q
   obtain⟨a3,h3⟩:=ae.reads87 n _ q3;rw[lm Tryz.underlying87 rfl]at h3;have e3:_=_:=h3;simp only[PV.agg.injEq,List.cons.injEq,and_true]at e3;obtain⟨rfl,rfl⟩:=e3;obtain⟨a4,h4⟩:=rF (fh Tryz.underlying108 en.reads313) hf 4 O O es9 O Tryz.underlying108 O;obtain⟨a5,rfl⟩:=rF (iv Tryz.underlying3) hf 5 O O zi O Tryz.underlying3 O;refine⟨({Name:=a0,Extract:=a1,Select:=a2,On:=a3,Cases:=a4,Default:=a5}:bh),?_⟩;rw[lm Tryz.underlying110 rfl];exact⟨_,_,O,h1,h4⟩
theorem ab.reads180:∀n,Reads Tryz.prog 180 ab.t n
 |0=>λcs hc=>hc.elim
 |n+1=>λcs hc=>by
  obtain⟨hl,hf⟩:=iq Tryz.underlying180 hc;rw[et0]at hl
  match cs,hl with
  |[c0,c1,c2,c3,c4],_=>
   obtain⟨a0,rfl⟩:=rF (iv Tryz.underlying3) hf 0 O O zi O Tryz.underlying3 O;obtain⟨a1,rfl⟩:=rF (iv Tryz.underlying3) hf 1 O O zi O Tryz.underlying3 O;obtain⟨a2,h2⟩:=rF (fh Tryz.underlying32 ak.reads113) hf 2 O O cw9 O Tryz.underlying32 O;have q3:HasC Tryz.prog n 28 [c3]:=by
    have q:=hf _ (List.mem_of_getElem? (i:=3) O);simpa only[cv1,List.drop_succ_cons,List.drop_zero,List.take_succ_cons,List.take_zero]using q
   obtain⟨a3,h3⟩:∃a,(tSl ab.t).R a (valC Tryz.prog 28 [c3]):=by
    cases n with
    |zero=>exact q3.elim
    |succ n=>exact ab7 Tryz.underlying28 (ab.reads180 n) _ q3
   rw[ui Tryz.underlying28 rfl]at h3;have q4:HasC Tryz.prog n 28 [c4]:=by
    have q:=hf _ (List.mem_of_getElem? (i:=4) O);simpa only[cv1,List.drop_succ_cons,List.drop_zero,List.take_succ_cons,List.take_zero]using q
   obtain⟨a4,h4⟩:∃a,(tSl ab.t).R a (valC Tryz.prog 28 [c4]):=by
    cases n with
    |zero=>exact q4.elim
    |succ n=>exact ab7 Tryz.underlying28 (ab.reads180 n) _ q4
   rw[ui Tryz.underlying28 rfl]at h4;refine⟨({Kind:=a0,Table:=a1,Cond:=a2,Then:=a3,Else:=a4}:ab),?_⟩;rw[lm Tryz.underlying180 rfl];show ab.R _ _
   simp only[ab.R];exact⟨_,_,_,O,h2,⟨⟨h3.1.choose,h3.1.choose_spec.1,by rw[ab.Rl_eq];exact h3.1.choose_spec.2⟩,h3.2⟩,⟨⟨h4.1.choose,h4.1.choose_spec.1,by rw[ab.Rl_eq];exact h4.1.choose_spec.2⟩,h4.2⟩⟩
theorem aa.reads31:∀n,Reads Tryz.prog 31 aa.t n
 |0=>λcs hc=>hc.elim
 |n+1=>λcs hc=>by
  obtain⟨hl,hf⟩:=iq Tryz.underlying31 hc;rw[ff0]at hl
  match cs,hl with
  |[c0,c1,c2,c3,c4,c5,c6,c7,c8],_=>
   obtain⟨a0,rfl⟩:=rF (pq Tryz.underlying9) hf 0 O O bo8 O Tryz.underlying9 O;obtain⟨a1,h1⟩:=rF (fh Tryz.underlying22 bm.reads92) hf 1 O O ff1 O Tryz.underlying22 O;obtain⟨a2,h2⟩:=rF (fh Tryz.underlying23 av.reads166) hf 2 O O co9 O Tryz.underlying23 O;obtain⟨a3,h3⟩:=rF (fh Tryz.underlying24 cj.reads61) hf 3 O O fh3 O Tryz.underlying24 O;obtain⟨a4,h4⟩:=rF (fh Tryz.underlying25 cm.reads97) hf 4 O O fd2 O Tryz.underlying25 O;obtain⟨a5,h5⟩:=rF (fh Tryz.underlying26 bz.reads59) hf 5 O O fc1 O Tryz.underlying26 O;obtain⟨a6,h6⟩:=rF (fh Tryz.underlying27 bh.reads110) hf 6 O O ey7 O Tryz.underlying27 O;obtain⟨a7,h7⟩:=rF (fh Tryz.underlying28 ab.reads180) hf 7 O O cv1 O Tryz.underlying28 O;obtain⟨a8,h8⟩:=rF (fh Tryz.underlying29 (iv Tryz.underlying3)) hf 8 O O cj9 O Tryz.underlying29 O;refine⟨({Name:=a0,Headers:=a1,Metadata:=a2,Registers:=a3,Actions:=a4,Tables:=a5,States:=a6,Control:=a7,Deparser:=a8}:aa),?_⟩;rw[lm Tryz.underlying31 rfl];exact⟨_,_,_,_,_,_,_,_,O,h1,h2,h3,h4,h5,h6,h7,h8⟩
theorem fb1{c:PV}(h:IsArg Tryz.prog 31 c):∃a,aa.t.R a c:=ab8 aa.reads31 h
theorem ax.reads46:∀n,Reads Tryz.prog 46 ax.t n
 |0=>λcs hc=>hc.elim
 |n+1=>λcs hc=>by
  obtain⟨hl,hf⟩:=iq Tryz.underlying46 hc;rw[ec0]at hl
  match cs,hl with
  |[c0,c1,c2,c3],_=>
   obtain⟨a0,h0⟩:=rF (fh Tryz.underlying41 (au8 Tryz.underlying4)) hf 0 O O fi6 O Tryz.underlying41 O;obtain⟨a1,h1⟩:=rF (fh Tryz.underlying42 (fh Tryz.underlying43 (vv Tryz.underlying89))) hf 1 O O dx5 O Tryz.underlying42 O;obtain⟨a2,h2⟩:=rF (fh Tryz.underlying43 (vv Tryz.underlying89)) hf 2 O O dx2 O Tryz.underlying43 O;obtain⟨a3,h3⟩:=rF (fh Tryz.underlying44 (cn5 Tryz.underlying5)) hf 3 O O ez6 O Tryz.underlying44 O;refine⟨({Valid:=a0,Fields:=a1,Metd:=a2,Payload:=a3}:ax),?_⟩;rw[lm Tryz.underlying46 rfl];exact⟨_,_,_,_,O,h0,h1,h2,h3⟩
theorem dj.reads50:∀n,Reads Tryz.prog 50 dj.t n
 |0=>λcs hc=>hc.elim
 |n+1=>λcs hc=>by
  obtain⟨hl,hf⟩:=iq Tryz.underlying50 hc;rw[fd9]at hl
  match cs,hl with
  |[c0,c1,c2,c3,c4,c5,c6],_=>
   have q0:HasC Tryz.prog n 46 [c0,c1,c2,c3]:=by
    have q:=hf _ (List.mem_of_getElem? (i:=0) O);simpa only[ec0,List.drop_succ_cons,List.drop_zero,List.take_succ_cons,List.take_zero]using q
   obtain⟨a0,h0⟩:=ax.reads46 n _ q0;rw[lm Tryz.underlying46 rfl]at h0;obtain⟨d0_0,d1_0,d2_0,d3_0,e0,kd0_0,kd1_0,kd2_0,kd3_0⟩:=h0;simp only[PV.agg.injEq,List.cons.injEq,and_true]at e0;obtain⟨rfl,rfl,rfl,rfl⟩:=e0;obtain⟨a1,h1⟩:=rF (fh Tryz.underlying42 (fh Tryz.underlying43 (vv Tryz.underlying89))) hf 1 O O dx5 O Tryz.underlying42 O;have q2:HasC Tryz.prog n 48 [c5,c6]:=by
    have q:=hf _ (List.mem_of_getElem? (i:=2) O);simpa only[cw4,List.drop_succ_cons,List.drop_zero,List.take_succ_cons,List.take_zero]using q
   obtain⟨a2,h2⟩:=cp.reads48 n _ q2;rw[lm Tryz.underlying48 rfl]at h2;obtain⟨d1_2,e2,kd1_2⟩:=h2;simp only[PV.agg.injEq,List.cons.injEq,and_true]at e2;obtain⟨rfl,rfl⟩:=e2;refine⟨({Env:=a0,Registers:=a1,Call:=a2}:dj),?_⟩;rw[lm Tryz.underlying50 rfl];exact⟨_,_,_,_,_,_,O,kd0_0,kd1_0,kd2_0,kd3_0,h1,kd1_2⟩
theorem fh0{c:PV}(h:IsArg Tryz.prog 50 c):∃a,dj.t.R a c:=ab8 dj.reads50 h
end Go.Proofs.YtmonnlkagniolaaGreat
