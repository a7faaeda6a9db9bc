import Derived.Test.YtmonnlkagniolaaGreatPbA
import Derived.Test.YtmonnlkagniolaaGreatKTy
set_option linter.all false
set_option maxRecDepth 100000
namespace Go.Proofs.YtmonnlkagniolaaGreat
open Go Go.Pb Go.RowKit
theorem uh:Tryz.prog.cellsOf 3=1:=by kernel_rfl
theorem dy5:Tryz.prog.cellsOf 4=1:=by kernel_rfl
theorem bd7:Tryz.prog.cellsOf 9=1:=by kernel_rfl
theorem dw7:Tryz.prog.cellsOf 22=1:=by kernel_rfl
theorem cb1:Tryz.prog.cellsOf 23=1:=by kernel_rfl
theorem dz9:Tryz.prog.cellsOf 24=1:=by kernel_rfl
theorem dv3:Tryz.prog.cellsOf 25=1:=by kernel_rfl
theorem ed0:Tryz.prog.cellsOf 26=1:=by kernel_rfl
theorem ec4:Tryz.prog.cellsOf 27=1:=by kernel_rfl
theorem by5:Tryz.prog.cellsOf 28=1:=by kernel_rfl
theorem bt9:Tryz.prog.cellsOf 29=1:=by kernel_rfl
theorem dt4:Tryz.prog.cellsOf 31=9:=by kernel_rfl
theorem bj1:Tryz.prog.cellsOf 32=1:=by kernel_rfl
theorem dx7:Tryz.prog.cellsOf 33=1:=by kernel_rfl
theorem dw6:Tryz.prog.cellsOf 35=3:=by kernel_rfl
theorem dy4:Tryz.prog.cellsOf 43=1:=by kernel_rfl
theorem dd1:Tryz.prog.cellsOf 48=2:=by kernel_rfl
theorem dv7:Tryz.prog.cellsOf 57=1:=by kernel_rfl
theorem ed2:Tryz.prog.cellsOf 59=6:=by kernel_rfl
theorem dz6:Tryz.prog.cellsOf 61=3:=by kernel_rfl
theorem bk5:Tryz.prog.cellsOf 87=2:=by kernel_rfl
theorem dc1:Tryz.prog.cellsOf 89=1:=by kernel_rfl
theorem eb2:Tryz.prog.cellsOf 92=2:=by kernel_rfl
theorem ec3:Tryz.prog.cellsOf 95=1:=by kernel_rfl
theorem dt1:Tryz.prog.cellsOf 97=3:=by kernel_rfl
theorem do8:Tryz.prog.cellsOf 102=2:=by kernel_rfl
theorem dp9:Tryz.prog.cellsOf 108=1:=by kernel_rfl
theorem do5:Tryz.prog.cellsOf 110=7:=by kernel_rfl
theorem df4:Tryz.prog.cellsOf 113=3:=by kernel_rfl
theorem dj8:Tryz.prog.cellsOf 126=3:=by kernel_rfl
theorem di4:Tryz.prog.cellsOf 135=7:=by kernel_rfl
theorem dh3:Tryz.prog.cellsOf 166=2:=by kernel_rfl
theorem dn8:Tryz.prog.cellsOf 180=5:=by kernel_rfl
theorem dk1:Tryz.prog.cellsOf 313=3:=by kernel_rfl
theorem az.reads166:∀n,Reads Tryz.prog 166 az.t n
 |0=>λcs hc=>hc.elim
 |n+1=>λcs hc=>by
  obtain⟨hl,hf⟩:=ig Tryz.underlying166 hc;rw[dh3]at hl
  match cs,hl with
  |[c0,c1],_=>
   obtain⟨a0,rfl⟩:=rF (pl Tryz.underlying9) hf 0 O O bd7 O Tryz.underlying9 O;obtain⟨a1,rfl⟩:=rF (io Tryz.underlying3) hf 1 O O uh O Tryz.underlying3 O;refine⟨({Name:=a0,Width:=a1}:az),?_⟩;rw[nb Tryz.underlying166 rfl];rfl
theorem bz.reads92:∀n,Reads Tryz.prog 92 bz.t n
 |0=>λcs hc=>hc.elim
 |n+1=>λcs hc=>by
  obtain⟨hl,hf⟩:=ig Tryz.underlying92 hc;rw[eb2]at hl
  match cs,hl with
  |[c0,c1],_=>
   obtain⟨a0,rfl⟩:=rF (pl Tryz.underlying9) hf 0 O O bd7 O Tryz.underlying9 O;obtain⟨a1,h1⟩:=rF (ff Tryz.underlying23 az.reads166) hf 1 O O cb1 O Tryz.underlying23 O;refine⟨({Name:=a0,Fields:=a1}:bz),?_⟩;rw[nb Tryz.underlying92 rfl];exact⟨_,O,h1⟩
theorem cq.reads61:∀n,Reads Tryz.prog 61 cq.t n
 |0=>λcs hc=>hc.elim
 |n+1=>λcs hc=>by
  obtain⟨hl,hf⟩:=ig Tryz.underlying61 hc;rw[dz6]at hl
  match cs,hl with
  |[c0,c1,c2],_=>
   obtain⟨a0,rfl⟩:=rF (pl Tryz.underlying9) hf 0 O O bd7 O Tryz.underlying9 O;obtain⟨a1,rfl⟩:=rF (io Tryz.underlying3) hf 1 O O uh O Tryz.underlying3 O;obtain⟨a2,rfl⟩:=rF (io Tryz.underlying3) hf 2 O O uh O Tryz.underlying3 O;refine⟨({Name:=a0,Width:=a1,Size:=a2}:cq),?_⟩;rw[nb Tryz.underlying61 rfl];rfl
theorem aa.reads87:∀n,Reads Tryz.prog 87 aa.t n
 |0=>λcs hc=>hc.elim
 |n+1=>λcs hc=>by
  obtain⟨hl,hf⟩:=ig Tryz.underlying87 hc;rw[bk5]at hl
  match cs,hl with
  |[c0,c1],_=>
   obtain⟨a0,rfl⟩:=rF (io Tryz.underlying3) hf 0 O O uh O Tryz.underlying3 O;obtain⟨a1,rfl⟩:=rF (io Tryz.underlying3) hf 1 O O uh O Tryz.underlying3 O;refine⟨({Header:=a0,Field:=a1}:aa),?_⟩;rw[nb Tryz.underlying87 rfl];rfl
theorem ah.reads113:∀n,Reads Tryz.prog 113 ah.t n
 |0=>λcs hc=>hc.elim
 |n+1=>λcs hc=>by
  obtain⟨hl,hf⟩:=ig Tryz.underlying113 hc;rw[df4]at hl
  match cs,hl with
  |[c0,c1,c2],_=>
   obtain⟨a0,rfl⟩:=rF (io Tryz.underlying3) hf 0 O O uh O Tryz.underlying3 O;obtain⟨a1,rfl⟩:=rF (io Tryz.underlying3) hf 1 O O uh O Tryz.underlying3 O;obtain⟨a2,rfl⟩:=rF (io Tryz.underlying3) hf 2 O O uh O Tryz.underlying3 O;refine⟨({Op:=a0,N:=a1,W:=a2}:ah),?_⟩;rw[nb Tryz.underlying113 rfl];rfl
theorem au.reads135:∀n,Reads Tryz.prog 135 au.t n
 |0=>λcs hc=>hc.elim
 |n+1=>λcs hc=>by
  obtain⟨hl,hf⟩:=ig Tryz.underlying135 hc;rw[di4]at hl
  match cs,hl with
  |[c0,c1,c2,c3,c4,c5,c6],_=>
   obtain⟨a0,rfl⟩:=rF (io Tryz.underlying3) hf 0 O O uh O Tryz.underlying3 O;have q1:HasC Tryz.prog n 87 [c1,c2]:=by
    have q:=hf _ (List.mem_of_getElem? (i:=1) O);simpa only[bk5,List.drop_succ_cons,List.drop_zero,List.take_succ_cons,List.take_zero]using q
   obtain⟨a1,h1⟩:=aa.reads87 n _ q1;rw[nb Tryz.underlying87 rfl]at h1;have e1:_=_:=h1;simp only[PV.agg.injEq,List.cons.injEq,and_true]at e1;obtain⟨rfl,rfl⟩:=e1;obtain⟨a2,rfl⟩:=rF (io Tryz.underlying3) hf 2 O O uh O Tryz.underlying3 O;obtain⟨a3,rfl⟩:=rF (io Tryz.underlying3) hf 3 O O uh O Tryz.underlying3 O;obtain⟨a4,h4⟩:=rF (ff Tryz.underlying32 ah.reads113) hf 4 O O bj1 O Tryz.underlying32 O;obtain⟨a5,h5⟩:=rF (ff Tryz.underlying32 ah.reads113) hf 5 O O bj1 O Tryz.underlying32 O;refine⟨({Kind:=a0,Dst:=a1,Register:=a2,Header:=a3,Index:=a4,Value:=a5}:au),?_⟩;rw[nb Tryz.underlying135 rfl];exact⟨_,_,O,h4,h5⟩
theorem bm.reads97:∀n,Reads Tryz.prog 97 bm.t n
 |0=>λcs hc=>hc.elim
 |n+1=>λcs hc=>by
  obtain⟨hl,hf⟩:=ig Tryz.underlying97 hc;rw[dt1]at hl
  match cs,hl with
  |[c0,c1,c2],_=>
   obtain⟨a0,rfl⟩:=rF (pl Tryz.underlying9) hf 0 O O bd7 O Tryz.underlying9 O;obtain⟨a1,h1⟩:=rF (ff Tryz.underlying23 az.reads166) hf 1 O O cb1 O Tryz.underlying23 O;obtain⟨a2,h2⟩:=rF (ff Tryz.underlying95 au.reads135) hf 2 O O ec3 O Tryz.underlying95 O;refine⟨({Name:=a0,Params:=a1,Body:=a2}:bm),?_⟩;rw[nb Tryz.underlying97 rfl];exact⟨_,_,O,h1,h2⟩
theorem fb.reads126:∀n,Reads Tryz.prog 126 fb.t n
 |0=>λcs hc=>hc.elim
 |n+1=>λcs hc=>by
  obtain⟨hl,hf⟩:=ig Tryz.underlying126 hc;rw[dj8]at hl
  match cs,hl with
  |[c0,c1,c2],_=>
   have q0:HasC Tryz.prog n 87 [c0,c1]:=by
    have q:=hf _ (List.mem_of_getElem? (i:=0) O);simpa only[bk5,List.drop_succ_cons,List.drop_zero,List.take_succ_cons,List.take_zero]using q
   obtain⟨a0,h0⟩:=aa.reads87 n _ q0;rw[nb Tryz.underlying87 rfl]at h0;have e0:_=_:=h0;simp only[PV.agg.injEq,List.cons.injEq,and_true]at e0;obtain⟨rfl,rfl⟩:=e0;obtain⟨a1,rfl⟩:=rF (io Tryz.underlying3) hf 1 O O uh O Tryz.underlying3 O;refine⟨({Field:=a0,Kind:=a1}:fb),?_⟩;rw[nb Tryz.underlying126 rfl];rfl
theorem ga.reads48:∀n,Reads Tryz.prog 48 ga.t n
 |0=>λcs hc=>hc.elim
 |n+1=>λcs hc=>by
  obtain⟨hl,hf⟩:=ig Tryz.underlying48 hc;rw[dd1]at hl
  match cs,hl with
  |[c0,c1],_=>
   obtain⟨a0,rfl⟩:=rF (io Tryz.underlying3) hf 0 O O uh O Tryz.underlying3 O;obtain⟨a1,h1⟩:=rF (ff Tryz.underlying43 (ad4 Tryz.underlying89)) hf 1 O O dy4 O Tryz.underlying43 O;refine⟨({Action:=a0,Args:=a1}:ga),?_⟩;rw[nb Tryz.underlying48 rfl];exact⟨_,O,h1⟩
theorem bw.reads59:∀n,Reads Tryz.prog 59 bw.t n
 |0=>λcs hc=>hc.elim
 |n+1=>λcs hc=>by
  obtain⟨hl,hf⟩:=ig Tryz.underlying59 hc;rw[ed2]at hl
  match cs,hl with
  |[c0,c1,c2,c3,c4,c5],_=>
   obtain⟨a0,rfl⟩:=rF (pl Tryz.underlying9) hf 0 O O bd7 O Tryz.underlying9 O;obtain⟨a1,h1⟩:=rF (ff Tryz.underlying57 fb.reads126) hf 1 O O dv7 O Tryz.underlying57 O;obtain⟨a2,h2⟩:=rF (ff Tryz.underlying29 (io Tryz.underlying3)) hf 2 O O bt9 O Tryz.underlying29 O;have q3:HasC Tryz.prog n 48 [c3,c4]:=by
    have q:=hf _ (List.mem_of_getElem? (i:=3) O);simpa only[dd1,List.drop_succ_cons,List.drop_zero,List.take_succ_cons,List.take_zero]using q
   obtain⟨a3,h3⟩:=ga.reads48 n _ q3;rw[nb Tryz.underlying48 rfl]at h3;obtain⟨d1_3,e3,kd1_3⟩:=h3;simp only[PV.agg.injEq,List.cons.injEq,and_true]at e3;obtain⟨rfl,rfl⟩:=e3;obtain⟨a4,rfl⟩:=rF (io Tryz.underlying3) hf 4 O O uh O Tryz.underlying3 O;refine⟨({Name:=a0,Keys:=a1,Actions:=a2,Default:=a3,Size:=a4}:bw),?_⟩;rw[nb Tryz.underlying59 rfl];exact⟨_,_,_,O,h1,h2,kd1_3⟩
theorem fx.reads313:∀n,Reads Tryz.prog 313 fx.t n
 |0=>λcs hc=>hc.elim
 |n+1=>λcs hc=>by
  obtain⟨hl,hf⟩:=ig Tryz.underlying313 hc;rw[dk1]at hl
  match cs,hl with
  |[c0,c1,c2],_=>
   obtain⟨a0,rfl⟩:=rF (ad4 Tryz.underlying89) hf 0 O O dc1 O Tryz.underlying89 O;obtain⟨a1,rfl⟩:=rF (ad4 Tryz.underlying89) hf 1 O O dc1 O Tryz.underlying89 O;obtain⟨a2,rfl⟩:=rF (io Tryz.underlying3) hf 2 O O uh O Tryz.underlying3 O;refine⟨({Value:=a0,Mask:=a1,Next:=a2}:fx),?_⟩;rw[nb Tryz.underlying313 rfl];rfl
theorem bt.reads110:∀n,Reads Tryz.prog 110 bt.t n
 |0=>λcs hc=>hc.elim
 |n+1=>λcs hc=>by
  obtain⟨hl,hf⟩:=ig Tryz.underlying110 hc;rw[do5]at hl
  match cs,hl with
  |[c0,c1,c2,c3,c4,c5,c6],_=>
   obtain⟨a0,rfl⟩:=rF (pl Tryz.underlying9) hf 0 O O bd7 O Tryz.underlying9 O;obtain⟨a1,h1⟩:=rF (ff Tryz.underlying29 (io Tryz.underlying3)) hf 1 O O bt9 O Tryz.underlying29 O;obtain⟨a2,rfl⟩:=rF (am6 Tryz.underlying4) hf 2 O O dy5 O Tryz.underlying4 O;have q3:HasC Tryz.prog n 87 [c3,c4]:=by
    have q:=hf _ (List.mem_of_getElem? (i:=3) O);simpa only[bk5,List.drop_succ_cons,List.drop_zero,List.take_succ_cons,List.take_zero]using q
   obtain⟨a3,h3⟩:=aa.reads87 n _ q3;rw[nb Tryz.underlying87 rfl]at h3;have e3:_=_:=h3;simp only[PV.agg.injEq,List.cons.injEq,and_true]at e3;obtain⟨rfl,rfl⟩:=e3;obtain⟨a4,h4⟩:=rF (ff Tryz.underlying108 fx.reads313) hf 4 O O dp9 O Tryz.underlying108 O;obtain⟨a5,rfl⟩:=rF (io Tryz.underlying3) hf 5 O O uh O Tryz.underlying3 O;refine⟨({Name:=a0,Extract:=a1,Select:=a2,On:=a3,Cases:=a4,Default:=a5}:bt),?_⟩;rw[nb Tryz.underlying110 rfl];exact⟨_,_,O,h1,h4⟩
theorem aw.reads180:∀n,Reads Tryz.prog 180 aw.t n
 |0=>λcs hc=>hc.elim
 |n+1=>λcs hc=>by
  obtain⟨hl,hf⟩:=ig Tryz.underlying180 hc;rw[dn8]at hl
  match cs,hl with
  |[c0,c1,c2,c3,c4],_=>
   obtain⟨a0,rfl⟩:=rF (io Tryz.underlying3) hf 0 O O uh O Tryz.underlying3 O;obtain⟨a1,rfl⟩:=rF (io Tryz.underlying3) hf 1 O O uh O Tryz.underlying3 O;obtain⟨a2,h2⟩:=rF (ff Tryz.underlying32 ah.reads113) hf 2 O O bj1 O Tryz.underlying32 O;have q3:HasC Tryz.prog n 28 [c3]:=by
    have q:=hf _ (List.mem_of_getElem? (i:=3) O);simpa only[by5,List.drop_succ_cons,List.drop_zero,List.take_succ_cons,List.take_zero]using q
   obtain⟨a3,h3⟩:∃a,(tSl aw.t).R a (valC Tryz.prog 28 [c3]):=by
    cases n with
    |zero=>exact q3.elim
    |succ n=>exact wg Tryz.underlying28 (aw.reads180 n) _ q3
   rw[sj Tryz.underlying28 rfl]at h3;have q4:HasC Tryz.prog n 28 [c4]:=by
    have q:=hf _ (List.mem_of_getElem? (i:=4) O);simpa only[by5,List.drop_succ_cons,List.drop_zero,List.take_succ_cons,List.take_zero]using q
   obtain⟨a4,h4⟩:∃a,(tSl aw.t).R a (valC Tryz.prog 28 [c4]):=by
    cases n with
    |zero=>exact q4.elim
    |succ n=>exact wg Tryz.underlying28 (aw.reads180 n) _ q4
   rw[sj Tryz.underlying28 rfl]at h4;refine⟨({Kind:=a0,Table:=a1,Cond:=a2,Then:=a3,Else:=a4}:aw),?_⟩;rw[nb Tryz.underlying180 rfl];show aw.R _ _
   simp only[aw.R];exact⟨_,_,_,O,h2,⟨⟨h3.1.choose,h3.1.choose_spec.1,by rw[aw.Rl_eq];exact h3.1.choose_spec.2⟩,h3.2⟩,⟨⟨h4.1.choose,h4.1.choose_spec.1,by rw[aw.Rl_eq];exact h4.1.choose_spec.2⟩,h4.2⟩⟩
theorem ae.reads31:∀n,Reads Tryz.prog 31 ae.t n
 |0=>λcs hc=>hc.elim
 |n+1=>λcs hc=>by
  obtain⟨hl,hf⟩:=ig Tryz.underlying31 hc;rw[dt4]at hl
  match cs,hl with
  |[c0,c1,c2,c3,c4,c5,c6,c7,c8],_=>
   obtain⟨a0,rfl⟩:=rF (pl Tryz.underlying9) hf 0 O O bd7 O Tryz.underlying9 O;obtain⟨a1,h1⟩:=rF (ff Tryz.underlying22 bz.reads92) hf 1 O O dw7 O Tryz.underlying22 O;obtain⟨a2,h2⟩:=rF (ff Tryz.underlying23 az.reads166) hf 2 O O cb1 O Tryz.underlying23 O;obtain⟨a3,h3⟩:=rF (ff Tryz.underlying24 cq.reads61) hf 3 O O dz9 O Tryz.underlying24 O;obtain⟨a4,h4⟩:=rF (ff Tryz.underlying25 bm.reads97) hf 4 O O dv3 O Tryz.underlying25 O;obtain⟨a5,h5⟩:=rF (ff Tryz.underlying26 bw.reads59) hf 5 O O ed0 O Tryz.underlying26 O;obtain⟨a6,h6⟩:=rF (ff Tryz.underlying27 bt.reads110) hf 6 O O ec4 O Tryz.underlying27 O;obtain⟨a7,h7⟩:=rF (ff Tryz.underlying28 aw.reads180) hf 7 O O by5 O Tryz.underlying28 O;obtain⟨a8,h8⟩:=rF (ff Tryz.underlying29 (io Tryz.underlying3)) hf 8 O O bt9 O Tryz.underlying29 O;refine⟨({Name:=a0,Headers:=a1,Metadata:=a2,Registers:=a3,Actions:=a4,Tables:=a5,States:=a6,Control:=a7,Deparser:=a8}:ae),?_⟩;rw[nb Tryz.underlying31 rfl];exact⟨_,_,_,_,_,_,_,_,O,h1,h2,h3,h4,h5,h6,h7,h8⟩
theorem dz5{c:PV}(h:IsArg Tryz.prog 31 c):∃a,ae.t.R a c:=af8 ae.reads31 h
theorem bq.reads102:∀n,Reads Tryz.prog 102 bq.t n
 |0=>λcs hc=>hc.elim
 |n+1=>λcs hc=>by
  obtain⟨hl,hf⟩:=ig Tryz.underlying102 hc;rw[do8]at hl
  match cs,hl with
  |[c0,c1],_=>
   obtain⟨a0,rfl⟩:=rF (io Tryz.underlying3) hf 0 O O uh O Tryz.underlying3 O;obtain⟨a1,rfl⟩:=rF (am6 Tryz.underlying4) hf 1 O O dy5 O Tryz.underlying4 O;refine⟨({Unit:=a0,Want:=a1}:bq),?_⟩;rw[nb Tryz.underlying102 rfl];rfl
theorem ba.reads35:∀n,Reads Tryz.prog 35 ba.t n
 |0=>λcs hc=>hc.elim
 |n+1=>λcs hc=>by
  obtain⟨hl,hf⟩:=ig Tryz.underlying35 hc;rw[dw6]at hl
  match cs,hl with
  |[c0,c1,c2],_=>
   obtain⟨a0,rfl⟩:=rF (io Tryz.underlying3) hf 0 O O uh O Tryz.underlying3 O;obtain⟨a1,h1⟩:=rF (ff Tryz.underlying32 ah.reads113) hf 1 O O bj1 O Tryz.underlying32 O;obtain⟨a2,h2⟩:=rF (ff Tryz.underlying33 bq.reads102) hf 2 O O dx7 O Tryz.underlying33 O;refine⟨({Table:=a0,Cond:=a1,Guards:=a2}:ba),?_⟩;rw[nb Tryz.underlying35 rfl];exact⟨_,_,O,h1,h2⟩
theorem dx2{c:PV}(h:IsArg Tryz.prog 68 c):∃a,(tSl ba.t).R a c:=af8 (ff Tryz.underlying68 ba.reads35) h
end Go.Proofs.YtmonnlkagniolaaGreat
