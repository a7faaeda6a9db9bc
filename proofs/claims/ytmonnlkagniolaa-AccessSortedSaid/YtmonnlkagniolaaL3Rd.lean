import Derived.Test.YtmonnlkagniolaaPbA
import Derived.Test.YtmonnlkagniolaaKTy
set_option linter.all false
set_option maxRecDepth 100000
namespace Go.Proofs.Ytmonnlkagniolaa
open Go Go.Pb Go.RowKit
theorem cel3:Try.prog.cellsOf 3=1:=by kernel_rfl
theorem cel4:Try.prog.cellsOf 4=1:=by kernel_rfl
theorem cel9:Try.prog.cellsOf 9=1:=by kernel_rfl
theorem cel22:Try.prog.cellsOf 22=1:=by kernel_rfl
theorem cel23:Try.prog.cellsOf 23=1:=by kernel_rfl
theorem cel24:Try.prog.cellsOf 24=1:=by kernel_rfl
theorem cel25:Try.prog.cellsOf 25=1:=by kernel_rfl
theorem cel26:Try.prog.cellsOf 26=1:=by kernel_rfl
theorem cel27:Try.prog.cellsOf 27=1:=by kernel_rfl
theorem cel28:Try.prog.cellsOf 28=1:=by kernel_rfl
theorem cel29:Try.prog.cellsOf 29=1:=by kernel_rfl
theorem cel31:Try.prog.cellsOf 31=9:=by kernel_rfl
theorem cel32:Try.prog.cellsOf 32=1:=by kernel_rfl
theorem cel33:Try.prog.cellsOf 33=1:=by kernel_rfl
theorem cel35:Try.prog.cellsOf 35=3:=by kernel_rfl
theorem cel45:Try.prog.cellsOf 45=2:=by kernel_rfl
theorem cel47:Try.prog.cellsOf 47=1:=by kernel_rfl
theorem cel49:Try.prog.cellsOf 49=3:=by kernel_rfl
theorem cel50:Try.prog.cellsOf 50=1:=by kernel_rfl
theorem cel51:Try.prog.cellsOf 51=1:=by kernel_rfl
theorem cel53:Try.prog.cellsOf 53=2:=by kernel_rfl
theorem cel55:Try.prog.cellsOf 55=6:=by kernel_rfl
theorem cel58:Try.prog.cellsOf 58=2:=by kernel_rfl
theorem cel59:Try.prog.cellsOf 59=1:=by kernel_rfl
theorem cel61:Try.prog.cellsOf 61=7:=by kernel_rfl
theorem cel64:Try.prog.cellsOf 64=3:=by kernel_rfl
theorem cel79:Try.prog.cellsOf 79=3:=by kernel_rfl
theorem cel83:Try.prog.cellsOf 83=5:=by kernel_rfl
theorem cel85:Try.prog.cellsOf 85=2:=by kernel_rfl
theorem cel87:Try.prog.cellsOf 87=7:=by kernel_rfl
theorem cel89:Try.prog.cellsOf 89=3:=by kernel_rfl
theorem cel108:Try.prog.cellsOf 108=1:=by kernel_rfl
theorem cel190:Try.prog.cellsOf 190=2:=by kernel_rfl
theorem cel192:Try.prog.cellsOf 192=3:=by kernel_rfl
theorem y14q.reads85:∀n,Reads Try.prog 85 y14q.t n
 |0=>λcs hc=>hc.elim
 |n+1=>λcs hc=>by
  obtain⟨hl,hf⟩:=y87q Try.underlying85 hc;rw[cel85]at hl
  match cs,hl with
  |[c0,c1],_=>
   have q0:HasC Try.prog n 9 [c0]:=by
    have q:=hf _ (List.mem_of_getElem? (i:=0) O);simpa only[cel9,List.drop_succ_cons,List.drop_zero,List.take_succ_cons,List.take_zero]using q
   obtain⟨a0,h0⟩:=(reads_string Try.underlying9) n _ q0;rw[y59q Try.underlying9 rfl]at h0;have h0:c0=vs a0:=h0;subst h0;have q1:HasC Try.prog n 3 [c1]:=by
    have q:=hf _ (List.mem_of_getElem? (i:=1) O);simpa only[cel3,List.drop_succ_cons,List.drop_zero,List.take_succ_cons,List.take_zero]using q
   obtain⟨a1,h1⟩:=(y91q Try.underlying3) n _ q1;rw[y59q Try.underlying3 rfl]at h1;have h1:c1=vi a1:=h1;subst h1;refine⟨({Name:=a0,Width:=a1}:y14q),?_⟩;rw[val_agg Try.underlying85 rfl];rfl
theorem y21q.reads45:∀n,Reads Try.prog 45 y21q.t n
 |0=>λcs hc=>hc.elim
 |n+1=>λcs hc=>by
  obtain⟨hl,hf⟩:=y87q Try.underlying45 hc;rw[cel45]at hl
  match cs,hl with
  |[c0,c1],_=>
   have q0:HasC Try.prog n 9 [c0]:=by
    have q:=hf _ (List.mem_of_getElem? (i:=0) O);simpa only[cel9,List.drop_succ_cons,List.drop_zero,List.take_succ_cons,List.take_zero]using q
   obtain⟨a0,h0⟩:=(reads_string Try.underlying9) n _ q0;rw[y59q Try.underlying9 rfl]at h0;have h0:c0=vs a0:=h0;subst h0;have q1:HasC Try.prog n 23 [c1]:=by
    have q:=hf _ (List.mem_of_getElem? (i:=1) O);simpa only[cel23,List.drop_succ_cons,List.drop_zero,List.take_succ_cons,List.take_zero]using q
   obtain⟨a1,h1⟩:=(y74q Try.underlying23 y14q.reads85) n _ q1;rw[y59q Try.underlying23 rfl]at h1;refine⟨({Name:=a0,Fields:=a1}:y21q),?_⟩;rw[val_agg Try.underlying45 rfl];exact⟨_,O,h1⟩
theorem y27q.reads89:∀n,Reads Try.prog 89 y27q.t n
 |0=>λcs hc=>hc.elim
 |n+1=>λcs hc=>by
  obtain⟨hl,hf⟩:=y87q Try.underlying89 hc;rw[cel89]at hl
  match cs,hl with
  |[c0,c1,c2],_=>
   have q0:HasC Try.prog n 9 [c0]:=by
    have q:=hf _ (List.mem_of_getElem? (i:=0) O);simpa only[cel9,List.drop_succ_cons,List.drop_zero,List.take_succ_cons,List.take_zero]using q
   obtain⟨a0,h0⟩:=(reads_string Try.underlying9) n _ q0;rw[y59q Try.underlying9 rfl]at h0;have h0:c0=vs a0:=h0;subst h0;have q1:HasC Try.prog n 3 [c1]:=by
    have q:=hf _ (List.mem_of_getElem? (i:=1) O);simpa only[cel3,List.drop_succ_cons,List.drop_zero,List.take_succ_cons,List.take_zero]using q
   obtain⟨a1,h1⟩:=(y91q Try.underlying3) n _ q1;rw[y59q Try.underlying3 rfl]at h1;have h1:c1=vi a1:=h1;subst h1;have q2:HasC Try.prog n 3 [c2]:=by
    have q:=hf _ (List.mem_of_getElem? (i:=2) O);simpa only[cel3,List.drop_succ_cons,List.drop_zero,List.take_succ_cons,List.take_zero]using q
   obtain⟨a2,h2⟩:=(y91q Try.underlying3) n _ q2;rw[y59q Try.underlying3 rfl]at h2;have h2:c2=vi a2:=h2;subst h2;refine⟨({Name:=a0,Width:=a1,Size:=a2}:y27q),?_⟩;rw[val_agg Try.underlying89 rfl];rfl
theorem y4q.reads58:∀n,Reads Try.prog 58 y4q.t n
 |0=>λcs hc=>hc.elim
 |n+1=>λcs hc=>by
  obtain⟨hl,hf⟩:=y87q Try.underlying58 hc;rw[cel58]at hl
  match cs,hl with
  |[c0,c1],_=>
   have q0:HasC Try.prog n 3 [c0]:=by
    have q:=hf _ (List.mem_of_getElem? (i:=0) O);simpa only[cel3,List.drop_succ_cons,List.drop_zero,List.take_succ_cons,List.take_zero]using q
   obtain⟨a0,h0⟩:=(y91q Try.underlying3) n _ q0;rw[y59q Try.underlying3 rfl]at h0;have h0:c0=vi a0:=h0;subst h0;have q1:HasC Try.prog n 3 [c1]:=by
    have q:=hf _ (List.mem_of_getElem? (i:=1) O);simpa only[cel3,List.drop_succ_cons,List.drop_zero,List.take_succ_cons,List.take_zero]using q
   obtain⟨a1,h1⟩:=(y91q Try.underlying3) n _ q1;rw[y59q Try.underlying3 rfl]at h1;have h1:c1=vi a1:=h1;subst h1;refine⟨({Header:=a0,Field:=a1}:y4q),?_⟩;rw[val_agg Try.underlying58 rfl];rfl
theorem y11q.reads64:∀n,Reads Try.prog 64 y11q.t n
 |0=>λcs hc=>hc.elim
 |n+1=>λcs hc=>by
  obtain⟨hl,hf⟩:=y87q Try.underlying64 hc;rw[cel64]at hl
  match cs,hl with
  |[c0,c1,c2],_=>
   have q0:HasC Try.prog n 3 [c0]:=by
    have q:=hf _ (List.mem_of_getElem? (i:=0) O);simpa only[cel3,List.drop_succ_cons,List.drop_zero,List.take_succ_cons,List.take_zero]using q
   obtain⟨a0,h0⟩:=(y91q Try.underlying3) n _ q0;rw[y59q Try.underlying3 rfl]at h0;have h0:c0=vi a0:=h0;subst h0;have q1:HasC Try.prog n 3 [c1]:=by
    have q:=hf _ (List.mem_of_getElem? (i:=1) O);simpa only[cel3,List.drop_succ_cons,List.drop_zero,List.take_succ_cons,List.take_zero]using q
   obtain⟨a1,h1⟩:=(y91q Try.underlying3) n _ q1;rw[y59q Try.underlying3 rfl]at h1;have h1:c1=vi a1:=h1;subst h1;have q2:HasC Try.prog n 3 [c2]:=by
    have q:=hf _ (List.mem_of_getElem? (i:=2) O);simpa only[cel3,List.drop_succ_cons,List.drop_zero,List.take_succ_cons,List.take_zero]using q
   obtain⟨a2,h2⟩:=(y91q Try.underlying3) n _ q2;rw[y59q Try.underlying3 rfl]at h2;have h2:c2=vi a2:=h2;subst h2;refine⟨({Op:=a0,N:=a1,W:=a2}:y11q),?_⟩;rw[val_agg Try.underlying64 rfl];rfl
theorem y13q.reads87:∀n,Reads Try.prog 87 y13q.t n
 |0=>λcs hc=>hc.elim
 |n+1=>λcs hc=>by
  obtain⟨hl,hf⟩:=y87q Try.underlying87 hc;rw[cel87]at hl
  match cs,hl with
  |[c0,c1,c2,c3,c4,c5,c6],_=>
   have q0:HasC Try.prog n 3 [c0]:=by
    have q:=hf _ (List.mem_of_getElem? (i:=0) O);simpa only[cel3,List.drop_succ_cons,List.drop_zero,List.take_succ_cons,List.take_zero]using q
   obtain⟨a0,h0⟩:=(y91q Try.underlying3) n _ q0;rw[y59q Try.underlying3 rfl]at h0;have h0:c0=vi a0:=h0;subst h0;have q1:HasC Try.prog n 58 [c1,c2]:=by
    have q:=hf _ (List.mem_of_getElem? (i:=1) O);simpa only[cel58,List.drop_succ_cons,List.drop_zero,List.take_succ_cons,List.take_zero]using q
   obtain⟨a1,h1⟩:=y4q.reads58 n _ q1;rw[val_agg Try.underlying58 rfl]at h1;have e1:_=_:=h1;simp only[PV.agg.injEq,List.cons.injEq,and_true]at e1;obtain⟨rfl,rfl⟩:=e1;have q2:HasC Try.prog n 3 [c3]:=by
    have q:=hf _ (List.mem_of_getElem? (i:=2) O);simpa only[cel3,List.drop_succ_cons,List.drop_zero,List.take_succ_cons,List.take_zero]using q
   obtain⟨a2,h2⟩:=(y91q Try.underlying3) n _ q2;rw[y59q Try.underlying3 rfl]at h2;have h2:c3=vi a2:=h2;subst h2;have q3:HasC Try.prog n 3 [c4]:=by
    have q:=hf _ (List.mem_of_getElem? (i:=3) O);simpa only[cel3,List.drop_succ_cons,List.drop_zero,List.take_succ_cons,List.take_zero]using q
   obtain⟨a3,h3⟩:=(y91q Try.underlying3) n _ q3;rw[y59q Try.underlying3 rfl]at h3;have h3:c4=vi a3:=h3;subst h3;have q4:HasC Try.prog n 32 [c5]:=by
    have q:=hf _ (List.mem_of_getElem? (i:=4) O);simpa only[cel32,List.drop_succ_cons,List.drop_zero,List.take_succ_cons,List.take_zero]using q
   obtain⟨a4,h4⟩:=(y74q Try.underlying32 y11q.reads64) n _ q4;rw[y59q Try.underlying32 rfl]at h4;have q5:HasC Try.prog n 32 [c6]:=by
    have q:=hf _ (List.mem_of_getElem? (i:=5) O);simpa only[cel32,List.drop_succ_cons,List.drop_zero,List.take_succ_cons,List.take_zero]using q
   obtain⟨a5,h5⟩:=(y74q Try.underlying32 y11q.reads64) n _ q5;rw[y59q Try.underlying32 rfl]at h5;refine⟨({Kind:=a0,Dst:=a1,Register:=a2,Header:=a3,Index:=a4,Value:=a5}:y13q),?_⟩;rw[val_agg Try.underlying87 rfl];exact⟨_,_,O,h4,h5⟩
theorem y23q.reads49:∀n,Reads Try.prog 49 y23q.t n
 |0=>λcs hc=>hc.elim
 |n+1=>λcs hc=>by
  obtain⟨hl,hf⟩:=y87q Try.underlying49 hc;rw[cel49]at hl
  match cs,hl with
  |[c0,c1,c2],_=>
   have q0:HasC Try.prog n 9 [c0]:=by
    have q:=hf _ (List.mem_of_getElem? (i:=0) O);simpa only[cel9,List.drop_succ_cons,List.drop_zero,List.take_succ_cons,List.take_zero]using q
   obtain⟨a0,h0⟩:=(reads_string Try.underlying9) n _ q0;rw[y59q Try.underlying9 rfl]at h0;have h0:c0=vs a0:=h0;subst h0;have q1:HasC Try.prog n 23 [c1]:=by
    have q:=hf _ (List.mem_of_getElem? (i:=1) O);simpa only[cel23,List.drop_succ_cons,List.drop_zero,List.take_succ_cons,List.take_zero]using q
   obtain⟨a1,h1⟩:=(y74q Try.underlying23 y14q.reads85) n _ q1;rw[y59q Try.underlying23 rfl]at h1;have q2:HasC Try.prog n 47 [c2]:=by
    have q:=hf _ (List.mem_of_getElem? (i:=2) O);simpa only[cel47,List.drop_succ_cons,List.drop_zero,List.take_succ_cons,List.take_zero]using q
   obtain⟨a2,h2⟩:=(y74q Try.underlying47 y13q.reads87) n _ q2;rw[y59q Try.underlying47 rfl]at h2;refine⟨({Name:=a0,Params:=a1,Body:=a2}:y23q),?_⟩;rw[val_agg Try.underlying49 rfl];exact⟨_,_,O,h1,h2⟩
theorem y57q.reads79:∀n,Reads Try.prog 79 y57q.t n
 |0=>λcs hc=>hc.elim
 |n+1=>λcs hc=>by
  obtain⟨hl,hf⟩:=y87q Try.underlying79 hc;rw[cel79]at hl
  match cs,hl with
  |[c0,c1,c2],_=>
   have q0:HasC Try.prog n 58 [c0,c1]:=by
    have q:=hf _ (List.mem_of_getElem? (i:=0) O);simpa only[cel58,List.drop_succ_cons,List.drop_zero,List.take_succ_cons,List.take_zero]using q
   obtain⟨a0,h0⟩:=y4q.reads58 n _ q0;rw[val_agg Try.underlying58 rfl]at h0;have e0:_=_:=h0;simp only[PV.agg.injEq,List.cons.injEq,and_true]at e0;obtain⟨rfl,rfl⟩:=e0;have q1:HasC Try.prog n 3 [c2]:=by
    have q:=hf _ (List.mem_of_getElem? (i:=1) O);simpa only[cel3,List.drop_succ_cons,List.drop_zero,List.take_succ_cons,List.take_zero]using q
   obtain⟨a1,h1⟩:=(y91q Try.underlying3) n _ q1;rw[y59q Try.underlying3 rfl]at h1;have h1:c2=vi a1:=h1;subst h1;refine⟨({Field:=a0,Kind:=a1}:y57q),?_⟩;rw[val_agg Try.underlying79 rfl];rfl
theorem y73q.reads53:∀n,Reads Try.prog 53 y73q.t n
 |0=>λcs hc=>hc.elim
 |n+1=>λcs hc=>by
  obtain⟨hl,hf⟩:=y87q Try.underlying53 hc;rw[cel53]at hl
  match cs,hl with
  |[c0,c1],_=>
   have q0:HasC Try.prog n 3 [c0]:=by
    have q:=hf _ (List.mem_of_getElem? (i:=0) O);simpa only[cel3,List.drop_succ_cons,List.drop_zero,List.take_succ_cons,List.take_zero]using q
   obtain⟨a0,h0⟩:=(y91q Try.underlying3) n _ q0;rw[y59q Try.underlying3 rfl]at h0;have h0:c0=vi a0:=h0;subst h0;have q1:HasC Try.prog n 51 [c1]:=by
    have q:=hf _ (List.mem_of_getElem? (i:=1) O);simpa only[cel51,List.drop_succ_cons,List.drop_zero,List.take_succ_cons,List.take_zero]using q
   obtain⟨a1,h1⟩:=(y74q Try.underlying51 (reads_u32 Try.underlying108)) n _ q1;rw[y59q Try.underlying51 rfl]at h1;refine⟨({Action:=a0,Args:=a1}:y73q),?_⟩;rw[val_agg Try.underlying53 rfl];exact⟨_,O,h1⟩
theorem y26q.reads55:∀n,Reads Try.prog 55 y26q.t n
 |0=>λcs hc=>hc.elim
 |n+1=>λcs hc=>by
  obtain⟨hl,hf⟩:=y87q Try.underlying55 hc;rw[cel55]at hl
  match cs,hl with
  |[c0,c1,c2,c3,c4,c5],_=>
   have q0:HasC Try.prog n 9 [c0]:=by
    have q:=hf _ (List.mem_of_getElem? (i:=0) O);simpa only[cel9,List.drop_succ_cons,List.drop_zero,List.take_succ_cons,List.take_zero]using q
   obtain⟨a0,h0⟩:=(reads_string Try.underlying9) n _ q0;rw[y59q Try.underlying9 rfl]at h0;have h0:c0=vs a0:=h0;subst h0;have q1:HasC Try.prog n 50 [c1]:=by
    have q:=hf _ (List.mem_of_getElem? (i:=1) O);simpa only[cel50,List.drop_succ_cons,List.drop_zero,List.take_succ_cons,List.take_zero]using q
   obtain⟨a1,h1⟩:=(y74q Try.underlying50 y57q.reads79) n _ q1;rw[y59q Try.underlying50 rfl]at h1;have q2:HasC Try.prog n 29 [c2]:=by
    have q:=hf _ (List.mem_of_getElem? (i:=2) O);simpa only[cel29,List.drop_succ_cons,List.drop_zero,List.take_succ_cons,List.take_zero]using q
   obtain⟨a2,h2⟩:=(y74q Try.underlying29 (y91q Try.underlying3)) n _ q2;rw[y59q Try.underlying29 rfl]at h2;have q3:HasC Try.prog n 53 [c3,c4]:=by
    have q:=hf _ (List.mem_of_getElem? (i:=3) O);simpa only[cel53,List.drop_succ_cons,List.drop_zero,List.take_succ_cons,List.take_zero]using q
   obtain⟨a3,h3⟩:=y73q.reads53 n _ q3;rw[val_agg Try.underlying53 rfl]at h3;obtain⟨d1_3,e3,kd1_3⟩:=h3;simp only[PV.agg.injEq,List.cons.injEq,and_true]at e3;obtain⟨rfl,rfl⟩:=e3;have q4:HasC Try.prog n 3 [c5]:=by
    have q:=hf _ (List.mem_of_getElem? (i:=4) O);simpa only[cel3,List.drop_succ_cons,List.drop_zero,List.take_succ_cons,List.take_zero]using q
   obtain⟨a4,h4⟩:=(y91q Try.underlying3) n _ q4;rw[y59q Try.underlying3 rfl]at h4;have h4:c5=vi a4:=h4;subst h4;refine⟨({Name:=a0,Keys:=a1,Actions:=a2,Default:=a3,Size:=a4}:y26q),?_⟩;rw[val_agg Try.underlying55 rfl];exact⟨_,_,_,O,h1,h2,kd1_3⟩
theorem y72q.reads192:∀n,Reads Try.prog 192 y72q.t n
 |0=>λcs hc=>hc.elim
 |n+1=>λcs hc=>by
  obtain⟨hl,hf⟩:=y87q Try.underlying192 hc;rw[cel192]at hl
  match cs,hl with
  |[c0,c1,c2],_=>
   have q0:HasC Try.prog n 108 [c0]:=by
    have q:=hf _ (List.mem_of_getElem? (i:=0) O);simpa only[cel108,List.drop_succ_cons,List.drop_zero,List.take_succ_cons,List.take_zero]using q
   obtain⟨a0,h0⟩:=(reads_u32 Try.underlying108) n _ q0;rw[y59q Try.underlying108 rfl]at h0;have h0:c0=vu32 a0:=h0;subst h0;have q1:HasC Try.prog n 108 [c1]:=by
    have q:=hf _ (List.mem_of_getElem? (i:=1) O);simpa only[cel108,List.drop_succ_cons,List.drop_zero,List.take_succ_cons,List.take_zero]using q
   obtain⟨a1,h1⟩:=(reads_u32 Try.underlying108) n _ q1;rw[y59q Try.underlying108 rfl]at h1;have h1:c1=vu32 a1:=h1;subst h1;have q2:HasC Try.prog n 3 [c2]:=by
    have q:=hf _ (List.mem_of_getElem? (i:=2) O);simpa only[cel3,List.drop_succ_cons,List.drop_zero,List.take_succ_cons,List.take_zero]using q
   obtain⟨a2,h2⟩:=(y91q Try.underlying3) n _ q2;rw[y59q Try.underlying3 rfl]at h2;have h2:c2=vi a2:=h2;subst h2;refine⟨({Value:=a0,Mask:=a1,Next:=a2}:y72q),?_⟩;rw[val_agg Try.underlying192 rfl];rfl
theorem y16q.reads61:∀n,Reads Try.prog 61 y16q.t n
 |0=>λcs hc=>hc.elim
 |n+1=>λcs hc=>by
  obtain⟨hl,hf⟩:=y87q Try.underlying61 hc;rw[cel61]at hl
  match cs,hl with
  |[c0,c1,c2,c3,c4,c5,c6],_=>
   have q0:HasC Try.prog n 9 [c0]:=by
    have q:=hf _ (List.mem_of_getElem? (i:=0) O);simpa only[cel9,List.drop_succ_cons,List.drop_zero,List.take_succ_cons,List.take_zero]using q
   obtain⟨a0,h0⟩:=(reads_string Try.underlying9) n _ q0;rw[y59q Try.underlying9 rfl]at h0;have h0:c0=vs a0:=h0;subst h0;have q1:HasC Try.prog n 29 [c1]:=by
    have q:=hf _ (List.mem_of_getElem? (i:=1) O);simpa only[cel29,List.drop_succ_cons,List.drop_zero,List.take_succ_cons,List.take_zero]using q
   obtain⟨a1,h1⟩:=(y74q Try.underlying29 (y91q Try.underlying3)) n _ q1;rw[y59q Try.underlying29 rfl]at h1;have q2:HasC Try.prog n 4 [c2]:=by
    have q:=hf _ (List.mem_of_getElem? (i:=2) O);simpa only[cel4,List.drop_succ_cons,List.drop_zero,List.take_succ_cons,List.take_zero]using q
   obtain⟨a2,h2⟩:=(reads_bool Try.underlying4) n _ q2;rw[y59q Try.underlying4 rfl]at h2;have h2:c2=vb a2:=h2;subst h2;have q3:HasC Try.prog n 58 [c3,c4]:=by
    have q:=hf _ (List.mem_of_getElem? (i:=3) O);simpa only[cel58,List.drop_succ_cons,List.drop_zero,List.take_succ_cons,List.take_zero]using q
   obtain⟨a3,h3⟩:=y4q.reads58 n _ q3;rw[val_agg Try.underlying58 rfl]at h3;have e3:_=_:=h3;simp only[PV.agg.injEq,List.cons.injEq,and_true]at e3;obtain⟨rfl,rfl⟩:=e3;have q4:HasC Try.prog n 59 [c5]:=by
    have q:=hf _ (List.mem_of_getElem? (i:=4) O);simpa only[cel59,List.drop_succ_cons,List.drop_zero,List.take_succ_cons,List.take_zero]using q
   obtain⟨a4,h4⟩:=(y74q Try.underlying59 y72q.reads192) n _ q4;rw[y59q Try.underlying59 rfl]at h4;have q5:HasC Try.prog n 3 [c6]:=by
    have q:=hf _ (List.mem_of_getElem? (i:=5) O);simpa only[cel3,List.drop_succ_cons,List.drop_zero,List.take_succ_cons,List.take_zero]using q
   obtain⟨a5,h5⟩:=(y91q Try.underlying3) n _ q5;rw[y59q Try.underlying3 rfl]at h5;have h5:c6=vi a5:=h5;subst h5;refine⟨({Name:=a0,Extract:=a1,Select:=a2,On:=a3,Cases:=a4,Default:=a5}:y16q),?_⟩;rw[val_agg Try.underlying61 rfl];exact⟨_,_,O,h1,h4⟩
theorem y8q.reads83:∀n,Reads Try.prog 83 y8q.t n
 |0=>λcs hc=>hc.elim
 |n+1=>λcs hc=>by
  obtain⟨hl,hf⟩:=y87q Try.underlying83 hc;rw[cel83]at hl
  match cs,hl with
  |[c0,c1,c2,c3,c4],_=>
   have q0:HasC Try.prog n 3 [c0]:=by
    have q:=hf _ (List.mem_of_getElem? (i:=0) O);simpa only[cel3,List.drop_succ_cons,List.drop_zero,List.take_succ_cons,List.take_zero]using q
   obtain⟨a0,h0⟩:=(y91q Try.underlying3) n _ q0;rw[y59q Try.underlying3 rfl]at h0;have h0:c0=vi a0:=h0;subst h0;have q1:HasC Try.prog n 3 [c1]:=by
    have q:=hf _ (List.mem_of_getElem? (i:=1) O);simpa only[cel3,List.drop_succ_cons,List.drop_zero,List.take_succ_cons,List.take_zero]using q
   obtain⟨a1,h1⟩:=(y91q Try.underlying3) n _ q1;rw[y59q Try.underlying3 rfl]at h1;have h1:c1=vi a1:=h1;subst h1;have q2:HasC Try.prog n 32 [c2]:=by
    have q:=hf _ (List.mem_of_getElem? (i:=2) O);simpa only[cel32,List.drop_succ_cons,List.drop_zero,List.take_succ_cons,List.take_zero]using q
   obtain⟨a2,h2⟩:=(y74q Try.underlying32 y11q.reads64) n _ q2;rw[y59q Try.underlying32 rfl]at h2;have q3:HasC Try.prog n 28 [c3]:=by
    have q:=hf _ (List.mem_of_getElem? (i:=3) O);simpa only[cel28,List.drop_succ_cons,List.drop_zero,List.take_succ_cons,List.take_zero]using q
   obtain⟨a3,h3⟩:∃a,(tSl y8q.t).R a (valC Try.prog 28 [c3]):=by
    cases n with
    |zero=>exact q3.elim
    |succ n=>exact reads_slice Try.underlying28 (y8q.reads83 n) _ q3
   rw[y59q Try.underlying28 rfl]at h3;have q4:HasC Try.prog n 28 [c4]:=by
    have q:=hf _ (List.mem_of_getElem? (i:=4) O);simpa only[cel28,List.drop_succ_cons,List.drop_zero,List.take_succ_cons,List.take_zero]using q
   obtain⟨a4,h4⟩:∃a,(tSl y8q.t).R a (valC Try.prog 28 [c4]):=by
    cases n with
    |zero=>exact q4.elim
    |succ n=>exact reads_slice Try.underlying28 (y8q.reads83 n) _ q4
   rw[y59q Try.underlying28 rfl]at h4;refine⟨({Kind:=a0,Table:=a1,Cond:=a2,Then:=a3,Else:=a4}:y8q),?_⟩;rw[val_agg Try.underlying83 rfl];show y8q.R _ _
   simp only[y8q.R];exact⟨_,_,_,O,h2,⟨⟨h3.1.choose,h3.1.choose_spec.1,by rw[y8q.Rl_eq];exact h3.1.choose_spec.2⟩,h3.2⟩,⟨⟨h4.1.choose,h4.1.choose_spec.1,by rw[y8q.Rl_eq];exact h4.1.choose_spec.2⟩,h4.2⟩⟩
theorem y5q.reads31:∀n,Reads Try.prog 31 y5q.t n
 |0=>λcs hc=>hc.elim
 |n+1=>λcs hc=>by
  obtain⟨hl,hf⟩:=y87q Try.underlying31 hc;rw[cel31]at hl
  match cs,hl with
  |[c0,c1,c2,c3,c4,c5,c6,c7,c8],_=>
   have q0:HasC Try.prog n 9 [c0]:=by
    have q:=hf _ (List.mem_of_getElem? (i:=0) O);simpa only[cel9,List.drop_succ_cons,List.drop_zero,List.take_succ_cons,List.take_zero]using q
   obtain⟨a0,h0⟩:=(reads_string Try.underlying9) n _ q0;rw[y59q Try.underlying9 rfl]at h0;have h0:c0=vs a0:=h0;subst h0;have q1:HasC Try.prog n 22 [c1]:=by
    have q:=hf _ (List.mem_of_getElem? (i:=1) O);simpa only[cel22,List.drop_succ_cons,List.drop_zero,List.take_succ_cons,List.take_zero]using q
   obtain⟨a1,h1⟩:=(y74q Try.underlying22 y21q.reads45) n _ q1;rw[y59q Try.underlying22 rfl]at h1;have q2:HasC Try.prog n 23 [c2]:=by
    have q:=hf _ (List.mem_of_getElem? (i:=2) O);simpa only[cel23,List.drop_succ_cons,List.drop_zero,List.take_succ_cons,List.take_zero]using q
   obtain⟨a2,h2⟩:=(y74q Try.underlying23 y14q.reads85) n _ q2;rw[y59q Try.underlying23 rfl]at h2;have q3:HasC Try.prog n 24 [c3]:=by
    have q:=hf _ (List.mem_of_getElem? (i:=3) O);simpa only[cel24,List.drop_succ_cons,List.drop_zero,List.take_succ_cons,List.take_zero]using q
   obtain⟨a3,h3⟩:=(y74q Try.underlying24 y27q.reads89) n _ q3;rw[y59q Try.underlying24 rfl]at h3;have q4:HasC Try.prog n 25 [c4]:=by
    have q:=hf _ (List.mem_of_getElem? (i:=4) O);simpa only[cel25,List.drop_succ_cons,List.drop_zero,List.take_succ_cons,List.take_zero]using q
   obtain⟨a4,h4⟩:=(y74q Try.underlying25 y23q.reads49) n _ q4;rw[y59q Try.underlying25 rfl]at h4;have q5:HasC Try.prog n 26 [c5]:=by
    have q:=hf _ (List.mem_of_getElem? (i:=5) O);simpa only[cel26,List.drop_succ_cons,List.drop_zero,List.take_succ_cons,List.take_zero]using q
   obtain⟨a5,h5⟩:=(y74q Try.underlying26 y26q.reads55) n _ q5;rw[y59q Try.underlying26 rfl]at h5;have q6:HasC Try.prog n 27 [c6]:=by
    have q:=hf _ (List.mem_of_getElem? (i:=6) O);simpa only[cel27,List.drop_succ_cons,List.drop_zero,List.take_succ_cons,List.take_zero]using q
   obtain⟨a6,h6⟩:=(y74q Try.underlying27 y16q.reads61) n _ q6;rw[y59q Try.underlying27 rfl]at h6;have q7:HasC Try.prog n 28 [c7]:=by
    have q:=hf _ (List.mem_of_getElem? (i:=7) O);simpa only[cel28,List.drop_succ_cons,List.drop_zero,List.take_succ_cons,List.take_zero]using q
   obtain⟨a7,h7⟩:=(y74q Try.underlying28 y8q.reads83) n _ q7;rw[y59q Try.underlying28 rfl]at h7;have q8:HasC Try.prog n 29 [c8]:=by
    have q:=hf _ (List.mem_of_getElem? (i:=8) O);simpa only[cel29,List.drop_succ_cons,List.drop_zero,List.take_succ_cons,List.take_zero]using q
   obtain⟨a8,h8⟩:=(y74q Try.underlying29 (y91q Try.underlying3)) n _ q8;rw[y59q Try.underlying29 rfl]at h8;refine⟨({Name:=a0,Headers:=a1,Metadata:=a2,Registers:=a3,Actions:=a4,Tables:=a5,States:=a6,Control:=a7,Deparser:=a8}:y5q),?_⟩;rw[val_agg Try.underlying31 rfl];exact⟨_,_,_,_,_,_,_,_,O,h1,h2,h3,h4,h5,h6,h7,h8⟩
theorem arg31{c:PV}(h:IsArg Try.prog 31 c):∃a,y5q.t.R a c:=isArg_reads y5q.reads31 h
theorem api_Guard.reads190:∀n,Reads Try.prog 190 api_Guard.t n
 |0=>λcs hc=>hc.elim
 |n+1=>λcs hc=>by
  obtain⟨hl,hf⟩:=y87q Try.underlying190 hc;rw[cel190]at hl
  match cs,hl with
  |[c0,c1],_=>
   have q0:HasC Try.prog n 3 [c0]:=by
    have q:=hf _ (List.mem_of_getElem? (i:=0) O);simpa only[cel3,List.drop_succ_cons,List.drop_zero,List.take_succ_cons,List.take_zero]using q
   obtain⟨a0,h0⟩:=(y91q Try.underlying3) n _ q0;rw[y59q Try.underlying3 rfl]at h0;have h0:c0=vi a0:=h0;subst h0;have q1:HasC Try.prog n 4 [c1]:=by
    have q:=hf _ (List.mem_of_getElem? (i:=1) O);simpa only[cel4,List.drop_succ_cons,List.drop_zero,List.take_succ_cons,List.take_zero]using q
   obtain⟨a1,h1⟩:=(reads_bool Try.underlying4) n _ q1;rw[y59q Try.underlying4 rfl]at h1;have h1:c1=vb a1:=h1;subst h1;refine⟨({Unit:=a0,Want:=a1}:api_Guard),?_⟩;rw[val_agg Try.underlying190 rfl];rfl
theorem y49q.reads35:∀n,Reads Try.prog 35 y49q.t n
 |0=>λcs hc=>hc.elim
 |n+1=>λcs hc=>by
  obtain⟨hl,hf⟩:=y87q Try.underlying35 hc;rw[cel35]at hl
  match cs,hl with
  |[c0,c1,c2],_=>
   have q0:HasC Try.prog n 3 [c0]:=by
    have q:=hf _ (List.mem_of_getElem? (i:=0) O);simpa only[cel3,List.drop_succ_cons,List.drop_zero,List.take_succ_cons,List.take_zero]using q
   obtain⟨a0,h0⟩:=(y91q Try.underlying3) n _ q0;rw[y59q Try.underlying3 rfl]at h0;have h0:c0=vi a0:=h0;subst h0;have q1:HasC Try.prog n 32 [c1]:=by
    have q:=hf _ (List.mem_of_getElem? (i:=1) O);simpa only[cel32,List.drop_succ_cons,List.drop_zero,List.take_succ_cons,List.take_zero]using q
   obtain⟨a1,h1⟩:=(y74q Try.underlying32 y11q.reads64) n _ q1;rw[y59q Try.underlying32 rfl]at h1;have q2:HasC Try.prog n 33 [c2]:=by
    have q:=hf _ (List.mem_of_getElem? (i:=2) O);simpa only[cel33,List.drop_succ_cons,List.drop_zero,List.take_succ_cons,List.take_zero]using q
   obtain⟨a2,h2⟩:=(y74q Try.underlying33 api_Guard.reads190) n _ q2;rw[y59q Try.underlying33 rfl]at h2;refine⟨({Table:=a0,Cond:=a1,Guards:=a2}:y49q),?_⟩;rw[val_agg Try.underlying35 rfl];exact⟨_,_,O,h1,h2⟩
theorem arg35{c:PV}(h:IsArg Try.prog 35 c):∃a,y49q.t.R a c:=isArg_reads y49q.reads35 h
end Go.Proofs.Ytmonnlkagniolaa
