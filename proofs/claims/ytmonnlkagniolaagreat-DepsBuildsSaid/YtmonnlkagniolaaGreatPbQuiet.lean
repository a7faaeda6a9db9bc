import Derived.Test.YtmonnlkagniolaaGreatPbOps
set_option linter.all false
namespace Go.Pb
open Go Go.RowKit
section
variable{P:Program}{x:Cx}{w0:World}{F0:Nat->Prop}{h:Heap}{n:Nat}{T:Nat->PV}{a:Act}
def Good(P:Program)(a:Act)(x:Cx)(o:Oper)(r:PV):Prop:=∃v y,(execOp a.eval o).run P x.w= .ok (.value v) y.w/\Grow x y/\VR P y r v
theorem Good.same{o:Oper}{r:PV}{v:Value}(hv:(execOp a.eval o).run P x.w= .ok (.value v) x.w)(hr:VR P x r v):Good P a x o r:=⟨v,x,hv,Grow.refl x,hr⟩
theorem Good.const{o:Oper}{v:Value}(hv:(execOp a.eval o).run P x.w= .ok (.value v) x.w):Good P a x o (.ofConst v):=⟨v,x,hv,Grow.refl x,VR_ofConst P x v⟩
theorem qs{v u:Value}(hv:VR P x (.sc v) u):u=v:=by
 have h1:VRC P x (.sc v) [u]:=hv;simp only[VRC,List.cons.injEq,and_true]at h1;exact h1.1
theorem ar2{o:Oper}(y:Operand)(hT:Temps P x n T a)(ho:o.op= .move y\/o.op= .assign y):Good P a x o (ev T y):=by
 refine Good.same (v:=a.eval y) ?_ (hT.ev y);rcases ho with ho|ho<;>simp[execOp,ho]
theorem bp3{o:Oper}{c y z:Operand}{r:PV}(hT:Temps P x n T a)(ho:o.op= .pick c y z)(hq:opQ P T h (.pick c y z)=some r):Good P a x o r:=by
 simp only[opQ]at hq;split at hq
 ·rename_i b hb;simp only[Option.some.injEq]at hq;subst hq;have hc:=hT.ev c;rw[hb]at hc;have hc:=qs hc;refine Good.same (v:=if b then a.eval y else a.eval z) ?_ ?_
  ·simp[execOp,ho,hc,asBool]
  ·cases b
   ·simpa using hT.ev z
   ·simpa using hT.ev y
 ·cases hq
def nilVal:TypeDesc->Value->Value->Bool
 | .slice _,.slice none _ _,.slice (some _) _ _| .slice _,.slice (some _) _ _,.slice none _ _=>true
 | .pointer _,.pointer none,.pointer (some _)| .pointer _,.pointer (some _),.pointer none=>true
 | .func _ _ _,.nilFunc,.func _ _ _| .func _ _ _,.func _ _ _,.nilFunc=>true
 | .interface _,.nilIface,.iface _ _| .interface _,.iface _ _,.nilIface=>true
 | .map _ _,.map none,.map (some _)| .map _ _,.map (some _),.map none=>true
 |_,_,_=>false
theorem ao7{d:TypeDesc}{y z:PV}{p q:Value}(hy:VR P x y p)(hz:VR P x z q)(hn:nilVs d y z=true):nilVal d p q=true:=by
 unfold nilVs at hn;split at hn;all_goals first
  |cases hn;done
  |skip
 all_goals
  simp only[VR,AsVal,PV.isAgg,VRC,List.cons.injEq,and_true]at hy hz;try obtain⟨rfl,_⟩:=hy
  try obtain⟨rfl,_⟩:=hz
  try obtain⟨b,o,cap,sz,rfl,_⟩:=hy
  try obtain⟨b,o,cap,sz,rfl,_⟩:=hz
  try obtain⟨b,o,xs,rfl,_⟩:=hy
  try obtain⟨b,o,xs,rfl,_⟩:=hz
  try obtain⟨b,cap,_,rfl,_⟩:=hy
  try obtain⟨b,cap,_,rfl,_⟩:=hz
  try obtain⟨b,_,rfl⟩:=hy
  try obtain⟨b,_,rfl⟩:=hz
  try obtain⟨b,_,rfl,_⟩:=hy
  try obtain⟨b,_,rfl,_⟩:=hz
  try obtain⟨b,rfl,_⟩:=hy
  try obtain⟨b,rfl,_⟩:=hz
  rfl
theorem ar3{d:TypeDesc}{t:TypeId}{p q:Value}(hd:P.underlying t=some d)(hn:nilVal d p q=true)(k:Nat)(w:World):(Op.equalIn (k+1) t p q).run P w= .ok false w:=by
 unfold nilVal at hn;split at hn;all_goals first
  |cases hn;done
  |simp[Op.equalIn,run_underlying hd]
theorem bc4{d:TypeDesc}{t:TypeId}{p q:Value}(hn:nilVal d p q=true)(op:BinOp)(ox oy:Operand)(w:World):
 (eqGuard op t ox oy p q).run P w= .ok () w/\binOp .eql t p q=(do pure (.bool (<-Op.equal t p q)))/\binOp .neq t p q=(do pure (.bool (!(<-Op.equal t p q)))):=by
 unfold nilVal at hn;split at hn;all_goals first
  |cases hn;done
  |refine⟨?_,O,O⟩
 all_goals(unfold eqGuard;simp only[Sem.run_bind,Sem.run_ite];cases op<;>simp)
theorem by2{op:BinOp}{t:TypeId}{ox oy:Operand}{p q:Value}{y z r:PV}(hy:VR P x y p)(hz:VR P x z q)(hq:binF P op t ox oy y z=some r):
 ∃v,(do eqGuard op t ox oy p q;binOp op t p q:Sem Value).run P x.w= .ok v x.w/\VR P x r v:=by
 unfold binF at hq;split at hq
 ·rename_i u v hu hv;have e1:=ua hy hu;have e2:=ua hz hv;subst e1 e2;simp only[Option.map_eq_some_iff]at hq;obtain⟨w,hw,rfl⟩:=hq;exact⟨w,qx hw x.w,VR_ofConst P x w⟩
 ·split at hq
  ·rename_i d hd;split at hq
   ·rename_i hn;simp only[Option.some.injEq]at hq;subst hq;have hv:=ao7 hy hz hn;obtain⟨k2,k3,_⟩:=bc4 (P:=P) (t:=t) hv .eql ox oy x.w;have k1:(Op.equal t p q).run P x.w= .ok false x.w:=ar3 hd hv 9999 x.w;exact⟨.bool false,by simp only[Sem.run_bind,k2,Result.andThen_ok,k3,k1];rfl,VR_ofConst P x (.bool false)⟩
   ·cases hq
  ·rename_i d hd;split at hq
   ·rename_i hn;simp only[Option.some.injEq]at hq;subst hq;have hv:=ao7 hy hz hn;obtain⟨k2,_,k3⟩:=bc4 (P:=P) (t:=t) hv .neq ox oy x.w;have k1:(Op.equal t p q).run P x.w= .ok false x.w:=ar3 hd hv 9999 x.w;exact⟨.bool true,by simp only[Sem.run_bind,k2,Result.andThen_ok,k3,k1];rfl,VR_ofConst P x (.bool true)⟩
   ·cases hq
  ·cases hq
theorem bx7{o:Oper}{op:BinOp}{t t':TypeId}{y z:Operand}{r:PV}(hT:Temps P x n T a)(ho:o.op= .binOp op t y z t')(hq:opQ P T h (.bin op t y z)=some r):Good P a x o r:=by
 simp only[opQ]at hq;obtain⟨v,hv,hr⟩:=by2 (hT.ev y) (hT.ev z) hq;refine Good.same (v:=v) ?_ hr;have:(execOp a.eval o)=(do let u<-(do eqGuard op t y z (a.eval y) (a.eval z);binOp op t (a.eval y) (a.eval z));pure (.value u)):=by simp only[execOp,ho]
 rw[this,Sem.run_bind,hv];rfl
theorem ch1{o:Oper}{op:UnOp}{t:TypeId}{y:Operand}{r:PV}(hT:Temps P x n T a)(ho:o.op= .unOp op t y)(hq:opQ P T h (.un op y)=some r):Good P a x o r:=by
 simp only[opQ]at hq;split at hq
 ·rename_i u hu;have e:=ua (hT.ev y) hu;simp only[Option.map_eq_some_iff]at hq;obtain⟨w,hw,rfl⟩:=hq;refine Good.const ?_;simp only[execOp,ho,Sem.run_bind,e,qx hw x.w,Result.andThen_ok,Sem.run_pure]
 ·cases hq
theorem bn5{o:Oper}{s d:TypeId}{y:Operand}{r:PV}(hT:Temps P x n T a)(ho:o.op= .convert s d y)(hq:opQ P T h (.conv s d y)=some r):Good P a x o r:=by
 simp only[opQ]at hq;split at hq
 ·rename_i u hu;have e:=ua (hT.ev y) hu;simp only[Option.map_eq_some_iff]at hq;obtain⟨w,hw,rfl⟩:=hq;refine Good.const ?_;simp only[execOp,ho,Sem.run_bind,e,qx hw x.w,Result.andThen_ok,Sem.run_pure]
 ·cases hq
theorem bb8{o:Oper}{t:TypeId}{y z:Operand}{r:PV}(hT:Temps P x n T a)(ho:o.op= .index t y z)(hq:opQ P T h (.indexS t y z)=some r):Good P a x o r:=by
 simp only[opQ]at hq;split at hq
 ·rename_i u u' hu hu';have e:=ua (hT.ev y) hu;have e':=ua (hT.ev z) hu';simp only[Option.map_eq_some_iff]at hq;obtain⟨w,hw,rfl⟩:=hq;refine Good.const ?_;simp only[execOp,ho,Sem.run_bind,e,e',qx hw x.w,Result.andThen_ok,Sem.run_pure]
 ·cases hq
theorem lz(R:RelP P w0 F0 h x){id ver b:Nat}{ty:TypeId}{mt:Bool}{cs:List PV}(hb:h.bl[id]?=some (.cells ver ty mt cs))(hj:x.J id ver=some b):
 ∃cur,x.w.heap[b]?=some (.cells cur ty (0,0))/\cs.length<=cur.size/\VRL P x cs (cur.toList.take cs.length):=((R.hr id _ hb) b hj).1
theorem VRL_seg{cs:List PV}{cur:Array Value}(hl:cs.length<=cur.size)(hv:VRL P x cs (cur.toList.take cs.length))(off sz:Nat)(hs:off+sz<=cs.length):
 VRL P x ((cs.drop off).take sz) ((cur.toList.drop off).take sz):=by
 have h1:=VRL_take sz (VRL_drop off hv);have e:((cur.toList.take cs.length).drop off).take sz=(cur.toList.drop off).take sz:=by
  rw[List.drop_take,List.take_take,Nat.min_eq_left V]
 rwa [e]at h1
theorem ap8{o:Oper}{own:List Tmp}{t:TypeId}{y:Operand}{ao:AOp}{r:PV}(R:RelP P w0 F0 h x)(hT:Temps P x n T a)(ho:o.op= .load t y)
 (hc:compOp P own o.dst o.type (.load t y)=some ao)(hq:opQ P T h ao=some r):Good P a x o r:=by
 simp only[compOp,Option.bind_eq_bind,Option.bind_eq_some_iff]at hc;obtain⟨i,hi,d,hd,hc⟩:=hc;split at hc
 ·cases hc
 rename_i hne;simp only[Option.pure_def,Option.some.injEq]at hc;subst hc;have h1:aggD d=false->i.size=1:=λe=>by
  by_cases e1:i.size=1
  ·exact e1
  ·exact absurd ⟨e,e1⟩ hne
 simp only[opQ]at hq;have hy:=hT.ev y;split at hq
 ·rename_i v hv;split at hq
  ·rename_i hcv;simp only[Option.some.injEq]at hq;subst hq;rw[hv]at hy;simp only[VR,AsVal,PV.isAgg,VRC,List.cons.injEq,and_true]at hy;obtain⟨b,off,xs,e,hF,hcs,hr⟩:=hy;refine Good.same (v:=mkVal (aggD d) xs) ?_ (VR_of_VRC hr ⟨_,hcv.1⟩ hcv.2);simp only[execOp,ho,Instr.loadAt,e,Instr.sureAddr,Sem.run_bind,Sem.run_pure,Result.andThen_ok,ti hd hi hcs (qm hr hcv.1) h1]
  ·cases hq
 ·rename_i id ver off hv;rw[hv]at hy;simp only[VR,AsVal,PV.isAgg,VRC,List.cons.injEq,and_true]at hy;obtain⟨b,hj,e⟩:=hy;split at hq
  ·rename_i ver' ty mt cs hb;split at hq
   ·rename_i hver;subst hver;obtain⟨cur,hcur,hl,hvr⟩:=lz R hb hj;unfold fieldOf at hq;split at hq
    ·rename_i hsz;obtain⟨hr,ha⟩:=VR_mkV (VRL_seg hl hvr off i.size hsz) hq;refine Good.same (v:=mkVal (aggD d) ((cur.toList.drop off).take i.size)) ?_ hr;have hxl:((cur.toList.drop off).take i.size).length=i.size:=by simp;omega
     simp only[execOp,ho,Instr.loadAt,e,Instr.sureAddr,Sem.run_bind,Sem.run_pure,Result.andThen_ok,ti hd hi (lr hcur off i.size) hxl h1]
    ·cases hq
   ·cases hq
  ·cases hq
 ·cases hq
theorem vo{t:TypeId}{f:Field}{i:TypeInfo}(hi:P.info? f.type=some i)(h0:i.size≠0)(w:World)(b o:Nat):(fieldPlace ⟨b,o,none⟩ f).run P w= .ok ⟨b,o+f.offset,none⟩ w:=by
 simp[fieldPlace,sizeOf,typeInfo,hi,h0,Addr.add_lit]
theorem VR_fp_field{cs:List PV}{off sz:Nat}{agg:Bool}{b o:Nat}{xs:List Value}{r:PV}(hF:x.F b)(hcs:cellsAt x.w b o xs)(hv:VRL P x cs xs)(hq:(fieldOf off sz agg cs).map PV.fp=some r):
 VR P x r (.pointer (some ⟨b,o+off,none⟩)):=by
 simp only[Option.map_eq_some_iff]at hq;obtain⟨v,hf,rfl⟩:=hq;unfold fieldOf at hf;split at hf
 ·rename_i hsz;have hseg:=VRL_take sz (VRL_drop off hv);refine⟨b,o+off,(xs.drop off).take sz,O,hF,at5 hcs off sz,?_⟩;cases agg with
  |true=>
   simp only[mkV,Option.some.injEq]at hf;subst hf;simpa[VRC]using hseg
  |false=>
   generalize (cs.drop off).take sz=ds at*;generalize (xs.drop off).take sz=us at*
   match ds,us,hseg with
   |[c],[u],hseg=>
    simp only[mkV]at hf;split at hf
    ·cases hf
    ·simp only[Option.some.injEq]at hf;subst hf;simp only[VRL]at hseg;exact hseg.2.1
   |[],_,_=>simp[mkV]at hf
   |_::_::_,_,_=>simp[mkV]at hf
   |[_],[],hseg=>simp[VRL]at hseg
   |[_],_::_::_,hseg=>simp[VRL]at hseg
 ·cases hf
theorem bf0{o:Oper}{own:List Tmp}{s:TypeId}{y:Operand}{k:Nat}{ao:AOp}{r:PV}(hT:Temps P x n T a)(ho:o.op= .fieldAddr s y k)
 (hc:compOp P own o.dst o.type (.fieldAddr s y k)=some ao)(hq:opQ P T h ao=some r):Good P a x o r:=by
 simp only[compOp]at hc;split at hc
 ·rename_i fs hs;simp only[Option.bind_eq_bind,Option.bind_eq_some_iff]at hc;obtain⟨f,hf,i,hi,d,hd,hc⟩:=hc;split at hc
  ·cases hc
  rename_i h0;simp only[Option.pure_def,Option.some.injEq]at hc;subst hc;simp only[opQ]at hq;have hy:=hT.ev y;split at hq
  ·rename_i cs hv;rw[hv]at hy;simp only[VR,AsVal,PV.isAgg,VRC,List.cons.injEq,and_true]at hy;obtain⟨b,off,xs,e,hF,hcs,hr⟩:=hy;refine Good.same (v:= .pointer (some ⟨b,off+f.offset,none⟩)) ?_ (VR_fp_field hF hcs hr hq);simp only[execOp,ho,Instr.fieldAt,Sem.run_bind,run_underlying hs,Result.andThen_ok,hf,e,Instr.sureAddr,Sem.run_pure,vo (t:=s) hi h0]
  ·rename_i id ver off hv;rw[hv]at hy;simp only[VR,AsVal,PV.isAgg,VRC,List.cons.injEq,and_true]at hy;obtain⟨b,hj,e⟩:=hy;simp only[Option.some.injEq]at hq;subst hq;refine Good.same (v:= .pointer (some ⟨b,off+f.offset,none⟩)) ?_ ⟨b,hj,O⟩;simp only[execOp,ho,Instr.fieldAt,Sem.run_bind,run_underlying hs,Result.andThen_ok,hf,e,Instr.sureAddr,Sem.run_pure,vo (t:=s) hi h0]
  ·cases hq
 ·cases hc
theorem bd9{o:Oper}{own:List Tmp}{s:TypeId}{y:Operand}{k:Nat}{ao:AOp}{r:PV}(hT:Temps P x n T a)(ho:o.op= .field s y k)
 (hc:compOp P own o.dst o.type (.field s y k)=some ao)(hq:opQ P T h ao=some r):Good P a x o r:=by
 simp only[compOp]at hc;split at hc
 ·rename_i fs hs;simp only[Option.bind_eq_bind,Option.bind_eq_some_iff]at hc;obtain⟨f,hf,i,hi,d,hd,hc⟩:=hc;split at hc
  ·cases hc
  rename_i hne;simp only[Option.pure_def,Option.some.injEq]at hc;subst hc;have h1:aggD d=false->i.size=1:=λe=>by
   by_cases e1:i.size=1
   ·exact e1
   ·exact absurd ⟨e,e1⟩ hne
  simp only[opQ]at hq;have hy:=hT.ev y;split at hq
  ·rename_i cs hv;rw[hv]at hy;obtain⟨us,e,hr⟩:=hy;simp only[VRC]at hr;unfold fieldOf at hq;split at hq
   ·rename_i hsz;have hul:=VRL_length hr;refine Good.same (v:=mkVal (aggD d) ((us.drop f.offset).take i.size)) ?_ (VR_mkV (VRL_take i.size (VRL_drop f.offset hr)) hq).1;simp only[execOp,ho,Instr.field,Sem.run_bind,run_underlying hs,Result.andThen_ok,hf,e,asAgg,Sem.run_pure,ba7 hd hi x.w us f.offset V h1]
   ·cases hq
  ·cases hq
 ·cases hc
theorem bd8{o:Oper}{own:List Tmp}{t:TypeId}{y z:Operand}{ao:AOp}{r:PV}(hT:Temps P x n T a)(ho:o.op= .indexAddr t y z)
 (hc:compOp P own o.dst o.type (.indexAddr t y z)=some ao)(hq:opQ P T h ao=some r):Good P a x o r:=by
 simp only[compOp]at hc;have hy:=hT.ev y;have hz:=hT.ev z;split at hc
 ·rename_i e ht;simp only[Option.bind_eq_bind,Option.bind_eq_some_iff]at hc;obtain⟨i,hi,hc⟩:=hc;simp only[Option.pure_def,Option.some.injEq]at hc;subst hc;simp only[opQ]at hq;split at hq
  ·rename_i tg es kk k hv hk;rw[hv]at hy;rw[hk]at hz;have hz:=qs hz;simp only[VR,AsVal,PV.isAgg,VRC,List.cons.injEq,and_true]at hy;obtain⟨b,off,cap,sz,ey,h1,h2,h3,hr⟩:=hy;split at hq
   ·rename_i hb;split at hq
    ·rename_i el hel;split at hq
     ·rename_i hcn;simp only[Option.some.injEq]at hq;subst hq;obtain⟨hF,xs,hxl,hcs,hvr⟩:=VRM_get _ hr hel;have hsz:sz=i.size:=by rw[<-hxl];exact qm hvr hcn
      subst hsz;refine Good.same (v:= .pointer (some ⟨b,off+k.toNat*i.size,none⟩)) ?_ ⟨b,_,xs,O,hF,hcs,hvr⟩;simp only[execOp,ho,Instr.indexAt,Sem.run_bind,ey,hz,asIntOf,Sem.run_pure,Result.andThen_ok,run_underlying ht,hb,and_self,if_true,sizeOf,typeInfo,run_program,hi,Addr.add_lit]
     ·cases hq
    ·cases hq
   ·cases hq
  ·rename_i id ver off m kk k hv hk;rw[hv]at hy;rw[hk]at hz;have hz:=qs hz;simp only[VR,AsVal,PV.isAgg,VRC,List.cons.injEq,and_true]at hy;obtain⟨b,cap,hj,ey,h1,h2,h3⟩:=hy;split at hq
   ·rename_i hb;simp only[Option.some.injEq]at hq;subst hq;refine Good.same (v:= .pointer (some ⟨b,off+k.toNat*i.size,none⟩)) ?_ ⟨b,hj,O⟩;simp only[execOp,ho,Instr.indexAt,Sem.run_bind,ey,hz,asIntOf,Sem.run_pure,Result.andThen_ok,run_underlying ht,hb,and_self,if_true,sizeOf,typeInfo,run_program,hi,Addr.add_lit]
   ·cases hq
  ·cases hq
 ·rename_i len e ht;simp only[Option.bind_eq_bind,Option.bind_eq_some_iff]at hc;obtain⟨i,hi,d,hd,hc⟩:=hc;simp only[Option.pure_def,Option.some.injEq]at hc;subst hc;simp only[opQ]at hq;split at hq
  ·rename_i cs kk k hv hk;rw[hv]at hy;rw[hk]at hz;have hz:=qs hz;simp only[VR,AsVal,PV.isAgg,VRC,List.cons.injEq,and_true]at hy;obtain⟨b,off,xs,ey,hF,hcs,hr⟩:=hy;split at hq
   ·rename_i hb;refine Good.same (v:= .pointer (some ⟨b,off+k.toNat*i.size,none⟩)) ?_ (VR_fp_field hF hcs hr hq);simp only[execOp,ho,Instr.indexAt,Sem.run_bind,ey,hz,asIntOf,Instr.sureAddr,Sem.run_pure,Result.andThen_ok,run_underlying ht,hb,and_self,if_true,sizeOf,typeInfo,run_program,hi,Addr.add_lit]
   ·cases hq
  ·rename_i id ver off kk k hv hk;rw[hv]at hy;rw[hk]at hz;have hz:=qs hz;simp only[VR,AsVal,PV.isAgg,VRC,List.cons.injEq,and_true]at hy;obtain⟨b,hj,ey⟩:=hy;split at hq
   ·rename_i hb;simp only[Option.some.injEq]at hq;subst hq;refine Good.same (v:= .pointer (some ⟨b,off+k.toNat*i.size,none⟩)) ?_ ⟨b,hj,O⟩;simp only[execOp,ho,Instr.indexAt,Sem.run_bind,ey,hz,asIntOf,Instr.sureAddr,Sem.run_pure,Result.andThen_ok,run_underlying ht,hb,and_self,if_true,sizeOf,typeInfo,run_program,hi,Addr.add_lit]
   ·cases hq
  ·cases hq
 ·cases hc
end
end Go.Pb
namespace Go.Pb
open Go Go.RowKit
section
variable{P:Program}{x:Cx}{w0:World}{F0:Nat->Prop}{h:Heap}{n:Nat}{T:Nat->PV}{a:Act}
theorem ba1{o:Oper}{own:List Tmp}{t:TypeId}{y z:Operand}{ao:AOp}{r:PV}(hT:Temps P x n T a)(ho:o.op= .index t y z)
 (hc:compOp P own o.dst o.type (.index t y z)=some ao)(hq:opQ P T h ao=some r):Good P a x o r:=by
 simp only[compOp]at hc;split at hc
 ·simp only[Option.some.injEq]at hc;subst hc;exact bb8 hT ho hq
 ·rename_i len e ht;simp only[Option.bind_eq_bind,Option.bind_eq_some_iff]at hc;obtain⟨i,hi,d,hd,hc⟩:=hc;split at hc
  ·cases hc
  rename_i hne;simp only[Option.pure_def,Option.some.injEq]at hc;subst hc;have h1:aggD d=false->i.size=1:=λe=>by
   by_cases e1:i.size=1
   ·exact e1
   ·exact absurd ⟨e,e1⟩ hne
  simp only[opQ]at hq;have hy:=hT.ev y;have hz:=hT.ev z;split at hq
  ·rename_i cs kk k hv hk;rw[hv]at hy;rw[hk]at hz;have hz:=qs hz;obtain⟨us,ey,hr⟩:=hy;simp only[VRC]at hr;split at hq
   ·rename_i hb;unfold fieldOf at hq;split at hq
    ·rename_i hsz;have hul:=VRL_length hr;refine Good.same (v:=mkVal (aggD d) ((us.drop (k.toNat*i.size)).take i.size)) ?_ (VR_mkV (VRL_take i.size (VRL_drop _ hr)) hq).1;simp only[execOp,ho,Instr.index,Sem.run_bind,ey,hz,asIntOf,Sem.run_pure,Result.andThen_ok,run_underlying ht,hb,and_self,if_true,sizeOf,typeInfo,run_program,hi,
      ba7 hd hi x.w us _ (show k.toNat*i.size+i.size<=us.length by omega) h1]
    ·cases hq
   ·cases hq
  ·cases hq
 ·cases hc
theorem bi9{o:Oper}{b:Builtin}{args:Array Operand}{ats:Array TypeId}(ho:o.op= .call {callee:= .builtin b,args:=args,argTypes:=ats}):
 ∃cs,execOp a.eval o=builtin b ats o.type cs (args.map a.eval):=by
 refine⟨args.map λ| .const _=>true|_=>false,?_⟩;simp only[execOp,ho,resolve];rfl
theorem VRV_one{v:PV}{us:List Value}(hv:VRV P x [v] us):∃u,us=[u]/\VR P x v u:=by
 match us,hv with
 |[u],hv=>simp only[VRV]at hv;exact⟨u,O,hv.1⟩
 |[],hv=>simp[VRV]at hv
 |_::_::_,hv=>simp[VRV]at hv
theorem cs8{o:Oper}{b:Builtin}{args:Array Operand}{ats:Array TypeId}{r:PV}(hT:Temps P x n T a)(ho:o.op= .call {callee:= .builtin b,args:=args,argTypes:=ats})
 (hq:opQ P T h (.bi b ats o.type args.toList)=some r):Good P a x o r:=by
 obtain⟨cs,he⟩:=bi9 (a:=a) ho;simp only[opQ]at hq;have hV:=VRV_map hT args.toList;have hargs:args.map a.eval=(args.toList.map a.eval).toArray:=Array.ext' (by rw[Array.toList_map]);unfold biF at hq;split at hq
 ·rename_i vs hvs;have hu:=bm6 hV hvs;split at hq;all_goals first
   |cases hq;done
   |(simp only[Option.map_eq_some_iff]at hq
     obtain⟨w,hw,rfl⟩:=hq;refine Good.const ?_;rw[he,hargs,hu];simp only[builtin,Sem.run_bind,qx hw x.w,Result.andThen_ok,Sem.run_pure])
 ·split at hq
  ·rename_i tg0 tight es e hes ht;simp only[Option.some.injEq]at hq;subst hq;rw[hes]at hV;obtain⟨u,hu,hr⟩:=VRV_one hV;simp only[VR,AsVal,PV.isAgg,VRC,List.cons.injEq,and_true]at hr;obtain⟨b',o',cap,sz,eu,_⟩:=hr;simp only[Option.bind_eq_some_iff]at ht;obtain⟨t0,ht0,ht⟩:=ht;refine Good.same (v:= .int .i64 es.length) ?_ (VR_ofConst P x (.int .i64 es.length));rw[he,hargs,hu,eu];simp[builtin,Builtin.len_,ht0,run_underlying ht,goInt]
  ·rename_i tg0 id ver off m e hes ht;simp only[Option.some.injEq]at hq;subst hq;rw[hes]at hV;obtain⟨u,hu,hr⟩:=VRV_one hV;simp only[VR,AsVal,PV.isAgg,VRC,List.cons.injEq,and_true]at hr;obtain⟨b',cap,_,eu,_⟩:=hr;simp only[Option.bind_eq_some_iff]at ht;obtain⟨t0,ht0,ht⟩:=ht;refine Good.same (v:= .int .i64 m) ?_ (VR_ofConst P x (.int .i64 m));rw[he,hargs,hu,eu];simp[builtin,Builtin.len_,ht0,run_underlying ht,goInt]
  ·rename_i tg0 v m e hes ht;simp only[Option.some.injEq]at hq;subst hq;rw[hes]at hV;obtain⟨u,hu,hr⟩:=VRV_one hV;simp only[Option.bind_eq_some_iff]at ht;obtain⟨t0,ht0,ht⟩:=ht;refine Good.same (v:= .int .i64 m) ?_ (VR_ofConst P x (.int .i64 m));rw[he,hargs,hu];simp[builtin,Builtin.len_,ht0,run_underlying ht,goInt]
  ·cases hq
theorem at6{o:Oper}{y:Operand}{i:Nat}{r:PV}(hT:Temps P x n T a)(ho:o.op= .extract y i)(hq:opQ P T h (.extract y i)=some r):Good P a x o r:=by
 simp only[opQ]at hq;have hy:=hT.ev y;split at hq
 ·rename_i vs hv;rw[hv]at hy;simp only[VR,AsVal,PV.isAgg,VRC,List.cons.injEq,and_true]at hy;obtain⟨xs,ey,hr⟩:=hy;obtain⟨u,hu,hvr⟩:=VRV_get i hr hq;refine Good.same (v:=u) ?_ hvr;simp[execOp,ho,Instr.extract,ey,hu]
 ·cases hq
theorem xm(R:RelP P w0 F0 h x)(us:List Value)(t:TypeId):let y:Cx:=⟨x.w.alloc (.cells us.toArray t),λb=>x.F b\/(True/\b=x.w.heap.size),x.J⟩;
 Grow x y/\Ext x y/\y.F x.w.heap.size/\cellsAt y.w x.w.heap.size 0 us:=by
 intro y;have g:Grow x y:=Grow.alloc x _ True;refine⟨g,R.ext_of_grow g,.inr ⟨trivial,O⟩,λj u hj=>?_⟩;show(x.w.alloc _).cell? _=_
 rw[World.cell?_alloc_new];simpa using hj
theorem bp8{o:Oper}{t:TypeId}{y:Operand}{r:PV}(R:RelP P w0 F0 h x)(hT:Temps P x n T a)(ho:o.op= .box t y)(hq:opQ P T h (.box false t y)=some r):Good P a x o r:=by
 simp only[opQ,Option.map_eq_some_iff]at hq;obtain⟨cs,hcs,rfl⟩:=hq;have hc:=VR_cells (hT.ev y) hcs;obtain⟨g,e,hF,hcell⟩:=xm R (a.eval y).cells.toList t;refine⟨.pointer (some ⟨x.w.heap.size,0,none⟩),_,?_,g,?_⟩
 ·simp[execOp,ho,Instr.box,newVar,newRow]
 ·refine⟨x.w.heap.size,0,(a.eval y).cells.toList,O,hF,hcell,VRC_ext e _ _ hc.2⟩
theorem ay2{o:Oper}{t:TypeId}{z:Value}{i:TypeInfo}{r:PV}(R:RelP P w0 F0 h x)(ho:o.op= .alloc t)(hi:P.info? t=some i)(hz:i.zero=some z)
 (hq:opQ P T h (.alloc false t z)=some r):Good P a x o r:=by
 simp only[opQ,Option.map_eq_some_iff]at hq;obtain⟨cs,hcs,rfl⟩:=hq;have hc:=VR_cells (VR_ofConst P x z) hcs;obtain⟨g,e,hF,hcell⟩:=xm R z.cells.toList t;refine⟨.pointer (some ⟨x.w.heap.size,0,none⟩),_,?_,g,?_⟩
 ·simp[execOp,ho,Instr.alloc,newVar,newRow,zeroValue,typeInfo,hi,hz]
 ·refine⟨x.w.heap.size,0,z.cells.toList,O,hF,hcell,VRC_ext e _ _ hc.2⟩
theorem ap2:∀(vs:List Value)(k off:Nat)(arr:List Value),off+k+vs.length<=arr.length->
 ((vs.zipIdx k).foldl (λ(cs:Array Value)(p:Value×Nat)=>cs.setIfInBounds (off+p.2) p.1) arr.toArray)=(arr.take (off+k)++(vs++arr.drop (off+k+vs.length))).toArray
 |[],k,off,arr,hl=>by simp
 |v::vs,k,off,arr,hl=>by
  simp only[List.zipIdx_cons,List.foldl_cons,List.setIfInBounds_toArray];have hl':off+(k+1)+vs.length<=(arr.set (off+k) v).length:=by
   simp only[List.length_set];simp only[List.length_cons]at hl;omega
  rw[ap2 vs (k+1) off (arr.set (off+k) v) hl']
  congr 1
  simp only[List.length_cons]at hl⊢;have e1:(arr.set (off+k) v).take (off+(k+1))=arr.take (off+k)++[v]:=by
   rw[show off+(k+1)=(off+k)+1 by omega,List.take_succ_eq_append_getElem (by simp only[List.length_set];omega),List.getElem_set_self,List.take_set_of_le V]
  rw[e1,List.append_assoc,List.singleton_append,List.cons_append,List.drop_set_of_lt V];rw[show off+(k+1)+vs.length=off+k+(vs.length+1) by omega]
theorem ar0{place:Nat->Option (Nat×Nat)}{us:List Value}{i off sz:Nat}{v:Value}{rest:List (Nat×Value)}(hp:place i=some (off,sz))(hs:v.cells.size=sz)(hl:off+sz<=us.length):
 Instr.fill place us.toArray ((i,v)::rest)=Instr.fill place (us.take off++(v.cells.toList++us.drop (off+v.cells.toList.length))).toArray rest:=by
 simp only[Instr.fill,hp];rw[if_neg (by simp[hs];omega)]
 congr 1
 rw[<-Array.foldl_toList,Array.toList_zipIdx];have:=ap2 v.cells.toList 0 off us (by simp[hs];omega);simpa using this
theorem VRL_spl{zs cs:List PV}{us vs:List Value}{off:Nat}(h1:VRL P x zs us)(h2:VRL P x cs vs):VRL P x (spl zs off cs) (us.take off++(vs++us.drop (off+vs.length))):=by
 unfold spl;rw[VRL_length h2];exact VRL_append (VRL_take off h1) (VRL_append h2 (VRL_drop _ h1))
theorem vm(hT:Temps P x n T a){place:Nat->Option (Nat×Nat)}:∀(parts:List (Nat×Operand))(ps:List (Nat×Nat×Operand))(zs:List PV)(us:List Value)(rs:List PV),
 parts.map (λp=>(place p.1).map λq=>(q.1,q.2,p.2))=ps.map some->VRL P x zs us->buildF T zs ps=some rs->
 ∃vs,Instr.fill place us.toArray (parts.map λp=>(p.1,a.eval p.2))=some vs.toArray/\VRL P x rs vs
 |[],[],zs,us,rs,_,hz,hb=>by
  simp only[buildF,Option.some.injEq]at hb;subst hb;exact⟨us,O,hz⟩
 |[],_::_,_,_,_,hp,_,_=>by simp at hp
 |_::_,[],_,_,_,hp,_,_=>by simp at hp
 |(i,y)::parts,(off,sz,y')::ps,zs,us,rs,hp,hz,hb=>by
  simp only[List.map_cons,List.cons.injEq]at hp;obtain⟨hp1,hp2⟩:=hp;simp only[Option.map_eq_some_iff]at hp1;obtain⟨q,hq,he⟩:=hp1;simp only[Prod.mk.injEq]at he;obtain⟨rfl,rfl,rfl⟩:=he;simp only[buildF]at hb;split at hb
  ·rename_i cs hcs;split at hb
   ·rename_i hl;obtain⟨h1,h2⟩:=VR_cells (hT.ev y) hcs;have hlen:=VRL_length h1;have hlz:=VRL_length hz;obtain⟨vs,hf,hv⟩:=vm hT parts ps _ _ rs hp2 (VRL_spl (off:=q.1) hz h1) hb;refine⟨vs,?_,hv⟩;simp only[List.map_cons];rw[ar0 (sz:=q.2) hq (by rw[<-Array.length_toList,hlen,hl.1]) V];exact hf
   ·cases hb
  ·cases hb
theorem ag4{P:Program}{fs:Array Field}(g:Field->Nat)(hg:∀f i,P.info? f.type=some i->g f=i.size):∀(parts:List (Nat×Operand))(ps:List (Nat×Nat×Operand)),partsAt P fs parts=some ps->
 parts.map (λp=>((fs.map λf=>(f.offset,g f))[p.1]?).map λq=>(q.1,q.2,p.2))=ps.map some
 |[],ps,hp=>by simp only[partsAt,Option.some.injEq]at hp;subst hp;rfl
 |(i,y)::r,ps,hp=>by
  simp only[partsAt,Option.bind_eq_bind,Option.bind_eq_some_iff,Option.pure_def,Option.some.injEq]at hp;obtain⟨f,hf,m,hm,r',hr',rfl⟩:=hp;have ih:=ag4 g hg r r' hr';simp only[List.map_cons,ih]
  congr 1
  simp only[Array.getElem?_map,hf,Option.map_some,hg f m hm]
theorem aa4{len sz:Nat}:∀(parts:List (Nat×Operand))(ps:List (Nat×Nat×Operand)),partsAtA len sz parts=some ps->
 parts.map (λp=>((some (p.1*sz,sz):Option (Nat×Nat))).map λq=>(q.1,q.2,p.2))=ps.map some
 |[],ps,hp=>by simp only[partsAtA,Option.some.injEq]at hp;subst hp;rfl
 |(i,y)::r,ps,hp=>by
  simp only[partsAtA]at hp;split at hp
  ·cases hp
  ·simp only[Option.bind_eq_bind,Option.bind_eq_some_iff,Option.pure_def,Option.some.injEq]at hp;obtain⟨r',hr',rfl⟩:=hp;have ih:=aa4 r r' hr';simp only[List.map_cons,ih];rfl
theorem be7{fs:List Field}(w:World):∀(hf:fs.all (λf=>(P.info? f.type).isSome)=true),
 (fs.mapM λf=>(do pure (f.offset,<-sizeOf f.type):Sem (Nat×Nat))).run P w= .ok (fs.map λf=>(f.offset,P.cellsOf f.type)) w:=by
 induction fs with
 |nil=>intro _;simp
 |cons f fs ih=>
  intro hf;simp only[List.all_cons,Bool.and_eq_true]at hf;obtain⟨i,hi⟩:=Option.isSome_iff_exists.1 hf.1;have h1:(sizeOf f.type).run P w= .ok (P.cellsOf f.type) w:=by simp[sizeOf,typeInfo,hi,Program.cellsOf]
  simp only[List.mapM_cons,Sem.run_bind,h1,Result.andThen_ok,Sem.run_pure,ih hf.2,List.map_cons]
theorem bh2{o:Oper}{own:List Tmp}{t:TypeId}{parts:Array (Nat×Operand)}{ao:AOp}{r:PV}(hT:Temps P x n T a)(ho:o.op= .build t parts)
 (hc:compOp P own o.dst o.type (.build t parts)=some ao)(hq:opQ P T h ao=some r):Good P a x o r:=by
 simp only[compOp,Option.bind_eq_bind,Option.bind_eq_some_iff]at hc;obtain⟨i,hi,z,hz,hc⟩:=hc;have hzero:(zeroValue t).run P x.w= .ok z x.w:=by simp[zeroValue,typeInfo,hi,hz]
 have hparts:(parts.map λ(i,y)=>(i,a.eval y)).toList=parts.toList.map λp=>(p.1,a.eval p.2):=by simp
 split at hc
 ·rename_i fs cs ht;simp only[Option.bind_eq_some_iff]at hc;obtain⟨ps,hps,hc⟩:=hc;split at hc
  ·rename_i hall;simp only[Option.pure_def,Option.some.injEq]at hc;subst hc;simp only[opQ,Option.map_eq_some_iff]at hq;obtain⟨rs,hb,rfl⟩:=hq;have hm:=ag4 (fs:=fs) (λf=>P.cellsOf f.type) (λf i hi=>by simp[Program.cellsOf,hi]) _ _ hps;obtain⟨vs,hf,hv⟩:=vm hT (place:=λk=>(fs.map λf=>(f.offset,P.cellsOf f.type))[k]?) _ _ _ cs.toList rs hm (VRL_sc P x _ hall.1) hb;refine Good.same (v:= .agg vs.toArray) ?_ ⟨vs,O,by simpa[VRC]using hv⟩;have hpl:(fs.mapM λf=>(do pure (f.offset,<-sizeOf f.type):Sem (Nat×Nat))).run P x.w= .ok (fs.map λf=>(f.offset,P.cellsOf f.type)) x.w:=by
    have:=be7 (P:=P) x.w hall.2;rw[Array.mapM_eq_mapM_toList];simp only[Sem.run_map,this,Result.andThen_ok];rw[<-Array.toList_map]
   have hcs:cs=cs.toList.toArray:=by simp
   rw[<-hcs]at hf;rw[<-hparts]at hf;simp only[execOp,ho,Instr.build,Sem.run_bind,hzero,Result.andThen_ok,run_underlying ht,hpl,Value.cells,hf,Sem.run_pure]
  ·cases hc
 ·rename_i len e cs ht;simp only[Option.bind_eq_some_iff]at hc;obtain⟨m,hm,ps,hps,hc⟩:=hc;split at hc
  ·rename_i hall;simp only[Option.pure_def,Option.some.injEq]at hc;subst hc;simp only[opQ,Option.map_eq_some_iff]at hq;obtain⟨rs,hb,rfl⟩:=hq;obtain⟨vs,hf,hv⟩:=vm hT (place:=λk=>some (k*m.size,m.size)) _ _ _ cs.toList rs (aa4 _ _ hps) (VRL_sc P x _ hall) hb;refine Good.same (v:= .agg vs.toArray) ?_ ⟨vs,O,by simpa[VRC]using hv⟩;have hcs:cs=cs.toList.toArray:=by simp
   rw[<-hcs]at hf;rw[<-hparts]at hf;simp only[execOp,ho,Instr.build,Sem.run_bind,hzero,Result.andThen_ok,run_underlying ht,sizeOf,typeInfo,run_program,hm,Value.cells,hf,Sem.run_pure]
  ·cases hc
 ·cases hc
end
end Go.Pb
namespace Go.Pb
open Go Go.RowKit
section
variable{P:Program}{x:Cx}{w0:World}{F0:Nat->Prop}{h:Heap}{n:Nat}{T:Nat->PV}{a:Act}
theorem bc7(hT:Temps P x n T a){sz:Nat}:∀(parts:List (Nat×Operand))(k:Nat)(ps:List Operand)(pre rest:List Value),
 partsRow k parts=some ps->pre.length=k*sz->rest.length=ps.length*sz->(ps.map (ev T)).all (λv=>cnt v==some sz)=true->
 Instr.fill (λi=>some (i*sz,sz)) (pre++rest).toArray (parts.map λp=>(p.1,a.eval p.2))=some (pre++(ps.map λp=>(a.eval p).cells.toList).flatten).toArray
 |[],k,ps,pre,rest,hp,h1,h2,h3=>by
  simp only[partsRow,Option.some.injEq]at hp;subst hp;have:rest=[]:=List.eq_nil_of_length_eq_zero (by simpa using h2);subst this;rfl
 |(i,y)::r,k,ps,pre,rest,hp,h1,h2,h3=>by
  simp only[partsRow]at hp;split at hp
  ·rename_i hik;subst hik;simp only[Option.map_eq_some_iff]at hp;obtain⟨ps',hps,rfl⟩:=hp;simp only[List.map_cons,List.all_cons,Bool.and_eq_true,beq_iff_eq]at h3;obtain⟨cs,hcs,hl⟩:=wn h3.1;have hvr:=(VR_cells (hT.ev y) hcs).1;have hlen:(a.eval y).cells.toList.length=sz:=by rw[VRL_length hvr,hl]
   simp only[List.length_cons,Nat.add_mul,Nat.one_mul]at h2;simp only[List.map_cons];rw[ar0 (off:=i*sz) (sz:=sz) rfl (by rw[<-Array.length_toList,hlen]) (by simp;omega)];have e1:(pre++rest).take (i*sz)=pre:=by rw[<-h1];simp
   have e2:(pre++rest).drop (i*sz+(a.eval y).cells.toList.length)=rest.drop sz:=by rw[<-h1,hlen,List.drop_append];simp
   rw[e1,e2,<-List.append_assoc];rw[bc7 hT r (i+1) ps' (pre++(a.eval y).cells.toList) (rest.drop sz) hps (by simp only[List.length_append,h1,hlen,Nat.add_mul];omega) (by simp only[List.length_drop];omega) h3.2];simp
  ·cases hp
theorem VRM_flatten{P:Program}{y:Cx}{b sz:Nat}(hF:y.F b):∀(es:List PV)(xss:List (List Value))(o:Nat),es.length=xss.length->(∀p∈es.zip xss,p.2.length=sz/\VRC P y p.1 p.2)->
 cellsAt y.w b o xss.flatten->VRM P y b sz es o
 |[],_,_,_,_,_=>by simp[VRM]
 |e::es,[],_,hl,_,_=>by simp at hl
 |e::es,xs::xss,o,hl,hz,hc=>by
  simp only[List.zip_cons_cons,List.mem_cons,forall_eq_or_imp]at hz;simp only[VRM];refine⟨⟨hF,xs,hz.1.1,λj u hj=>hc j u ?_,hz.1.2⟩,VRM_flatten hF es xss (o+sz) (by simpa using hl) hz.2 λj u hj=>?_⟩
  ·simp only[List.flatten_cons];rw[List.getElem?_append_left (List.getElem?_eq_some_iff.1 hj).1];exact hj
  ·have:=hc (sz+j) u (by
    simp only[List.flatten_cons];rw[List.getElem?_append_right V,hz.1.1];rw[show sz+j-sz=j by omega];exact hj)
   rwa [show o+(sz+j)=o+sz+j by omega]at this
theorem xn{t e:TypeId}{len:Nat}{parts:Array (Nat×Operand)}{m:TypeInfo}{z:Value}{ps:List Operand}(hT:Temps P x n T a)(ht:P.underlying t=some (.slice e))(hm:P.info? e=some m)(hz:m.zero=some z)
 (hps:partsRow 0 parts.toList=some ps)(hl:ps.length=len)(hs:len*m.size<=16777216)(hzs:z.cells.size=m.size)(hall:(ps.map (ev T)).all (λv=>cnt v==some m.size)=true):
 (Instr.buildSlice t len (parts.map λ(i,y)=>(i,a.eval y))).run P x.w= .ok (.slice (some ⟨x.w.heap.size,0,none⟩) len len) (x.w.alloc (.cells (ps.map λp=>(a.eval p).cells.toList).flatten.toArray e)):=by
 have hparts:(parts.map λ(i,y)=>(i,a.eval y)).toList=parts.toList.map λp=>(p.1,a.eval p.2):=by simp
 have key:∀(zero:Array Value),Instr.fill (λi=>some (i*m.size,m.size)) ((Array.range (len*m.size)).map (zero[·%zero.size]!)) (parts.toList.map λp=>(p.1,a.eval p.2))=
  some (ps.map λp=>(a.eval p).cells.toList).flatten.toArray:=by
  intro zero;have:=bc7 hT (sz:=m.size) parts.toList 0 ps [] ((Array.range (len*m.size)).map (zero[·%zero.size]!)).toList hps OZ (by simp[hl]) hall;rw[List.nil_append,Array.toArray_toList,List.nil_append]at this;exact this
 have hz0:(zeroValue e).run P x.w= .ok z x.w:=by simp[zeroValue,typeInfo,hm,hz]
 by_cases h0:len*m.size=0
 ·simp only[Instr.buildSlice,Sem.run_bind,run_underlying ht,Result.andThen_ok,sizeOf,typeInfo,run_program,hm,Sem.run_pure];rw[if_neg V];simp only[h0,if_true,Sem.run_bind,Sem.run_pure,Result.andThen_ok,hparts];have k:=key #[];rw[h0]at k;simp only[k,Sem.run_bind,newRow,run_newObj,Result.andThen_ok,Sem.run_pure,World.alloc_eq]
 ·simp only[Instr.buildSlice,Sem.run_bind,run_underlying ht,Result.andThen_ok,sizeOf,typeInfo,run_program,hm,Sem.run_pure];rw[if_neg V];simp only[h0,if_false,Sem.run_bind,hz0,Sem.run_pure,Result.andThen_ok,hparts,key];simp only[Sem.run_bind,newRow,run_newObj,Result.andThen_ok,Sem.run_pure,World.alloc_eq]
theorem ap3(hT:Temps P x n T a){sz:Nat}:∀(ps:List Operand),(ps.map (ev T)).all (λv=>cnt v==some sz)=true->
 ∀p∈(ps.map (ev T)).zip (ps.map λp=>(a.eval p).cells.toList),p.2.length=sz/\VRC P x p.1 p.2
 |[],_,p,hp=>by cases hp
 |q::ps,hall,p,hp=>by
  simp only[List.map_cons,List.all_cons,Bool.and_eq_true,beq_iff_eq]at hall;simp only[List.map_cons,List.zip_cons_cons,List.mem_cons]at hp;rcases hp with rfl|hp
  ·obtain⟨cs,hcs,hl⟩:=wn hall.1;have:=VR_cells (hT.ev q) hcs;exact⟨by rw[VRL_length this.1,hl],this.2⟩
  ·exact ap3 hT ps hall.2 p hp
theorem az2{o:Oper}{own:List Tmp}{t:TypeId}{len:Nat}{parts:Array (Nat×Operand)}{ao:AOp}{r:PV}(R:RelP P w0 F0 h x)(hT:Temps P x n T a)(ho:o.op= .buildSlice t len parts)
 (hc:compOp P own o.dst o.type (.buildSlice t len parts)=some ao)(hq:opQ P T h ao=some r):Good P a x o r:=by
 simp only[compOp]at hc;split at hc
 ·rename_i e ht;simp only[Option.bind_eq_bind,Option.bind_eq_some_iff]at hc;obtain⟨m,hm,z,hz,ps,hps,hc⟩:=hc;split at hc
  ·rename_i hl;simp only[Option.pure_def,Option.some.injEq]at hc;subst hc;cases hown:(o.dst.any λd=>own.contains d)with
   |true=>rw[hown]at hq;simp[opQ]at hq
   |false=>
    rw[hown]at hq;simp only[opQ]at hq;split at hq
    ·rename_i hall;simp only[Option.some.injEq]at hq;subst hq;have hrun:=xn hT ht hm hz hps hl.1 hl.2.1 hl.2.2.2 hall;obtain⟨g,ex,hF,hcell⟩:=xm R (ps.map λp=>(a.eval p).cells.toList).flatten e;refine⟨.slice (some ⟨x.w.heap.size,0,none⟩) len len,_,?_,g,?_⟩
     ·simp only[execOp,ho,Sem.run_bind,hrun,Result.andThen_ok,Sem.run_pure]
     ·refine⟨x.w.heap.size,0,len,m.size,?_,?_,?_,?_,?_⟩
      ·simp[hl.1]
      ·simp[hl.1]
      ·simp only[maxLen];omega
      ·intro _;simp[hl.1]
      ·refine VRM_flatten hF _ (ps.map λp=>(a.eval p).cells.toList) 0 OZ (λp hp=>?_) hcell;have:=ap3 hT ps hall p hp;exact⟨this.1,VRC_ext ex _ _ this.2⟩
    ·cases hq
  ·cases hc
 ·cases hc
theorem uc(hT:Temps P x n T a){y:Operand}{k:Nat}{d:Nat}(hb:boundF T d (some y)=some k):∃kk,a.eval y= .int kk (k:Int):=by
 simp only[boundF]at hb;have hy:=hT.ev y;split at hb
 ·rename_i kk m hv;rw[hv]at hy;have hy:=qs hy;split at hb
  ·rename_i h0;simp only[Option.some.injEq]at hb;exact⟨kk,by rw[hy,<-hb,Int.toNat_of_nonneg h0]⟩
  ·cases hb
 ·cases hb
theorem qq{kk:IntKind}{k y:Nat}{code:BoundsCode}(hk:k<=y)(w:World):(Instr.sliceBound (.int kk (k:Int)) y code).run P w= .ok k w:=by
 simp[Instr.sliceBound,asIntOf,hk]
theorem vf(hT:Temps P x n T a){lo hi mx:Option Operand}{len cap l u:Nat}{m:Option Nat}(w:World)(hcap:len<=cap)
 (hl:boundF T 0 lo=some l)(hu:boundF T len hi=some u)(hm:boundM T mx=some m)
 (h1:l<=u)(h2:u<=len)(h3:∀k,m=some k->u<=k/\k<=len/\hi.isSome=true):
 (Instr.sliceBounds true len cap (lo.map a.eval) (hi.map a.eval) (mx.map a.eval)).run P w= .ok (l,u,m.getD cap) w:=by
 cases mx with
 |none=>
  simp only[boundM,Option.some.injEq]at hm;subst hm;cases hi with
  |none=>
   simp only[boundF,Option.some.injEq]at hu;subst hu;cases lo with
   |none=>
    simp only[boundF,Option.some.injEq]at hl;subst hl;simp[Instr.sliceBounds]
   |some y=>
    obtain⟨kk,e⟩:=uc hT hl;simp[Instr.sliceBounds,e,qq h1]
  |some z=>
   obtain⟨kz,ez⟩:=uc hT hu;cases lo with
   |none=>
    simp only[boundF,Option.some.injEq]at hl;subst hl;simp[Instr.sliceBounds,ez,qq (show u<=cap by omega)]
   |some y=>
    obtain⟨kk,e⟩:=uc hT hl;simp[Instr.sliceBounds,ez,e,qq (show u<=cap by omega),qq h1]
 |some q=>
  simp only[boundM,Option.map_eq_some_iff]at hm;obtain⟨k,hk,rfl⟩:=hm;obtain⟨kq,eq⟩:=uc hT hk;obtain⟨h4,h5,h6⟩:=h3 k O;cases hi with
  |none=>simp at h6
  |some z=>
   obtain⟨kz,ez⟩:=uc hT hu;cases lo with
   |none=>
    simp only[boundF,Option.some.injEq]at hl;subst hl;simp[Instr.sliceBounds,ez,eq,qq (show k<=cap by omega),qq h4]
   |some y=>
    obtain⟨kk,e⟩:=uc hT hl;simp[Instr.sliceBounds,ez,e,eq,qq (show k<=cap by omega),qq h4,qq h1]
theorem tj{t e:TypeId}{m:TypeInfo}(ht:P.underlying t=some (.slice e))(hm:P.info? e=some m){b off len cap l u c:Nat}{lo hi mx:Option Value}(w:World)
 (hb:(Instr.sliceBounds true len cap lo hi mx).run P w= .ok (l,u,c) w):
 (Instr.sliceAt t (.slice (some ⟨b,off,none⟩) len cap) lo hi mx).run P w= .ok (.slice (some (if c=l then⟨b,off,none⟩else⟨b,off+l*m.size,none⟩)) (u-l) (c-l)) w:=by
 simp only[Instr.sliceAt,Sem.run_bind,run_underlying ht,Result.andThen_ok,Instr.slice,hb,sizeOf,typeInfo,run_program,hm,Sem.run_pure];by_cases hcl:c=l<;>simp[hcl,Addr.add_lit]
theorem au6(hT:Temps P x n T a){lo:Option Operand}{l:Option Value}(hl:optV T lo=some l):lo.map a.eval=l:=by
 cases lo with
 |none=>simpa[optV]using hl
 |some y=>
  simp only[optV,Option.map_eq_some_iff]at hl;obtain⟨v,hv,rfl⟩:=hl;simp[ua (hT.ev y) hv]
theorem bf4{o:Oper}{own:List Tmp}{t:TypeId}{y:Operand}{lo hi mx:Option Operand}{ao:AOp}{r:PV}(hT:Temps P x n T a)(ho:o.op= .slice t y lo hi mx)
 (hc:compOp P own o.dst o.type (.slice t y lo hi mx)=some ao)(hq:opQ P T h ao=some r):Good P a x o r:=by
 have hy:=hT.ev y;have pure_case:∀d,P.underlying t=some d->(∀k e,d≠ .array k e)->(match toV (ev T y),optV T lo,optV T hi,optV T mx with
  |some a,some l,some u,some m=>(pureRun P (Instr.slice t a l u m)).map .ofConst
  |_,_,_,_=>none)=some r->Good P a x o r:=by
  intro d hd hna hq;split at hq
  ·rename_i v l u m hv hl hu hm;simp only[Option.map_eq_some_iff]at hq;obtain⟨w,hw,rfl⟩:=hq;refine Good.const ?_;have e:=ua hy hv;have hs:∀lo' hi' mx',(Instr.sliceAt t (a.eval y) lo' hi' mx').run P x.w=(Instr.slice t (a.eval y) lo' hi' mx').run P x.w:=by
    intro lo' hi' mx';simp only[Instr.sliceAt,Sem.run_bind,run_underlying hd,Result.andThen_ok]
   simp only[execOp,ho,Sem.run_bind,hs];rw[e,au6 hT hl,au6 hT hu,au6 hT hm,qx hw x.w];rfl
  ·cases hq
 simp only[compOp]at hc;split at hc
 ·rename_i ht;simp only[Option.some.injEq]at hc;subst hc;exact pure_case _ ht OZ hq
 ·rename_i e ht;simp only[Option.bind_eq_bind,Option.bind_eq_some_iff]at hc;obtain⟨i,hi',hc⟩:=hc;simp only[Option.pure_def,Option.some.injEq]at hc;subst hc;simp only[opQ]at hq;split at hq
  ·rename_i tg es hv;rw[hv]at hy;simp only[VR,AsVal,PV.isAgg,VRC,List.cons.injEq,and_true]at hy;obtain⟨b,off,cap,sz,ey,h1,h2,h3,hr⟩:=hy;split at hq
   ·rename_i l u m hl hu hm;split at hq
    ·rename_i hcond;obtain⟨c1,c2,c3,c4⟩:=hcond;simp only[Option.some.injEq]at hq;subst hq;have h3':∀k,m=some k->u<=k/\k<=es.length/\hi.isSome=true:=by
      intro k hk;subst hk;simp only[okMaxF,Bool.and_eq_true,decide_eq_true_eq]at c3;exact⟨c3.1.1,c3.1.2,c3.2⟩
     have hb:=vf (P:=P) hT x.w h1 hl hu hm c1 c2 h3';have hrun:=tj ht hi' (b:=b) (off:=off) x.w hb;refine Good.same (v:= .slice (some (if m.getD cap=l then⟨b,off,none⟩else⟨b,off+l*i.size,none⟩)) (u-l) (m.getD cap-l)) ?_ ?_
     ·simp only[execOp,ho,Sem.run_bind,ey,hrun,Result.andThen_ok,Sem.run_pure]
     ·have hlen:((es.drop l).take (u-l)).length=u-l:=by simp;omega
      have hcapm:m.getD cap<=cap:=by cases m with|none=>simp|some k=>simp;have:=h3' k O;omega
      have hum:u<=m.getD cap:=by cases m with|none=>simp;omega|some k=>simp;have:=h3' k O;omega
      refine⟨b,if m.getD cap=l then off else off+l*i.size,m.getD cap-l,sz,?_,?_,?_,?_,?_⟩
      ·rw[hlen];split<;>rfl
      ·rw[hlen];omega
      ·omega
      ·intro ht1;rw[hlen];cases m with
       |none=>
        simp only[tightF,Bool.and_eq_true,beq_iff_eq]at ht1;have:=h3 ht1.1;simp;omega
       |some k=>
        simp only[tightF,beq_iff_eq]at ht1;simp;omega
      ·by_cases hul:u=l
       ·rw[show u-l=0 by omega];simp[VRM]
       ·rw[if_neg V];have hsz:sz=i.size:=by
         have hlt:l < es.length:=by omega
         have hel:es[l]?=some es[l]:=List.getElem?_eq_getElem hlt;obtain⟨_,xs,hxl,_,hv2⟩:=VRM_get l hr hel;have hcn:=List.all_eq_true.1 c4 es[l] (List.getElem_mem hlt);rw[<-hxl];exact qm hv2 (by simpa using hcn)
        rw[<-hsz];exact VRM_take _ (VRM_drop l hr)
    ·cases hq
   ·cases hq
  ·rename_i id ver off len hv;rw[hv]at hy;simp only[VR,AsVal,PV.isAgg,VRC,List.cons.injEq,and_true]at hy;obtain⟨b,cap,hj,ey,h1,h2,h3⟩:=hy;split at hq
   ·rename_i l u m hl hu hm;split at hq
    ·rename_i hcond;obtain⟨c1,c2,c4,c3⟩:=hcond;simp only[Option.some.injEq]at hq;have h3':∀k,m=some k->u<=k/\k<=len/\hi.isSome=true:=by
      intro k hk;subst hk;simp only[okMaxO,Bool.and_eq_true,decide_eq_true_eq]at c3;exact⟨by omega,by omega,c3.2⟩
     have hb:=vf (P:=P) hT x.w h1 hl hu hm c1 c2 h3';have hrun:=tj ht hi' (b:=b) (off:=off) x.w hb;have hcapm:m.getD cap<=cap:=by cases m with|none=>simp|some k=>simp;have:=h3' k O;omega
     have hum:u<=m.getD cap:=by cases m with|none=>simp;omega|some k=>simp;have:=h3' k O;omega
     refine Good.same (v:= .slice (some (if m.getD cap=l then⟨b,off,none⟩else⟨b,off+l*i.size,none⟩)) (u-l) (m.getD cap-l)) ?_ ?_
     ·simp only[execOp,ho,Sem.run_bind,ey,hrun,Result.andThen_ok,Sem.run_pure]
     ·subst hq;by_cases hlu:l=u
      ·subst hlu;simp only[if_true];refine⟨b,if m.getD cap=l then off else off+l*i.size,m.getD cap-l,0,?_,?_,?_,?_,by simp[VRM]⟩
       ·simp only[Nat.sub_self,List.length_nil];split<;>rfl
       ·simp
       ·omega
       ·intro hms;cases m with
        |none=>simp at hms
        |some k=>simp only[okMaxO,Bool.and_eq_true,decide_eq_true_eq]at c3;simp;omega
      ·have hmn:m=none:=by
        cases m with
        |none=>rfl
        |some k=>simp only[okMaxO,Bool.and_eq_true,decide_eq_true_eq]at c3;exact absurd c3.1.2 hlu
       subst hmn;simp only[hlu,if_false,Option.getD_none]at hum⊢;rw[if_neg V];refine⟨b,cap-l,hj,O,by omega,by omega,λh0=>?_⟩;have hl0:l=0:=by
        rcases Nat.eq_zero_or_pos l with h|h
        ·exact h
        ·have:0 < l*i.size:=Nat.mul_pos h c4;omega
       subst hl0;simpa using h3 (by simpa using h0)
    ·cases hq
   ·cases hq
  ·exact pure_case _ ht OZ hq
 ·cases hc
theorem an2{o:Oper}{y:Operand}{r:PV}(hT:Temps P x n T a)(ho:o.op= .nilCheck y)(hq:opQ P T h (.nilCheck y)=some r):Good P a x o r:=by
 simp only[opQ]at hq;have hy:=hT.ev y;split at hq;all_goals first
  |cases hq;done
  |skip
 ·rename_i v hv;simp only[Option.some.injEq]at hq;subst hq;rw[hv]at hy;have hy':=hy;simp only[VR,AsVal,PV.isAgg,VRC,List.cons.injEq,and_true]at hy';obtain⟨b,off,xs,e,_⟩:=hy';exact Good.same (v:=a.eval y) (by simp[execOp,ho,e]) hy
 ·rename_i id ver off hv;simp only[Option.some.injEq]at hq;subst hq;rw[hv]at hy;have hy':=hy;simp only[VR,AsVal,PV.isAgg,VRC,List.cons.injEq,and_true]at hy';obtain⟨b,_,e⟩:=hy';exact Good.same (v:=a.eval y) (by simp[execOp,ho,e]) hy
 ·rename_i f p q hv;simp only[Option.some.injEq]at hq;subst hq;rw[hv]at hy;have hy':=hy;simp only[VR,AsVal,PV.isAgg,VRC,List.cons.injEq,and_true]at hy';obtain⟨fs,cs,e,_⟩:=hy';exact Good.same (v:=a.eval y) (by simp[execOp,ho,e]) hy
theorem au9{o:Oper}{own:List Tmp}{t:TypeId}{y:Operand}{ao:AOp}{r:PV}(hT:Temps P x n T a)(ho:o.op= .makeInterface t y)
 (hc:compOp P own o.dst o.type (.makeInterface t y)=some ao)(hq:opQ P T h ao=some r):Good P a x o r:=by
 simp only[compOp]at hc;split at hc
 ·cases hc
 ·rename_i d ht hne;simp only[Option.some.injEq]at hc;subst hc;simp only[opQ,Option.some.injEq]at hq;subst hq;refine Good.same (v:= .iface t (a.eval y)) ?_ ⟨_,O,hT.ev y⟩;have:(underlying t).run P x.w= .ok d x.w:=run_underlying hne x.w;simp only[execOp,ho,Instr.makeInterface,Sem.run_bind,this,Result.andThen_ok];cases d<;>first|rfl|exact absurd hne (by simp_all)
 ·cases hc
theorem ax8{o:Oper}{f:Fn}{p q:Array Operand}{r:PV}(hT:Temps P x n T a)(ho:o.op= .makeFunc f p q)(hq:opQ P T h (.mkFunc f p.toList q.toList)=some r):Good P a x o r:=by
 simp only[opQ,Option.some.injEq]at hq;subst hq;refine Good.same (v:= .func f (p.map a.eval) (q.map a.eval)) (by simp[execOp,ho,Instr.makeFunc]) ?_;exact⟨p.toList.map a.eval,q.toList.map a.eval,by rw[<-Array.toList_map,<-Array.toList_map],VRV_map hT _,VRV_map hT _⟩
theorem as9{o:Oper}{own:List Tmp}{t t':TypeId}{ok:Bool}{y:Operand}{ao:AOp}{r:PV}(hT:Temps P x n T a)(ho:o.op= .typeAssert y t' t ok)
 (hc:compOp P own o.dst o.type (.typeAssert y t' t ok)=some ao)(hq:opQ P T h ao=some r):Good P a x o r:=by
 simp only[compOp]at hc;split at hc
 ·cases hc
 ·rename_i d ht hne;simp only[Option.some.injEq]at hc;subst hc;simp only[opQ]at hq;have hy:=hT.ev y;split at hq
  ·rename_i u v hv;split at hq
   ·rename_i hut;subst hut;simp only[Option.some.injEq]at hq;rw[hv]at hy;simp only[VR,AsVal,PV.isAgg,VRC,List.cons.injEq,and_true]at hy;obtain⟨w,e,hw⟩:=hy;have hd:∀m,d≠ .interface m:=λm e=>by subst e;simp_all
    have hrun:(Instr.typeAssert (.iface u w) t' u ok).run P x.w= .ok (if ok then .tuple #[w,.bool true]else w) x.w:=by
     simp only[Instr.typeAssert,Sem.run_bind,run_underlying hne,Result.andThen_ok];cases d<;>first|(simp;done)|(rename_i m;exact absurd O (hd m))
    refine Good.same (v:=if ok then .tuple #[w,.bool true]else w) ?_ ?_
    ·simp only[execOp,ho,Sem.run_bind,e,hrun,Result.andThen_ok,Sem.run_pure]
    ·subst hq;cases ok with
     |true=>exact⟨[w,.bool true],O,by simp only[VRV];exact⟨hw,VR_ofConst P x (.bool true),trivial⟩⟩
     |false=>exact hw
   ·cases hq
  ·cases hq
 ·cases hc
theorem ad8{o:Oper}{own:List Tmp}{ao:AOp}{r:PV}(R:RelP P w0 F0 h x)(hT:Temps P x n T a)(hc:compOp P own o.dst o.type o.op=some ao)(hq:opQ P T h ao=some r):Good P a x o r:=by
 cases ho:o.op with
 |move y=>rw[ho]at hc;simp only[compOp,Option.some.injEq]at hc;subst hc;simp only[opQ,Option.some.injEq]at hq;subst hq;exact ar2 y hT (.inl ho)
 |assign y=>rw[ho]at hc;simp only[compOp,Option.some.injEq]at hc;subst hc;simp only[opQ,Option.some.injEq]at hq;subst hq;exact ar2 y hT (.inr ho)
 |pick c y z=>rw[ho]at hc;simp only[compOp,Option.some.injEq]at hc;subst hc;exact bp3 hT ho hq
 |binOp op t y z t'=>rw[ho]at hc;simp only[compOp,Option.some.injEq]at hc;subst hc;exact bx7 hT ho hq
 |unOp op t y=>rw[ho]at hc;simp only[compOp,Option.some.injEq]at hc;subst hc;exact ch1 hT ho hq
 |convert s d y=>rw[ho]at hc;simp only[compOp,Option.some.injEq]at hc;subst hc;exact bn5 hT ho hq
 |load t y=>rw[ho]at hc;exact ap8 R hT ho hc hq
 |fieldAddr s y k=>rw[ho]at hc;exact bf0 hT ho hc hq
 |field s y k=>rw[ho]at hc;exact bd9 hT ho hc hq
 |indexAddr t y z=>rw[ho]at hc;exact bd8 hT ho hc hq
 |index t y z=>rw[ho]at hc;exact ba1 hT ho hc hq
 |extract y i=>rw[ho]at hc;simp only[compOp,Option.some.injEq]at hc;subst hc;exact at6 hT ho hq
 |box t y=>
  rw[ho]at hc;simp only[compOp,Option.some.injEq]at hc;subst hc;cases hown:(o.dst.any λd=>own.contains d)with
  |true=>rw[hown]at hq;simp[opQ]at hq
  |false=>rw[hown]at hq;exact bp8 R hT ho hq
 |alloc t=>
  rw[ho]at hc;simp only[compOp,Option.bind_eq_bind,Option.bind_eq_some_iff,Option.pure_def,Option.some.injEq]at hc;obtain⟨i,hi,z,hz,hc⟩:=hc;subst hc;cases hown:(o.dst.any λd=>own.contains d)with
  |true=>rw[hown]at hq;simp[opQ]at hq
  |false=>rw[hown]at hq;exact ay2 R ho hi hz hq
 |build t parts=>rw[ho]at hc;exact bh2 hT ho hc hq
 |buildSlice t len parts=>rw[ho]at hc;exact az2 R hT ho hc hq
 |slice t y lo hi mx=>rw[ho]at hc;exact bf4 hT ho hc hq
 |nilCheck y=>rw[ho]at hc;simp only[compOp,Option.some.injEq]at hc;subst hc;exact an2 hT ho hq
 |makeInterface t y=>rw[ho]at hc;exact au9 hT ho hc hq
 |makeFunc f p q=>rw[ho]at hc;simp only[compOp,Option.some.injEq]at hc;subst hc;exact ax8 hT ho hq
 |typeAssert y t' t ok=>rw[ho]at hc;exact as9 hT ho hc hq
 |call c=>
  rw[ho]at hc;obtain⟨callee,args,ats⟩:=c;simp only[compOp]at hc;split at hc;all_goals try(simp only[Option.some.injEq]at hc;subst hc)
  all_goals first
   |(subst_vars;exact cs8 hT ho hq)
   |(simp[opQ]at hq;done)
   |skip
  ·exfalso
   repeat' (split at hc)
   all_goals first
    |cases hc;done
    |(simp only[Option.bind_eq_bind,Option.bind_eq_some_iff]at hc
      obtain⟨_,_,_,_,hc⟩:=hc;split at hc
      ·simp only[Option.pure_def,Option.some.injEq]at hc;subst hc;simp[opQ]at hq
      ·cases hc)
  ·exfalso
   repeat' (split at hc)
   all_goals first
    |cases hc;done
    |(simp only[Option.bind_eq_bind,Option.bind_eq_some_iff]at hc
      obtain⟨_,_,hc⟩:=hc;simp only[Option.pure_def,Option.some.injEq]at hc;subst hc;simp[opQ]at hq)
  ·exfalso
   repeat' (split at hc)
   all_goals first
    |(simp only[Option.some.injEq]at hc;subst hc;simp[opQ]at hq;done)
    |(simp only[Option.bind_eq_bind,Option.bind_eq_some_iff]at hc
      obtain⟨_,_,_,_,hc⟩:=hc;split at hc
      ·simp only[Option.pure_def,Option.some.injEq]at hc;subst hc;simp[opQ]at hq
      ·cases hc)
 |store t y z=>
  rw[ho]at hc;simp only[compOp,Option.bind_eq_bind,Option.bind_eq_some_iff,Option.pure_def,Option.some.injEq]at hc;obtain⟨_,_,hc⟩:=hc;subst hc;simp[opQ]at hq
 |makeSlice t l c=>
  rw[ho]at hc;simp only[compOp]at hc;split at hc
  ·simp only[Option.bind_eq_bind,Option.bind_eq_some_iff]at hc;obtain⟨_,_,_,_,hc⟩:=hc;split at hc
   ·simp only[Option.pure_def,Option.some.injEq]at hc;subst hc;simp[opQ]at hq
   ·cases hc
  ·cases hc
 |makeMap t r'=>
  rw[ho]at hc;cases r' with
  |none=>
   simp only[compOp]at hc;split at hc
   ·simp only[Option.some.injEq]at hc;subst hc;simp[opQ]at hq
   ·cases hc
  |some v=>simp[compOp]at hc
 |lookup t y i ok=>
  rw[ho]at hc;simp only[compOp]at hc;split at hc
  ·simp only[Option.bind_eq_bind,Option.bind_eq_some_iff,Option.pure_def,Option.some.injEq]at hc;obtain⟨_,_,_,_,hc⟩:=hc;split at hc
   ·simp only[Option.some.injEq]at hc;subst hc;simp[opQ]at hq
   ·first|(cases hc;done)|(simp only[Option.some.injEq]at hc;subst hc;simp[opQ]at hq)
  ·cases hc
 |mapUpdate t m i v=>
  rw[ho]at hc;simp only[compOp]at hc;split at hc
  ·split at hc
   ·simp only[Option.some.injEq]at hc;subst hc;simp[opQ]at hq
   ·first|(cases hc;done)|(simp only[Option.some.injEq]at hc;subst hc;simp[opQ]at hq)
  ·cases hc
 |_=>rw[ho]at hc;simp[compOp]at hc
end
end Go.Pb
