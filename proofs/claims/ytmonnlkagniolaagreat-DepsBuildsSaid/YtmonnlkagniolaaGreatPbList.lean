import Derived.Test.YtmonnlkagniolaaGreatPbHeap
set_option linter.all false
namespace Go.Pb
open Go Go.RowKit
def mkV:Bool->List PV->Option PV
 |true,cs=>some (.agg cs)
 |false,[c]=>if c.isAgg then none else some c
 |_,_=>none
def mkVal:Bool->List Value->Value
 |true,us=> .agg us.toArray
 |false,us=>us.headD undef
def cnt:PV->Option Nat
 | .agg cs=>some cs.length
 | .junk=>none
 | .tup _=>none
 |_=>some 1
def PV.cellsOf:PV->Option (List PV)
 | .agg cs=>some cs
 | .junk=>none
 | .tup _=>none
 |v=>some [v]
def fieldOf(off sz:Nat)(agg:Bool)(cs:List PV):Option PV:=if off+sz<=cs.length then mkV agg ((cs.drop off).take sz)else none
def scs:List PV->Option (List Value)
 |[]=>some []
 | .sc v::r=>(scs r).map (v::·)
 |_=>none
def toV:PV->Option Value
 | .sc v=>some v
 | .agg cs=>(scs cs).map λl=> .agg l.toArray
 | .tup []=>some undef
 | .fn f [] []=>some (.func f #[] #[])
 |_=>none
def toVs:List PV->Option (List Value)
 |[]=>some []
 |v::r=>match toV v,toVs r with|some a,some b=>some (a::b)|_,_=>none
section
variable{P:Program}{x:Cx}
theorem VRL_length:∀{cs:List PV}{us:List Value},VRL P x cs us->us.length=cs.length
 |[],[],_=>rfl
 |[],_::_,h=>by simp[VRL]at h
 |_::_,[],h=>by simp[VRL]at h
 |c::cs,u::us,h=>by
  simp only[VRL]at h;simp[VRL_length h.2.2]
theorem VRL_drop:∀{cs:List PV}{us:List Value}(k:Nat),VRL P x cs us->VRL P x (cs.drop k) (us.drop k)
 |_,_,0,h=>h
 |[],[],_+1,h=>h
 |[],_::_,_+1,h=>by simp[VRL]at h
 |_::_,[],_+1,h=>by simp[VRL]at h
 |c::cs,u::us,k+1,h=>by
  simp only[VRL]at h;exact VRL_drop k h.2.2
theorem VRL_take:∀{cs:List PV}{us:List Value}(k:Nat),VRL P x cs us->VRL P x (cs.take k) (us.take k)
 |_,_,0,h=>by simp[VRL]
 |[],[],_+1,h=>h
 |[],_::_,_+1,h=>by simp[VRL]at h
 |_::_,[],_+1,h=>by simp[VRL]at h
 |c::cs,u::us,k+1,h=>by
  simp only[VRL]at h;simp only[List.take_succ_cons,VRL];exact⟨h.1,h.2.1,VRL_take k h.2.2⟩
theorem VRL_append:∀{cs ds:List PV}{us vs:List Value},VRL P x cs us->VRL P x ds vs->VRL P x (cs++ds) (us++vs)
 |[],_,[],_,_,k=>k
 |[],_,_::_,_,h,_=>by simp[VRL]at h
 |_::_,_,[],_,h,_=>by simp[VRL]at h
 |c::cs,_,u::us,_,h,k=>by
  simp only[VRL]at h;simp only[List.cons_append,VRL];exact⟨h.1,h.2.1,VRL_append h.2.2 k⟩
theorem VRL_one:∀{cs:List PV}{us:List Value},VRL P x cs us->∀u∈us,u.oneCell'=true
 |[],[],_,u,hu=>by cases hu
 |[],_::_,h,_,_=>by simp[VRL]at h
 |_::_,[],h,_,_=>by simp[VRL]at h
 |c::cs,v::us,h,u,hu=>by
  simp only[VRL]at h;rcases List.mem_cons.1 hu with rfl|h1
  ·exact h.1
  ·exact VRL_one h.2.2 u h1
theorem VRV_length:∀{cs:List PV}{us:List Value},VRV P x cs us->us.length=cs.length
 |[],[],_=>rfl
 |[],_::_,h=>by simp[VRV]at h
 |_::_,[],h=>by simp[VRV]at h
 |c::cs,u::us,h=>by
  simp only[VRV]at h;simp[VRV_length h.2]
theorem VRV_append:∀{cs ds:List PV}{us vs:List Value},VRV P x cs us->VRV P x ds vs->VRV P x (cs++ds) (us++vs)
 |[],_,[],_,_,k=>k
 |[],_,_::_,_,h,_=>by simp[VRV]at h
 |_::_,_,[],_,h,_=>by simp[VRV]at h
 |c::cs,_,u::us,_,h,k=>by
  simp only[VRV]at h;simp only[List.cons_append,VRV];exact⟨h.1,VRV_append h.2 k⟩
theorem VRV_get:∀{cs:List PV}{us:List Value}(i:Nat){c:PV},VRV P x cs us->cs[i]?=some c->∃u,us[i]?=some u/\VR P x c u
 |[],[],_,_,_,h=>by cases h
 |[],_::_,_,_,h,_=>by simp[VRV]at h
 |_::_,[],_,_,h,_=>by simp[VRV]at h
 |c::cs,u::us,0,_,h,hi=>by
  simp only[VRV]at h;simp only[List.getElem?_cons_zero,Option.some.injEq]at hi;subst hi;exact⟨u,O,h.1⟩
 |c::cs,u::us,i+1,_,h,hi=>by
  simp only[VRV]at h;exact VRV_get i h.2 (by simpa using hi)
theorem VRV_map{T:Nat->PV}{n:Nat}{a:Act}(h:Temps P x n T a):∀(os:List Operand),VRV P x (os.map (ev T)) (os.map a.eval)
 |[]=>by simp[VRV]
 |o::os=>by
  simp only[List.map_cons,VRV];exact⟨h.ev o,VRV_map h os⟩
theorem VRM_get:∀{es:List PV}{b sz o:Nat}(i:Nat){e:PV},VRM P x b sz es o->es[i]?=some e->
 x.F b/\∃xs,xs.length=sz/\cellsAt x.w b (o+i*sz) xs/\VRC P x e xs
 |[],_,_,_,_,_,_,h=>by cases h
 |e::es,b,sz,o,0,_,h,hi=>by
  simp only[VRM]at h;simp only[List.getElem?_cons_zero,Option.some.injEq]at hi;subst hi;simpa using h.1
 |e::es,b,sz,o,i+1,_,h,hi=>by
  simp only[VRM]at h;have:=VRM_get i h.2 (by simpa using hi)
  rwa [show o+sz+i*sz=o+(i+1)*sz by rw[Nat.add_mul];omega]at this
theorem VRM_drop:∀{es:List PV}{b sz o:Nat}(k:Nat),VRM P x b sz es o->VRM P x b sz (es.drop k) (o+k*sz)
 |es,b,sz,o,0,h=>by simpa using h
 |[],b,sz,o,k+1,h=>by simp[VRM]
 |e::es,b,sz,o,k+1,h=>by
  simp only[VRM]at h;have:=VRM_drop k h.2
  rwa [show o+sz+k*sz=o+(k+1)*sz by rw[Nat.add_mul];omega]at this
theorem VRM_take:∀{es:List PV}{b sz o:Nat}(k:Nat),VRM P x b sz es o->VRM P x b sz (es.take k) o
 |es,b,sz,o,0,h=>by simp[VRM]
 |[],b,sz,o,k+1,h=>by simp[VRM]
 |e::es,b,sz,o,k+1,h=>by
  simp only[VRM]at h;simp only[List.take_succ_cons,VRM];exact⟨h.1,VRM_take k h.2⟩
theorem qm{v:PV}{us:List Value}{n:Nat}(h:VRC P x v us)(hc:cnt v=some n):us.length=n:=by
 cases v with
 |agg cs=>simp only[VRC]at h;simp only[cnt,Option.some.injEq]at hc;rw[VRL_length h,hc]
 |junk=>simp[cnt]at hc
 |tup vs=>simp[cnt]at hc
 |sc v=>simp only[cnt,Option.some.injEq]at hc;simp only[VRC]at h;rw[h.1,<-hc];rfl
 |fs t es=>simp only[cnt,Option.some.injEq]at hc;simp only[VRC]at h;obtain⟨b,o,cap,sz,e,_⟩:=h;rw[e,<-hc];rfl
 |fp e=>simp only[cnt,Option.some.injEq]at hc;simp only[VRC]at h;obtain⟨b,o,xs,e,_⟩:=h;rw[e,<-hc];rfl
 |os id ver off n=>simp only[cnt,Option.some.injEq]at hc;simp only[VRC]at h;obtain⟨b,cap,_,e,_⟩:=h;rw[e,<-hc];rfl
 |op id ver off=>simp only[cnt,Option.some.injEq]at hc;simp only[VRC]at h;obtain⟨b,_,e⟩:=h;rw[e,<-hc];rfl
 |om id ver=>simp only[cnt,Option.some.injEq]at hc;simp only[VRC]at h;obtain⟨b,_,e⟩:=h;rw[e,<-hc];rfl
 |fn f a b=>simp only[cnt,Option.some.injEq]at hc;simp only[VRC]at h;obtain⟨fs,cs,e,_⟩:=h;rw[e,<-hc];rfl
 |ifc t v=>simp only[cnt,Option.some.injEq]at hc;simp only[VRC]at h;obtain⟨u,e,_⟩:=h;rw[e,<-hc];rfl
theorem ak0{v:PV}{u:Value}(h:VRC P x v [u])(hc:cnt v=some 1)(ha:v.isAgg=false):u.oneCell'=true:=by
 cases v with
 |agg cs=>simp[PV.isAgg]at ha
 |junk=>simp[cnt]at hc
 |tup vs=>simp[cnt]at hc
 |sc v=>simp only[VRC]at h;have:=h.1;simp only[List.cons.injEq,and_true]at this;rw[this];exact h.2
 |fs t es=>simp only[VRC]at h;obtain⟨b,o,cap,sz,e,_⟩:=h;simp only[List.cons.injEq,and_true]at e;rw[e];rfl
 |fp e=>simp only[VRC]at h;obtain⟨b,o,xs,e,_⟩:=h;simp only[List.cons.injEq,and_true]at e;rw[e];rfl
 |os id ver off n=>simp only[VRC]at h;obtain⟨b,cap,_,e,_⟩:=h;simp only[List.cons.injEq,and_true]at e;rw[e];rfl
 |op id ver off=>simp only[VRC]at h;obtain⟨b,_,e⟩:=h;simp only[List.cons.injEq,and_true]at e;rw[e];rfl
 |om id ver=>simp only[VRC]at h;obtain⟨b,_,e⟩:=h;simp only[List.cons.injEq,and_true]at e;rw[e];rfl
 |fn f a b=>simp only[VRC]at h;obtain⟨fs,cs,e,_⟩:=h;simp only[List.cons.injEq,and_true]at e;rw[e];rfl
 |ifc t v=>simp only[VRC]at h;obtain⟨u',e,_⟩:=h;simp only[List.cons.injEq,and_true]at e;rw[e];rfl
theorem VR_cells{v:PV}{u:Value}{cs:List PV}(h:VR P x v u)(hc:v.cellsOf=some cs):VRL P x cs u.cells.toList/\VRC P x v u.cells.toList:=by
 cases v with
 |agg ds=>
  obtain⟨us,rfl,r⟩:=h;simp only[PV.cellsOf,Option.some.injEq]at hc;subst hc;simp only[Value.cells];exact⟨by simpa[VRC]using r,r⟩
 |junk=>simp[PV.cellsOf]at hc
 |tup vs=>simp[PV.cellsOf]at hc
 |_=>
  simp only[PV.cellsOf,Option.some.injEq]at hc;subst hc;have h':VRC P x _ [u]:=h;have h1:=ak0 h' O O;have e:u.cells.toList=[u]:=by cases u<;>simp_all[Value.oneCell',Value.cells]
  rw[e];exact⟨by simp only[VRL];exact⟨h1,h',trivial⟩,h'⟩
theorem wn{v:PV}{n:Nat}(h:cnt v=some n):∃cs,v.cellsOf=some cs/\cs.length=n:=by
 cases v<;>simp_all[cnt,PV.cellsOf]
theorem VR_mkV{agg:Bool}{cs:List PV}{us:List Value}{r:PV}(h:VRL P x cs us)(hm:mkV agg cs=some r):VR P x r (mkVal agg us)/\r.isAgg=agg:=by
 cases agg with
 |true=>
  simp only[mkV,Option.some.injEq]at hm;subst hm;exact⟨⟨us,O,by simpa[VRC]using h⟩,O⟩
 |false=>
  match cs,us,h with
  |[c],[u],h=>
   simp only[mkV]at hm;split at hm
   ·cases hm
   ·rename_i hc;simp only[Option.some.injEq]at hm;subst hm;simp only[VRL]at h;refine⟨?_,by simpa using hc⟩;unfold VR AsVal;rw[show c.isAgg=false by simpa using hc];exact h.2.1
  |[],_,_=>simp[mkV]at hm
  |_::_::_,_,_=>simp[mkV]at hm
  |[_],[],h=>simp[VRL]at h
  |[_],_::_::_,h=>simp[VRL]at h
theorem VR_of_VRC{v:PV}{us:List Value}{agg:Bool}(h:VRC P x v us)(hn:∃n,cnt v=some n)(ha:v.isAgg=agg):VR P x v (mkVal agg us):=by
 subst ha;cases v with
 |agg cs=>exact⟨us,O,h⟩
 |junk=>obtain⟨n,hn⟩:=hn;simp[cnt]at hn
 |tup vs=>obtain⟨n,hn⟩:=hn;simp[cnt]at hn
 |_=>
  have hl:=qm h O
  match us,hl with
  |[u],_=>exact h
theorem bs3:∀{cs:List PV}{us ws:List Value},VRL P x cs us->scs cs=some ws->us=ws
 |[],[],ws,_,h=>by simpa[scs]using h
 |[],_::_,_,h,_=>by simp[VRL]at h
 |_::_,[],_,h,_=>by simp[VRL]at h
 |c::cs,u::us,ws,h,hs=>by
  simp only[VRL]at h;cases c with
  |sc v=>
   simp only[scs,Option.map_eq_some_iff]at hs;obtain⟨l,hl,rfl⟩:=hs;have h1:=h.2.1;simp only[VRC]at h1;have h2:=h1.1;simp only[List.cons.injEq,and_true]at h2;rw[h2,bs3 h.2.2 hl]
  |_=>simp[scs]at hs
theorem ua{v:PV}{u w:Value}(h:VR P x v u)(ht:toV v=some w):u=w:=by
 cases v with
 |sc c=>
  simp only[toV,Option.some.injEq]at ht;have h1:VRC P x (.sc c) [u]:=h;simp only[VRC,List.cons.injEq,and_true]at h1;rw[h1.1,ht]
 |agg cs=>
  obtain⟨us,rfl,r⟩:=h;simp only[toV,Option.map_eq_some_iff]at ht;obtain⟨l,hl,rfl⟩:=ht;simp only[VRC]at r;rw[bs3 r hl]
 |tup vs=>
  cases vs with
  |nil=>
   simp only[toV,Option.some.injEq]at ht;have h1:VRC P x (.tup []) [u]:=h;simp only[VRC,List.cons.injEq,and_true]at h1;obtain⟨xs,rfl,r⟩:=h1;cases xs with
   |nil=>rw[<-ht];rfl
   |cons _ _=>simp[VRV]at r
  |cons _ _=>simp[toV]at ht
 |fn f a b=>
  cases a with
  |nil=>
   cases b with
   |nil=>
    simp only[toV,Option.some.injEq]at ht;have h1:VRC P x (.fn f [] []) [u]:=h;simp only[VRC,List.cons.injEq,and_true]at h1;obtain⟨fs,cs,rfl,r1,r2⟩:=h1;cases fs with
    |nil=>cases cs with
     |nil=>rw[<-ht]
     |cons _ _=>simp[VRV]at r2
    |cons _ _=>simp[VRV]at r1
   |cons _ _=>simp[toV]at ht
  |cons _ _=>simp[toV]at ht
 |_=>simp[toV]at ht
theorem bm6:∀{vs:List PV}{us ws:List Value},VRV P x vs us->toVs vs=some ws->us=ws
 |[],[],ws,_,h=>by simpa[toVs]using h
 |[],_::_,_,h,_=>by simp[VRV]at h
 |_::_,[],_,h,_=>by simp[VRV]at h
 |c::cs,u::us,ws,h,hs=>by
  simp only[VRV]at h;simp only[toVs]at hs;split at hs
  ·rename_i a b ha hb;simp only[Option.some.injEq]at hs;rw[ua (P:=P) (x:=x) (show VR P x c u from h.1) ha,bm6 h.2 hb,hs]
  ·cases hs
theorem at5{w:World}{b o:Nat}{xs:List Value}(h:cellsAt w b o xs)(k m:Nat):cellsAt w b (o+k) ((xs.drop k).take m):=by
 intro j u hj;rw[List.getElem?_take]at hj;split at hj
 ·rw[List.getElem?_drop]at hj;have:=h _ _ hj
  rwa [<-Nat.add_assoc]at this
 ·cases hj
theorem lr{w:World}{b:Nat}{cur:Array Value}{ty:TypeId}{fr:Nat×Nat}(h:w.heap[b]?=some (.cells cur ty fr))(k m:Nat):cellsAt w b k ((cur.toList.drop k).take m):=by
 intro j u hj;rw[List.getElem?_take]at hj;split at hj
 ·rw[List.getElem?_drop]at hj;rw[cell_of_row w b (k+j) cur ty fr h];simpa using hj
 ·cases hj
end
def aggD:TypeDesc->Bool
 | .struct _| .array _ _=>true
 |_=>false
theorem aq6{P:Program}{t:TypeId}{d:TypeDesc}(h:P.underlying t=some d)(w:World):(isAgg t).run P w= .ok (aggD d) w:=by
 simp only[isAgg,Sem.run_bind,run_underlying h,Result.andThen_ok];cases d<;>rfl
theorem ti{P:Program}{t:TypeId}{d:TypeDesc}{i:TypeInfo}(h:P.underlying t=some d)(hi:P.info? t=some i){w:World}{b o:Nat}{xs:List Value}
 (hc:cellsAt w b o xs)(hl:xs.length=i.size)(h1:aggD d=false->i.size=1):(loadVar t ⟨b,o,none⟩).run P w= .ok (mkVal (aggD d) xs) w:=by
 simp only[loadVar,Sem.run_bind,aq6 h,Result.andThen_ok];cases hd:aggD d with
 |true=>
  simp only[if_true,Sem.run_bind,sizeOf,typeInfo,run_program,Result.andThen_ok,hi,Sem.run_pure,Sem.run_pure'];rw[<-hl,run_loadCells_list w ⟨b,o,none⟩ xs (λj v hj=>by rw[Addr.add_lit];exact hc j v hj)];rfl
 |false=>
  simp only[Bool.false_eq_true,if_false,run_load];have h1:=h1 hd
  match xs,hl with
  |[u],_=>
   have:=hc 0 u O;simp only[Nat.add_zero]at this;simp[this,mkVal]
  |[],hl=>simp[h1]at hl
  |_::_::_,hl=>rw[h1]at hl;simp at hl
theorem ba7{P:Program}{t:TypeId}{d:TypeDesc}{i:TypeInfo}(h:P.underlying t=some d)(hi:P.info? t=some i)(w:World)(us:List Value)(off:Nat)
 (hl:off+i.size<=us.length)(h1:aggD d=false->i.size=1):(part t us.toArray off).run P w= .ok (mkVal (aggD d) ((us.drop off).take i.size)) w:=by
 simp only[part,Sem.run_bind,aq6 h,Result.andThen_ok];cases hd:aggD d with
 |true=>
  simp only[if_true,Sem.run_bind,sizeOf,typeInfo,run_program,Result.andThen_ok,hi,Sem.run_pure,Sem.run_pure'];simp only[mkVal]
  congr 2
  apply Array.ext';simp[List.drop_take]
 |false=>
  have h1:=h1 hd;simp only[Bool.false_eq_true,if_false];have hlt:off < us.length:=by omega
  simp only[List.getElem?_toArray,List.getElem?_eq_getElem hlt,Sem.run_pure,mkVal,h1];rw[List.drop_eq_getElem_cons hlt];rfl
end Go.Pb
