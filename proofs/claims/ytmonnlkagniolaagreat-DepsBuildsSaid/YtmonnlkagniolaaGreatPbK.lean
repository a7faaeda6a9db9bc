import Derived.Test.YtmonnlkagniolaaGreatPbS
set_option linter.all false
namespace Go.Pb
open Go Go.RowKit
section
variable{P:Program}
def DeepC(P:Program)(h:Heap)(v d:PV):Prop:=closed d=true/\d.isAgg=v.isAgg/\∀k,Sub h k->∀w0 F0 x us,RelP P w0 F0 k x->VRC P x v us->VRC P ⟨x.w,star w0 F0 x.w,noJ⟩ d us
def DeepCL(P:Program)(h:Heap):List PV->List PV->Prop
 |[],[]=>True
 |v::vs,d::ds=>DeepC P h v d/\DeepCL P h vs ds
 |_,_=>False
theorem DeepC.deep{h:Heap}{v d:PV}(H:DeepC P h v d):Deep P h v d:=⟨H.1,λk hk w0 F0 x u R hv=>by
 unfold VR at hv⊢;rw[H.2.1];exact AsVal.imp (λus hu=>H.2.2 k hk w0 F0 x us R hu) hv⟩
theorem DeepCL.closed{h:Heap}:∀{vs ds:List PV},DeepCL P h vs ds->closedL ds=true
 |[],[],_=>rfl
 |v::vs,d::ds,H=>by simp[closedL,H.1.1,DeepCL.closed H.2]
 |[],_::_,H=>by simp[DeepCL]at H
 |_::_,[],H=>by simp[DeepCL]at H
theorem DeepCL.deep{h:Heap}:∀{vs ds:List PV},DeepCL P h vs ds->DeepL P h vs ds
 |[],[],_=>trivial
 |v::vs,d::ds,H=>⟨H.1.deep,H.2.deep⟩
 |[],_::_,H=>by simp[DeepCL]at H
 |_::_,[],H=>by simp[DeepCL]at H
theorem DeepCL.len{h:Heap}:∀{vs ds:List PV},DeepCL P h vs ds->vs.length=ds.length
 |[],[],_=>rfl
 |v::vs,d::ds,H=>by simp[H.2.len]
 |[],_::_,H=>by simp[DeepCL]at H
 |_::_,[],H=>by simp[DeepCL]at H
theorem DeepCL.vrl{h k:Heap}(hk:Sub h k){w0:World}{F0:Nat->Prop}{x:Cx}(R:RelP P w0 F0 k x):∀{vs ds:List PV}{us:List Value},DeepCL P h vs ds->VRL P x vs us->VRL P ⟨x.w,star w0 F0 x.w,noJ⟩ ds us
 |[],[],us,_,hu=>by cases us with
  |nil=>simp[VRL]
  |cons _ _=>simp[VRL]at hu
 |v::vs,d::ds,us,H,hu=>by
  cases us with
  |nil=>simp[VRL]at hu
  |cons u us=>
   simp only[VRL]at hu⊢;exact⟨hu.1,H.1.2.2 k hk w0 F0 x _ R hu.2.1,H.2.vrl hk R hu.2.2⟩
 |[],_::_,_,H,_=>by simp[DeepCL]at H
 |_::_,[],_,H,_=>by simp[DeepCL]at H
theorem DeepCL.vrv{h k:Heap}(hk:Sub h k){w0:World}{F0:Nat->Prop}{x:Cx}(R:RelP P w0 F0 k x):∀{vs ds:List PV}{us:List Value},DeepCL P h vs ds->VRV P x vs us->VRV P ⟨x.w,star w0 F0 x.w,noJ⟩ ds us
 |[],[],us,_,hu=>by cases us with
  |nil=>simp[VRV]
  |cons _ _=>simp[VRV]at hu
 |v::vs,d::ds,us,H,hu=>by
  cases us with
  |nil=>simp[VRV]at hu
  |cons u us=>
   simp only[VRV]at hu⊢;refine⟨?_,H.2.vrv hk R hu.2⟩;rw[H.1.2.1];exact AsVal.imp (λus hu=>H.1.2.2 k hk w0 F0 x us R hu) hu.1
 |[],_::_,_,H,_=>by simp[DeepCL]at H
 |_::_,[],_,H,_=>by simp[DeepCL]at H
theorem DeepCL.vrm{h k:Heap}(hk:Sub h k){w0:World}{F0:Nat->Prop}{x:Cx}(R:RelP P w0 F0 k x){b sz:Nat}:∀{vs ds:List PV}{o:Nat},DeepCL P h vs ds->VRM P x b sz vs o->VRM P ⟨x.w,star w0 F0 x.w,noJ⟩ b sz ds o
 |[],[],o,_,hu=>by simp[VRM]
 |v::vs,d::ds,o,H,hu=>by
  simp only[VRM]at hu⊢;obtain⟨⟨hF,xs,hl,hc,hr⟩,hm⟩:=hu;exact⟨⟨((qy R).fro b hF).1,xs,hl,sr (qy R) hF hc,H.1.2.2 k hk w0 F0 x _ R hr⟩,H.2.vrm hk R hm⟩
 |[],_::_,_,H,_=>by simp[DeepCL]at H
 |_::_,[],_,H,_=>by simp[DeepCL]at H
def mapO(f:PV->Option PV):List PV->Option (List PV)
 |[]=>some []
 |v::r=>match f v with
  |some d=>match mapO f r with
   |some ds=>some (d::ds)
   |none=>none
  |none=>none
def chunk(sz:Nat):Nat->List PV->List PV
 |0,_=>[]
 |k+1,cs=> .agg (cs.take sz)::chunk sz k (cs.drop sz)
theorem aj2{sz:Nat}:∀{k:Nat}{cs:List PV},cs.length=k*sz->rowCells (chunk sz k cs)=some cs/\(chunk sz k cs).length=k/\∀e∈chunk sz k cs,cnt e=some sz
 |0,cs,h=>by
  have:cs=[]:=by simpa using h
  subst this;exact⟨O,O,λe he=>by simp[chunk]at he⟩
 |k+1,cs,h=>by
  have hk:k*sz+sz=(k+1)*sz:=by rw[Nat.add_mul,Nat.one_mul]
  obtain⟨h1,h2,h3⟩:=aj2 (sz:=sz) (k:=k) (cs:=cs.drop sz) (by simp;omega);refine⟨?_,by simp[chunk,h2],λe he=>?_⟩
  ·simp only[chunk,rowCells,PV.cellsOf,h1,Option.some.injEq];exact List.take_append_drop sz cs
  ·simp only[chunk,List.mem_cons]at he;rcases he with rfl|he
   ·simp[cnt];omega
   ·exact h3 e he
def esOf(agg:Bool)(sz k:Nat)(ds:List PV):Option (List PV):=
 bif agg then some (chunk sz k ds)else bif Nat.beq sz 1&&ds.all one then some ds else none
theorem wx{agg:Bool}{sz k:Nat}{ds es:List PV}(h:esOf agg sz k ds=some es)(hl:ds.length=k*sz):rowCells es=some ds/\es.length=k/\∀e∈es,cnt e=some sz:=by
 cases agg with
 |true=>
  simp only[esOf,cond_true,Option.some.injEq]at h;subst h;exact aj2 hl
 |false=>
  simp only[esOf,cond_false]at h;cases hb:(Nat.beq sz 1&&ds.all one)with
  |false=>rw[hb]at h;cases h
  |true=>
   rw[hb]at h;simp only[cond_true,Option.some.injEq]at h;subst h;simp only[Bool.and_eq_true]at hb;have e1:sz=1:=Nat.eq_of_beq_eq_true hb.1;subst e1;refine⟨rk hb.2,by omega,λe he=>?_⟩;rw[List.all_eq_true]at hb;exact tk (hb.2 e he)
def blkInfo(P:Program)(ty:TypeId):Option (Nat×Bool):=match P.info? ty with
 |some i=>match P.underlying ty with
  |some d=>some (i.size,aggD d)
  |none=>none
 |none=>none
def deepV(P:Program)(h:Heap):Nat->PV->Option PV
 |0,v=>bif closed v then some v else none
 |n+1,v=>bif closed v then some v else match v with
  | .agg cs=>(mapO (deepV P h n) cs).map .agg
  | .tup vs=>(mapO (deepV P h n) vs).map .tup
  | .fn f a b=>match mapO (deepV P h n) a with
    |some a'=>(mapO (deepV P h n) b).map (.fn f a')
    |none=>none
  | .ifc t v=>(deepV P h n v).map (.ifc t)
  | .fp v=>(deepV P h n v).map .fp
  | .fs t es=>(mapO (deepV P h n) es).map (.fs t)
  | .os id ver off m=>match h.bl[id]? with
    |some (.cells ver' ty mt cs)=>bif Nat.beq ver' ver then match blkInfo P ty with
      |some (sz,agg)=>bif Nat.ble (off+m*sz) cs.length then match mapO (deepV P h n) ((cs.drop off).take (m*sz))with
        |some ds=>(esOf agg sz m ds).map (.fs false)
        |none=>none
       else none
      |none=>none
     else none
    |_=>none
  | .op id ver 0=>match h.bl[id]? with
    |some (.cells ver' ty mt cs)=>bif Nat.beq ver' ver then match blkInfo P ty with
      |some (sz,agg)=>bif Nat.beq cs.length sz then match mapO (deepV P h n) cs with
        |some ds=>match esOf agg sz 1 ds with
         |some [e]=>some (.fp e)
         |_=>none
        |none=>none
       else none
      |none=>none
     else none
    |_=>none
  |_=>none
theorem su{h:Heap}{f:PV->Option PV}(hf:∀v d,f v=some d->DeepC P h v d):∀{vs ds:List PV},mapO f vs=some ds->DeepCL P h vs ds
 |[],ds,e=>by simp only[mapO,Option.some.injEq]at e;subst e;trivial
 |v::vs,ds,e=>by
  simp only[mapO]at e;split at e
  ·rename_i d hd;split at e
   ·rename_i ds' hds;simp only[Option.some.injEq]at e;subst e;exact⟨hf v d hd,su hf hds⟩
   ·cases e
  ·cases e
theorem ad0{h:Heap}{v:PV}(hc:closed v=true):DeepC P h v v:=⟨hc,O,λk hk w0 F0 x us R hv=>VRC_sees (qy R) v us hc hv⟩
theorem ri{a b:Nat}(h:Nat.beq a b=true):a=b:=Nat.eq_of_beq_eq_true h
theorem al9{h:Heap}:∀(n:Nat)(v d:PV),deepV P h n v=some d->DeepC P h v d
 |0,v,d,e=>by
  simp only[deepV]at e;cases hc:closed v with
  |true=>rw[hc]at e;simp only[cond_true,Option.some.injEq]at e;subst e;exact ad0 hc
  |false=>rw[hc]at e;cases e
 |n+1,v,d,e=>by
  unfold deepV at e;cases hc:closed v with
  |true=>rw[hc]at e;simp only[cond_true,Option.some.injEq]at e;subst e;exact ad0 hc
  |false=>
   rw[hc]at e;simp only[cond_false]at e;have ih:=al9 (h:=h) n;split at e
   ·rename_i cs;simp only[Option.map_eq_some_iff]at e;obtain⟨ds,h1,rfl⟩:=e;have H:=su ih h1;refine⟨by simpa[closed]using H.closed,rfl,λk hk w0 F0 x us R hv=>?_⟩;simp only[VRC]at hv⊢;exact H.vrl hk R hv
   ·rename_i vs;simp only[Option.map_eq_some_iff]at e;obtain⟨ds,h1,rfl⟩:=e;have H:=su ih h1;refine⟨by simpa[closed]using H.closed,rfl,λk hk w0 F0 x us R hv=>?_⟩;simp only[VRC]at hv⊢;obtain⟨xs,e,hr⟩:=hv;exact⟨xs,e,H.vrv hk R hr⟩
   ·rename_i f a b;split at e
    ·rename_i a' ha;simp only[Option.map_eq_some_iff]at e;obtain⟨b',hb,rfl⟩:=e;have H:=su ih ha;have H2:=su ih hb;refine⟨by simp[closed,H.closed,H2.closed],rfl,λk hk w0 F0 x us R hv=>?_⟩;simp only[VRC]at hv⊢;obtain⟨fs,cs,e,h1,h2⟩:=hv;exact⟨fs,cs,e,H.vrv hk R h1,H2.vrv hk R h2⟩
    ·cases e
   ·rename_i t v;simp only[Option.map_eq_some_iff]at e;obtain⟨d,h1,rfl⟩:=e;have H:=ih _ _ h1;refine⟨by simpa[closed]using H.1,rfl,λk hk w0 F0 x us R hv=>?_⟩;simp only[VRC]at hv⊢;obtain⟨u,e,hr⟩:=hv;refine⟨u,e,?_⟩;rw[H.2.1];exact AsVal.imp (λus hu=>H.2.2 k hk w0 F0 x us R hu) hr
   ·rename_i v;simp only[Option.map_eq_some_iff]at e;obtain⟨d,h1,rfl⟩:=e;have H:=ih _ _ h1;refine⟨by simpa[closed]using H.1,rfl,λk hk w0 F0 x us R hv=>?_⟩;simp only[VRC]at hv⊢;obtain⟨b,o,xs,e,hF,hcs,hr⟩:=hv;exact⟨b,o,xs,e,((qy R).fro b hF).1,sr (qy R) hF hcs,H.2.2 k hk w0 F0 x xs R hr⟩
   ·rename_i t es;simp only[Option.map_eq_some_iff]at e;obtain⟨ds,h1,rfl⟩:=e;have H:=su ih h1;refine⟨by simpa[closed]using H.closed,rfl,λk hk w0 F0 x us R hv=>?_⟩;simp only[VRC]at hv⊢;obtain⟨b,o,cap,sz,e,h2,h3,h4,hr⟩:=hv;rw[<-H.len];exact⟨b,o,cap,sz,e,h2,h3,h4,H.vrm hk R hr⟩
   ·rename_i id ver off m;split at e
    ·rename_i ver' ty mt cs hb;cases hv:Nat.beq ver' ver with
     |false=>rw[hv]at e;cases e
     |true=>
      rw[hv]at e;simp only[cond_true]at e;have hv:=ri hv;subst hv;split at e
      ·rename_i sz agg hi;cases hle:Nat.ble (off+m*sz) cs.length with
       |false=>rw[hle]at e;cases e
       |true=>
        rw[hle]at e;simp only[cond_true]at e;have hle:=Nat.le_of_ble_eq_true hle;split at e
        ·rename_i ds hds;simp only[Option.map_eq_some_iff]at e;obtain⟨es,hes,rfl⟩:=e;have H:=su ih hds;have hl:=H.len;simp only[List.length_take,List.length_drop]at hl;obtain⟨r1,r2,r3⟩:=wx hes V;refine⟨by have:=H.closed;rw[qw r1]at this;simpa[closed]using this,rfl,λk hk w0 F0 x us R hv=>?_⟩;simp only[VRC]at hv⊢;obtain⟨b,cap,hj,e,h1,h2,_⟩:=hv;obtain⟨cur,hcur,hcl,hvr⟩:=lz R (hk _ _ hb) hj;have hF:(⟨x.w,star w0 F0 x.w,noJ⟩:Cx).F b:= .inr (R.own _ _ _ hj);have hall:es.all (λv=>cnt v==some sz)=true:=by
          rw[List.all_eq_true];intro v hv;simp[r3 v hv]
         exact⟨b,off,cap,sz,by rw[e,r2],by omega,h2,by simp,VRM_of_cells hF r1 hall (lr hcur off (m*sz)) (H.vrl hk R (VRL_seg hcl hvr off (m*sz) hle))⟩
        ·cases e
      ·cases e
    ·cases e
   ·rename_i id ver;split at e
    ·rename_i ver' ty mt cs hb;cases hv:Nat.beq ver' ver with
     |false=>rw[hv]at e;cases e
     |true=>
      rw[hv]at e;simp only[cond_true]at e;have hv:=ri hv;subst hv;split at e
      ·rename_i sz agg hi;cases hle:Nat.beq cs.length sz with
       |false=>rw[hle]at e;cases e
       |true=>
        rw[hle]at e;simp only[cond_true]at e;have hle:=ri hle;split at e
        ·rename_i ds hds;split at e
         ·rename_i e' hes;simp only[Option.some.injEq]at e;subst e;have H:=su ih hds;have hl:=H.len;obtain⟨r1,r2,r3⟩:=wx hes V;have hce:e'.cellsOf=some ds:=by
           simp only[rowCells]at r1;split at r1
           ·rename_i c d hce hd;simp only[Option.some.injEq]at hd r1;subst hd;rw[hce,<-r1,List.append_nil]
           ·cases r1
          refine⟨by have:=H.closed;rw[sk hce]at this;simpa[closed]using this,rfl,λk hk w0 F0 x us R hv=>?_⟩;simp only[VRC]at hv⊢;obtain⟨b,hj,e⟩:=hv;obtain⟨cur,hcur,hcl,hvr⟩:=lz R (hk _ _ hb) hj;have hF:(⟨x.w,star w0 F0 x.w,noJ⟩:Cx).F b:= .inr (R.own _ _ _ hj);exact⟨b,0,cur.toList.take cs.length,e,hF,by simpa using lr hcur 0 cs.length,VRC_of_cells hce (H.vrl hk R hvr)⟩
         ·cases e
        ·cases e
      ·cases e
    ·cases e
   ·cases e
def SoftC(P:Program)(h:Heap)(v d:PV):Prop:=closed d=true/\d.isAgg=v.isAgg/\∀k,Sub h k->∀w0 F0 x us,RelP P w0 F0 k x->VRC P x v us->VRC P x d us
def SoftCL(P:Program)(h:Heap):List PV->List PV->Prop
 |[],[]=>True
 |v::vs,d::ds=>SoftC P h v d/\SoftCL P h vs ds
 |_,_=>False
theorem SoftC.soft{h:Heap}{v d:PV}(H:SoftC P h v d):Soft P h v d:=⟨H.1,λk hk w0 F0 x u R hv=>by
 unfold VR at hv⊢;rw[H.2.1];exact AsVal.imp (λus hu=>H.2.2 k hk w0 F0 x us R hu) hv⟩
theorem SoftCL.closed{h:Heap}:∀{vs ds:List PV},SoftCL P h vs ds->closedL ds=true
 |[],[],_=>rfl
 |v::vs,d::ds,H=>by simp[closedL,H.1.1,SoftCL.closed H.2]
 |[],_::_,H=>by simp[SoftCL]at H
 |_::_,[],H=>by simp[SoftCL]at H
theorem SoftCL.soft{h:Heap}:∀{vs ds:List PV},SoftCL P h vs ds->SoftL P h vs ds
 |[],[],_=>trivial
 |v::vs,d::ds,H=>⟨H.1.soft,H.2.soft⟩
 |[],_::_,H=>by simp[SoftCL]at H
 |_::_,[],H=>by simp[SoftCL]at H
theorem SoftCL.len{h:Heap}:∀{vs ds:List PV},SoftCL P h vs ds->vs.length=ds.length
 |[],[],_=>rfl
 |v::vs,d::ds,H=>by simp[H.2.len]
 |[],_::_,H=>by simp[SoftCL]at H
 |_::_,[],H=>by simp[SoftCL]at H
theorem SoftCL.vrl{h k:Heap}(hk:Sub h k){w0:World}{F0:Nat->Prop}{x:Cx}(R:RelP P w0 F0 k x):∀{vs ds:List PV}{us:List Value},SoftCL P h vs ds->VRL P x vs us->VRL P x ds us
 |[],[],us,_,hu=>by cases us with
  |nil=>simp[VRL]
  |cons _ _=>simp[VRL]at hu
 |v::vs,d::ds,us,H,hu=>by
  cases us with
  |nil=>simp[VRL]at hu
  |cons u us=>
   simp only[VRL]at hu⊢;exact⟨hu.1,H.1.2.2 k hk w0 F0 x _ R hu.2.1,H.2.vrl hk R hu.2.2⟩
 |[],_::_,_,H,_=>by simp[SoftCL]at H
 |_::_,[],_,H,_=>by simp[SoftCL]at H
theorem SoftCL.vrv{h k:Heap}(hk:Sub h k){w0:World}{F0:Nat->Prop}{x:Cx}(R:RelP P w0 F0 k x):∀{vs ds:List PV}{us:List Value},SoftCL P h vs ds->VRV P x vs us->VRV P x ds us
 |[],[],us,_,hu=>by cases us with
  |nil=>simp[VRV]
  |cons _ _=>simp[VRV]at hu
 |v::vs,d::ds,us,H,hu=>by
  cases us with
  |nil=>simp[VRV]at hu
  |cons u us=>
   simp only[VRV]at hu⊢;refine⟨?_,H.2.vrv hk R hu.2⟩;rw[H.1.2.1];exact AsVal.imp (λus hu=>H.1.2.2 k hk w0 F0 x us R hu) hu.1
 |[],_::_,_,H,_=>by simp[SoftCL]at H
 |_::_,[],_,H,_=>by simp[SoftCL]at H
theorem SoftCL.vrm{h k:Heap}(hk:Sub h k){w0:World}{F0:Nat->Prop}{x:Cx}(R:RelP P w0 F0 k x){b sz:Nat}:∀{vs ds:List PV}{o:Nat},SoftCL P h vs ds->VRM P x b sz vs o->VRM P x b sz ds o
 |[],[],o,_,hu=>by simp[VRM]
 |v::vs,d::ds,o,H,hu=>by
  simp only[VRM]at hu⊢;obtain⟨⟨hF,xs,hl,hc,hr⟩,hm⟩:=hu;exact⟨⟨hF,xs,hl,hc,H.1.2.2 k hk w0 F0 x _ R hr⟩,H.2.vrm hk R hm⟩
 |[],_::_,_,H,_=>by simp[SoftCL]at H
 |_::_,[],_,H,_=>by simp[SoftCL]at H
def softV(P:Program)(h:Heap):Nat->PV->Option PV
 |0,v=>bif closed v then some v else none
 |n+1,v=>bif closed v then some v else match v with
  | .agg cs=>(mapO (softV P h n) cs).map .agg
  | .tup vs=>(mapO (softV P h n) vs).map .tup
  | .fn f a b=>match mapO (softV P h n) a with
    |some a'=>(mapO (softV P h n) b).map (.fn f a')
    |none=>none
  | .ifc t v=>(softV P h n v).map (.ifc t)
  | .fp v=>(softV P h n v).map .fp
  | .fs t es=>(mapO (softV P h n) es).map (.fs t)
  | .os id ver off m=>match h.bl[id]? with
    |some (.cells ver' ty false cs)=>bif Nat.beq ver' ver then match blkInfo P ty with
      |some (sz,agg)=>bif Nat.ble (off+m*sz) cs.length then match mapO (softV P h n) ((cs.drop off).take (m*sz))with
        |some ds=>(esOf agg sz m ds).map (.fs false)
        |none=>none
       else none
      |none=>none
     else none
    |_=>none
  | .op id ver 0=>match h.bl[id]? with
    |some (.cells ver' ty false cs)=>bif Nat.beq ver' ver then match blkInfo P ty with
      |some (sz,agg)=>bif Nat.beq cs.length sz then match mapO (softV P h n) cs with
        |some ds=>match esOf agg sz 1 ds with
         |some [e]=>some (.fp e)
         |_=>none
        |none=>none
       else none
      |none=>none
     else none
    |_=>none
  |_=>none
theorem rn{h:Heap}{f:PV->Option PV}(hf:∀v d,f v=some d->SoftC P h v d):∀{vs ds:List PV},mapO f vs=some ds->SoftCL P h vs ds
 |[],ds,e=>by simp only[mapO,Option.some.injEq]at e;subst e;trivial
 |v::vs,ds,e=>by
  simp only[mapO]at e;split at e
  ·rename_i d hd;split at e
   ·rename_i ds' hds;simp only[Option.some.injEq]at e;subst e;exact⟨hf v d hd,rn hf hds⟩
   ·cases e
  ·cases e
theorem zn{h:Heap}{v:PV}(hc:closed v=true):SoftC P h v v:=⟨hc,O,λk hk w0 F0 x us R hv=>hv⟩
theorem ba2{h:Heap}:∀(n:Nat)(v d:PV),softV P h n v=some d->SoftC P h v d
 |0,v,d,e=>by
  simp only[softV]at e;cases hc:closed v with
  |true=>rw[hc]at e;simp only[cond_true,Option.some.injEq]at e;subst e;exact zn hc
  |false=>rw[hc]at e;cases e
 |n+1,v,d,e=>by
  unfold softV at e;cases hc:closed v with
  |true=>rw[hc]at e;simp only[cond_true,Option.some.injEq]at e;subst e;exact zn hc
  |false=>
   rw[hc]at e;simp only[cond_false]at e;have ih:=ba2 (h:=h) n;split at e
   ·rename_i cs;simp only[Option.map_eq_some_iff]at e;obtain⟨ds,h1,rfl⟩:=e;have H:=rn ih h1;refine⟨by simpa[closed]using H.closed,rfl,λk hk w0 F0 x us R hv=>?_⟩;simp only[VRC]at hv⊢;exact H.vrl hk R hv
   ·rename_i vs;simp only[Option.map_eq_some_iff]at e;obtain⟨ds,h1,rfl⟩:=e;have H:=rn ih h1;refine⟨by simpa[closed]using H.closed,rfl,λk hk w0 F0 x us R hv=>?_⟩;simp only[VRC]at hv⊢;obtain⟨xs,e,hr⟩:=hv;exact⟨xs,e,H.vrv hk R hr⟩
   ·rename_i f a b;split at e
    ·rename_i a' ha;simp only[Option.map_eq_some_iff]at e;obtain⟨b',hb,rfl⟩:=e;have H:=rn ih ha;have H2:=rn ih hb;refine⟨by simp[closed,H.closed,H2.closed],rfl,λk hk w0 F0 x us R hv=>?_⟩;simp only[VRC]at hv⊢;obtain⟨fs,cs,e,h1,h2⟩:=hv;exact⟨fs,cs,e,H.vrv hk R h1,H2.vrv hk R h2⟩
    ·cases e
   ·rename_i t v;simp only[Option.map_eq_some_iff]at e;obtain⟨d,h1,rfl⟩:=e;have H:=ih _ _ h1;refine⟨by simpa[closed]using H.1,rfl,λk hk w0 F0 x us R hv=>?_⟩;simp only[VRC]at hv⊢;obtain⟨u,e,hr⟩:=hv;refine⟨u,e,?_⟩;rw[H.2.1];exact AsVal.imp (λus hu=>H.2.2 k hk w0 F0 x us R hu) hr
   ·rename_i v;simp only[Option.map_eq_some_iff]at e;obtain⟨d,h1,rfl⟩:=e;have H:=ih _ _ h1;refine⟨by simpa[closed]using H.1,rfl,λk hk w0 F0 x us R hv=>?_⟩;simp only[VRC]at hv⊢;obtain⟨b,o,xs,e,hF,hcs,hr⟩:=hv;exact⟨b,o,xs,e,hF,hcs,H.2.2 k hk w0 F0 x xs R hr⟩
   ·rename_i t es;simp only[Option.map_eq_some_iff]at e;obtain⟨ds,h1,rfl⟩:=e;have H:=rn ih h1;refine⟨by simpa[closed]using H.closed,rfl,λk hk w0 F0 x us R hv=>?_⟩;simp only[VRC]at hv⊢;obtain⟨b,o,cap,sz,e,h2,h3,h4,hr⟩:=hv;rw[<-H.len];exact⟨b,o,cap,sz,e,h2,h3,h4,H.vrm hk R hr⟩
   ·rename_i id ver off m;split at e
    ·rename_i ver' ty cs hb;cases hv:Nat.beq ver' ver with
     |false=>rw[hv]at e;cases e
     |true=>
      rw[hv]at e;simp only[cond_true]at e;have hv:=ri hv;subst hv;split at e
      ·rename_i sz agg hi;cases hle:Nat.ble (off+m*sz) cs.length with
       |false=>rw[hle]at e;cases e
       |true=>
        rw[hle]at e;simp only[cond_true]at e;have hle:=Nat.le_of_ble_eq_true hle;split at e
        ·rename_i ds hds;simp only[Option.map_eq_some_iff]at e;obtain⟨es,hes,rfl⟩:=e;have H:=rn ih hds;have hl:=H.len;simp only[List.length_take,List.length_drop]at hl;obtain⟨r1,r2,r3⟩:=wx hes V;refine⟨by have:=H.closed;rw[qw r1]at this;simpa[closed]using this,rfl,λk hk w0 F0 x us R hv=>?_⟩;simp only[VRC]at hv⊢;obtain⟨b,cap,hj,e,h1,h2,_⟩:=hv;obtain⟨cur,hcur,hcl,hvr⟩:=lz R (hk _ _ hb) hj;have hF:x.F b:=(R.hr _ _ (hk _ _ hb) b hj).2;have hall:es.all (λv=>cnt v==some sz)=true:=by
          rw[List.all_eq_true];intro v hv;simp[r3 v hv]
         exact⟨b,off,cap,sz,by rw[e,r2],by omega,h2,by simp,VRM_of_cells hF r1 hall (lr hcur off (m*sz)) (H.vrl hk R (VRL_seg hcl hvr off (m*sz) hle))⟩
        ·cases e
      ·cases e
    ·cases e
   ·rename_i id ver;split at e
    ·rename_i ver' ty cs hb;cases hv:Nat.beq ver' ver with
     |false=>rw[hv]at e;cases e
     |true=>
      rw[hv]at e;simp only[cond_true]at e;have hv:=ri hv;subst hv;split at e
      ·rename_i sz agg hi;cases hle:Nat.beq cs.length sz with
       |false=>rw[hle]at e;cases e
       |true=>
        rw[hle]at e;simp only[cond_true]at e;have hle:=ri hle;split at e
        ·rename_i ds hds;split at e
         ·rename_i e' hes;simp only[Option.some.injEq]at e;subst e;have H:=rn ih hds;have hl:=H.len;obtain⟨r1,r2,r3⟩:=wx hes V;have hce:e'.cellsOf=some ds:=by
           simp only[rowCells]at r1;split at r1
           ·rename_i c d hce hd;simp only[Option.some.injEq]at hd r1;subst hd;rw[hce,<-r1,List.append_nil]
           ·cases r1
          refine⟨by have:=H.closed;rw[sk hce]at this;simpa[closed]using this,rfl,λk hk w0 F0 x us R hv=>?_⟩;simp only[VRC]at hv⊢;obtain⟨b,hj,e⟩:=hv;obtain⟨cur,hcur,hcl,hvr⟩:=lz R (hk _ _ hb) hj;have hF:x.F b:=(R.hr _ _ (hk _ _ hb) b hj).2;exact⟨b,0,cur.toList.take cs.length,e,hF,by simpa using lr hcur 0 cs.length,VRC_of_cells hce (H.vrl hk R hvr)⟩
         ·cases e
        ·cases e
      ·cases e
    ·cases e
   ·cases e
end
theorem SoftL.deep{P:Program}{h:Heap}:∀{vs ds:List PV},SoftL P h vs ds->DeepL P h vs ds
 |[],[],_=>trivial
 |v::vs,d::ds,H=>⟨⟨H.1.1,λk hk w0 F0 x u R hv=>VR_sees (qy R) H.1.1 (H.1.2 k hk w0 F0 x u R hv)⟩,SoftL.deep H.2⟩
 |[],_::_,H=>by simp[SoftL]at H
 |_::_,[],H=>by simp[SoftL]at H
def idAt:PV->Option Nat
 | .op id _ _=>some id
 | .os id _ _ _=>some id
 |_=>none
def frzB(id:Nat)(h:Heap):Heap:=match h.bl[id]? with
 |some (.cells ver ty true cs)=>hput h id (.cells ver ty false cs)
 |_=>h
def frzS(E:TEnv):List Tmp->Heap->Heap
 |[],h=>h
 |t::r,h=>match look t E with
  |some v=>match idAt v with
   |some id=>frzS E r (frzB id h)
   |none=>frzS E r h
  |none=>frzS E r h
theorem cj4{P:Program}(T:Nat->PV)(id:Nat)(h:Heap):Wk P T h T (frzB id h):=by
 unfold frzB;split
 ·rename_i ver ty cs hb;intro w0 F0 n x a R hT;obtain⟨y,ew,eJ,Ex,hF,R'⟩:=R.freeze (show blk h id=_ from hb);exact⟨y,ew,Ex,R',hT.ext Ex⟩
 ·exact Wk.refl T h
theorem ag9{P:Program}(T:Nat->PV)(E:TEnv):∀(l:List Tmp)(h:Heap),Wk P T h T (frzS E l h)
 |[],h=>Wk.refl T h
 |t::r,h=>by
  unfold frzS;split
  ·split
   ·exact(cj4 T _ h).trans (ag9 T E r _)
   ·exact ag9 T E r h
  ·exact ag9 T E r h
structure FT(P:Program) where
 fz:List Tmp
 f:FuncId
 own:List Tmp
 n:Nat
 np:Nat
 ac:AC
 rs:List (Tmp×Option (Nat×Bool))
 X:FnText P f own n np ac rs
def findF{P:Program}(g:FuncId):List (FT P)->Option (FT P)
 |[]=>none
 |t::r=>bif Nat.beq t.f g then some t else findF g r
theorem bb2{P:Program}{g:FuncId}:∀{tb:List (FT P)}{t:FT P},findF g tb=some t->t.f=g
 |[],t,h=>by simp[findF]at h
 |u::r,t,h=>by
  simp only[findF]at h;cases hb:Nat.beq u.f g with
  |true=>rw[hb]at h;simp only[cond_true,Option.some.injEq]at h;subst h;exact ri hb
  |false=>rw[hb]at h;exact bb2 h
def envT(E:TEnv):Nat->PV:=λt=>(look t E).getD (.tup [])
def putE(d:Nat)(v:PV):TEnv->TEnv
 |[]=>[(d,v)]
 |(k,u)::r=>bif Nat.beq k d then(d,v)::r else(k,u)::putE d v r
def putO(d:Option Nat)(v:PV)(E:TEnv):TEnv:=match d with
 |some d=>putE d v E
 |none=>E
theorem bb9(d:Nat)(v:PV)(t:Nat):∀E:TEnv,look t (putE d v E)=if t=d then some v else look t E
 |[]=>by
  by_cases h:t=d
  ·subst h;simp[putE,look]
  ·simp[putE,look,h,vn h]
 |(k,u)::r=>by
  simp only[putE];cases hb:Nat.beq k d with
  |true=>
   have hb:=ri hb;subst hb;by_cases h:t=k
   ·subst h;simp[look]
   ·simp[look,h,vn h]
  |false=>
   have hne:¬k=d:=λe=>by subst e;simp at hb
   simp only[cond_false,look,bb9 d v t r];by_cases h:t=k
   ·subst h;simp[hne]
   ·simp[vn h]
theorem vq(d:Option Nat)(v:PV)(E:TEnv):envT (putO d v E)=updO (envT E) d v:=by
 cases d with
 |none=>rfl
 |some d=>
  funext t
  simp only[putO,envT,updO,upd,bb9];by_cases h:t=d<;>simp[h]
def envOf:Nat->List PV->TEnv
 |_,[]=>[]
 |k,v::r=>(k,v)::envOf (k+1) r
theorem am4:∀(as:List PV)(k t:Nat),(look t (envOf k as)).getD (.tup [])=if k<=t then as.getD (t-k) (.tup [])else .tup []
 |[],k,t=>by simp[envOf,look]
 |v::r,k,t=>by
  simp only[envOf,look];by_cases h:t=k
  ·subst h;simp
  ·rw[vn h];simp only[cond_false,am4 r (k+1) t];by_cases h2:k<=t
   ·have e:t-k=(t-(k+1))+1:=by omega
    rw[if_pos h2,if_pos V,e,List.getD_cons_succ]
   ·rw[if_neg h2,if_neg V]
theorem ap0(as:List PV):envT (envOf 0 as)=tf as:=by
 funext t
 simp only[envT,am4,tf,Nat.zero_le,if_true,Nat.sub_zero]
abbrev Ev:=List Tmp->AC->TEnv->Heap->Option (Exit×TEnv×Heap)
def callE{P:Program}(tb:List (FT P))(ev:Ev)(g:FuncId)(as:List PV)(h:Heap):Option (PV×Heap):=match findF g tb with
 |some t=>bif Nat.ble as.length t.np then match ev t.fz t.ac (envOf 0 as) h with
   |some (.normal,E,h')=>match resV P (envT E) h' t.rs with
    |some vs=>some (retV vs,h')
    |none=>none
   |some (.ret,E,h')=>match resV P (envT E) h' t.rs with
    |some vs=>some (retV vs,h')
    |none=>none
   |_=>none
  else none
 |none=>none
def callP{P:Program}(tb:List (FT P))(ev:Ev)(g:FuncId)(as:List PV):Option PV:=match callE tb ev g as ⟨0,[]⟩with
 |some (v,h')=>deepV P h' 40 v
 |none=>none
def callD{P:Program}(tb:List (FT P))(ev:Ev)(g:FuncId)(as:List PV)(h:Heap):Option PV:=
 bif closedL as then callP tb ev g as else match mapO (softV P h 40) as with
  |some ds=>callP tb ev g ds
  |none=>match mapO (deepV P h 40) as with
   |some ds=>match callP tb ev g ds with
    |some r=>bif flat r then some r else none
    |none=>none
   |none=>none
def opE{P:Program}(tb:List (FT P))(evl:Ev)(draw:Bool)(o:AOp)(hf:Bool)(T:Nat->PV)(h:Heap):Option (PV×Heap):=
 match o.kind with
 |0=>match opQ P T (seen hf h) o with
  |some r=>some (r,h)
  |none=>none
 |1=>opL T h o
 |2=>match o with
  | .call f args=>match callee (ev T f) (args.map (ev T))with
    |some (g,as)=>bif draw then(match callD tb evl g as (seen hf h)with
      |some r=>some (r,h)
      |none=>none)else callE tb evl g as h
    |none=>none
  |_=>none
 |_=>none
def opsE{P:Program}(tb:List (FT P))(evl:Ev)(fz:List Tmp)(draw:Bool):List AOper->TEnv->Heap->Option (TEnv×Heap)
 |[],E,h=>bif draw then some (E,h)else some (E,frzS E fz h)
 |o::r,E,h=>match guardF (envT E) o.guard with
  |some true=>match opE tb evl draw o.op o.hf (envT E) h with
   |some (v,h')=>opsE tb evl fz draw r (putO o.dst v E) h'
   |none=>none
  |some false=>opsE tb evl fz draw r (putO o.dst (.tup []) E) h
  |none=>none
def opsU{P:Program}(tb:List (FT P))(evl:Ev):List AOper->TEnv->Heap->Option (TEnv×Heap)
 |[],E,h=>some (E,h)
 |o::r,E,h=>match opE tb evl false o.op o.hf (envT E) h with
   |some (v,h')=>opsU tb evl r (putO o.dst v E) h'
   |none=>none
def stepC{P:Program}(tb:List (FT P))(evl:Ev):Ev:=λfz c E h=>match c with
 | .skip=>some (.normal,E,h)
 | .region d ops=>match opsE tb evl fz d ops E h with
   |some (E',h')=>some (.normal,E',h')
   |none=>none
 | .regionU al=>match opsU tb evl al E h with
   |some (E',h')=>some (.normal,E',h')
   |none=>none
 | .regionT al la=>match opsE tb evl fz true al E h with
   |some (E',h')=>match opsE tb evl fz false [la] E' h' with
    |some (E2,h2)=>some (.normal,E2,h2)
    |none=>none
   |none=>none
 | .seq a b=>match evl fz a E h with
   |some (.normal,E',h')=>evl fz b E' h'
   |r=>r
 | .cond c a b=>match ev (envT E) c with
   | .sc (.bool true)=>evl fz a E h
   | .sc (.bool false)=>evl fz b E h
   |_=>none
 | .block id b=>match evl fz b E h with
   |some (.exit i,E',h')=>bif Nat.beq i id then some (.normal,E',h')else some (.exit i,E',h')
   |r=>r
 | .loop b=>match evl fz b E h with
   |some (.normal,E',h')=>evl fz (.loop b) E' h'
   |r=>r
 | .exit id=>some (.exit id,E,h)
 | .ret=>some (.ret,E,h)
 | .scope b=>match evl fz b E h with
   |some (.goto _,_,_)=>none
   |r=>r
def runE{P:Program}(tb:List (FT P))(n:Nat):Ev:=Nat.rec (λ_ _ _ _=>none) (λ_ ih=>stepC tb ih) n
section
variable{P:Program}{tb:List (FT P)}
def EvOk(P:Program)(e:Ev):Prop:=∀fz c E h x E' h',e fz c E h=some (x,E',h')->∀Q:Post,Q x (envT E') h'->wpC P c Q (envT E) h
theorem az7{e:Ev}(H:EvOk P e){g:FuncId}{as:List PV}{h h':Heap}{v:PV}(k:callE tb e g as h=some (v,h')):∃t∈tb,t.f=g/\as.length<=t.np/\∀K:PV->Heap->Prop,K v h'->wpC P t.ac (retPost P t.rs K) (tf as) h:=by
 have mem:∀{tb:List (FT P)}{t:FT P},findF g tb=some t->t∈tb:=by
  intro tb;induction tb with
  |nil=>intro t h;simp[findF]at h
  |cons u r ih=>
   intro t h;simp only[findF]at h;cases hb:Nat.beq u.f g with
   |true=>rw[hb]at h;simp only[cond_true,Option.some.injEq]at h;subst h;exact List.mem_cons_self ..
   |false=>rw[hb]at h;exact List.mem_cons_of_mem _ (ih h)
 unfold callE at k;split at k
 ·rename_i t ht;refine⟨t,mem ht,bb2 ht,?_⟩;cases hl:Nat.ble as.length t.np with
  |false=>rw[hl]at k;cases k
  |true=>
   rw[hl]at k;simp only[cond_true]at k;refine⟨Nat.le_of_ble_eq_true hl,λK hK=>?_⟩;split at k
   ·rename_i E h2 he;split at k
    ·rename_i vs hvs;simp only[Option.some.injEq,Prod.mk.injEq]at k;obtain⟨rfl,rfl⟩:=k;have:=H _ _ _ _ _ _ _ he (retPost P t.rs K) ⟨vs,hvs,hK⟩
     rwa [ap0]at this
    ·cases k
   ·rename_i E h2 he;split at k
    ·rename_i vs hvs;simp only[Option.some.injEq,Prod.mk.injEq]at k;obtain⟨rfl,rfl⟩:=k;have:=H _ _ _ _ _ _ _ he (retPost P t.rs K) ⟨vs,hvs,hK⟩
     rwa [ap0]at this
    ·cases k
   ·cases k
 ·cases k
theorem ab4{e:Ev}(H:EvOk P e){g:FuncId}{as:List PV}{r:PV}(k:callP tb e g as=some r):FnR P g as r:=by
 unfold callP at k;split at k
 ·rename_i v h' hc;obtain⟨t,_,rfl,hl,hw⟩:=az7 H hc;exact FnR.mk t.X hl (hw _ (al9 _ _ _ k).deep)
 ·cases k
theorem br0{e:Ev}(H:EvOk P e){g:FuncId}{as:List PV}{h:Heap}{r:PV}(k:callD tb e g as h=some r):CallD P h g as r:=by
 unfold callD at k;cases hc:closedL as with
 |true=>rw[hc]at k;exact .inl ⟨hc,ab4 H k⟩
 |false=>
  rw[hc]at k;simp only[cond_false]at k;split at k
  ·rename_i ds hds;have hs:=(rn (ba2 40) hds).soft;exact .inr ⟨ds,hs.deep,ab4 H k,.inr hs⟩
  ·split at k
   ·rename_i ds hds;split at k
    ·rename_i r' hr;cases hf:flat r' with
     |false=>rw[hf]at k;cases k
     |true=>
      rw[hf]at k;simp only[cond_true,Option.some.injEq]at k;subst k;exact .inr ⟨ds,(su (al9 40) hds).deep,ab4 H hr,.inl hf⟩
    ·cases k
   ·cases k
theorem ea1{e:Ev}(H:EvOk P e){o:AOp}{hf:Bool}{T:Nat->PV}{h h':Heap}{v:PV}(k:opE tb e true o hf T h=some (v,h')){K:PV->Heap->Prop}(hK:K v h'):OpD P o hf T h K:=by
 unfold opE at k;unfold OpD;split at k
 ·rename_i hk;rw[hk];split at k
  ·rename_i r hr;simp only[Option.some.injEq,Prod.mk.injEq]at k;obtain⟨rfl,rfl⟩:=k;exact⟨_,hr,hK⟩
  ·cases k
 ·rename_i hk;rw[hk];exact⟨v,h',k,hK⟩
 ·rename_i hk;rw[hk];split at k
  ·rename_i f args;split at k
   ·rename_i g as hca;simp only[cond_true]at k;split at k
    ·rename_i r hr;simp only[Option.some.injEq,Prod.mk.injEq]at k;obtain⟨rfl,rfl⟩:=k;exact⟨g,as,hca,_,br0 H hr,hK⟩
    ·cases k
   ·cases k
  ·cases k
 ·cases k
theorem dc2{e:Ev}(H:EvOk P e){o:AOp}{hf:Bool}{T:Nat->PV}{h h':Heap}{v:PV}(k:opE tb e false o hf T h=some (v,h')){K:PV->Heap->Prop}(hK:K v h'):OpS P o hf T h K:=by
 unfold opE at k;unfold OpS OpD;split at k
 ·rename_i hk;rw[hk];left;split at k
  ·rename_i r hr;simp only[Option.some.injEq,Prod.mk.injEq]at k;obtain⟨rfl,rfl⟩:=k;exact⟨_,hr,hK⟩
  ·cases k
 ·rename_i hk;rw[hk];exact .inl ⟨v,h',k,hK⟩
 ·right;split at k
  ·rename_i f args;split at k
   ·rename_i g as hca;simp only[cond_false]at k;obtain⟨t,_,rfl,hl,hw⟩:=az7 H k;exact .inl ⟨_,_,_,as,v,h',O,hca,FnH.mk t.X hl (hw _ ⟨O,O⟩),hK⟩
   ·cases k
  ·cases k
 ·cases k
theorem as4{e:Ev}(H:EvOk P e){K:(Nat->PV)->Heap->Prop}:∀{fz:List Tmp}{al:List AOper}{E E':TEnv}{h h':Heap},opsE tb e fz true al E h=some (E',h')->K (envT E') h'->wpD P al (envT E) h K
 |fz,[],E,E',h,h',k,hK=>by
  simp only[opsE,cond_true,Option.some.injEq,Prod.mk.injEq]at k;obtain⟨rfl,rfl⟩:=k;exact hK
 |fz,o::r,E,E',h,h',k,hK=>by
  simp only[opsE]at k;split at k
  ·rename_i hg;split at k
   ·rename_i v h2 ho;exact⟨true,hg,λ_=>ea1 H ho (by rw[<-vq];exact as4 H k hK),λe=>by cases e⟩
   ·cases k
  ·rename_i hg;exact⟨false,hg,λe=>by(cases e),λ_=>by rw[<-vq];exact as4 H k hK⟩
  ·cases k
theorem av8{e:Ev}(H:EvOk P e){K:(Nat->PV)->Heap->Prop}:∀{fz:List Tmp}{al:List AOper}{E E':TEnv}{h h':Heap},opsE tb e fz false al E h=some (E',h')->K (envT E') h'->wpS P al (envT E) h K
 |fz,[],E,E',h,h',k,hK=>by
  simp only[opsE,cond_false,Option.some.injEq,Prod.mk.injEq]at k;obtain⟨rfl,rfl⟩:=k;exact⟨_,_,ag9 _ _ _ _,hK⟩
 |fz,o::r,E,E',h,h',k,hK=>by
  simp only[opsE]at k;split at k
  ·rename_i hg;split at k
   ·rename_i v h2 ho;exact⟨_,_,Wk.refl _ _,true,hg,λ_=>dc2 H ho (by rw[<-vq];exact av8 H k hK),λe=>by cases e⟩
   ·cases k
  ·rename_i hg;exact⟨_,_,Wk.refl _ _,false,hg,λe=>by(cases e),λ_=>by rw[<-vq];exact av8 H k hK⟩
  ·cases k
theorem bi8{e:Ev}(H:EvOk P e){K:(Nat->PV)->Heap->Prop}:∀{al:List AOper}{E E':TEnv}{h h':Heap},opsU tb e al E h=some (E',h')->K (envT E') h'->wpU P al (envT E) h K
 |[],E,E',h,h',k,hK=>by
  simp only[opsU,Option.some.injEq,Prod.mk.injEq]at k;obtain⟨rfl,rfl⟩:=k;exact hK
 |o::r,E,E',h,h',k,hK=>by
  simp only[opsU]at k;split at k
  ·rename_i v h2 ho;exact dc2 H ho (by rw[<-vq];exact bi8 H k hK)
  ·cases k
theorem bv7{e:Ev}(H:EvOk P e):EvOk P (stepC tb e):=by
 intro fz c E h x E' h' k Q hQ;unfold stepC at k;cases c with
 |skip=>
  simp only[Option.some.injEq,Prod.mk.injEq]at k;obtain⟨rfl,rfl,rfl⟩:=k;exact hQ
 |exit id=>
  simp only[Option.some.injEq,Prod.mk.injEq]at k;obtain⟨rfl,rfl,rfl⟩:=k;exact hQ
 |ret=>
  simp only[Option.some.injEq,Prod.mk.injEq]at k;obtain⟨rfl,rfl,rfl⟩:=k;exact hQ
 |regionU al=>
  simp only at k;split at k
  ·rename_i E1 h1 ho;simp only[Option.some.injEq,Prod.mk.injEq]at k;obtain⟨rfl,rfl,rfl⟩:=k;exact bi8 H ho hQ
  ·cases k
 |regionT al la=>
  simp only at k;split at k
  ·rename_i E1 h1 ho;split at k
   ·rename_i E2 h2 ho2;simp only[Option.some.injEq,Prod.mk.injEq]at k;obtain⟨rfl,rfl,rfl⟩:=k;exact as4 H ho (av8 H ho2 hQ)
   ·cases k
  ·cases k
 |region d ops=>
  simp only at k;split at k
  ·rename_i E2 h2 ho;simp only[Option.some.injEq,Prod.mk.injEq]at k;obtain⟨rfl,rfl,rfl⟩:=k;cases d with
   |true=>exact .inl (as4 H ho hQ)
   |false=>exact .inr ⟨O,av8 H ho hQ⟩
  ·cases k
 |seq a b=>
  simp only at k;split at k
  ·rename_i E2 h2 ha;exact H _ _ _ _ _ _ _ ha _ (H _ _ _ _ _ _ _ k Q hQ)
  ·rename_i hne;refine H _ _ _ _ _ _ _ k _ ?_;cases x with
   |normal=>exact absurd k (hne _ _)
   |_=>exact hQ
 |cond c a b=>
  simp only at k;split at k
  ·rename_i hc;exact⟨true,hc,λ_=>H _ _ _ _ _ _ _ k Q hQ,λe=>by cases e⟩
  ·rename_i hc;exact⟨false,hc,λe=>by(cases e),λ_=>H _ _ _ _ _ _ _ k Q hQ⟩
  ·cases k
 |block id b=>
  simp only at k;split at k
  ·rename_i i E2 h2 hb;refine H _ _ _ _ _ _ _ hb _ ?_;cases hi:Nat.beq i id with
   |true=>
    rw[hi]at k;simp only[cond_true,Option.some.injEq,Prod.mk.injEq]at k;obtain⟨rfl,rfl,rfl⟩:=k;simp[inBlk,ri hi,hQ]
   |false=>
    rw[hi]at k;simp only[cond_false,Option.some.injEq,Prod.mk.injEq]at k;obtain⟨rfl,rfl,rfl⟩:=k;have hne:¬i=id:=λe=>by subst e;simp at hi
    simp[inBlk,hne,hQ]
  ·rename_i hne;refine H _ _ _ _ _ _ _ k _ ?_;cases x with
   |exit i=>exact absurd k (hne _ _ _)
   |_=>exact hQ
 |loop b=>
  simp only at k;refine ag1 ?_;split at k
  ·rename_i E2 h2 ha;exact H _ _ _ _ _ _ _ ha _ (H _ _ _ _ _ _ _ k Q hQ)
  ·rename_i hne;refine H _ _ _ _ _ _ _ k _ ?_;cases x with
   |normal=>exact absurd k (hne _ _)
   |_=>exact hQ
 |scope b=>
  simp only at k;split at k
  ·cases k
  ·rename_i hne;refine H _ _ _ _ _ _ _ k _ ?_;cases x with
   |goto i=>exact absurd k (hne _ _ _)
   |_=>exact hQ
theorem bj0:∀n:Nat,EvOk P (runE tb n)
 |0=>λfz c E h x E' h' k=>by cases k
 |n+1=>bv7 (bj0 n)
theorem cg9{n:Nat}{g:FuncId}{as:List PV}{r:PV}(k:callP tb (runE tb n) g as=some r):FnR P g as r:=ab4 (bj0 n) k
def isB:Option PV->Bool
 |some (.sc (.bool b))=>b
 |_=>false
theorem cf2{n:Nat}{g:FuncId}{as:List PV}(k:isB (callP tb (runE tb n) g as)=true):FnR P g as (vb true):=by
 refine cg9 (tb:=tb) (n:=n) ?_;unfold isB at k;split at k
 ·rename_i b hb;rw[hb,k]
 ·cases k
end
end Go.Pb
