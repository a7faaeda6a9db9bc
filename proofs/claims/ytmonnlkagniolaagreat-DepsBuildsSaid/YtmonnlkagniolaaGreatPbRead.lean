import Derived.Test.YtmonnlkagniolaaGreatPbBool
import Derived.ProofKit
import Derived.Deep.Slices
set_option linter.all false
namespace Go.Pb
open Go Go.RowKit
def valC(P:Program)(t:TypeId)(cs:List PV):PV:=match P.underlying t with
 |some d=>bif aggD d then .agg cs else cs.headD .junk
 |none=> .junk
def HasC(P:Program):Nat->TypeId->List PV->Prop
 |0,_,_=>False
 |n+1,t,cs=>match P.underlying t with
  |some .bool=>∃b,cs=[.sc (.bool b)]
  |some (.int k)=>∃m,cs=[.sc (.int k m)]/\(Lit.int k m).wf=true
  |some .string=>∃s,cs=[.sc (.string s)]/\s.size<=maxLen
  |some (.pointer e)=>cs=[.sc (.pointer none)]\/(∃ds,cs=[.fp (valC P e ds)]/\ds.length=P.cellsOf e/\HasC P n e ds)\/(P.cellsOf e=0/\∃a,cs=[.sc (.pointer a)])
  |some (.slice e)=>(∃ad,cs=[.sc (.slice ad 0 0)])\/∃L:List (List PV),cs=[.fs false (L.map (valC P e))]/\L.length<=maxLen/\∀ds∈L,ds.length=P.cellsOf e/\HasC P n e ds
  |some (.struct fs)=>cs.length=P.cellsOf t/\∀f∈fs.toList,HasC P n f.type ((cs.drop f.offset).take (P.cellsOf f.type))
  |some (.array k e)=>cs.length=P.cellsOf t/\∀i,i < k->HasC P n e ((cs.drop (i*P.cellsOf e)).take (P.cellsOf e))
  |some _=>∃v,cs=[.sc v]
  |none=>False
def tiled(P:Program):List Field->Nat->Nat->Bool
 |[],off,total=>off==total
 |f::fs,off,total=>f.offset==off&&tiled P fs (off+P.cellsOf f.type) total
def okT(P:Program)(t:TypeId):Bool:=match P.underlying t with
 |some (.struct fs)=>tiled P fs.toList 0 (P.cellsOf t)&&fs.toList.all λf=>decide (f.type < P.types.size)
 |some (.slice e)=>decide (0 < P.cellsOf e)&&decide (e < P.types.size)
 |some (.pointer e)=>decide (e < P.types.size)
 |some (.array k e)=>k*P.cellsOf e==P.cellsOf t&&decide (e < P.types.size)
 |_=>true
def okTs(P:Program):Bool:=(List.range P.types.size).all (okT P)
theorem do1{P:Program}(h:okTs P=true){t:TypeId}(hlt:t < P.types.size):okT P t=true:=by
 unfold okTs at h;rw[List.all_eq_true]at h;exact h t (List.mem_range.2 hlt)
section
variable{P:Program}{w:World}
abbrev rdX(w:World):Cx:=⟨w,λb=>b < w.heap.size,noJ⟩
theorem VRL_nil:VRL P (rdX w) [] []:=by simp[VRL]
theorem VRL_1{c:PV}{u:Value}(h1:u.oneCell'=true)(h2:VRC P (rdX w) c [u]):VRL P (rdX w) [c] [u]:=by simp[VRL,h1,h2]
theorem cw3{a:Addr}{v:Value}(h:w.cell? a=some v):a.block < w.heap.size/\a.spot=none:=by
 unfold World.cell? at h;split at h
 ·rename_i c _ _ hb;refine⟨(Array.getElem?_eq_some_iff.1 hb).1,?_⟩;cases hs:a.spot with
  |none=>rfl
  |some s=>simp[hs]at h
 ·cases h
theorem zp{b o n:Nat}{sp:Option Nat}{us:List Value}(h:w.cells? 0 ⟨b,o,sp⟩ n=some us)(hn:0 < n):us.length=n/\b < w.heap.size/\sp=none/\cellsAt w b o us:=by
 obtain⟨_,hl,hc⟩:=World.cells?_some h;have h0:=hc 0 hn;rw[List.getElem?_eq_getElem V]at h0;have:=cw3 h0;have e:sp=none:=this.2;subst e;refine⟨hl,this.1,O,λj u hj=>?_⟩;have hlt:=(List.getElem?_eq_some_iff.1 hj).1;have:=hc j V;rw[hj,Addr.add_lit]at this;exact this
theorem aw2{t:TypeId}{cs:List PV}{us:List Value}{d:TypeDesc}(hd:P.underlying t=some d)(hag:aggD d=false->∃c,cs=[c])(h:VRL P (rdX w) cs us):VRC P (rdX w) (valC P t cs) us:=by
 simp only[valC,hd];cases ha:aggD d with
 |true=>simpa only[cond_true,VRC]using h
 |false=>
  obtain⟨c,rfl⟩:=hag ha;simp only[cond_false,List.headD_cons];cases us with
  |nil=>simp[VRL]at h
  |cons u us=>
   simp only[VRL]at h;obtain⟨_,h2,h3⟩:=h;cases us with
   |nil=>exact h2
   |cons _ _=>simp[VRL]at h3
theorem HasC.one{n:Nat}{t:TypeId}{cs:List PV}{d:TypeDesc}(h:HasC P n t cs)(hd:P.underlying t=some d)(ha:aggD d=false):∃c,cs=[c]:=by
 cases n with
 |zero=>exact h.elim
 |succ n=>
  simp only[HasC,hd]at h;cases d with
  |bool=>obtain⟨b,h⟩:=h;exact⟨_,h⟩
  |int k=>obtain⟨b,h,_⟩:=h;exact⟨_,h⟩
  |string=>obtain⟨b,h,_⟩:=h;exact⟨_,h⟩
  |pointer e=>rcases h with h|⟨ds,h,_⟩|⟨_,_,h⟩<;>exact⟨_,h⟩
  |slice e=>rcases h with⟨ad,h⟩|⟨ds,h,_⟩<;>exact⟨_,h⟩
  |struct fs=>cases ha
  |array k e=>cases ha
  |_=>obtain⟨b,h⟩:=h;exact⟨_,h⟩
theorem HasC.flatCell{n:Nat}{t:TypeId}{c:PV}{d:TypeDesc}(h:HasC P n t [c])(hd:P.underlying t=some d)(ha:aggD d=false):c.isAgg=false:=by
 cases n with
 |zero=>exact h.elim
 |succ n=>
  simp only[HasC,hd]at h;cases d with
  |bool=>obtain⟨b,h⟩:=h;simp only[List.cons.injEq,and_true]at h;subst h;rfl
  |int k=>obtain⟨b,h,_⟩:=h;simp only[List.cons.injEq,and_true]at h;subst h;rfl
  |string=>obtain⟨b,h,_⟩:=h;simp only[List.cons.injEq,and_true]at h;subst h;rfl
  |pointer e=>rcases h with h|⟨ds,h,_⟩|⟨_,_,h⟩<;>simp only[List.cons.injEq,and_true]at h<;>subst h<;>rfl
  |slice e=>rcases h with⟨ad,h⟩|⟨ds,h,_⟩<;>simp only[List.cons.injEq,and_true]at h<;>subst h<;>rfl
  |struct fs=>cases ha
  |array k e=>cases ha
  |_=>obtain⟨b,h⟩:=h;simp only[List.cons.injEq,and_true]at h;subst h;rfl
theorem ag2{H:Type}{enc:TypeId×Value->H}{n:Nat}(ih:∀(t:TypeId) us y,t < P.types.size->DataW.trod enc P w 0 (λ_=>true) true n t us=some y->∃cs,HasC P n t cs/\VRL P (rdX w) cs us)(us:List Value)(total:Nat)(hus:us.length=total):
 ∀(fl:List Field)(off:Nat)(ys:List (DataW H×List MemPlace)),tiled P fl off total=true->off<=total->(∀f∈fl,f.type < P.types.size)->
  (fl.mapM λf=>DataW.trod enc P w 0 (λ_=>true) true n f.type ((us.drop f.offset).take (P.cellsOf f.type)))=some ys->
  ∃cs,VRL P (rdX w) cs (us.drop off)/\∀f∈fl,off<=f.offset/\HasC P n f.type ((cs.drop (f.offset-off)).take (P.cellsOf f.type))
 |[],off,ys,ht,ho,hs,hm=>by
  simp only[tiled,beq_iff_eq]at ht;subst ht;exact⟨[],by rw[List.drop_of_length_le V];exact VRL_nil,by simp⟩
 |f::fl,off,ys,ht,ho,hs,hm=>by
  simp only[tiled,Bool.and_eq_true,beq_iff_eq]at ht;obtain⟨hoff,ht⟩:=ht;simp only[List.mapM_cons,Option.bind_eq_bind,Option.bind_eq_some_iff,Option.pure_def,Option.some.injEq]at hm;obtain⟨y,hy,ys',hys,rfl⟩:=hm;have hle:∀(fl:List Field)(off:Nat),tiled P fl off total=true->off<=total:=by
   intro fl;induction fl with
   |nil=>intro off h;simp only[tiled,beq_iff_eq]at h;omega
   |cons g gl ih=>
    intro off h;simp only[tiled,Bool.and_eq_true]at h;have:=ih _ h.2;omega
  have hle':=hle fl _ ht;obtain⟨cs1,h1,h2⟩:=ih f.type _ _ (hs f OZ) hy;obtain⟨cs2,h3,h4⟩:=ag2 ih us total hus fl _ ys' ht hle' (λg hg=>hs g (by simp[hg])) hys;rw[hoff]at h2;have hl1:=VRL_length h2;have hlen:cs1.length=P.cellsOf f.type:=by rw[<-hl1];simp;omega
  refine⟨cs1++cs2,?_,λg hg=>?_⟩
  ·have:=VRL_append h2 h3
   rwa [show(us.drop off).take (P.cellsOf f.type)++us.drop (off+P.cellsOf f.type)=us.drop off by rw[<-List.drop_drop,List.take_append_drop]]at this
  ·simp only[List.mem_cons]at hg;rcases hg with rfl|hg
   ·refine⟨by omega,?_⟩;rw[hoff,Nat.sub_self,List.drop_zero,<-hlen,List.take_left']
    ·exact h1
    ·rfl
   ·obtain⟨h5,h6⟩:=h4 g hg;refine⟨by omega,?_⟩;rw[show g.offset-off=cs1.length+(g.offset-(off+P.cellsOf f.type)) by omega,List.drop_append,List.drop_eq_nil_of_le V,List.nil_append,Nat.add_sub_cancel_left];exact h6
theorem al4{H:Type}{enc:TypeId×Value->H}{n:Nat}{e:TypeId}(c:Nat)(ih:∀us y,DataW.trod enc P w 0 (λ_=>true) true n e us=some y->∃cs,HasC P n e cs/\VRL P (rdX w) cs us)(us:List Value):
 ∀(m i:Nat)(ys:List (DataW H×List MemPlace)),us.length=(i+m)*c->
  ((List.range' i m).mapM λi=>DataW.trod enc P w 0 (λ_=>true) true n e ((us.drop (i*c)).take c))=some ys->
  ∃cs,VRL P (rdX w) cs (us.drop (i*c))/\∀j,j < m->HasC P n e ((cs.drop (j*c)).take c)
 |0,i,ys,hus,hm=>⟨[],by rw[List.drop_of_length_le (by simp at hus;omega)];exact VRL_nil,λj hj=>by omega⟩
 |m+1,i,ys,hus,hm=>by
  simp only[List.range'_succ,List.mapM_cons,Option.bind_eq_bind,Option.bind_eq_some_iff,Option.pure_def,Option.some.injEq]at hm;obtain⟨y,hy,ys',hys,rfl⟩:=hm;obtain⟨cs1,h1,h2⟩:=ih _ _ hy;obtain⟨cs2,h3,h4⟩:=al4 c ih us m (i+1) ys' (by rw[hus];congr 1;omega) hys;have hl1:=VRL_length h2;have hmul:(i+(m+1))*c=i*c+c+m*c:=by rw[Nat.add_mul,Nat.add_mul];omega
  have hmul2:(i+1)*c=i*c+c:=by rw[Nat.add_mul];omega
  have hlen:cs1.length=c:=by rw[<-hl1];simp;omega
  rw[hmul2]at h3;refine⟨cs1++cs2,?_,λj hj=>?_⟩
  ·have:=VRL_append h2 h3
   rwa [show(us.drop (i*c)).take c++us.drop (i*c+c)=us.drop (i*c) by rw[<-List.drop_drop,List.take_append_drop]]at this
  ·cases j with
   |zero=>
    rw[Nat.zero_mul,List.drop_zero,<-hlen,List.take_left']
    ·exact h1
    ·rfl
   |succ j=>
    have:=h4 j V;rw[show(j+1)*c=cs1.length+j*c by rw[Nat.add_mul,hlen];omega,List.drop_append,List.drop_eq_nil_of_le V,List.nil_append,Nat.add_sub_cancel_left];exact this
theorem VRM_of{sz b:Nat}(hb:b < w.heap.size):∀(vs:List PV)(o:Nat),(∀i(h:i < vs.length),∃xs,xs.length=sz/\cellsAt w b (o+i*sz) xs/\VRC P (rdX w) vs[i] xs)->VRM P (rdX w) b sz vs o
 |[],_,_=>by simp[VRM]
 |v::vs,o,h=>by
  simp only[VRM];obtain⟨xs,h1,h2,h3⟩:=h 0 OZ;refine⟨⟨hb,xs,h1,by simpa using h2,h3⟩,VRM_of hb vs (o+sz) λi hi=>?_⟩;obtain⟨xs,h1,h2,h3⟩:=h (i+1) (by simpa using hi);exact⟨xs,h1,by rwa [show o+(i+1)*sz=o+sz+i*sz by rw[Nat.add_mul];omega]at h2,by simpa using h3⟩
theorem bg2{H:Type}{enc:TypeId×Value->H}{n:Nat}{e:TypeId}(hpos:0 < P.cellsOf e)(ih:∀us(y:DataW H×List MemPlace),DataW.trod enc P w 0 (λ_=>true) true n e us=some y->∃cs,HasC P n e cs/\VRL P (rdX w) cs us)
 {a:Addr}{len cap:Nat}(hl:len<=cap)(hm:cap<=maxLen)(hcap:0 < cap)(hx:∀i,i < cap->i=0\/i < len->∃us y,w.cells? 0 (a.add (i*P.cellsOf e)) (P.cellsOf e)=some us/\DataW.trod enc P w 0 (λ_=>true) true n e us=some y):
 ∃L:List (List PV),L.length=len/\(∀ds∈L,ds.length=P.cellsOf e/\HasC P n e ds)/\VRC P (rdX w) (.fs false (L.map (valC P e))) [.slice (some a) len cap]:=by
 have hsp:a.spot=none:=by
  obtain⟨us,y,h1,_⟩:=hx 0 hcap (.inl O);rw[Nat.zero_mul,Addr.add_zero']at h1;obtain⟨b,o,sp⟩:=a;exact(zp h1 hpos).2.2.1
 obtain⟨b,o,sp⟩:=a;have e:sp=none:=hsp;subst e;have hb:b < w.heap.size:=by
  obtain⟨us,y,h1,_⟩:=hx 0 hcap (.inl O);rw[Nat.zero_mul,Addr.add_zero']at h1;exact(zp h1 hpos).2.1
 have hel:∀i,i < len->∃cs,HasC P n e cs/\∃us,us.length=P.cellsOf e/\cellsAt w b (o+i*P.cellsOf e) us/\VRL P (rdX w) cs us:=λi hi=>by
  obtain⟨us,y,h1,h2⟩:=hx i V (.inr hi);rw[Addr.add_lit]at h1;obtain⟨h3,h4,h5,h6⟩:=zp h1 hpos;obtain⟨cs,h7,h8⟩:=ih us y h2;exact⟨cs,h7,us,h3,h6,h8⟩
 have key:∀m,m<=len->∃L:List (List PV),L.length=m/\∀i(h:i < L.length),HasC P n e L[i]/\∃us,us.length=P.cellsOf e/\cellsAt w b (o+i*P.cellsOf e) us/\VRL P (rdX w) L[i] us:=by
  intro m;induction m with
  |zero=>exactλ_=>⟨[],rfl,λi h=>by simp at h⟩
  |succ m ihm=>
   intro hm;obtain⟨L,h1,h2⟩:=ihm V;obtain⟨cs,h3⟩:=hel m V;refine⟨L++[cs],by simp[h1],λi h=>?_⟩;by_cases hi:i < L.length
   ·rw[List.getElem_append_left hi];exact h2 i hi
   ·have:i=L.length:=by simp at h;omega
    subst this;rw[List.getElem_append_right (Nat.le_refl _)];simp only[Nat.sub_self,List.getElem_cons_zero,h1];exact h3
 obtain⟨L,h1,h2⟩:=key len (Nat.le_refl _);refine⟨L,h1,λds hds=>?_,b,o,cap,P.cellsOf e,by simp[h1],by simpa[h1]using hl,hm,by simp,?_⟩
 ·obtain⟨i,hi,rfl⟩:=List.getElem_of_mem hds;obtain⟨h3,us,h4,h5,h6⟩:=h2 i hi;exact⟨by rw[<-h4];exact(VRL_length h6).symm,h3⟩
 ·refine VRM_of hb _ _ λi hi=>?_;have hi':i < L.length:=by simpa using hi
  obtain⟨h3,us,h4,h5,h6⟩:=h2 i hi';refine⟨us,h4,h5,?_⟩;rw[List.getElem_map];cases hd:P.underlying e with
  |none=>cases n<;>simp[HasC,hd]at h3
  |some d=>exact aw2 hd (λha=>h3.one hd ha) h6
theorem ak2{H:Type}{enc:TypeId×Value->H}(hok:okTs P=true):∀(n:Nat)(t:TypeId)(us:List Value)(y:DataW H×List MemPlace),t < P.types.size->DataW.trod enc P w 0 (λ_=>true) true n t us=some y->∃cs,HasC P n t cs/\VRL P (rdX w) cs us
 |0,_,_,_,_,h=>by simp[DataW.trod]at h
 |n+1,t,us,y,ht,h=>by
  have hT:=do1 hok ht;have ih:=λt us y=>ak2 (H:=H) (enc:=enc) hok n t us y;have opq:∀u:Value,us=[u]->u.oneCell'=true->VRL P (rdX w) [.sc u] us:=λu e h1=>by
   subst e;exact VRL_1 h1 ⟨O,h1⟩
  cases hd:P.underlying t with
  |none=>simp[DataW.trod,hd]at h
  |some d=>
   cases d with
   |slice e=>
    simp only[okT,hd,Bool.and_eq_true,decide_eq_true_eq]at hT;simp only[DataW.trod,hd]at h;split at h<;>try simp_all
    ·refine⟨[nilS],?_,opq O⟩;simp only[HasC,hd];exact .inl ⟨_,O⟩
    ·rename_i _ _ e a len cap _;obtain⟨⟨hl,hm⟩,h⟩:=h;simp only[Option.bind_eq_some_iff,Option.map_eq_some_iff]at h;obtain⟨elems,he,rest,hr,_⟩:=h;by_cases hc0:cap=0
     ·subst hc0;have:len=0:=by omega
      subst this;refine⟨[.sc (.slice (some a) 0 0)],?_,opq O⟩;simp only[HasC,hd];exact .inl ⟨_,O⟩
     ·have hx:∀i,i < cap->i=0\/i < len->∃us y,w.cells? 0 (a.add (i*P.cellsOf e)) (P.cellsOf e)=some us/\DataW.trod enc P w 0 (λ_=>true) true n e us=some y:=λi hi hil=>by
       by_cases hlt:i < len
       ·have hg:=mapM_some_get he i i (by simp[hlt]);have hlen:=mapM_some_length he;rw[List.getElem?_eq_getElem (by simp at hlen;omega)]at hg;obtain⟨us,h1,h2⟩:=Option.bind_eq_some_iff.1 hg;exact⟨us,_,h1,h2⟩
       ·have e0:i=0:=by omega
        have l0:len=0:=by omega
        subst e0;subst l0;have hg:=mapM_some_get hr 0 0 (List.getElem?_range V);have hlen:=mapM_some_length hr;rw[List.getElem?_eq_getElem (by simp at hlen;omega)]at hg;obtain⟨us,h1,h2⟩:=Option.bind_eq_some_iff.1 hg;exact⟨us,_,by simpa using h1,h2⟩
      obtain⟨L,h1,h2,h3⟩:=bg2 (enc:=enc) hT.1 (λus y hy=>ih e us y.1 y.2 hT.2 hy) hl hm V hx;refine⟨[.fs false (L.map (valC P e))],?_,VRL_1 O h3⟩;simp only[HasC,hd];exact .inr ⟨L,O,by omega,h2⟩
   |pointer e=>
    simp only[okT,hd,Bool.and_eq_true,decide_eq_true_eq]at hT;simp only[DataW.trod,hd]at h;split at h<;>try simp_all
    ·refine⟨[.sc (.pointer none)],?_,opq O⟩;simp[HasC,hd]
    ·rename_i _ _ e a _;by_cases hc:P.cellsOf e=0
     ·refine⟨[.sc (.pointer (some a))],?_,opq O⟩;simp only[HasC,hd];exact .inr (.inr ⟨hc,_,O⟩)
     obtain⟨us,h1,h2⟩:=Option.bind_eq_some_iff.1 h;simp only[Function.comp,Option.map_eq_some_iff]at h2;obtain⟨y1,h2,_⟩:=h2;obtain⟨b,o,sp⟩:=a;obtain⟨h3,h4,rfl,h6⟩:=zp h1 V;obtain⟨cs,h7,h8⟩:=ih e us _ _ hT h2;refine⟨[.fp (valC P e cs)],?_,VRL_1 O ⟨b,o,us,O,h4,h6,?_⟩⟩
     ·simp only[HasC,hd];exact .inr (.inl ⟨cs,O,by rw[<-h3];exact(VRL_length h8).symm,h7⟩)
     ·cases hde:P.underlying e with
      |none=>cases n<;>simp[HasC,hde]at h7
      |some d=>exact aw2 hde (λha=>h7.one hde ha) h8
   |struct fs=>
    simp only[okT,hd,Bool.and_eq_true,List.all_eq_true,decide_eq_true_eq]at hT;simp only[DataW.trod,hd]at h;split at h
    ·rename_i hlen;obtain⟨ys,hys,_⟩:=Option.map_eq_some_iff.1 h;obtain⟨cs,h1,h2⟩:=ag2 ih us (P.cellsOf t) hlen fs.toList 0 ys hT.1 (Nat.zero_le _) hT.2 hys;rw[List.drop_zero]at h1;refine⟨cs,?_,h1⟩;simp only[HasC,hd];refine⟨by rw[<-hlen];exact(VRL_length h1).symm,λf hf=>?_⟩;have:=(h2 f hf).2
     rwa [Nat.sub_zero]at this
    ·cases h
   |array k e=>
    simp only[okT,hd,Bool.and_eq_true,beq_iff_eq,decide_eq_true_eq]at hT;simp only[DataW.trod,hd]at h;split at h
    ·rename_i hlen;obtain⟨ys,hys,_⟩:=Option.map_eq_some_iff.1 h;rw[List.range_eq_range']at hys;obtain⟨cs,h1,h2⟩:=al4 (P.cellsOf e) (λus y hy=>ih e us y hT.2 hy) us k 0 ys (by rw[hlen,Nat.zero_add,hT.1]) hys;rw[Nat.zero_mul,List.drop_zero]at h1;refine⟨cs,?_,h1⟩;simp only[HasC,hd];exact⟨by rw[<-hlen];exact(VRL_length h1).symm,h2⟩
    ·cases h
   |bool=>
    simp only[DataW.trod,hd]at h;split at h<;>try simp_all
    rename_i b;exact⟨[.sc (.bool b)],by simp[HasC,hd],opq rfl⟩
   |int k=>
    simp only[DataW.trod,hd]at h;simp only[HasC,hd];split at h<;>simp_all;exact⟨_,⟨_,O,h.1.2⟩,opq O⟩
   |string=>
    simp only[DataW.trod,hd]at h;simp only[HasC,hd];split at h<;>simp_all;exact⟨_,⟨_,O,h.1⟩,opq O⟩
   |_=>
    simp only[DataW.trod,hd]at h;simp only[HasC,hd];first
     |(split at h<;>simp_all<;>exact⟨_,⟨_,O⟩,opq O⟩)
     |cases h
theorem bv8{H:Type}{enc:TypeId×Value->H}(hok:okTs P=true){t:TypeId}{v:Value}{dd:DataW H}{ps:List MemPlace}{r:Reach}{b0:Nat}{d:TypeDesc}(ht:t < P.types.size)(hd:P.underlying t=some d)
 (hval:Value.okWide P w r b0 t v)(h:DataW.Trod enc P w 0 (λ_=>true) true t v dd ps):∃n cs,HasC P n t cs/\VR P (rdX w) (valC P t cs) v:=by
 obtain⟨n,h⟩:=h;obtain⟨cs,h1,h2⟩:=ak2 hok n t _ _ ht h;refine⟨n,cs,h1,?_⟩;have h3:=aw2 hd (λha=>h1.one hd ha) h2;unfold VR;cases ha:aggD d with
 |true=>
  have e1:valC P t cs= .agg cs:=by simp[valC,hd,ha]
  rw[e1]at h3⊢;have hv:∃us,v= .agg us:=by
   unfold Value.okWide at hval;rw[hd]at hval;cases d with
   |struct fs=>obtain⟨us,e,_⟩:=hval;exact⟨us,e⟩
   |array k e=>obtain⟨us,e,_⟩:=hval;exact⟨us,e⟩
   |_=>cases ha
  obtain⟨us,rfl⟩:=hv;exact⟨us.toList,by simp,h3⟩
 |false=>
  obtain⟨c,rfl⟩:=h1.one hd ha;have e1:valC P t [c]=c:=by simp[valC,hd,ha]
  rw[e1]at h3⊢;have hv:∀us,v≠ .agg us:=by
   intro us e;subst e;have hcell:Cell.okWide P w r b0 t (.agg us):=by
    unfold Value.okWide at hval;rw[hd]at hval;cases d with
    |struct fs=>cases ha
    |array k e=>cases ha
    |_=>exact hval
   unfold Cell.okWide at hcell;rw[hd]at hcell;have hno:¬Cell.ok P w r b0 t (.agg us):=by
    unfold Cell.ok;rw[hd];cases d<;>exactλh=>h
   cases d<;>exact hno hcell
  have hc:v.cells.toList=[v]:=by cases v<;>first|rfl|exact absurd O (hv _)
  rw[hc]at h3;have hag:c.isAgg=false:=h1.flatCell hd ha;rw[hag];exact h3
end
end Go.Pb
