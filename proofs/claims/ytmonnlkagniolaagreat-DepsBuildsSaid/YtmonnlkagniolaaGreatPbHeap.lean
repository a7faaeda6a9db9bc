import Derived.Test.YtmonnlkagniolaaGreatPbBase
set_option linter.all false
namespace Go.Pb
open Go Go.RowKit
inductive Blk where
 |cells (ver:Nat) (ty:TypeId) (mt:Bool) (cs:List PV)
 |mp (ver:Nat) (es:List (Value×PV))
 deriving Inhabited
def Blk.ver:Blk->Nat| .cells v _ _ _=>v| .mp v _=>v
structure Heap where
 nv:Nat
 bl:List Blk
 deriving Inhabited
def MapR(P:Program)(x:Cx):List (Value×PV)->List MapEntry->Prop
 |[],[]=>True
 |e::es,c::cs=>c.key=e.1/\VR P x e.2 c.val/\MapR P x es cs
 |_,_=>False
theorem MapR_ext{P:Program}{x y:Cx}(h:Ext x y):∀(es:List (Value×PV))(cs:List MapEntry),MapR P x es cs->MapR P y es cs
 |[],[]=>id
 |[],_::_=>id
 |_::_,[]=>id
 |e::es,c::cs=>λ⟨h1,h2,h3⟩=>⟨h1,VR_ext h h2,MapR_ext h es cs h3⟩
def BlkR(P:Program)(x:Cx)(id:Nat):Blk->Prop
 | .cells ver ty mt cs=>∀b,x.J id ver=some b->
    (∃cur,x.w.heap[b]?=some (.cells cur ty (0,0))/\cs.length<=cur.size/\VRL P x cs (cur.toList.take cs.length))/\(match mt with|true=>¬x.F b|false=>x.F b)
 | .mp ver es=>∀b,x.J id ver=some b->(∃ces clock,x.w.heap[b]?=some (.map ces clock)/\MapR P x es ces.toList)/\¬x.F b
structure Bel(B:Nat)(w w':World):Prop extends Below B w w' where
 dr:w.drawn<=w'.drawn
theorem Bel.refl(B:Nat)(w:World):Bel B w w:=⟨Below.refl B w,Nat.le_refl _⟩
theorem Bel.trans{B:Nat}{a b c:World}(h:Bel B a b)(k:Bel B b c):Bel B a c:=⟨h.toBelow.trans k.toBelow,Nat.le_trans h.dr k.dr⟩
theorem Bel.mono{B B':Nat}{w w':World}(h:Bel B w w')(hB:B'<=B):Bel B' w w':=⟨h.toBelow.mono hB,h.dr⟩
theorem Bel.drew{B:Nat}{a w:World}(h:Bel B a w):Bel B a w.drew:=⟨h.toBelow.drew,Nat.le_succ_of_le h.dr⟩
theorem Bel.alloc{B:Nat}{a w:World}(h:Bel B a w)(hB:B<=w.heap.size)(o:Obj):Bel B a (w.alloc o):=⟨h.toBelow.alloc hB o,h.dr⟩
structure RelP(P:Program)(w0:World)(F0:Nat->Prop)(h:Heap)(x:Cx):Prop where
 below:Bel w0.heap.size w0 x.w
 f0:∀b,F0 b->b < w0.heap.size
 fsub:∀b,F0 b->x.F b
 fnew:∀b,x.F b->b < x.w.heap.size/\(F0 b\/w0.heap.size<=b)
 own:∀id ver b,x.J id ver=some b->w0.heap.size<=b/\b < x.w.heap.size
 fresh:∀id ver,h.nv<=ver->x.J id ver=none
 inj:∀(id id':Nat) blk blk' b,h.bl[id]?=some blk->h.bl[id']?=some blk'->x.J id blk.ver=some b->x.J id' blk'.ver=some b->id=id'
 hr:∀(id:Nat) blk,h.bl[id]?=some blk->BlkR P x id blk
structure Grow(x y:Cx):Prop where
 below:Bel x.w.heap.size x.w y.w
 J:y.J=x.J
 sub:∀b,x.F b->y.F b
 new:∀b,y.F b->x.F b\/(x.w.heap.size<=b/\b < y.w.heap.size)
theorem Grow.refl(x:Cx):Grow x x:=⟨Bel.refl _ _,O,λ_ h=>h,λ_ h=> .inl h⟩
theorem Grow.ext{x y:Cx}(h:Grow x y)(hF:∀b,x.F b->b < x.w.heap.size):Ext x y:=
 ⟨h.below.size,λb hb=>⟨h.sub b hb,h.below.block b (hF b hb)⟩,λid ver b hb=>by rw[h.J];exact hb,
  λb cur ty fr hb=>⟨cur,by rw[h.below.block b (Array.getElem?_eq_some_iff.1 hb).1];exact hb,O⟩⟩
theorem Grow.trans{x y z:Cx}(h:Grow x y)(k:Grow y z):Grow x z:=
 ⟨h.below.trans (k.below.mono h.below.size),k.J.trans h.J,λb hb=>k.sub b (h.sub b hb),
  λb hb=>by
   rcases k.new b hb with h1|⟨h1,h2⟩
   ·rcases h.new b h1 with h3|⟨h3,h4⟩
    ·exact .inl h3
    ·exact .inr ⟨h3,Nat.lt_of_lt_of_le h4 k.below.size⟩
   ·exact .inr ⟨Nat.le_trans h.below.size h1,h2⟩⟩
theorem BlkR_ext{P:Program}{x y:Cx}{id:Nat}{blk:Blk}(h:Ext x y)(hj:y.J id blk.ver=x.J id blk.ver)
 (hb:∀b,x.J id blk.ver=some b->y.w.heap[b]?=x.w.heap[b]?/\(y.F b↔x.F b))(hr:BlkR P x id blk):BlkR P y id blk:=by
 cases blk with
 |cells ver ty mt cs=>
  intro b hb1;rw[show y.J id ver=x.J id ver from hj]at hb1;obtain⟨⟨cur,h1,h2,h3⟩,h4⟩:=hr b hb1;obtain⟨e1,e2⟩:=hb b hb1;refine⟨⟨cur,e1.trans h1,h2,VRL_ext h _ _ h3⟩,?_⟩;cases mt
  ·exact e2.2 h4
  ·exactλhn=>h4 (e2.1 hn)
 |mp ver es=>
  intro b hb1;rw[show y.J id ver=x.J id ver from hj]at hb1;obtain⟨⟨ces,clock,h1,h3⟩,h4⟩:=hr b hb1;obtain⟨e1,e2⟩:=hb b hb1;exact⟨⟨ces,clock,e1.trans h1,MapR_ext h _ _ h3⟩,λhn=>h4 (e2.1 hn)⟩
theorem RelP.ext_of_grow{P:Program}{w0:World}{F0:Nat->Prop}{h:Heap}{x y:Cx}(R:RelP P w0 F0 h x)(g:Grow x y):Ext x y:=
 g.ext λb hb=>(R.fnew b hb).1
theorem RelP.grow{P:Program}{w0:World}{F0:Nat->Prop}{h:Heap}{x y:Cx}(R:RelP P w0 F0 h x)(g:Grow x y):RelP P w0 F0 h y:=by
 have hs:w0.heap.size<=x.w.heap.size:=R.below.size;have hE:=R.ext_of_grow g;refine⟨R.below.trans (g.below.mono hs),R.f0,λb hb=>g.sub b (R.fsub b hb),λb hb=>?_,λid ver b hb=>?_,λid ver hv=>?_,?_,λid blk hb=>?_⟩
 ·rcases g.new b hb with h1|⟨h1,h2⟩
  ·exact⟨Nat.lt_of_lt_of_le (R.fnew b h1).1 g.below.size,(R.fnew b h1).2⟩
  ·exact⟨h2,.inr V⟩
 ·rw[g.J]at hb;have:=R.own id ver b hb;exact⟨this.1,Nat.lt_of_lt_of_le this.2 g.below.size⟩
 ·rw[g.J];exact R.fresh id ver hv
 ·rw[g.J];exact R.inj
 ·refine BlkR_ext hE (by rw[g.J]) (λb hj=>?_) (R.hr id blk hb);have hlt:=(R.own _ _ _ hj).2;refine⟨g.below.block b hlt,λhf=>?_,g.sub b⟩;rcases g.new b hf with h1|⟨h1,_⟩
  ·exact h1
  ·omega
theorem RelP.sub{P:Program}{w0:World}{F0:Nat->Prop}{h k:Heap}{x:Cx}(R:RelP P w0 F0 h x)(hn:h.nv<=k.nv)
 (hk:∀(id:Nat) blk,k.bl[id]?=some blk->h.bl[id]?=some blk\/x.J id blk.ver=none):RelP P w0 F0 k x:=by
 refine⟨R.below,R.f0,R.fsub,R.fnew,R.own,λid ver hv=>R.fresh id ver (Nat.le_trans hn hv),λid id' blk blk' b h1 h2 h3 h4=>?_,λid blk hb=>?_⟩
 ·rcases hk id blk h1 with h5|h5
  ·rcases hk id' blk' h2 with h6|h6
   ·exact R.inj id id' blk blk' b h5 h6 h3 h4
   ·rw[h6]at h4;cases h4
  ·rw[h5]at h3;cases h3
 ·rcases hk id blk hb with h5|h5
  ·exact R.hr id blk h5
  ·cases blk with
   |cells ver ty mt cs=>intro b hb1;rw[show x.J id ver=none from h5]at hb1;cases hb1
   |mp ver es=>intro b hb1;rw[show x.J id ver=none from h5]at hb1;cases hb1
theorem Grow.alloc(x:Cx)(o:Obj)(k:Prop):Grow x ⟨x.w.alloc o,λb=>x.F b\/(k/\b=x.w.heap.size),x.J⟩:=
 ⟨(Bel.refl _ _).alloc (Nat.le_refl _) o,rfl,λ_ h=> .inl h,λb hb=>by
   rcases hb with h|⟨_,h⟩
   ·exact .inl h
   ·exact .inr ⟨by omega,by show b < (x.w.alloc o).heap.size;rw[World.size_alloc];omega⟩⟩
theorem Grow.drew(x:Cx):Grow x ⟨x.w.drew,x.F,x.J⟩:=⟨(Bel.refl _ _).drew,O,λ_ h=>h,λ_ h=> .inl h⟩
def pureRun(P:Program){α:Type}:Sem α->Option α
 | .pure a=>some a
 | .program k=>pureRun P (k P)
 | .mark _ k=>pureRun P k
 |_=>none
theorem qx{P:Program}{α:Type}{s:Sem α}{a:α}(h:pureRun P s=some a)(w:World):s.run P w= .ok a w:=by
 induction s with
 |pure b=>simp[pureRun]at h;simp[Sem.run,h]
 |program k ih=>simp only[pureRun]at h;simp only[Sem.run];exact ih P h
 |mark m k ih=>simp only[pureRun]at h;simp only[Sem.run];exact ih h
 |_=>simp[pureRun]at h
structure Temps(P:Program)(x:Cx)(n:Nat)(T:Nat->PV)(a:Act):Prop where
 size:a.tmps.size=n
 at_:∀t,VR P x (T t) (a.tmps.getD t undef)
 defers:a.defers=[]
def upd(T:Nat->PV)(t:Nat)(v:PV):Nat->PV:=λs=>if s=t then v else T s
def updO(T:Nat->PV):Option Nat->PV->Nat->PV
 |some t,v=>upd T t v
 |none,_=>T
theorem Temps.ext{P:Program}{x y:Cx}{n:Nat}{T:Nat->PV}{a:Act}(h:Temps P x n T a)(e:Ext x y):Temps P y n T a:=
 ⟨h.size,λt=>VR_ext e (h.at_ t),h.defers⟩
theorem Temps.put{P:Program}{x:Cx}{n:Nat}{T:Nat->PV}{a:Act}(h:Temps P x n T a){d:Option Tmp}(hd:∀t,d=some t->t < n){v:PV}{u:Value}(hv:VR P x v u):
 Temps P x n (updO T d v) (a.put d u):=by
 cases d with
 |none=>exact h
 |some t=>
  have ht:=hd t O;refine⟨by simp[Act.put,h.size],λs=>?_,h.defers⟩;simp only[updO,upd,Act.put];by_cases e:s=t
  ·subst e;simp only[if_true];rw[show(a.tmps.setIfInBounds s u).getD s undef=u from by simp[Array.getD_eq_getD_getElem?,h.size,ht]];exact hv
  ·simp only[e,if_false];rw[show(a.tmps.setIfInBounds t u).getD s undef=a.tmps.getD s undef from by simp[Array.getD_eq_getD_getElem?,Ne.symm e]];exact h.at_ s
def PV.ofConst:Value->PV
 | .agg cs=>if cs.toList.all (·.oneCell')then .agg (cs.toList.map .sc)else .junk
 | .tuple vs=>if vs.size=0 then .tup []else .junk
 | .func f a b=>if a.size=0/\b.size=0 then .fn f [] []else .junk
 |v=> .sc v
theorem VRL_sc(P:Program)(x:Cx):∀(us:List Value),us.all (·.oneCell')=true->VRL P x (us.map .sc) us
 |[],_=>by simp[VRL]
 |u::us,h=>by
  simp only[List.all_cons,Bool.and_eq_true]at h;have h3:=VRL_sc P x us h.2;simp only[List.map_cons,VRL,VRC];exact⟨h.1,by simp[h.1],h3⟩
theorem VR_ofConst(P:Program)(x:Cx)(v:Value):VR P x (.ofConst v) v:=by
 unfold VR;cases v with
 |agg cs=>
  simp only[PV.ofConst];split
  ·rename_i h;exact⟨cs.toList,by simp,by simp only[VRC];exact VRL_sc P x _ h⟩
  ·simp[PV.isAgg,AsVal,VRC]
 |tuple vs=>
  simp only[PV.ofConst];split
  ·rename_i h;have:vs=#[]:=by simpa using h
   subst this;exact⟨[],O,by simp[VRV]⟩
  ·simp[PV.isAgg,AsVal,VRC]
 |func f a b=>
  simp only[PV.ofConst];split
  ·rename_i h;have e1:a=#[]:=by simpa using h.1
   have e2:b=#[]:=by simpa using h.2
   subst e1 e2;exact⟨[],[],O,by simp[VRV],by simp[VRV]⟩
  ·simp[PV.isAgg,AsVal,VRC]
 |_=>simp[PV.ofConst,PV.isAgg,AsVal,VRC,Value.oneCell']
def ev(T:Nat->PV):Operand->PV
 | .tmp t=>T t
 | .const v=> .ofConst v
 | .global _=> .junk
 | .func f=> .fn (.func f) [] []
theorem Temps.ev{P:Program}{x:Cx}{n:Nat}{T:Nat->PV}{a:Act}(h:Temps P x n T a)(o:Operand):VR P x (ev T o) (a.eval o):=by
 cases o with
 |tmp t=>exact h.at_ t
 |const v=>exact VR_ofConst P x v
 |global g=>simp[Pb.ev,VR,PV.isAgg,AsVal,VRC]
 |func f=>exact⟨[],[],O,by simp[VRV],by simp[VRV]⟩
end Go.Pb
