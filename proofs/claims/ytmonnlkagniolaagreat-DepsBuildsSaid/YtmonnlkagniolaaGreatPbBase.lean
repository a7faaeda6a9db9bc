import Derived.WalkKit
set_option linter.all false
namespace Go.Pb
open Go Go.RowKit
theorem O{α:Sort _}{a:α}:a=a:=rfl
theorem V{p:Prop}(h:p:=by omega):p:=h
theorem Y{p:Prop}(h:p:=by kernel_rfl):p:=h
theorem Z{p:Prop}(h:p:=by conv=>lhs;reduce):p:=h
theorem OO{p:Prop}(h:p:=by decide):p:=h
theorem OY{p:Prop}(h:p:=by assumption):p:=h
theorem OZ{p:Prop}(h:p:=by simp):p:=h
inductive PV where
 |sc (v:Value)
 |agg (cs:List PV)
 |tup (vs:List PV)
 |fs (tight:Bool) (es:List PV)
 |fp (x:PV)
 |os (id ver off n:Nat)
 |op (id ver off:Nat)
 |om (id ver:Nat)
 |fn (f:Fn) (first captured:List PV)
 |ifc (t:TypeId) (v:PV)
 |junk
 deriving Inhabited
def PV.isAgg:PV->Bool| .agg _=>true|_=>false
structure Cx where
 w:World
 F:Nat->Prop
 J:Nat->Nat->Option Nat
def cellsAt(w:World)(b o:Nat)(xs:List Value):Prop:=∀j u,xs[j]?=some u->w.cell? ⟨b,o+j,none⟩=some u
def AsVal(isA:Bool)(R:List Value->Prop)(u:Value):Prop:=
 match isA with
 |true=>∃us,u= .agg us.toArray/\R us
 |false=>R [u]
mutual
def VRC(P:Program)(x:Cx):PV->List Value->Prop
 | .sc v,us=>us=[v]/\v.oneCell'=true
 | .agg cs,us=>VRL P x cs us
 | .tup vs,us=>∃xs,us=[.tuple xs.toArray]/\VRV P x vs xs
 | .fs tight es,us=>∃b o cap sz,us=[.slice (some ⟨b,o,none⟩) es.length cap]/\es.length<=cap/\cap<=maxLen/\(tight=true->cap=es.length)/\VRM P x b sz es o
 | .fp e,us=>∃b o xs,us=[.pointer (some ⟨b,o,none⟩)]/\x.F b/\cellsAt x.w b o xs/\VRC P x e xs
 | .os id ver off n,us=>∃b cap,x.J id ver=some b/\us=[.slice (some ⟨b,off,none⟩) n cap]/\n<=cap/\cap<=maxLen/\
    (off=0->∃cur ty fr,x.w.heap[b]?=some (.cells cur ty fr)/\cur.size=cap*P.cellsOf ty)
 | .op id ver off,us=>∃b,x.J id ver=some b/\us=[.pointer (some ⟨b,off,none⟩)]
 | .om id ver,us=>∃b,x.J id ver=some b/\us=[.map (some b)]
 | .fn f first captured,us=>∃fs cs,us=[.func f fs.toArray cs.toArray]/\VRV P x first fs/\VRV P x captured cs
 | .ifc t v,us=>∃u,us=[.iface t u]/\AsVal v.isAgg (VRC P x v) u
 | .junk,_=>True
def VRL(P:Program)(x:Cx):List PV->List Value->Prop
 |[],[]=>True
 |c::cs,u::us=>u.oneCell'=true/\VRC P x c [u]/\VRL P x cs us
 |_,_=>False
def VRV(P:Program)(x:Cx):List PV->List Value->Prop
 |[],[]=>True
 |c::cs,u::us=>AsVal c.isAgg (VRC P x c) u/\VRV P x cs us
 |_,_=>False
def VRM(P:Program)(x:Cx)(b sz:Nat):List PV->Nat->Prop
 |[],_=>True
 |e::es,o=>(x.F b/\∃xs,xs.length=sz/\cellsAt x.w b o xs/\VRC P x e xs)/\VRM P x b sz es (o+sz)
end
def VR(P:Program)(x:Cx)(v:PV)(u:Value):Prop:=AsVal v.isAgg (VRC P x v) u
structure Ext(x y:Cx):Prop where
 size:x.w.heap.size<=y.w.heap.size
 fro:∀b,x.F b->y.F b/\y.w.heap[b]?=x.w.heap[b]?
 own:∀id ver b,x.J id ver=some b->y.J id ver=some b
 shp:∀(b:Nat) cur ty fr,x.w.heap[b]?=some (.cells cur ty fr)->∃cur',y.w.heap[b]?=some (.cells cur' ty fr)/\cur'.size=cur.size
theorem Ext.refl(x:Cx):Ext x x:=⟨Nat.le_refl _,λ_ h=>⟨h,O⟩,λ_ _ _ h=>h,λ_ cur _ _ h=>⟨cur,h,O⟩⟩
theorem Ext.trans{x y z:Cx}(h:Ext x y)(k:Ext y z):Ext x z:=
 ⟨Nat.le_trans h.size k.size,
  λb hb=>⟨(k.fro b (h.fro b hb).1).1,((k.fro b (h.fro b hb).1).2).trans (h.fro b hb).2⟩,
  λid ver b hb=>k.own _ _ _ (h.own _ _ _ hb),
  λb cur ty fr hb=>by
   obtain⟨c1,h1,e1⟩:=h.shp b cur ty fr hb;obtain⟨c2,h2,e2⟩:=k.shp b c1 ty fr h1;exact⟨c2,h2,e2.trans e1⟩⟩
theorem af7{x y:Cx}(h:Ext x y){b o:Nat}{xs:List Value}(hb:x.F b)(hc:cellsAt x.w b o xs):cellsAt y.w b o xs:=by
 intro j u hj;have:=hc j u hj;have e:=(h.fro b hb).2;unfold World.cell? at*;simpa[e]using this
theorem AsVal.imp{isA:Bool}{R S:List Value->Prop}{u:Value}(h:∀us,R us->S us)(hr:AsVal isA R u):AsVal isA S u:=by
 cases isA with
 |true=>obtain⟨us,e,r⟩:=hr;exact⟨us,e,h _ r⟩
 |false=>exact h _ hr
mutual
theorem VRC_ext{P:Program}{x y:Cx}(h:Ext x y):∀(v:PV)(us:List Value),VRC P x v us->VRC P y v us
 | .sc v,us=>by simp only[VRC];exact id
 | .agg cs,us=>by simp only[VRC];exact VRL_ext h cs us
 | .tup vs,us=>by
   simp only[VRC];rintro⟨xs,e,r⟩;exact⟨xs,e,VRV_ext h vs xs r⟩
 | .fs tight es,us=>by
   simp only[VRC];rintro⟨b,o,cap,sz,e,h1,h2,h3,r⟩;exact⟨b,o,cap,sz,e,h1,h2,h3,VRM_ext h es o r⟩
 | .fp e,us=>by
   simp only[VRC];rintro⟨b,o,xs,e',hf,hc,r⟩;exact⟨b,o,xs,e',(h.fro b hf).1,af7 h hf hc,VRC_ext h e xs r⟩
 | .os id ver off n,us=>by
   simp only[VRC];rintro⟨b,cap,hj,e,h1,h2,h3⟩;refine⟨b,cap,h.own _ _ _ hj,e,h1,h2,λh0=>?_⟩;obtain⟨cur,ty,fr,hb,hs⟩:=h3 h0;obtain⟨cur',hb',hs'⟩:=h.shp b cur ty fr hb;exact⟨cur',ty,fr,hb',hs'.trans hs⟩
 | .op id ver off,us=>by
   simp only[VRC];rintro⟨b,hj,e⟩;exact⟨b,h.own _ _ _ hj,e⟩
 | .om id ver,us=>by
   simp only[VRC];rintro⟨b,hj,e⟩;exact⟨b,h.own _ _ _ hj,e⟩
 | .fn f first captured,us=>by
   simp only[VRC];rintro⟨fs,cs,e,r1,r2⟩;exact⟨fs,cs,e,VRV_ext h first fs r1,VRV_ext h captured cs r2⟩
 | .ifc t v,us=>by
   simp only[VRC];rintro⟨u,e,r⟩;exact⟨u,e,r.imp (VRC_ext h v)⟩
 | .junk,us=>by simp only[VRC];exact id
theorem VRL_ext{P:Program}{x y:Cx}(h:Ext x y):∀(cs:List PV)(us:List Value),VRL P x cs us->VRL P y cs us
 |[],[]=>by simp only[VRL];exact id
 |[],_::_=>by simp only[VRL];exact id
 |_::_,[]=>by simp only[VRL];exact id
 |c::cs,u::us=>by
  simp only[VRL];exactλ⟨h0,h1,h2⟩=>⟨h0,VRC_ext h c [u] h1,VRL_ext h cs us h2⟩
theorem VRV_ext{P:Program}{x y:Cx}(h:Ext x y):∀(cs:List PV)(us:List Value),VRV P x cs us->VRV P y cs us
 |[],[]=>by simp only[VRV];exact id
 |[],_::_=>by simp only[VRV];exact id
 |_::_,[]=>by simp only[VRV];exact id
 |c::cs,u::us=>by
  simp only[VRV];exactλ⟨h1,h2⟩=>⟨h1.imp (VRC_ext h c),VRV_ext h cs us h2⟩
theorem VRM_ext{P:Program}{x y:Cx}(h:Ext x y){b sz:Nat}:∀(es:List PV)(o:Nat),VRM P x b sz es o->VRM P y b sz es o
 |[],_=>by simp only[VRM];exact id
 |e::es,o=>by
  simp only[VRM];rintro⟨⟨hf,xs,hl,hc,r⟩,r2⟩;exact⟨⟨(h.fro b hf).1,xs,hl,af7 h hf hc,VRC_ext h e xs r⟩,VRM_ext h es _ r2⟩
end
theorem VR_ext{P:Program}{x y:Cx}(h:Ext x y){v:PV}{u:Value}(hv:VR P x v u):VR P y v u:=AsVal.imp (VRC_ext h v) hv
end Go.Pb
