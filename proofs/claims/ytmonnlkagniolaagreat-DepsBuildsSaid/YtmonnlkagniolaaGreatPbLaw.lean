import Derived.Test.YtmonnlkagniolaaGreatPbRead
set_option linter.all false
namespace Go.Pb
open Go Go.RowKit
def IsArg(P:Program)(t:TypeId)(c:PV):Prop:=∃n cs,HasC P n t cs/\c=valC P t cs
section
variable{P:Program}{H:Type}{enc:TypeId×Value->H}{W W':World}
theorem aq7(hok:okTs P=true){r:Reach}{b0:Nat}:∀(ts:List TypeId)(vs:List Value)(ds:List (DataW H))(ps:List MemPlace),
 (∀t∈ts,t < P.types.size/\∃d,P.underlying t=some d)->(∀(j:Nat) t v,ts[j]?=some t->vs[j]?=some v->Value.okWide P W r b0 t v)->
 DataW.TrodAll enc P W 0 (λ_=>true) true ts vs ds ps->∃css:List PV,VRV P (rdX W) css vs/\All2 (λt c=>IsArg P t c) ts css
 |[],[],[],_,_,_,_=>⟨[],by simp[VRV],trivial⟩
 |t::ts,v::vs,d::ds,ps,h1,h2,h3=>by
  obtain⟨p,q,h4,h5,_⟩:=h3;obtain⟨hlt,dd,hd⟩:=h1 t OZ;obtain⟨n,cs,h6,h7⟩:=bv8 hok hlt hd (h2 0 t v O O) h4;obtain⟨css,h8,h9⟩:=aq7 hok ts vs ds q (λt ht=>h1 t (by simp[ht])) (λj t v ht hv=>h2 (j+1) t v (by simpa using ht) (by simpa using hv)) h5;exact⟨valC P t cs::css,⟨h7,h8⟩,⟨n,cs,h6,O⟩,h9⟩
 |[],_::_,_,_,_,_,h=>by simp[DataW.TrodAll]at h
 |[],[],_::_,_,_,_,h=>by simp[DataW.TrodAll]at h
 |_::_,[],_,_,_,_,h=>by simp[DataW.TrodAll]at h
 |_::_,_::_,[],_,_,_,h=>by simp[DataW.TrodAll]at h
theorem ar6(hl:laidOutB P=true)(hb:Below W.heap.size W W'):∀(ts:List TypeId)(vs:List Value)(ds:List (DataW H))(ps:List MemPlace),
 (∀t∈ts,P.readableRec t=true/\t < P.types.size)->(∀x∈ps,x.block < W.heap.size)->
 DataW.TrodAll enc P W 0 (λ_=>true) true ts vs ds ps->DataW.TrodAll enc P W' 0 (λb=>decide (b < W.heap.size)) true ts vs ds ps
 |[],[],[],_,_,_,h=>h
 |t::ts,v::vs,d::ds,ps,h1,h2,h3=>by
  obtain⟨p,q,h4,h5,rfl⟩:=h3;obtain⟨hr,hlt⟩:=h1 t OZ;exact⟨p,q,Below.trod hl hr hlt h4 hb λx hx=>h2 x (by simp[hx]),ar6 hl hb ts vs ds q (λt ht=>h1 t (by simp[ht])) (λx hx=>h2 x (by simp[hx])) h5,O⟩
 |[],_::_,_,_,_,_,h=>by simp[DataW.TrodAll]at h
 |[],[],_::_,_,_,_,h=>by simp[DataW.TrodAll]at h
 |_::_,[],_,_,_,_,h=>by simp[DataW.TrodAll]at h
 |_::_,_::_,[],_,_,_,h=>by simp[DataW.TrodAll]at h
theorem bx4{f:FuncId}{fn:Func}{s:ChangeSpec}{apart fresh handsOn:Bool}{t:TypeId}{args:Array Value}{ds gs:List (DataW H)}{before:List MemPlace}{r:Reach}{b0:Nat}
 (hok:okTs P=true)(hl:laidOutB P=true)(hts:∀t∈fn.params.toList,P.readableRec t=true/\t < P.types.size/\∃d,P.underlying t=some d)(hrt:fn.resultTypes=#[t])(ht:P.underlying t=some .bool)
 (hvars:s.vars=[])(hspec:s.fn H ds={results:=[.lit (.bool true)],args:=ds})
 (hval:∀(j:Nat) t v,fn.params[j]?=some t->args[j]?=some v->Value.okWide P W r b0 t v)
 (hW:DataW.Whole enc P fn.params.toList s.vars apart W args.toList ds gs before)
 (hf:∀css,All2 (λt c=>IsArg P t c) fn.params.toList css->FnR P f css (.sc (.bool true))):
 Calls P f args W λe W'=>∃v,e= .returned v/\s.post enc P fn apart fresh handsOn false W args v W':=by
 have hlt:=hW.lt;have hW':=hW;obtain⟨p,q,hA,hV,hp,_,_⟩:=hW;rw[hvars]at hV;obtain⟨rfl,rfl⟩:=Go.ChangeShapes.trodVars_none hV;obtain⟨css,h1,h2⟩:=aq7 hok fn.params.toList args.toList ds p (λt ht=>(hts t ht).2) (λj t v ht hv=>hval j t v (by simpa using ht) (by simpa using hv)) hA;have hc:=(hf css h2).2 W (λb=>b < W.heap.size) args.toList (λb hb=>hb) h1;refine hc.mono λe W₁ hh=>?_;obtain⟨v,y,rfl,rfl,g,hr⟩:=hh;have hv:v= .bool true:=qs hr;subst hv;have hb:Below W.heap.size W y.w:=g.below.toBelow;refine⟨_,O,ds,[],before,[],p,[],hW',?_,?_,?_,Below.frame hb _,λh=>by cases h⟩
 ·rw[List.append_nil,hspec,hrt];exact⟨[],[],⟨1,by simp[DataW.trod,ht,Value.cells,Value.resultList]⟩,O,O⟩
 ·rw[List.append_nil,hspec];exact ar6 hl hb _ _ _ _ (λt ht=>⟨(hts t ht).1,(hts t ht).2.1⟩) (λx hx=>hlt x (by rw[hp];simp[hx])) hA
 ·rw[List.append_nil,hspec,hvars];rfl
end
theorem bn1{α:Type}{R:α->PV->Prop}{P:Program}{e:TypeId}:∀(L:List (List PV)),(∀ds∈L,∃a,R a (valC P e ds))->∃l:List α,All2 R l (L.map (valC P e))
 |[],_=>⟨[],trivial⟩
 |ds::L,h=>by
  obtain⟨a,ha⟩:=h ds OZ;obtain⟨l,hl⟩:=bn1 L λds hds=>h ds (by simp[hds]);exact⟨a::l,ha,hl⟩
end Go.Pb
