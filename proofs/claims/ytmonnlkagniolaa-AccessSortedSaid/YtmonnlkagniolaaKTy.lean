import Derived.Test.YtmonnlkagniolaaPbEq
import Derived.Test.YtmonnlkagniolaaRows
set_option linter.all false
set_option maxRecDepth 100000
namespace Go.Proofs.Ytmonnlkagniolaa
open Go Go.Pb Go.RowKit
structure y11q where
 Op:Int
 N:Int
 W:Int
 deriving Inhabited,DecidableEq
def y11q.R:y11q->PV->Prop:=λs v=>v= .agg [vi s.Op,vi s.N,vi s.W]
def y11q.t:TR y11q:=⟨y11q.R,3,true,λh=>by have h0:_=_:=h;subst h0;rfl,λh=>by have h0:_=_:=h;subst h0;rfl,λh=>by have h0:_=_:=h;subst h0;simp[closed,closedL]⟩
theorem y11q.g_Op{s:y11q}{v:PV}(h:y11q.t.R s v):fieldR 0 1 false v=some (vi s.Op):=by have h0:_=_:=h;subst h0;rfl
theorem y11q.g_N{s:y11q}{v:PV}(h:y11q.t.R s v):fieldR 1 1 false v=some (vi s.N):=by have h0:_=_:=h;subst h0;rfl
theorem y11q.g_W{s:y11q}{v:PV}(h:y11q.t.R s v):fieldR 2 1 false v=some (vi s.W):=by have h0:_=_:=h;subst h0;rfl
structure y8q where
 Kind:Int
 Table:Int
 Cond:List y11q
 Then:List y8q
 Else:List y8q
 deriving Inhabited
mutual
def y8q.R:y8q->PV->Prop
 |⟨xKind,xTable,xCond,xThen,xElse⟩,v=>∃c2,∃c3,∃c4,v= .agg [vi xKind,vi xTable,c2,c3,c4]/\(tSl y11q.t).R xCond c2/\((∃es,IsSl c3 es/\y8q.Rl xThen es)/\xThen.length<=9223372036854775807)/\((∃es,IsSl c4 es/\y8q.Rl xElse es)/\xElse.length<=9223372036854775807)
def y8q.Rl:List y8q->List PV->Prop
 |[],[]=>True
 |a::l,e::es=>y8q.R a e/\y8q.Rl l es
 |_,_=>False
end
theorem y8q.Rl_eq:∀(l:List y8q)(es:List PV),y8q.Rl l es=All2 y8q.R l es
 |[],[]=>by simp[y8q.Rl,All2]
 |a::l,e::es=>by simp[y8q.Rl,All2,y8q.Rl_eq l es]
 |[],_::_=>by simp[y8q.Rl,All2]
 |_::_,[]=>by simp[y8q.Rl,All2]
mutual
theorem y8q.R_clo:∀(s:y8q)(v:PV),y8q.R s v->closed v=true
 |⟨xKind,xTable,xCond,xThen,xElse⟩,v,h=>by
  simp only[y8q.R]at h;obtain⟨c2,c3,c4,h0,hc2,hc3,hc4⟩:=h;subst h0;have kc2:=TR.clo _ hc2;obtain⟨⟨esc3,hic3,hlc3⟩,_⟩:=hc3;have kc3:=hic3.closed (y8q.Rl_clo _ _ hlc3);obtain⟨⟨esc4,hic4,hlc4⟩,_⟩:=hc4;have kc4:=hic4.closed (y8q.Rl_clo _ _ hlc4);simp[closed,closedL,kc2,kc3,kc4]
theorem y8q.Rl_clo:∀(l:List y8q)(es:List PV),y8q.Rl l es->closedL es=true
 |[],[],_=>rfl
 |a::l,e::es,h=>by
  simp only[y8q.Rl]at h;simp[closedL,y8q.R_clo a e h.1,y8q.Rl_clo l es h.2]
 |[],_::_,h=>by simp[y8q.Rl]at h
 |_::_,[],h=>by simp[y8q.Rl]at h
end
def y8q.t:TR y8q:=⟨y8q.R,5,true,λ{a v} h=>by cases a;simp only[y8q.R]at h;obtain⟨c2,c3,c4,h0,hc2,hc3,hc4⟩:=h;subst h0;rfl,λ{a v} h=>by cases a;simp only[y8q.R]at h;obtain⟨c2,c3,c4,h0,hc2,hc3,hc4⟩:=h;subst h0;rfl,λ{a v} h=>y8q.R_clo a v h⟩
theorem y8q.g_Kind{s:y8q}{v:PV}(h:y8q.t.R s v):fieldR 0 1 false v=some (vi s.Kind):=by cases s;have h:y8q.R _ v:=h;simp only[y8q.R]at h;obtain⟨c2,c3,c4,h0,hc2,hc3,hc4⟩:=h;subst h0;rfl
theorem y8q.g_Table{s:y8q}{v:PV}(h:y8q.t.R s v):fieldR 1 1 false v=some (vi s.Table):=by cases s;have h:y8q.R _ v:=h;simp only[y8q.R]at h;obtain⟨c2,c3,c4,h0,hc2,hc3,hc4⟩:=h;subst h0;rfl
theorem y8q.g_Cond{s:y8q}{v:PV}(h:y8q.t.R s v):∃w,fieldR 2 1 false v=some w/\(tSl y11q.t).R s.Cond w:=by cases s;have h:y8q.R _ v:=h;simp only[y8q.R]at h;obtain⟨c2,c3,c4,h0,hc2,hc3,hc4⟩:=h;subst h0;exact⟨_,mk1 (TR.agg _ hc2),hc2⟩
theorem y8q.g_Then{s:y8q}{v:PV}(h:y8q.t.R s v):∃w,fieldR 3 1 false v=some w/\(tSl y8q.t).R s.Then w:=by cases s;have h:y8q.R _ v:=h;simp only[y8q.R]at h;obtain⟨c2,c3,c4,h0,hc2,hc3,hc4⟩:=h;subst h0;obtain⟨⟨es,hi,hl⟩,hb⟩:=hc3;rw[y8q.Rl_eq]at hl;have hh:(tSl y8q.t).R _ _:=⟨⟨es,hi,hl⟩,hb⟩;exact⟨_,mk1 (TR.agg _ hh),hh⟩
theorem y8q.g_Else{s:y8q}{v:PV}(h:y8q.t.R s v):∃w,fieldR 4 1 false v=some w/\(tSl y8q.t).R s.Else w:=by cases s;have h:y8q.R _ v:=h;simp only[y8q.R]at h;obtain⟨c2,c3,c4,h0,hc2,hc3,hc4⟩:=h;subst h0;obtain⟨⟨es,hi,hl⟩,hb⟩:=hc4;rw[y8q.Rl_eq]at hl;have hh:(tSl y8q.t).R _ _:=⟨⟨es,hi,hl⟩,hb⟩;exact⟨_,mk1 (TR.agg _ hh),hh⟩
structure y14q where
 Name:List UInt8
 Width:Int
 deriving Inhabited,DecidableEq
def y14q.R:y14q->PV->Prop:=λs v=>v= .agg [vs s.Name,vi s.Width]
def y14q.t:TR y14q:=⟨y14q.R,2,true,λh=>by have h0:_=_:=h;subst h0;rfl,λh=>by have h0:_=_:=h;subst h0;rfl,λh=>by have h0:_=_:=h;subst h0;simp[closed,closedL]⟩
theorem y14q.g_Name{s:y14q}{v:PV}(h:y14q.t.R s v):fieldR 0 1 false v=some (vs s.Name):=by have h0:_=_:=h;subst h0;rfl
theorem y14q.g_Width{s:y14q}{v:PV}(h:y14q.t.R s v):fieldR 1 1 false v=some (vi s.Width):=by have h0:_=_:=h;subst h0;rfl
structure y21q where
 Name:List UInt8
 Fields:List y14q
 deriving Inhabited,DecidableEq
def y21q.R:y21q->PV->Prop:=λs v=>∃c1,v= .agg [vs s.Name,c1]/\(tSl y14q.t).R s.Fields c1
def y21q.t:TR y21q:=⟨y21q.R,2,true,λh=>by obtain⟨c1,h0,hc1⟩:=h;subst h0;rfl,λh=>by obtain⟨c1,h0,hc1⟩:=h;subst h0;rfl,λh=>by obtain⟨c1,h0,hc1⟩:=h;subst h0;simp[closed,closedL,TR.clo _ hc1]⟩
theorem y21q.g_Name{s:y21q}{v:PV}(h:y21q.t.R s v):fieldR 0 1 false v=some (vs s.Name):=by obtain⟨c1,h0,hc1⟩:=h;subst h0;rfl
theorem y21q.g_Fields{s:y21q}{v:PV}(h:y21q.t.R s v):∃w,fieldR 1 1 false v=some w/\(tSl y14q.t).R s.Fields w:=by obtain⟨c1,h0,hc1⟩:=h;subst h0;exact⟨_,mk1 (TR.agg _ hc1),hc1⟩
structure y4q where
 Header:Int
 Field:Int
 deriving Inhabited,DecidableEq
def y4q.R:y4q->PV->Prop:=λs v=>v= .agg [vi s.Header,vi s.Field]
def y4q.t:TR y4q:=⟨y4q.R,2,true,λh=>by have h0:_=_:=h;subst h0;rfl,λh=>by have h0:_=_:=h;subst h0;rfl,λh=>by have h0:_=_:=h;subst h0;simp[closed,closedL]⟩
theorem y4q.g_Header{s:y4q}{v:PV}(h:y4q.t.R s v):fieldR 0 1 false v=some (vi s.Header):=by have h0:_=_:=h;subst h0;rfl
theorem y4q.g_Field{s:y4q}{v:PV}(h:y4q.t.R s v):fieldR 1 1 false v=some (vi s.Field):=by have h0:_=_:=h;subst h0;rfl
structure y13q where
 Kind:Int
 Dst:y4q
 Register:Int
 Header:Int
 Index:List y11q
 Value:List y11q
 deriving Inhabited,DecidableEq
def y13q.R:y13q->PV->Prop:=λs v=>∃c5,∃c6,v= .agg [vi s.Kind,vi s.Dst.Header,vi s.Dst.Field,vi s.Register,vi s.Header,c5,c6]/\(tSl y11q.t).R s.Index c5/\(tSl y11q.t).R s.Value c6
def y13q.t:TR y13q:=⟨y13q.R,7,true,λh=>by obtain⟨c5,c6,h0,hc5,hc6⟩:=h;subst h0;rfl,λh=>by obtain⟨c5,c6,h0,hc5,hc6⟩:=h;subst h0;rfl,λh=>by obtain⟨c5,c6,h0,hc5,hc6⟩:=h;subst h0;simp[closed,closedL,TR.clo _ hc5,TR.clo _ hc6]⟩
theorem y13q.g_Kind{s:y13q}{v:PV}(h:y13q.t.R s v):fieldR 0 1 false v=some (vi s.Kind):=by obtain⟨c5,c6,h0,hc5,hc6⟩:=h;subst h0;rfl
theorem y13q.g_Dst{s:y13q}{v:PV}(h:y13q.t.R s v):∃w,fieldR 1 2 true v=some w/\y4q.t.R s.Dst w:=by obtain⟨c5,c6,h0,hc5,hc6⟩:=h;subst h0;exact⟨_,O,O⟩
theorem y13q.g_Register{s:y13q}{v:PV}(h:y13q.t.R s v):fieldR 3 1 false v=some (vi s.Register):=by obtain⟨c5,c6,h0,hc5,hc6⟩:=h;subst h0;rfl
theorem y13q.g_Header{s:y13q}{v:PV}(h:y13q.t.R s v):fieldR 4 1 false v=some (vi s.Header):=by obtain⟨c5,c6,h0,hc5,hc6⟩:=h;subst h0;rfl
theorem y13q.g_Index{s:y13q}{v:PV}(h:y13q.t.R s v):∃w,fieldR 5 1 false v=some w/\(tSl y11q.t).R s.Index w:=by obtain⟨c5,c6,h0,hc5,hc6⟩:=h;subst h0;exact⟨_,mk1 (TR.agg _ hc5),hc5⟩
theorem y13q.g_Value{s:y13q}{v:PV}(h:y13q.t.R s v):∃w,fieldR 6 1 false v=some w/\(tSl y11q.t).R s.Value w:=by obtain⟨c5,c6,h0,hc5,hc6⟩:=h;subst h0;exact⟨_,mk1 (TR.agg _ hc6),hc6⟩
structure y23q where
 Name:List UInt8
 Params:List y14q
 Body:List y13q
 deriving Inhabited,DecidableEq
def y23q.R:y23q->PV->Prop:=λs v=>∃c1,∃c2,v= .agg [vs s.Name,c1,c2]/\(tSl y14q.t).R s.Params c1/\(tSl y13q.t).R s.Body c2
def y23q.t:TR y23q:=⟨y23q.R,3,true,λh=>by obtain⟨c1,c2,h0,hc1,hc2⟩:=h;subst h0;rfl,λh=>by obtain⟨c1,c2,h0,hc1,hc2⟩:=h;subst h0;rfl,λh=>by obtain⟨c1,c2,h0,hc1,hc2⟩:=h;subst h0;simp[closed,closedL,TR.clo _ hc1,TR.clo _ hc2]⟩
theorem y23q.g_Name{s:y23q}{v:PV}(h:y23q.t.R s v):fieldR 0 1 false v=some (vs s.Name):=by obtain⟨c1,c2,h0,hc1,hc2⟩:=h;subst h0;rfl
theorem y23q.g_Params{s:y23q}{v:PV}(h:y23q.t.R s v):∃w,fieldR 1 1 false v=some w/\(tSl y14q.t).R s.Params w:=by obtain⟨c1,c2,h0,hc1,hc2⟩:=h;subst h0;exact⟨_,mk1 (TR.agg _ hc1),hc1⟩
theorem y23q.g_Body{s:y23q}{v:PV}(h:y23q.t.R s v):∃w,fieldR 2 1 false v=some w/\(tSl y13q.t).R s.Body w:=by obtain⟨c1,c2,h0,hc1,hc2⟩:=h;subst h0;exact⟨_,mk1 (TR.agg _ hc2),hc2⟩
structure y72q where
 Value:BitVec 32
 Mask:BitVec 32
 Next:Int
 deriving Inhabited,DecidableEq
def y72q.R:y72q->PV->Prop:=λs v=>v= .agg [vu32 s.Value,vu32 s.Mask,vi s.Next]
def y72q.t:TR y72q:=⟨y72q.R,3,true,λh=>by have h0:_=_:=h;subst h0;rfl,λh=>by have h0:_=_:=h;subst h0;rfl,λh=>by have h0:_=_:=h;subst h0;simp[closed,closedL]⟩
theorem y72q.g_Value{s:y72q}{v:PV}(h:y72q.t.R s v):fieldR 0 1 false v=some (vu32 s.Value):=by have h0:_=_:=h;subst h0;rfl
structure y16q where
 Name:List UInt8
 Extract:List Int
 Select:Bool
 On:y4q
 Cases:List y72q
 Default:Int
 deriving Inhabited,DecidableEq
def y16q.R:y16q->PV->Prop:=λs v=>∃c1,∃c5,v= .agg [vs s.Name,c1,vb s.Select,vi s.On.Header,vi s.On.Field,c5,vi s.Default]/\(tSl tI).R s.Extract c1/\(tSl y72q.t).R s.Cases c5
def y16q.t:TR y16q:=⟨y16q.R,7,true,λh=>by obtain⟨c1,c5,h0,hc1,hc5⟩:=h;subst h0;rfl,λh=>by obtain⟨c1,c5,h0,hc1,hc5⟩:=h;subst h0;rfl,λh=>by obtain⟨c1,c5,h0,hc1,hc5⟩:=h;subst h0;simp[closed,closedL,TR.clo _ hc1,TR.clo _ hc5]⟩
theorem y16q.g_Name{s:y16q}{v:PV}(h:y16q.t.R s v):fieldR 0 1 false v=some (vs s.Name):=by obtain⟨c1,c5,h0,hc1,hc5⟩:=h;subst h0;rfl
theorem y16q.g_Extract{s:y16q}{v:PV}(h:y16q.t.R s v):∃w,fieldR 1 1 false v=some w/\(tSl tI).R s.Extract w:=by obtain⟨c1,c5,h0,hc1,hc5⟩:=h;subst h0;exact⟨_,mk1 (TR.agg _ hc1),hc1⟩
theorem y16q.g_Cases{s:y16q}{v:PV}(h:y16q.t.R s v):∃w,fieldR 5 1 false v=some w/\(tSl y72q.t).R s.Cases w:=by obtain⟨c1,c5,h0,hc1,hc5⟩:=h;subst h0;exact⟨_,mk1 (TR.agg _ hc5),hc5⟩
theorem y16q.g_Default{s:y16q}{v:PV}(h:y16q.t.R s v):fieldR 6 1 false v=some (vi s.Default):=by obtain⟨c1,c5,h0,hc1,hc5⟩:=h;subst h0;rfl
structure y27q where
 Name:List UInt8
 Width:Int
 Size:Int
 deriving Inhabited,DecidableEq
def y27q.R:y27q->PV->Prop:=λs v=>v= .agg [vs s.Name,vi s.Width,vi s.Size]
def y27q.t:TR y27q:=⟨y27q.R,3,true,λh=>by have h0:_=_:=h;subst h0;rfl,λh=>by have h0:_=_:=h;subst h0;rfl,λh=>by have h0:_=_:=h;subst h0;simp[closed,closedL]⟩
theorem y27q.g_Name{s:y27q}{v:PV}(h:y27q.t.R s v):fieldR 0 1 false v=some (vs s.Name):=by have h0:_=_:=h;subst h0;rfl
theorem y27q.g_Width{s:y27q}{v:PV}(h:y27q.t.R s v):fieldR 1 1 false v=some (vi s.Width):=by have h0:_=_:=h;subst h0;rfl
theorem y27q.g_Size{s:y27q}{v:PV}(h:y27q.t.R s v):fieldR 2 1 false v=some (vi s.Size):=by have h0:_=_:=h;subst h0;rfl
structure y57q where
 Field:y4q
 Kind:Int
 deriving Inhabited,DecidableEq
def y57q.R:y57q->PV->Prop:=λs v=>v= .agg [vi s.Field.Header,vi s.Field.Field,vi s.Kind]
def y57q.t:TR y57q:=⟨y57q.R,3,true,λh=>by have h0:_=_:=h;subst h0;rfl,λh=>by have h0:_=_:=h;subst h0;rfl,λh=>by have h0:_=_:=h;subst h0;simp[closed,closedL]⟩
theorem y57q.g_Field{s:y57q}{v:PV}(h:y57q.t.R s v):∃w,fieldR 0 2 true v=some w/\y4q.t.R s.Field w:=by have h0:_=_:=h;subst h0;exact⟨_,O,O⟩
theorem y57q.g_Kind{s:y57q}{v:PV}(h:y57q.t.R s v):fieldR 2 1 false v=some (vi s.Kind):=by have h0:_=_:=h;subst h0;rfl
structure y73q where
 Action:Int
 Args:List (BitVec 32)
 deriving Inhabited,DecidableEq
def y73q.R:y73q->PV->Prop:=λs v=>∃c1,v= .agg [vi s.Action,c1]/\(tSl tU32).R s.Args c1
def y73q.t:TR y73q:=⟨y73q.R,2,true,λh=>by obtain⟨c1,h0,hc1⟩:=h;subst h0;rfl,λh=>by obtain⟨c1,h0,hc1⟩:=h;subst h0;rfl,λh=>by obtain⟨c1,h0,hc1⟩:=h;subst h0;simp[closed,closedL,TR.clo _ hc1]⟩
theorem y73q.g_Args{s:y73q}{v:PV}(h:y73q.t.R s v):∃w,fieldR 1 1 false v=some w/\(tSl tU32).R s.Args w:=by obtain⟨c1,h0,hc1⟩:=h;subst h0;exact⟨_,mk1 (TR.agg _ hc1),hc1⟩
structure y26q where
 Name:List UInt8
 Keys:List y57q
 Actions:List Int
 Default:y73q
 Size:Int
 deriving Inhabited,DecidableEq
def y26q.R:y26q->PV->Prop:=λs v=>∃c1,∃c2,∃c4,v= .agg [vs s.Name,c1,c2,vi s.Default.Action,c4,vi s.Size]/\(tSl y57q.t).R s.Keys c1/\(tSl tI).R s.Actions c2/\(tSl tU32).R s.Default.Args c4
def y26q.t:TR y26q:=⟨y26q.R,6,true,λh=>by obtain⟨c1,c2,c4,h0,hc1,hc2,hc4⟩:=h;subst h0;rfl,λh=>by obtain⟨c1,c2,c4,h0,hc1,hc2,hc4⟩:=h;subst h0;rfl,λh=>by obtain⟨c1,c2,c4,h0,hc1,hc2,hc4⟩:=h;subst h0;simp[closed,closedL,TR.clo _ hc1,TR.clo _ hc2,TR.clo _ hc4]⟩
theorem y26q.g_Name{s:y26q}{v:PV}(h:y26q.t.R s v):fieldR 0 1 false v=some (vs s.Name):=by obtain⟨c1,c2,c4,h0,hc1,hc2,hc4⟩:=h;subst h0;rfl
theorem y26q.g_Keys{s:y26q}{v:PV}(h:y26q.t.R s v):∃w,fieldR 1 1 false v=some w/\(tSl y57q.t).R s.Keys w:=by obtain⟨c1,c2,c4,h0,hc1,hc2,hc4⟩:=h;subst h0;exact⟨_,mk1 (TR.agg _ hc1),hc1⟩
theorem y26q.g_Actions{s:y26q}{v:PV}(h:y26q.t.R s v):∃w,fieldR 2 1 false v=some w/\(tSl tI).R s.Actions w:=by obtain⟨c1,c2,c4,h0,hc1,hc2,hc4⟩:=h;subst h0;exact⟨_,mk1 (TR.agg _ hc2),hc2⟩
theorem y26q.g_Default{s:y26q}{v:PV}(h:y26q.t.R s v):∃w,fieldR 3 2 true v=some w/\y73q.t.R s.Default w:=by obtain⟨c1,c2,c4,h0,hc1,hc2,hc4⟩:=h;subst h0;exact⟨_,O,⟨c4,O,hc4⟩⟩
theorem y26q.g_Size{s:y26q}{v:PV}(h:y26q.t.R s v):fieldR 5 1 false v=some (vi s.Size):=by obtain⟨c1,c2,c4,h0,hc1,hc2,hc4⟩:=h;subst h0;rfl
structure y5q where
 Name:List UInt8
 Headers:List y21q
 Metadata:List y14q
 Registers:List y27q
 Actions:List y23q
 Tables:List y26q
 States:List y16q
 Control:List y8q
 Deparser:List Int
 deriving Inhabited
def y5q.R:y5q->PV->Prop:=λs v=>∃c1,∃c2,∃c3,∃c4,∃c5,∃c6,∃c7,∃c8,v= .agg [vs s.Name,c1,c2,c3,c4,c5,c6,c7,c8]/\(tSl y21q.t).R s.Headers c1/\(tSl y14q.t).R s.Metadata c2/\(tSl y27q.t).R s.Registers c3/\(tSl y23q.t).R s.Actions c4/\(tSl y26q.t).R s.Tables c5/\(tSl y16q.t).R s.States c6/\(tSl y8q.t).R s.Control c7/\(tSl tI).R s.Deparser c8
def y5q.t:TR y5q:=⟨y5q.R,9,true,λh=>by obtain⟨c1,c2,c3,c4,c5,c6,c7,c8,h0,hc1,hc2,hc3,hc4,hc5,hc6,hc7,hc8⟩:=h;subst h0;rfl,λh=>by obtain⟨c1,c2,c3,c4,c5,c6,c7,c8,h0,hc1,hc2,hc3,hc4,hc5,hc6,hc7,hc8⟩:=h;subst h0;rfl,λh=>by obtain⟨c1,c2,c3,c4,c5,c6,c7,c8,h0,hc1,hc2,hc3,hc4,hc5,hc6,hc7,hc8⟩:=h;subst h0;simp[closed,closedL,TR.clo _ hc1,TR.clo _ hc2,TR.clo _ hc3,TR.clo _ hc4,TR.clo _ hc5,TR.clo _ hc6,TR.clo _ hc7,TR.clo _ hc8]⟩
theorem y5q.g_Name{s:y5q}{v:PV}(h:y5q.t.R s v):fieldR 0 1 false v=some (vs s.Name):=by obtain⟨c1,c2,c3,c4,c5,c6,c7,c8,h0,hc1,hc2,hc3,hc4,hc5,hc6,hc7,hc8⟩:=h;subst h0;rfl
theorem y5q.g_Headers{s:y5q}{v:PV}(h:y5q.t.R s v):∃w,fieldR 1 1 false v=some w/\(tSl y21q.t).R s.Headers w:=by obtain⟨c1,c2,c3,c4,c5,c6,c7,c8,h0,hc1,hc2,hc3,hc4,hc5,hc6,hc7,hc8⟩:=h;subst h0;exact⟨_,mk1 (TR.agg _ hc1),hc1⟩
theorem y5q.g_Metadata{s:y5q}{v:PV}(h:y5q.t.R s v):∃w,fieldR 2 1 false v=some w/\(tSl y14q.t).R s.Metadata w:=by obtain⟨c1,c2,c3,c4,c5,c6,c7,c8,h0,hc1,hc2,hc3,hc4,hc5,hc6,hc7,hc8⟩:=h;subst h0;exact⟨_,mk1 (TR.agg _ hc2),hc2⟩
theorem y5q.g_Registers{s:y5q}{v:PV}(h:y5q.t.R s v):∃w,fieldR 3 1 false v=some w/\(tSl y27q.t).R s.Registers w:=by obtain⟨c1,c2,c3,c4,c5,c6,c7,c8,h0,hc1,hc2,hc3,hc4,hc5,hc6,hc7,hc8⟩:=h;subst h0;exact⟨_,mk1 (TR.agg _ hc3),hc3⟩
theorem y5q.g_Actions{s:y5q}{v:PV}(h:y5q.t.R s v):∃w,fieldR 4 1 false v=some w/\(tSl y23q.t).R s.Actions w:=by obtain⟨c1,c2,c3,c4,c5,c6,c7,c8,h0,hc1,hc2,hc3,hc4,hc5,hc6,hc7,hc8⟩:=h;subst h0;exact⟨_,mk1 (TR.agg _ hc4),hc4⟩
theorem y5q.g_Tables{s:y5q}{v:PV}(h:y5q.t.R s v):∃w,fieldR 5 1 false v=some w/\(tSl y26q.t).R s.Tables w:=by obtain⟨c1,c2,c3,c4,c5,c6,c7,c8,h0,hc1,hc2,hc3,hc4,hc5,hc6,hc7,hc8⟩:=h;subst h0;exact⟨_,mk1 (TR.agg _ hc5),hc5⟩
theorem y5q.g_States{s:y5q}{v:PV}(h:y5q.t.R s v):∃w,fieldR 6 1 false v=some w/\(tSl y16q.t).R s.States w:=by obtain⟨c1,c2,c3,c4,c5,c6,c7,c8,h0,hc1,hc2,hc3,hc4,hc5,hc6,hc7,hc8⟩:=h;subst h0;exact⟨_,mk1 (TR.agg _ hc6),hc6⟩
theorem y5q.g_Control{s:y5q}{v:PV}(h:y5q.t.R s v):∃w,fieldR 7 1 false v=some w/\(tSl y8q.t).R s.Control w:=by obtain⟨c1,c2,c3,c4,c5,c6,c7,c8,h0,hc1,hc2,hc3,hc4,hc5,hc6,hc7,hc8⟩:=h;subst h0;exact⟨_,mk1 (TR.agg _ hc7),hc7⟩
theorem y5q.g_Deparser{s:y5q}{v:PV}(h:y5q.t.R s v):∃w,fieldR 8 1 false v=some w/\(tSl tI).R s.Deparser w:=by obtain⟨c1,c2,c3,c4,c5,c6,c7,c8,h0,hc1,hc2,hc3,hc4,hc5,hc6,hc7,hc8⟩:=h;subst h0;exact⟨_,mk1 (TR.agg _ hc8),hc8⟩
structure y9q where
 p:y5q
 cells:List Int
 deriving Inhabited
def y9q.R:y9q->PV->Prop:=λs v=>∃c1,∃c2,∃c3,∃c4,∃c5,∃c6,∃c7,∃c8,∃c9,v= .agg [vs s.p.Name,c1,c2,c3,c4,c5,c6,c7,c8,c9]/\(tSl y21q.t).R s.p.Headers c1/\(tSl y14q.t).R s.p.Metadata c2/\(tSl y27q.t).R s.p.Registers c3/\(tSl y23q.t).R s.p.Actions c4/\(tSl y26q.t).R s.p.Tables c5/\(tSl y16q.t).R s.p.States c6/\(tSl y8q.t).R s.p.Control c7/\(tSl tI).R s.p.Deparser c8/\(tSl tI).R s.cells c9
def y9q.t:TR y9q:=⟨y9q.R,10,true,λh=>by obtain⟨c1,c2,c3,c4,c5,c6,c7,c8,c9,h0,hc1,hc2,hc3,hc4,hc5,hc6,hc7,hc8,hc9⟩:=h;subst h0;rfl,λh=>by obtain⟨c1,c2,c3,c4,c5,c6,c7,c8,c9,h0,hc1,hc2,hc3,hc4,hc5,hc6,hc7,hc8,hc9⟩:=h;subst h0;rfl,λh=>by obtain⟨c1,c2,c3,c4,c5,c6,c7,c8,c9,h0,hc1,hc2,hc3,hc4,hc5,hc6,hc7,hc8,hc9⟩:=h;subst h0;simp[closed,closedL,TR.clo _ hc1,TR.clo _ hc2,TR.clo _ hc3,TR.clo _ hc4,TR.clo _ hc5,TR.clo _ hc6,TR.clo _ hc7,TR.clo _ hc8,TR.clo _ hc9]⟩
structure api_Guard where
 Unit:Int
 Want:Bool
 deriving Inhabited,DecidableEq
def api_Guard.R:api_Guard->PV->Prop:=λs v=>v= .agg [vi s.Unit,vb s.Want]
def api_Guard.t:TR api_Guard:=⟨api_Guard.R,2,true,λh=>by have h0:_=_:=h;subst h0;rfl,λh=>by have h0:_=_:=h;subst h0;rfl,λh=>by have h0:_=_:=h;subst h0;simp[closed,closedL]⟩
structure y49q where
 Table:Int
 Cond:List y11q
 Guards:List api_Guard
 deriving Inhabited,DecidableEq
def y49q.R:y49q->PV->Prop:=λs v=>∃c1,∃c2,v= .agg [vi s.Table,c1,c2]/\(tSl y11q.t).R s.Cond c1/\(tSl api_Guard.t).R s.Guards c2
def y49q.t:TR y49q:=⟨y49q.R,3,true,λh=>by obtain⟨c1,c2,h0,hc1,hc2⟩:=h;subst h0;rfl,λh=>by obtain⟨c1,c2,h0,hc1,hc2⟩:=h;subst h0;rfl,λh=>by obtain⟨c1,c2,h0,hc1,hc2⟩:=h;subst h0;simp[closed,closedL,TR.clo _ hc1,TR.clo _ hc2]⟩
theorem y49q.g_Table{s:y49q}{v:PV}(h:y49q.t.R s v):fieldR 0 1 false v=some (vi s.Table):=by obtain⟨c1,c2,h0,hc1,hc2⟩:=h;subst h0;rfl
theorem y49q.g_Cond{s:y49q}{v:PV}(h:y49q.t.R s v):∃w,fieldR 1 1 false v=some w/\(tSl y11q.t).R s.Cond w:=by obtain⟨c1,c2,h0,hc1,hc2⟩:=h;subst h0;exact⟨_,mk1 (TR.agg _ hc1),hc1⟩
structure y28q where
 Program:y5q
 Params:List y14q
 deriving Inhabited
def y28q.R:y28q->PV->Prop:=λs v=>∃c1,∃c2,∃c3,∃c4,∃c5,∃c6,∃c7,∃c8,∃c9,v= .agg [vs s.Program.Name,c1,c2,c3,c4,c5,c6,c7,c8,c9]/\(tSl y21q.t).R s.Program.Headers c1/\(tSl y14q.t).R s.Program.Metadata c2/\(tSl y27q.t).R s.Program.Registers c3/\(tSl y23q.t).R s.Program.Actions c4/\(tSl y26q.t).R s.Program.Tables c5/\(tSl y16q.t).R s.Program.States c6/\(tSl y8q.t).R s.Program.Control c7/\(tSl tI).R s.Program.Deparser c8/\(tSl y14q.t).R s.Params c9
def y28q.t:TR y28q:=⟨y28q.R,10,true,λh=>by obtain⟨c1,c2,c3,c4,c5,c6,c7,c8,c9,h0,hc1,hc2,hc3,hc4,hc5,hc6,hc7,hc8,hc9⟩:=h;subst h0;rfl,λh=>by obtain⟨c1,c2,c3,c4,c5,c6,c7,c8,c9,h0,hc1,hc2,hc3,hc4,hc5,hc6,hc7,hc8,hc9⟩:=h;subst h0;rfl,λh=>by obtain⟨c1,c2,c3,c4,c5,c6,c7,c8,c9,h0,hc1,hc2,hc3,hc4,hc5,hc6,hc7,hc8,hc9⟩:=h;subst h0;simp[closed,closedL,TR.clo _ hc1,TR.clo _ hc2,TR.clo _ hc3,TR.clo _ hc4,TR.clo _ hc5,TR.clo _ hc6,TR.clo _ hc7,TR.clo _ hc8,TR.clo _ hc9]⟩
theorem y28q.g_Program{s:y28q}{v:PV}(h:y28q.t.R s v):∃w,fieldR 0 9 true v=some w/\y5q.t.R s.Program w:=by obtain⟨c1,c2,c3,c4,c5,c6,c7,c8,c9,h0,hc1,hc2,hc3,hc4,hc5,hc6,hc7,hc8,hc9⟩:=h;subst h0;exact⟨_,O,⟨c1,c2,c3,c4,c5,c6,c7,c8,O,hc1,hc2,hc3,hc4,hc5,hc6,hc7,hc8⟩⟩
theorem y28q.g_Params{s:y28q}{v:PV}(h:y28q.t.R s v):∃w,fieldR 9 1 false v=some w/\(tSl y14q.t).R s.Params w:=by obtain⟨c1,c2,c3,c4,c5,c6,c7,c8,c9,h0,hc1,hc2,hc3,hc4,hc5,hc6,hc7,hc8,hc9⟩:=h;subst h0;exact⟨_,mk1 (TR.agg _ hc9),hc9⟩
structure y41q where
 scope:y28q
 deriving Inhabited
def y41q.R:y41q->PV->Prop:=λs v=>∃c1,∃c2,∃c3,∃c4,∃c5,∃c6,∃c7,∃c8,∃c9,v= .agg [vs s.scope.Program.Name,c1,c2,c3,c4,c5,c6,c7,c8,c9]/\(tSl y21q.t).R s.scope.Program.Headers c1/\(tSl y14q.t).R s.scope.Program.Metadata c2/\(tSl y27q.t).R s.scope.Program.Registers c3/\(tSl y23q.t).R s.scope.Program.Actions c4/\(tSl y26q.t).R s.scope.Program.Tables c5/\(tSl y16q.t).R s.scope.Program.States c6/\(tSl y8q.t).R s.scope.Program.Control c7/\(tSl tI).R s.scope.Program.Deparser c8/\(tSl y14q.t).R s.scope.Params c9
def y41q.t:TR y41q:=⟨y41q.R,10,true,λh=>by obtain⟨c1,c2,c3,c4,c5,c6,c7,c8,c9,h0,hc1,hc2,hc3,hc4,hc5,hc6,hc7,hc8,hc9⟩:=h;subst h0;rfl,λh=>by obtain⟨c1,c2,c3,c4,c5,c6,c7,c8,c9,h0,hc1,hc2,hc3,hc4,hc5,hc6,hc7,hc8,hc9⟩:=h;subst h0;rfl,λh=>by obtain⟨c1,c2,c3,c4,c5,c6,c7,c8,c9,h0,hc1,hc2,hc3,hc4,hc5,hc6,hc7,hc8,hc9⟩:=h;subst h0;simp[closed,closedL,TR.clo _ hc1,TR.clo _ hc2,TR.clo _ hc3,TR.clo _ hc4,TR.clo _ hc5,TR.clo _ hc6,TR.clo _ hc7,TR.clo _ hc8,TR.clo _ hc9]⟩
theorem y41q.g_scope{s:y41q}{v:PV}(h:y41q.t.R s v):∃w,fieldR 0 10 true v=some w/\y28q.t.R s.scope w:=by obtain⟨c1,c2,c3,c4,c5,c6,c7,c8,c9,h0,hc1,hc2,hc3,hc4,hc5,hc6,hc7,hc8,hc9⟩:=h;subst h0;exact⟨_,O,⟨c1,c2,c3,c4,c5,c6,c7,c8,c9,O,hc1,hc2,hc3,hc4,hc5,hc6,hc7,hc8,hc9⟩⟩
structure y32q where
 fields:List y4q
 headers:List Int
 registers:List Int
 deriving Inhabited,DecidableEq
def y32q.R:y32q->PV->Prop:=λs v=>∃c0,∃c1,∃c2,v= .agg [c0,c1,c2]/\(tSl y4q.t).R s.fields c0/\(tSl tI).R s.headers c1/\(tSl tI).R s.registers c2
def y32q.t:TR y32q:=⟨y32q.R,3,true,λh=>by obtain⟨c0,c1,c2,h0,hc0,hc1,hc2⟩:=h;subst h0;rfl,λh=>by obtain⟨c0,c1,c2,h0,hc0,hc1,hc2⟩:=h;subst h0;rfl,λh=>by obtain⟨c0,c1,c2,h0,hc0,hc1,hc2⟩:=h;subst h0;simp[closed,closedL,TR.clo _ hc0,TR.clo _ hc1,TR.clo _ hc2]⟩
theorem y4q.eql_58{ox oy:Operand}{a b:y4q}{va vb':PV}(ha:y4q.t.R a va)(hb:y4q.t.R b vb'):binF Try.prog .eql 58 ox oy va vb'=some (vb (decide (a=b))):=by
 have ha:va=_:=ha;have hb:vb'=_:=hb;subst ha;subst hb;rw[rec2_eql Try.underlying58 Y Y Try.underlying3 Try.underlying3 rfl rfl (by decide) (by decide)];cases a;cases b;simp only[Option.some.injEq,PV.sc.injEq,Value.bool.injEq];rw[Bool.eq_iff_iff];simp[y4q.mk.injEq,nat_cast_beq,BitVec.toNat_inj]
theorem y4q.neq_58{ox oy:Operand}{a b:y4q}{va vb':PV}(ha:y4q.t.R a va)(hb:y4q.t.R b vb'):binF Try.prog .neq 58 ox oy va vb'=some (vb (!decide (a=b))):=by
 have ha:va=_:=ha;have hb:vb'=_:=hb;subst ha;subst hb;rw[rec2_neq Try.underlying58 Y Y Try.underlying3 Try.underlying3 rfl rfl (by decide) (by decide)];cases a;cases b;simp only[Option.some.injEq,PV.sc.injEq,Value.bool.injEq,Bool.not_eq_not];rw[Bool.eq_iff_iff];simp[y4q.mk.injEq,nat_cast_beq,BitVec.toNat_inj]
end Go.Proofs.Ytmonnlkagniolaa
