import Derived.Test.YtmonnlkagniolaaGreatPbEq
import Derived.Test.YtmonnlkagniolaaGreatRows
set_option linter.unusedVariables false
set_option linter.unusedSimpArgs false
set_option maxRecDepth 100000
namespace Go.Proofs.YtmonnlkagniolaaGreat
open Go Go.Pb Go.RowKit
structure bg where
 Name:List UInt8
 Width:Int
 deriving Inhabited,DecidableEq
def bg.R:bg->PV->Prop:=λs v=>v= .agg [vs s.Name,vi s.Width]
def bg.t:TR bg:=⟨bg.R,2,true,λh=>by have h0:_=_:=h;subst h0;rfl,λh=>by have h0:_=_:=h;subst h0;rfl,λh=>by have h0:_=_:=h;subst h0;simp[closed,closedL]⟩
theorem bg.g_Name{s v}(h:bg.t.R s v):fieldR 0 1 false v=some (vs s.Name):=by cases h;rfl
theorem bg.g_Width{s v}(h:bg.t.R s v):fieldR 1 1 false v=some (vi s.Width):=by cases h;rfl
structure aa where
 Header:Int
 Field:Int
 deriving Inhabited,DecidableEq
def aa.R:aa->PV->Prop:=λs v=>v= .agg [vi s.Header,vi s.Field]
def aa.t:TR aa:=⟨aa.R,2,true,λh=>by have h0:_=_:=h;subst h0;rfl,λh=>by have h0:_=_:=h;subst h0;rfl,λh=>by have h0:_=_:=h;subst h0;simp[closed,closedL]⟩
theorem aa.g_Header{s v}(h:aa.t.R s v):fieldR 0 1 false v=some (vi s.Header):=by cases h;rfl
theorem aa.g_Field{s v}(h:aa.t.R s v):fieldR 1 1 false v=some (vi s.Field):=by cases h;rfl
structure ai where
 Op:Int
 N:Int
 W:Int
 deriving Inhabited,DecidableEq
def ai.R:ai->PV->Prop:=λs v=>v= .agg [vi s.Op,vi s.N,vi s.W]
def ai.t:TR ai:=⟨ai.R,3,true,λh=>by have h0:_=_:=h;subst h0;rfl,λh=>by have h0:_=_:=h;subst h0;rfl,λh=>by have h0:_=_:=h;subst h0;simp[closed,closedL]⟩
theorem ai.g_Op{s v}(h:ai.t.R s v):fieldR 0 1 false v=some (vi s.Op):=by cases h;rfl
theorem ai.g_N{s v}(h:ai.t.R s v):fieldR 1 1 false v=some (vi s.N):=by cases h;rfl
theorem ai.g_W{s v}(h:ai.t.R s v):fieldR 2 1 false v=some (vi s.W):=by cases h;rfl
structure aw where
 Kind:Int
 Dst:aa
 Register:Int
 Header:Int
 Index:List ai
 Value:List ai
 deriving Inhabited,DecidableEq
def aw.R:aw->PV->Prop:=λs v=>∃c5,∃c6,v= .agg [vi s.Kind,vi s.Dst.Header,vi s.Dst.Field,vi s.Register,vi s.Header,c5,c6]/\(tSl ai.t).R s.Index c5/\(tSl ai.t).R s.Value c6
def aw.t:TR aw:=⟨aw.R,7,true,λh=>by obtain⟨c5,c6,h0,hc5,hc6⟩:=h;subst h0;rfl,λh=>by obtain⟨c5,c6,h0,hc5,hc6⟩:=h;subst h0;rfl,λh=>by obtain⟨c5,c6,h0,hc5,hc6⟩:=h;subst h0;simp[closed,closedL,TR.clo _ hc5,TR.clo _ hc6]⟩
theorem aw.g_Kind{s v}(h:aw.t.R s v):fieldR 0 1 false v=some (vi s.Kind):=by obtain⟨_,_,rfl,_⟩:=h;rfl
theorem aw.g_Dst{s:aw}{v:PV}(h:aw.t.R s v):∃w,fieldR 1 2 true v=some w/\aa.t.R s.Dst w:=by obtain⟨c5,c6,h0,hc5,hc6⟩:=h;subst h0;exact⟨_,O,O⟩
theorem aw.g_Register{s v}(h:aw.t.R s v):fieldR 3 1 false v=some (vi s.Register):=by obtain⟨_,_,rfl,_⟩:=h;rfl
theorem aw.g_Header{s v}(h:aw.t.R s v):fieldR 4 1 false v=some (vi s.Header):=by obtain⟨_,_,rfl,_⟩:=h;rfl
theorem aw.g_Index{s v}(h:aw.t.R s v):∃w,fieldR 5 1 false v=some w/\(tSl ai.t).R s.Index w:=by obtain⟨_,_,rfl,q,_⟩:=h;exact⟨_,mk1 (TR.agg _ q),q⟩
theorem aw.g_Value{s v}(h:aw.t.R s v):∃w,fieldR 6 1 false v=some w/\(tSl ai.t).R s.Value w:=by obtain⟨_,_,rfl,_,q⟩:=h;exact⟨_,mk1 (TR.agg _ q),q⟩
structure bt where
 Name:List UInt8
 Params:List bg
 Body:List aw
 deriving Inhabited,DecidableEq
def bt.R:bt->PV->Prop:=λs v=>∃c1,∃c2,v= .agg [vs s.Name,c1,c2]/\(tSl bg.t).R s.Params c1/\(tSl aw.t).R s.Body c2
def bt.t:TR bt:=⟨bt.R,3,true,λh=>by obtain⟨c1,c2,h0,hc1,hc2⟩:=h;subst h0;rfl,λh=>by obtain⟨c1,c2,h0,hc1,hc2⟩:=h;subst h0;rfl,λh=>by obtain⟨c1,c2,h0,hc1,hc2⟩:=h;subst h0;simp[closed,closedL,TR.clo _ hc1,TR.clo _ hc2]⟩
theorem bt.g_Name{s v}(h:bt.t.R s v):fieldR 0 1 false v=some (vs s.Name):=by obtain⟨_,_,rfl,_⟩:=h;rfl
theorem bt.g_Params{s v}(h:bt.t.R s v):∃w,fieldR 1 1 false v=some w/\(tSl bg.t).R s.Params w:=by obtain⟨_,_,rfl,q,_⟩:=h;exact⟨_,mk1 (TR.agg _ q),q⟩
theorem bt.g_Body{s v}(h:bt.t.R s v):∃w,fieldR 2 1 false v=some w/\(tSl aw.t).R s.Body w:=by obtain⟨_,_,rfl,_,q⟩:=h;exact⟨_,mk1 (TR.agg _ q),q⟩
structure cm where
 Name:List UInt8
 Fields:List bg
 deriving Inhabited,DecidableEq
def cm.R:cm->PV->Prop:=λs v=>∃c1,v= .agg [vs s.Name,c1]/\(tSl bg.t).R s.Fields c1
def cm.t:TR cm:=⟨cm.R,2,true,λh=>by obtain⟨c1,h0,hc1⟩:=h;subst h0;rfl,λh=>by obtain⟨c1,h0,hc1⟩:=h;subst h0;rfl,λh=>by obtain⟨c1,h0,hc1⟩:=h;subst h0;simp[closed,closedL,TR.clo _ hc1]⟩
theorem cm.g_Name{s v}(h:cm.t.R s v):fieldR 0 1 false v=some (vs s.Name):=by obtain⟨_,rfl,_⟩:=h;rfl
theorem cm.g_Fields{s v}(h:cm.t.R s v):∃w,fieldR 1 1 false v=some w/\(tSl bg.t).R s.Fields w:=by obtain⟨_,rfl,q⟩:=h;exact⟨_,mk1 (TR.agg _ q),q⟩
structure cz where
 Name:List UInt8
 Width:Int
 Size:Int
 deriving Inhabited,DecidableEq
def cz.R:cz->PV->Prop:=λs v=>v= .agg [vs s.Name,vi s.Width,vi s.Size]
def cz.t:TR cz:=⟨cz.R,3,true,λh=>by have h0:_=_:=h;subst h0;rfl,λh=>by have h0:_=_:=h;subst h0;rfl,λh=>by have h0:_=_:=h;subst h0;simp[closed,closedL]⟩
theorem cz.g_Name{s v}(h:cz.t.R s v):fieldR 0 1 false v=some (vs s.Name):=by cases h;rfl
theorem cz.g_Width{s v}(h:cz.t.R s v):fieldR 1 1 false v=some (vi s.Width):=by cases h;rfl
theorem cz.g_Size{s v}(h:cz.t.R s v):fieldR 2 1 false v=some (vi s.Size):=by cases h;rfl
structure fq where
 Field:aa
 Kind:Int
 deriving Inhabited,DecidableEq
def fq.R:fq->PV->Prop:=λs v=>v= .agg [vi s.Field.Header,vi s.Field.Field,vi s.Kind]
def fq.t:TR fq:=⟨fq.R,3,true,λh=>by have h0:_=_:=h;subst h0;rfl,λh=>by have h0:_=_:=h;subst h0;rfl,λh=>by have h0:_=_:=h;subst h0;simp[closed,closedL]⟩
theorem fq.g_Field{s:fq}{v:PV}(h:fq.t.R s v):∃w,fieldR 0 2 true v=some w/\aa.t.R s.Field w:=by have h0:_=_:=h;subst h0;exact⟨_,O,O⟩
theorem fq.g_Kind{s v}(h:fq.t.R s v):fieldR 2 1 false v=some (vi s.Kind):=by cases h;rfl
structure gw where
 Action:Int
 Args:List (BitVec 32)
 deriving Inhabited,DecidableEq
def gw.R:gw->PV->Prop:=λs v=>∃c1,v= .agg [vi s.Action,c1]/\(tSl da0).R s.Args c1
def gw.t:TR gw:=⟨gw.R,2,true,λh=>by obtain⟨c1,h0,hc1⟩:=h;subst h0;rfl,λh=>by obtain⟨c1,h0,hc1⟩:=h;subst h0;rfl,λh=>by obtain⟨c1,h0,hc1⟩:=h;subst h0;simp[closed,closedL,TR.clo _ hc1]⟩
theorem gw.g_Args{s v}(h:gw.t.R s v):∃w,fieldR 1 1 false v=some w/\(tSl da0).R s.Args w:=by obtain⟨_,rfl,q⟩:=h;exact⟨_,mk1 (TR.agg _ q),q⟩
structure ca where
 Name:List UInt8
 Keys:List fq
 Actions:List Int
 Default:gw
 Size:Int
 deriving Inhabited,DecidableEq
def ca.R:ca->PV->Prop:=λs v=>∃c1,∃c2,∃c4,v= .agg [vs s.Name,c1,c2,vi s.Default.Action,c4,vi s.Size]/\(tSl fq.t).R s.Keys c1/\(tSl tI).R s.Actions c2/\(tSl da0).R s.Default.Args c4
def ca.t:TR ca:=⟨ca.R,6,true,λh=>by obtain⟨c1,c2,c4,h0,hc1,hc2,hc4⟩:=h;subst h0;rfl,λh=>by obtain⟨c1,c2,c4,h0,hc1,hc2,hc4⟩:=h;subst h0;rfl,λh=>by obtain⟨c1,c2,c4,h0,hc1,hc2,hc4⟩:=h;subst h0;simp[closed,closedL,TR.clo _ hc1,TR.clo _ hc2,TR.clo _ hc4]⟩
theorem ca.g_Name{s v}(h:ca.t.R s v):fieldR 0 1 false v=some (vs s.Name):=by obtain⟨_,_,_,rfl,_⟩:=h;rfl
theorem ca.g_Keys{s v}(h:ca.t.R s v):∃w,fieldR 1 1 false v=some w/\(tSl fq.t).R s.Keys w:=by obtain⟨_,_,_,rfl,q,_⟩:=h;exact⟨_,mk1 (TR.agg _ q),q⟩
theorem ca.g_Actions{s v}(h:ca.t.R s v):∃w,fieldR 2 1 false v=some w/\(tSl tI).R s.Actions w:=by obtain⟨_,_,_,rfl,_,q,_⟩:=h;exact⟨_,mk1 (TR.agg _ q),q⟩
theorem ca.g_Default{s:ca}{v:PV}(h:ca.t.R s v):∃w,fieldR 3 2 true v=some w/\gw.t.R s.Default w:=by obtain⟨c1,c2,c4,h0,hc1,hc2,hc4⟩:=h;subst h0;exact⟨_,O,⟨c4,O,hc4⟩⟩
theorem ca.g_Size{s v}(h:ca.t.R s v):fieldR 5 1 false v=some (vi s.Size):=by obtain⟨_,_,_,rfl,_⟩:=h;rfl
structure gv where
 Value:BitVec 32
 Mask:BitVec 32
 Next:Int
 deriving Inhabited,DecidableEq
def gv.R:gv->PV->Prop:=λs v=>v= .agg [wy s.Value,wy s.Mask,vi s.Next]
def gv.t:TR gv:=⟨gv.R,3,true,λh=>by have h0:_=_:=h;subst h0;rfl,λh=>by have h0:_=_:=h;subst h0;rfl,λh=>by have h0:_=_:=h;subst h0;simp[closed,closedL]⟩
theorem gv.g_Value{s v}(h:gv.t.R s v):fieldR 0 1 false v=some (wy s.Value):=by cases h;rfl
structure cd where
 Name:List UInt8
 Extract:List Int
 Select:Bool
 On:aa
 Cases:List gv
 Default:Int
 deriving Inhabited,DecidableEq
def cd.R:cd->PV->Prop:=λs v=>∃c1,∃c5,v= .agg [vs s.Name,c1,vb s.Select,vi s.On.Header,vi s.On.Field,c5,vi s.Default]/\(tSl tI).R s.Extract c1/\(tSl gv.t).R s.Cases c5
def cd.t:TR cd:=⟨cd.R,7,true,λh=>by obtain⟨c1,c5,h0,hc1,hc5⟩:=h;subst h0;rfl,λh=>by obtain⟨c1,c5,h0,hc1,hc5⟩:=h;subst h0;rfl,λh=>by obtain⟨c1,c5,h0,hc1,hc5⟩:=h;subst h0;simp[closed,closedL,TR.clo _ hc1,TR.clo _ hc5]⟩
theorem cd.g_Name{s v}(h:cd.t.R s v):fieldR 0 1 false v=some (vs s.Name):=by obtain⟨_,_,rfl,_⟩:=h;rfl
theorem cd.g_Extract{s v}(h:cd.t.R s v):∃w,fieldR 1 1 false v=some w/\(tSl tI).R s.Extract w:=by obtain⟨_,_,rfl,q,_⟩:=h;exact⟨_,mk1 (TR.agg _ q),q⟩
theorem cd.g_Cases{s v}(h:cd.t.R s v):∃w,fieldR 5 1 false v=some w/\(tSl gv.t).R s.Cases w:=by obtain⟨_,_,rfl,_,q⟩:=h;exact⟨_,mk1 (TR.agg _ q),q⟩
theorem cd.g_Default{s v}(h:cd.t.R s v):fieldR 6 1 false v=some (vi s.Default):=by obtain⟨_,_,rfl,_⟩:=h;rfl
structure ae where
 Kind:Int
 Table:Int
 Cond:List ai
 Then:List ae
 Else:List ae
 deriving Inhabited
mutual
def ae.R:ae->PV->Prop
 |⟨xKind,xTable,xCond,xThen,xElse⟩,v=>∃c2,∃c3,∃c4,v= .agg [vi xKind,vi xTable,c2,c3,c4]/\(tSl ai.t).R xCond c2/\((∃es,IsSl c3 es/\ae.Rl xThen es)/\xThen.length<=9223372036854775807)/\((∃es,IsSl c4 es/\ae.Rl xElse es)/\xElse.length<=9223372036854775807)
def ae.Rl:List ae->List PV->Prop
 |[],[]=>True
 |a::l,e::es=>ae.R a e/\ae.Rl l es
 |_,_=>False
end
theorem ae.Rl_eq:∀(l:List ae)(es:List PV),ae.Rl l es=All2 ae.R l es
 |[],[]=>by simp[ae.Rl,All2]
 |a::l,e::es=>by simp[ae.Rl,All2,ae.Rl_eq l es]
 |[],_::_=>by simp[ae.Rl,All2]
 |_::_,[]=>by simp[ae.Rl,All2]
mutual
theorem ae.R_clo:∀(s:ae)(v:PV),ae.R s v->closed v=true
 |⟨xKind,xTable,xCond,xThen,xElse⟩,v,h=>by
  simp only[ae.R]at h;obtain⟨c2,c3,c4,h0,hc2,hc3,hc4⟩:=h;subst h0;have kc2:=TR.clo _ hc2;obtain⟨⟨esc3,hic3,hlc3⟩,_⟩:=hc3;have kc3:=hic3.closed (ae.Rl_clo _ _ hlc3);obtain⟨⟨esc4,hic4,hlc4⟩,_⟩:=hc4;have kc4:=hic4.closed (ae.Rl_clo _ _ hlc4);simp[closed,closedL,kc2,kc3,kc4]
theorem ae.Rl_clo:∀(l:List ae)(es:List PV),ae.Rl l es->closedL es=true
 |[],[],_=>rfl
 |a::l,e::es,h=>by
  simp only[ae.Rl]at h;simp[closedL,ae.R_clo a e h.1,ae.Rl_clo l es h.2]
 |[],_::_,h=>by simp[ae.Rl]at h
 |_::_,[],h=>by simp[ae.Rl]at h
end
def ae.t:TR ae:=⟨ae.R,5,true,λ{a v} h=>by cases a;simp only[ae.R]at h;obtain⟨c2,c3,c4,h0,hc2,hc3,hc4⟩:=h;subst h0;rfl,λ{a v} h=>by cases a;simp only[ae.R]at h;obtain⟨c2,c3,c4,h0,hc2,hc3,hc4⟩:=h;subst h0;rfl,λ{a v} h=>ae.R_clo a v h⟩
theorem ae.lR{l:List ae}{v:PV}(h:(∃es,IsSl v es/\ae.Rl l es)/\l.length<=9223372036854775807):(tSl ae.t).R l v:=by obtain⟨⟨es,hi,hl⟩,hb⟩:=h;rw[ae.Rl_eq]at hl;exact⟨⟨es,hi,hl⟩,hb⟩
theorem ae.g_Kind{s:ae}{v:PV}(h:ae.t.R s v):fieldR 0 1 false v=some (vi s.Kind):=by cases s;have h:ae.R _ v:=h;simp only[ae.R]at h;obtain⟨c2,c3,c4,h0,hc2,hc3,hc4⟩:=h;subst h0;rfl
theorem ae.g_Table{s:ae}{v:PV}(h:ae.t.R s v):fieldR 1 1 false v=some (vi s.Table):=by cases s;have h:ae.R _ v:=h;simp only[ae.R]at h;obtain⟨c2,c3,c4,h0,hc2,hc3,hc4⟩:=h;subst h0;rfl
theorem ae.g_Cond{s:ae}{v:PV}(h:ae.t.R s v):∃w,fieldR 2 1 false v=some w/\(tSl ai.t).R s.Cond w:=by cases s;have h:ae.R _ v:=h;simp only[ae.R]at h;obtain⟨c2,c3,c4,h0,hc2,hc3,hc4⟩:=h;subst h0;exact⟨_,mk1 (TR.agg _ hc2),hc2⟩
theorem ae.g_Then{s:ae}{v:PV}(h:ae.t.R s v):∃w,fieldR 3 1 false v=some w/\(tSl ae.t).R s.Then w:=by cases s;have h:ae.R _ v:=h;simp only[ae.R]at h;obtain⟨c2,c3,c4,h0,hc2,hc3,hc4⟩:=h;subst h0;obtain⟨⟨es,hi,hl⟩,hb⟩:=hc3;rw[ae.Rl_eq]at hl;have hh:(tSl ae.t).R _ _:=⟨⟨es,hi,hl⟩,hb⟩;exact⟨_,mk1 (TR.agg _ hh),hh⟩
theorem ae.g_Else{s:ae}{v:PV}(h:ae.t.R s v):∃w,fieldR 4 1 false v=some w/\(tSl ae.t).R s.Else w:=by cases s;have h:ae.R _ v:=h;simp only[ae.R]at h;obtain⟨c2,c3,c4,h0,hc2,hc3,hc4⟩:=h;subst h0;obtain⟨⟨es,hi,hl⟩,hb⟩:=hc4;rw[ae.Rl_eq]at hl;have hh:(tSl ae.t).R _ _:=⟨⟨es,hi,hl⟩,hb⟩;exact⟨_,mk1 (TR.agg _ hh),hh⟩
structure af where
 Name:List UInt8
 Headers:List cm
 Metadata:List bg
 Registers:List cz
 Actions:List bt
 Tables:List ca
 States:List cd
 Control:List ae
 Deparser:List Int
 deriving Inhabited
def af.R:af->PV->Prop:=λs v=>∃c1,∃c2,∃c3,∃c4,∃c5,∃c6,∃c7,∃c8,v= .agg [vs s.Name,c1,c2,c3,c4,c5,c6,c7,c8]/\(tSl cm.t).R s.Headers c1/\(tSl bg.t).R s.Metadata c2/\(tSl cz.t).R s.Registers c3/\(tSl bt.t).R s.Actions c4/\(tSl ca.t).R s.Tables c5/\(tSl cd.t).R s.States c6/\(tSl ae.t).R s.Control c7/\(tSl tI).R s.Deparser c8
def af.t:TR af:=⟨af.R,9,true,λh=>by obtain⟨c1,c2,c3,c4,c5,c6,c7,c8,h0,hc1,hc2,hc3,hc4,hc5,hc6,hc7,hc8⟩:=h;subst h0;rfl,λh=>by obtain⟨c1,c2,c3,c4,c5,c6,c7,c8,h0,hc1,hc2,hc3,hc4,hc5,hc6,hc7,hc8⟩:=h;subst h0;rfl,λh=>by obtain⟨c1,c2,c3,c4,c5,c6,c7,c8,h0,hc1,hc2,hc3,hc4,hc5,hc6,hc7,hc8⟩:=h;subst h0;simp[closed,closedL,TR.clo _ hc1,TR.clo _ hc2,TR.clo _ hc3,TR.clo _ hc4,TR.clo _ hc5,TR.clo _ hc6,TR.clo _ hc7,TR.clo _ hc8]⟩
theorem af.g_Name{s v}(h:af.t.R s v):fieldR 0 1 false v=some (vs s.Name):=by obtain⟨_,_,_,_,_,_,_,_,rfl,_⟩:=h;rfl
theorem af.g_Headers{s v}(h:af.t.R s v):∃w,fieldR 1 1 false v=some w/\(tSl cm.t).R s.Headers w:=by obtain⟨_,_,_,_,_,_,_,_,rfl,q,_⟩:=h;exact⟨_,mk1 (TR.agg _ q),q⟩
theorem af.g_Metadata{s v}(h:af.t.R s v):∃w,fieldR 2 1 false v=some w/\(tSl bg.t).R s.Metadata w:=by obtain⟨_,_,_,_,_,_,_,_,rfl,_,q,_⟩:=h;exact⟨_,mk1 (TR.agg _ q),q⟩
theorem af.g_Registers{s v}(h:af.t.R s v):∃w,fieldR 3 1 false v=some w/\(tSl cz.t).R s.Registers w:=by obtain⟨_,_,_,_,_,_,_,_,rfl,_,_,q,_⟩:=h;exact⟨_,mk1 (TR.agg _ q),q⟩
theorem af.g_Actions{s v}(h:af.t.R s v):∃w,fieldR 4 1 false v=some w/\(tSl bt.t).R s.Actions w:=by obtain⟨_,_,_,_,_,_,_,_,rfl,_,_,_,q,_⟩:=h;exact⟨_,mk1 (TR.agg _ q),q⟩
theorem af.g_Tables{s v}(h:af.t.R s v):∃w,fieldR 5 1 false v=some w/\(tSl ca.t).R s.Tables w:=by obtain⟨_,_,_,_,_,_,_,_,rfl,_,_,_,_,q,_⟩:=h;exact⟨_,mk1 (TR.agg _ q),q⟩
theorem af.g_States{s v}(h:af.t.R s v):∃w,fieldR 6 1 false v=some w/\(tSl cd.t).R s.States w:=by obtain⟨_,_,_,_,_,_,_,_,rfl,_,_,_,_,_,q,_⟩:=h;exact⟨_,mk1 (TR.agg _ q),q⟩
theorem af.g_Control{s v}(h:af.t.R s v):∃w,fieldR 7 1 false v=some w/\(tSl ae.t).R s.Control w:=by obtain⟨_,_,_,_,_,_,_,_,rfl,_,_,_,_,_,_,q,_⟩:=h;exact⟨_,mk1 (TR.agg _ q),q⟩
theorem af.g_Deparser{s v}(h:af.t.R s v):∃w,fieldR 8 1 false v=some w/\(tSl tI).R s.Deparser w:=by obtain⟨_,_,_,_,_,_,_,_,rfl,_,_,_,_,_,_,_,q⟩:=h;exact⟨_,mk1 (TR.agg _ q),q⟩
structure bf where
 Program:af
 Params:List bg
 deriving Inhabited
def bf.R:bf->PV->Prop:=λs v=>∃c1,∃c2,∃c3,∃c4,∃c5,∃c6,∃c7,∃c8,∃c9,v= .agg [vs s.Program.Name,c1,c2,c3,c4,c5,c6,c7,c8,c9]/\(tSl cm.t).R s.Program.Headers c1/\(tSl bg.t).R s.Program.Metadata c2/\(tSl cz.t).R s.Program.Registers c3/\(tSl bt.t).R s.Program.Actions c4/\(tSl ca.t).R s.Program.Tables c5/\(tSl cd.t).R s.Program.States c6/\(tSl ae.t).R s.Program.Control c7/\(tSl tI).R s.Program.Deparser c8/\(tSl bg.t).R s.Params c9
def bf.t:TR bf:=⟨bf.R,10,true,λh=>by obtain⟨c1,c2,c3,c4,c5,c6,c7,c8,c9,h0,hc1,hc2,hc3,hc4,hc5,hc6,hc7,hc8,hc9⟩:=h;subst h0;rfl,λh=>by obtain⟨c1,c2,c3,c4,c5,c6,c7,c8,c9,h0,hc1,hc2,hc3,hc4,hc5,hc6,hc7,hc8,hc9⟩:=h;subst h0;rfl,λh=>by obtain⟨c1,c2,c3,c4,c5,c6,c7,c8,c9,h0,hc1,hc2,hc3,hc4,hc5,hc6,hc7,hc8,hc9⟩:=h;subst h0;simp[closed,closedL,TR.clo _ hc1,TR.clo _ hc2,TR.clo _ hc3,TR.clo _ hc4,TR.clo _ hc5,TR.clo _ hc6,TR.clo _ hc7,TR.clo _ hc8,TR.clo _ hc9]⟩
theorem bf.g_Program{s:bf}{v:PV}(h:bf.t.R s v):∃w,fieldR 0 9 true v=some w/\af.t.R s.Program w:=by obtain⟨c1,c2,c3,c4,c5,c6,c7,c8,c9,h0,hc1,hc2,hc3,hc4,hc5,hc6,hc7,hc8,hc9⟩:=h;subst h0;exact⟨_,O,⟨c1,c2,c3,c4,c5,c6,c7,c8,O,hc1,hc2,hc3,hc4,hc5,hc6,hc7,hc8⟩⟩
theorem bf.g_Params{s v}(h:bf.t.R s v):∃w,fieldR 9 1 false v=some w/\(tSl bg.t).R s.Params w:=by obtain⟨_,_,_,_,_,_,_,_,_,rfl,_,_,_,_,_,_,_,_,q⟩:=h;exact⟨_,mk1 (TR.agg _ q),q⟩
structure bd where
 Unit:Int
 Want:Bool
 deriving Inhabited,DecidableEq
def bd.R:bd->PV->Prop:=λs v=>v= .agg [vi s.Unit,vb s.Want]
def bd.t:TR bd:=⟨bd.R,2,true,λh=>by have h0:_=_:=h;subst h0;rfl,λh=>by have h0:_=_:=h;subst h0;rfl,λh=>by have h0:_=_:=h;subst h0;simp[closed,closedL]⟩
theorem bd.g_Unit{s v}(h:bd.t.R s v):fieldR 0 1 false v=some (vi s.Unit):=by cases h;rfl
theorem bd.g_Want{s v}(h:bd.t.R s v):fieldR 1 1 false v=some (vb s.Want):=by cases h;rfl
structure ay where
 Table:Int
 Cond:List ai
 Guards:List bd
 deriving Inhabited,DecidableEq
def ay.R:ay->PV->Prop:=λs v=>∃c1,∃c2,v= .agg [vi s.Table,c1,c2]/\(tSl ai.t).R s.Cond c1/\(tSl bd.t).R s.Guards c2
def ay.t:TR ay:=⟨ay.R,3,true,λh=>by obtain⟨c1,c2,h0,hc1,hc2⟩:=h;subst h0;rfl,λh=>by obtain⟨c1,c2,h0,hc1,hc2⟩:=h;subst h0;rfl,λh=>by obtain⟨c1,c2,h0,hc1,hc2⟩:=h;subst h0;simp[closed,closedL,TR.clo _ hc1,TR.clo _ hc2]⟩
theorem ay.g_Table{s v}(h:ay.t.R s v):fieldR 0 1 false v=some (vi s.Table):=by obtain⟨_,_,rfl,_⟩:=h;rfl
theorem ay.g_Cond{s v}(h:ay.t.R s v):∃w,fieldR 1 1 false v=some w/\(tSl ai.t).R s.Cond w:=by obtain⟨_,_,rfl,q,_⟩:=h;exact⟨_,mk1 (TR.agg _ q),q⟩
theorem ay.g_Guards{s v}(h:ay.t.R s v):∃w,fieldR 2 1 false v=some w/\(tSl bd.t).R s.Guards w:=by obtain⟨_,_,rfl,_,q⟩:=h;exact⟨_,mk1 (TR.agg _ q),q⟩
structure au where
 p:af
 cells:List Int
 deriving Inhabited
def au.R:au->PV->Prop:=λs v=>∃c1,∃c2,∃c3,∃c4,∃c5,∃c6,∃c7,∃c8,∃c9,v= .agg [vs s.p.Name,c1,c2,c3,c4,c5,c6,c7,c8,c9]/\(tSl cm.t).R s.p.Headers c1/\(tSl bg.t).R s.p.Metadata c2/\(tSl cz.t).R s.p.Registers c3/\(tSl bt.t).R s.p.Actions c4/\(tSl ca.t).R s.p.Tables c5/\(tSl cd.t).R s.p.States c6/\(tSl ae.t).R s.p.Control c7/\(tSl tI).R s.p.Deparser c8/\(tSl tI).R s.cells c9
def au.t:TR au:=⟨au.R,10,true,λh=>by obtain⟨c1,c2,c3,c4,c5,c6,c7,c8,c9,h0,hc1,hc2,hc3,hc4,hc5,hc6,hc7,hc8,hc9⟩:=h;subst h0;rfl,λh=>by obtain⟨c1,c2,c3,c4,c5,c6,c7,c8,c9,h0,hc1,hc2,hc3,hc4,hc5,hc6,hc7,hc8,hc9⟩:=h;subst h0;rfl,λh=>by obtain⟨c1,c2,c3,c4,c5,c6,c7,c8,c9,h0,hc1,hc2,hc3,hc4,hc5,hc6,hc7,hc8,hc9⟩:=h;subst h0;simp[closed,closedL,TR.clo _ hc1,TR.clo _ hc2,TR.clo _ hc3,TR.clo _ hc4,TR.clo _ hc5,TR.clo _ hc6,TR.clo _ hc7,TR.clo _ hc8,TR.clo _ hc9]⟩
structure dq where
 scope:bf
 deriving Inhabited
def dq.R:dq->PV->Prop:=λs v=>∃c1,∃c2,∃c3,∃c4,∃c5,∃c6,∃c7,∃c8,∃c9,v= .agg [vs s.scope.Program.Name,c1,c2,c3,c4,c5,c6,c7,c8,c9]/\(tSl cm.t).R s.scope.Program.Headers c1/\(tSl bg.t).R s.scope.Program.Metadata c2/\(tSl cz.t).R s.scope.Program.Registers c3/\(tSl bt.t).R s.scope.Program.Actions c4/\(tSl ca.t).R s.scope.Program.Tables c5/\(tSl cd.t).R s.scope.Program.States c6/\(tSl ae.t).R s.scope.Program.Control c7/\(tSl tI).R s.scope.Program.Deparser c8/\(tSl bg.t).R s.scope.Params c9
def dq.t:TR dq:=⟨dq.R,10,true,λh=>by obtain⟨c1,c2,c3,c4,c5,c6,c7,c8,c9,h0,hc1,hc2,hc3,hc4,hc5,hc6,hc7,hc8,hc9⟩:=h;subst h0;rfl,λh=>by obtain⟨c1,c2,c3,c4,c5,c6,c7,c8,c9,h0,hc1,hc2,hc3,hc4,hc5,hc6,hc7,hc8,hc9⟩:=h;subst h0;rfl,λh=>by obtain⟨c1,c2,c3,c4,c5,c6,c7,c8,c9,h0,hc1,hc2,hc3,hc4,hc5,hc6,hc7,hc8,hc9⟩:=h;subst h0;simp[closed,closedL,TR.clo _ hc1,TR.clo _ hc2,TR.clo _ hc3,TR.clo _ hc4,TR.clo _ hc5,TR.clo _ hc6,TR.clo _ hc7,TR.clo _ hc8,TR.clo _ hc9]⟩
theorem dq.g_scope{s:dq}{v:PV}(h:dq.t.R s v):∃w,fieldR 0 10 true v=some w/\bf.t.R s.scope w:=by obtain⟨c1,c2,c3,c4,c5,c6,c7,c8,c9,h0,hc1,hc2,hc3,hc4,hc5,hc6,hc7,hc8,hc9⟩:=h;subst h0;exact⟨_,O,⟨c1,c2,c3,c4,c5,c6,c7,c8,c9,O,hc1,hc2,hc3,hc4,hc5,hc6,hc7,hc8,hc9⟩⟩
structure cn where
 fields:List aa
 headers:List Int
 registers:List Int
 deriving Inhabited,DecidableEq
def cn.R:cn->PV->Prop:=λs v=>∃c0,∃c1,∃c2,v= .agg [c0,c1,c2]/\(tSl aa.t).R s.fields c0/\(tSl tI).R s.headers c1/\(tSl tI).R s.registers c2
def cn.t:TR cn:=⟨cn.R,3,true,λh=>by obtain⟨c0,c1,c2,h0,hc0,hc1,hc2⟩:=h;subst h0;rfl,λh=>by obtain⟨c0,c1,c2,h0,hc0,hc1,hc2⟩:=h;subst h0;rfl,λh=>by obtain⟨c0,c1,c2,h0,hc0,hc1,hc2⟩:=h;subst h0;simp[closed,closedL,TR.clo _ hc0,TR.clo _ hc1,TR.clo _ hc2]⟩
structure av where
 Fields:List aa
 Headers:List Int
 Registers:List Int
 deriving Inhabited,DecidableEq
def av.R:av->PV->Prop:=λs v=>∃c0,∃c1,∃c2,v= .agg [c0,c1,c2]/\(tSl aa.t).R s.Fields c0/\(tSl tI).R s.Headers c1/\(tSl tI).R s.Registers c2
def av.t:TR av:=⟨av.R,3,true,λh=>by obtain⟨c0,c1,c2,h0,hc0,hc1,hc2⟩:=h;subst h0;rfl,λh=>by obtain⟨c0,c1,c2,h0,hc0,hc1,hc2⟩:=h;subst h0;rfl,λh=>by obtain⟨c0,c1,c2,h0,hc0,hc1,hc2⟩:=h;subst h0;simp[closed,closedL,TR.clo _ hc0,TR.clo _ hc1,TR.clo _ hc2]⟩
theorem av.g_Fields{s v}(h:av.t.R s v):∃w,fieldR 0 1 false v=some w/\(tSl aa.t).R s.Fields w:=by obtain⟨_,_,_,rfl,q,_⟩:=h;exact⟨_,mk1 (TR.agg _ q),q⟩
theorem av.g_Headers{s v}(h:av.t.R s v):∃w,fieldR 1 1 false v=some w/\(tSl tI).R s.Headers w:=by obtain⟨_,_,_,rfl,_,q,_⟩:=h;exact⟨_,mk1 (TR.agg _ q),q⟩
theorem av.g_Registers{s v}(h:av.t.R s v):∃w,fieldR 2 1 false v=some w/\(tSl tI).R s.Registers w:=by obtain⟨_,_,_,rfl,_,_,q⟩:=h;exact⟨_,mk1 (TR.agg _ q),q⟩
theorem aa.eql_87{ox oy:Operand}{a b:aa}{va vb':PV}(ha:aa.t.R a va)(hb:aa.t.R b vb'):binF Tryz.prog .eql 87 ox oy va vb'=some (vb (decide (a=b))):=by
 have ha:va=_:=ha;have hb:vb'=_:=hb;subst ha;subst hb;rw[cj4 Tryz.underlying87 Y Y Tryz.underlying3 Tryz.underlying3 rfl rfl OO OO];cases a;cases b;simp only[Option.some.injEq,PV.sc.injEq,Value.bool.injEq];rw[Bool.eq_iff_iff];simp[aa.mk.injEq,ti,BitVec.toNat_inj]
theorem aa.neq_87{ox oy:Operand}{a b:aa}{va vb':PV}(ha:aa.t.R a va)(hb:aa.t.R b vb'):binF Tryz.prog .neq 87 ox oy va vb'=some (vb (!decide (a=b))):=by
 have ha:va=_:=ha;have hb:vb'=_:=hb;subst ha;subst hb;rw[cr7 Tryz.underlying87 Y Y Tryz.underlying3 Tryz.underlying3 rfl rfl OO OO];cases a;cases b;simp only[Option.some.injEq,PV.sc.injEq,Value.bool.injEq,Bool.not_eq_not];rw[Bool.eq_iff_iff];simp[aa.mk.injEq,ti,BitVec.toNat_inj]
theorem bd.eq_102{ox oy:Operand}{a b:bd}{va vb':PV}(ha:bd.t.R a va)(hb:bd.t.R b vb'):binF Tryz.prog .eql 102 ox oy va vb'=some (vb (decide (a=b)))/\binF Tryz.prog .neq 102 ox oy va vb'=some (vb (!decide (a=b))):=by
 have ha:va=_:=ha;have hb:vb'=_:=hb;subst ha;subst hb;have h:=ed0 (ox:=ox) (oy:=oy) (P:=Tryz.prog) (t:=102) (va:= .agg [vi a.Unit,vb a.Want]) (vb':= .agg [vi b.Unit,vb b.Want]) O O Y (di6 (n:=9998) Tryz.underlying102 Y Tryz.underlying3 Tryz.underlying4 O O O O OO OO (av1 Tryz.underlying3) (bz4 Tryz.underlying4));have e:decide (a=b)=((a.Unit==b.Unit)&&(a.Want==b.Want)):=by
  cases a;cases b;rw[Bool.eq_iff_iff];simp[bd.mk.injEq,ti,BitVec.toNat_inj,and_assoc]
 rw[e];exact h
theorem bd.eql_102{ox oy:Operand}{a b:bd}{va vb':PV}(ha:bd.t.R a va)(hb:bd.t.R b vb'):binF Tryz.prog .eql 102 ox oy va vb'=some (vb (decide (a=b))):=(bd.eq_102 ha hb).1
end Go.Proofs.YtmonnlkagniolaaGreat
