import Derived.Test.YtmonnlkagniolaaGreatPbEq
import Derived.Test.YtmonnlkagniolaaGreatRows
set_option linter.all false
set_option maxRecDepth 100000
namespace Go.Proofs.YtmonnlkagniolaaGreat
open Go Go.Pb Go.RowKit
structure az where
 Name:List UInt8
 Width:Int
 deriving Inhabited,DecidableEq
def az.R:az->PV->Prop:=λs v=>v= .agg [vs s.Name,vi s.Width]
def az.t:TR az:=⟨az.R,2,true,λh=>by have h0:_=_:=h;subst h0;rfl,λh=>by have h0:_=_:=h;subst h0;rfl,λh=>by have h0:_=_:=h;subst h0;simp[closed,closedL]⟩
theorem az.g_Name{s v}(h:az.t.R s v):fieldR 0 1 false v=some (vs s.Name):=by cases h;rfl
theorem az.g_Width{s v}(h:az.t.R s v):fieldR 1 1 false v=some (vi s.Width):=by cases h;rfl
structure aa where
 Header:Int
 Field:Int
 deriving Inhabited,DecidableEq
def aa.R:aa->PV->Prop:=λs v=>v= .agg [vi s.Header,vi s.Field]
def aa.t:TR aa:=⟨aa.R,2,true,λh=>by have h0:_=_:=h;subst h0;rfl,λh=>by have h0:_=_:=h;subst h0;rfl,λh=>by have h0:_=_:=h;subst h0;simp[closed,closedL]⟩
theorem aa.g_Header{s v}(h:aa.t.R s v):fieldR 0 1 false v=some (vi s.Header):=by cases h;rfl
theorem aa.g_Field{s v}(h:aa.t.R s v):fieldR 1 1 false v=some (vi s.Field):=by cases h;rfl
structure ah where
 Op:Int
 N:Int
 W:Int
 deriving Inhabited,DecidableEq
def ah.R:ah->PV->Prop:=λs v=>v= .agg [vi s.Op,vi s.N,vi s.W]
def ah.t:TR ah:=⟨ah.R,3,true,λh=>by have h0:_=_:=h;subst h0;rfl,λh=>by have h0:_=_:=h;subst h0;rfl,λh=>by have h0:_=_:=h;subst h0;simp[closed,closedL]⟩
theorem ah.g_Op{s v}(h:ah.t.R s v):fieldR 0 1 false v=some (vi s.Op):=by cases h;rfl
theorem ah.g_N{s v}(h:ah.t.R s v):fieldR 1 1 false v=some (vi s.N):=by cases h;rfl
theorem ah.g_W{s v}(h:ah.t.R s v):fieldR 2 1 false v=some (vi s.W):=by cases h;rfl
structure au where
 Kind:Int
 Dst:aa
 Register:Int
 Header:Int
 Index:List ah
 Value:List ah
 deriving Inhabited,DecidableEq
def au.R:au->PV->Prop:=λs v=>∃c5,∃c6,v= .agg [vi s.Kind,vi s.Dst.Header,vi s.Dst.Field,vi s.Register,vi s.Header,c5,c6]/\(tSl ah.t).R s.Index c5/\(tSl ah.t).R s.Value c6
def au.t:TR au:=⟨au.R,7,true,λh=>by obtain⟨c5,c6,h0,hc5,hc6⟩:=h;subst h0;rfl,λh=>by obtain⟨c5,c6,h0,hc5,hc6⟩:=h;subst h0;rfl,λh=>by obtain⟨c5,c6,h0,hc5,hc6⟩:=h;subst h0;simp[closed,closedL,TR.clo _ hc5,TR.clo _ hc6]⟩
theorem au.g_Kind{s v}(h:au.t.R s v):fieldR 0 1 false v=some (vi s.Kind):=by obtain⟨_,_,rfl,_⟩:=h;rfl
theorem au.g_Dst{s:au}{v:PV}(h:au.t.R s v):∃w,fieldR 1 2 true v=some w/\aa.t.R s.Dst w:=by obtain⟨c5,c6,h0,hc5,hc6⟩:=h;subst h0;exact⟨_,O,O⟩
theorem au.g_Register{s v}(h:au.t.R s v):fieldR 3 1 false v=some (vi s.Register):=by obtain⟨_,_,rfl,_⟩:=h;rfl
theorem au.g_Header{s v}(h:au.t.R s v):fieldR 4 1 false v=some (vi s.Header):=by obtain⟨_,_,rfl,_⟩:=h;rfl
theorem au.g_Index{s v}(h:au.t.R s v):∃w,fieldR 5 1 false v=some w/\(tSl ah.t).R s.Index w:=by obtain⟨_,_,rfl,q,_⟩:=h;exact⟨_,mk1 (TR.agg _ q),q⟩
theorem au.g_Value{s v}(h:au.t.R s v):∃w,fieldR 6 1 false v=some w/\(tSl ah.t).R s.Value w:=by obtain⟨_,_,rfl,_,q⟩:=h;exact⟨_,mk1 (TR.agg _ q),q⟩
structure bm where
 Name:List UInt8
 Params:List az
 Body:List au
 deriving Inhabited,DecidableEq
def bm.R:bm->PV->Prop:=λs v=>∃c1,∃c2,v= .agg [vs s.Name,c1,c2]/\(tSl az.t).R s.Params c1/\(tSl au.t).R s.Body c2
def bm.t:TR bm:=⟨bm.R,3,true,λh=>by obtain⟨c1,c2,h0,hc1,hc2⟩:=h;subst h0;rfl,λh=>by obtain⟨c1,c2,h0,hc1,hc2⟩:=h;subst h0;rfl,λh=>by obtain⟨c1,c2,h0,hc1,hc2⟩:=h;subst h0;simp[closed,closedL,TR.clo _ hc1,TR.clo _ hc2]⟩
theorem bm.g_Name{s v}(h:bm.t.R s v):fieldR 0 1 false v=some (vs s.Name):=by obtain⟨_,_,rfl,_⟩:=h;rfl
theorem bm.g_Params{s v}(h:bm.t.R s v):∃w,fieldR 1 1 false v=some w/\(tSl az.t).R s.Params w:=by obtain⟨_,_,rfl,q,_⟩:=h;exact⟨_,mk1 (TR.agg _ q),q⟩
theorem bm.g_Body{s v}(h:bm.t.R s v):∃w,fieldR 2 1 false v=some w/\(tSl au.t).R s.Body w:=by obtain⟨_,_,rfl,_,q⟩:=h;exact⟨_,mk1 (TR.agg _ q),q⟩
structure bz where
 Name:List UInt8
 Fields:List az
 deriving Inhabited,DecidableEq
def bz.R:bz->PV->Prop:=λs v=>∃c1,v= .agg [vs s.Name,c1]/\(tSl az.t).R s.Fields c1
def bz.t:TR bz:=⟨bz.R,2,true,λh=>by obtain⟨c1,h0,hc1⟩:=h;subst h0;rfl,λh=>by obtain⟨c1,h0,hc1⟩:=h;subst h0;rfl,λh=>by obtain⟨c1,h0,hc1⟩:=h;subst h0;simp[closed,closedL,TR.clo _ hc1]⟩
theorem bz.g_Name{s v}(h:bz.t.R s v):fieldR 0 1 false v=some (vs s.Name):=by obtain⟨_,rfl,_⟩:=h;rfl
theorem bz.g_Fields{s v}(h:bz.t.R s v):∃w,fieldR 1 1 false v=some w/\(tSl az.t).R s.Fields w:=by obtain⟨_,rfl,q⟩:=h;exact⟨_,mk1 (TR.agg _ q),q⟩
structure cq where
 Name:List UInt8
 Width:Int
 Size:Int
 deriving Inhabited,DecidableEq
def cq.R:cq->PV->Prop:=λs v=>v= .agg [vs s.Name,vi s.Width,vi s.Size]
def cq.t:TR cq:=⟨cq.R,3,true,λh=>by have h0:_=_:=h;subst h0;rfl,λh=>by have h0:_=_:=h;subst h0;rfl,λh=>by have h0:_=_:=h;subst h0;simp[closed,closedL]⟩
theorem cq.g_Name{s v}(h:cq.t.R s v):fieldR 0 1 false v=some (vs s.Name):=by cases h;rfl
theorem cq.g_Width{s v}(h:cq.t.R s v):fieldR 1 1 false v=some (vi s.Width):=by cases h;rfl
theorem cq.g_Size{s v}(h:cq.t.R s v):fieldR 2 1 false v=some (vi s.Size):=by cases h;rfl
structure fb where
 Field:aa
 Kind:Int
 deriving Inhabited,DecidableEq
def fb.R:fb->PV->Prop:=λs v=>v= .agg [vi s.Field.Header,vi s.Field.Field,vi s.Kind]
def fb.t:TR fb:=⟨fb.R,3,true,λh=>by have h0:_=_:=h;subst h0;rfl,λh=>by have h0:_=_:=h;subst h0;rfl,λh=>by have h0:_=_:=h;subst h0;simp[closed,closedL]⟩
theorem fb.g_Field{s:fb}{v:PV}(h:fb.t.R s v):∃w,fieldR 0 2 true v=some w/\aa.t.R s.Field w:=by have h0:_=_:=h;subst h0;exact⟨_,O,O⟩
theorem fb.g_Kind{s v}(h:fb.t.R s v):fieldR 2 1 false v=some (vi s.Kind):=by cases h;rfl
structure ga where
 Action:Int
 Args:List (BitVec 32)
 deriving Inhabited,DecidableEq
def ga.R:ga->PV->Prop:=λs v=>∃c1,v= .agg [vi s.Action,c1]/\(tSl cg8).R s.Args c1
def ga.t:TR ga:=⟨ga.R,2,true,λh=>by obtain⟨c1,h0,hc1⟩:=h;subst h0;rfl,λh=>by obtain⟨c1,h0,hc1⟩:=h;subst h0;rfl,λh=>by obtain⟨c1,h0,hc1⟩:=h;subst h0;simp[closed,closedL,TR.clo _ hc1]⟩
theorem ga.g_Args{s v}(h:ga.t.R s v):∃w,fieldR 1 1 false v=some w/\(tSl cg8).R s.Args w:=by obtain⟨_,rfl,q⟩:=h;exact⟨_,mk1 (TR.agg _ q),q⟩
structure bw where
 Name:List UInt8
 Keys:List fb
 Actions:List Int
 Default:ga
 Size:Int
 deriving Inhabited,DecidableEq
def bw.R:bw->PV->Prop:=λs v=>∃c1,∃c2,∃c4,v= .agg [vs s.Name,c1,c2,vi s.Default.Action,c4,vi s.Size]/\(tSl fb.t).R s.Keys c1/\(tSl tI).R s.Actions c2/\(tSl cg8).R s.Default.Args c4
def bw.t:TR bw:=⟨bw.R,6,true,λh=>by obtain⟨c1,c2,c4,h0,hc1,hc2,hc4⟩:=h;subst h0;rfl,λh=>by obtain⟨c1,c2,c4,h0,hc1,hc2,hc4⟩:=h;subst h0;rfl,λh=>by obtain⟨c1,c2,c4,h0,hc1,hc2,hc4⟩:=h;subst h0;simp[closed,closedL,TR.clo _ hc1,TR.clo _ hc2,TR.clo _ hc4]⟩
theorem bw.g_Name{s v}(h:bw.t.R s v):fieldR 0 1 false v=some (vs s.Name):=by obtain⟨_,_,_,rfl,_⟩:=h;rfl
theorem bw.g_Keys{s v}(h:bw.t.R s v):∃w,fieldR 1 1 false v=some w/\(tSl fb.t).R s.Keys w:=by obtain⟨_,_,_,rfl,q,_⟩:=h;exact⟨_,mk1 (TR.agg _ q),q⟩
theorem bw.g_Actions{s v}(h:bw.t.R s v):∃w,fieldR 2 1 false v=some w/\(tSl tI).R s.Actions w:=by obtain⟨_,_,_,rfl,_,q,_⟩:=h;exact⟨_,mk1 (TR.agg _ q),q⟩
theorem bw.g_Default{s:bw}{v:PV}(h:bw.t.R s v):∃w,fieldR 3 2 true v=some w/\ga.t.R s.Default w:=by obtain⟨c1,c2,c4,h0,hc1,hc2,hc4⟩:=h;subst h0;exact⟨_,O,⟨c4,O,hc4⟩⟩
theorem bw.g_Size{s v}(h:bw.t.R s v):fieldR 5 1 false v=some (vi s.Size):=by obtain⟨_,_,_,rfl,_⟩:=h;rfl
structure fx where
 Value:BitVec 32
 Mask:BitVec 32
 Next:Int
 deriving Inhabited,DecidableEq
def fx.R:fx->PV->Prop:=λs v=>v= .agg [ue s.Value,ue s.Mask,vi s.Next]
def fx.t:TR fx:=⟨fx.R,3,true,λh=>by have h0:_=_:=h;subst h0;rfl,λh=>by have h0:_=_:=h;subst h0;rfl,λh=>by have h0:_=_:=h;subst h0;simp[closed,closedL]⟩
theorem fx.g_Value{s v}(h:fx.t.R s v):fieldR 0 1 false v=some (ue s.Value):=by cases h;rfl
structure bt where
 Name:List UInt8
 Extract:List Int
 Select:Bool
 On:aa
 Cases:List fx
 Default:Int
 deriving Inhabited,DecidableEq
def bt.R:bt->PV->Prop:=λs v=>∃c1,∃c5,v= .agg [vs s.Name,c1,vb s.Select,vi s.On.Header,vi s.On.Field,c5,vi s.Default]/\(tSl tI).R s.Extract c1/\(tSl fx.t).R s.Cases c5
def bt.t:TR bt:=⟨bt.R,7,true,λh=>by obtain⟨c1,c5,h0,hc1,hc5⟩:=h;subst h0;rfl,λh=>by obtain⟨c1,c5,h0,hc1,hc5⟩:=h;subst h0;rfl,λh=>by obtain⟨c1,c5,h0,hc1,hc5⟩:=h;subst h0;simp[closed,closedL,TR.clo _ hc1,TR.clo _ hc5]⟩
theorem bt.g_Name{s v}(h:bt.t.R s v):fieldR 0 1 false v=some (vs s.Name):=by obtain⟨_,_,rfl,_⟩:=h;rfl
theorem bt.g_Extract{s v}(h:bt.t.R s v):∃w,fieldR 1 1 false v=some w/\(tSl tI).R s.Extract w:=by obtain⟨_,_,rfl,q,_⟩:=h;exact⟨_,mk1 (TR.agg _ q),q⟩
theorem bt.g_Cases{s v}(h:bt.t.R s v):∃w,fieldR 5 1 false v=some w/\(tSl fx.t).R s.Cases w:=by obtain⟨_,_,rfl,_,q⟩:=h;exact⟨_,mk1 (TR.agg _ q),q⟩
theorem bt.g_Default{s v}(h:bt.t.R s v):fieldR 6 1 false v=some (vi s.Default):=by obtain⟨_,_,rfl,_⟩:=h;rfl
structure aw where
 Kind:Int
 Table:Int
 Cond:List ah
 Then:List aw
 Else:List aw
 deriving Inhabited
mutual
def aw.R:aw->PV->Prop
 |⟨xKind,xTable,xCond,xThen,xElse⟩,v=>∃c2,∃c3,∃c4,v= .agg [vi xKind,vi xTable,c2,c3,c4]/\(tSl ah.t).R xCond c2/\((∃es,IsSl c3 es/\aw.Rl xThen es)/\xThen.length<=9223372036854775807)/\((∃es,IsSl c4 es/\aw.Rl xElse es)/\xElse.length<=9223372036854775807)
def aw.Rl:List aw->List PV->Prop
 |[],[]=>True
 |a::l,e::es=>aw.R a e/\aw.Rl l es
 |_,_=>False
end
theorem aw.Rl_eq:∀(l:List aw)(es:List PV),aw.Rl l es=All2 aw.R l es
 |[],[]=>by simp[aw.Rl,All2]
 |a::l,e::es=>by simp[aw.Rl,All2,aw.Rl_eq l es]
 |[],_::_=>by simp[aw.Rl,All2]
 |_::_,[]=>by simp[aw.Rl,All2]
mutual
theorem aw.R_clo:∀(s:aw)(v:PV),aw.R s v->closed v=true
 |⟨xKind,xTable,xCond,xThen,xElse⟩,v,h=>by
  simp only[aw.R]at h;obtain⟨c2,c3,c4,h0,hc2,hc3,hc4⟩:=h;subst h0;have kc2:=TR.clo _ hc2;obtain⟨⟨esc3,hic3,hlc3⟩,_⟩:=hc3;have kc3:=hic3.closed (aw.Rl_clo _ _ hlc3);obtain⟨⟨esc4,hic4,hlc4⟩,_⟩:=hc4;have kc4:=hic4.closed (aw.Rl_clo _ _ hlc4);simp[closed,closedL,kc2,kc3,kc4]
theorem aw.Rl_clo:∀(l:List aw)(es:List PV),aw.Rl l es->closedL es=true
 |[],[],_=>rfl
 |a::l,e::es,h=>by
  simp only[aw.Rl]at h;simp[closedL,aw.R_clo a e h.1,aw.Rl_clo l es h.2]
 |[],_::_,h=>by simp[aw.Rl]at h
 |_::_,[],h=>by simp[aw.Rl]at h
end
def aw.t:TR aw:=⟨aw.R,5,true,λ{a v} h=>by cases a;simp only[aw.R]at h;obtain⟨c2,c3,c4,h0,hc2,hc3,hc4⟩:=h;subst h0;rfl,λ{a v} h=>by cases a;simp only[aw.R]at h;obtain⟨c2,c3,c4,h0,hc2,hc3,hc4⟩:=h;subst h0;rfl,λ{a v} h=>aw.R_clo a v h⟩
theorem aw.lR{l:List aw}{v:PV}(h:(∃es,IsSl v es/\aw.Rl l es)/\l.length<=9223372036854775807):(tSl aw.t).R l v:=by obtain⟨⟨es,hi,hl⟩,hb⟩:=h;rw[aw.Rl_eq]at hl;exact⟨⟨es,hi,hl⟩,hb⟩
theorem aw.g_Kind{s:aw}{v:PV}(h:aw.t.R s v):fieldR 0 1 false v=some (vi s.Kind):=by cases s;have h:aw.R _ v:=h;simp only[aw.R]at h;obtain⟨c2,c3,c4,h0,hc2,hc3,hc4⟩:=h;subst h0;rfl
theorem aw.g_Table{s:aw}{v:PV}(h:aw.t.R s v):fieldR 1 1 false v=some (vi s.Table):=by cases s;have h:aw.R _ v:=h;simp only[aw.R]at h;obtain⟨c2,c3,c4,h0,hc2,hc3,hc4⟩:=h;subst h0;rfl
theorem aw.g_Cond{s:aw}{v:PV}(h:aw.t.R s v):∃w,fieldR 2 1 false v=some w/\(tSl ah.t).R s.Cond w:=by cases s;have h:aw.R _ v:=h;simp only[aw.R]at h;obtain⟨c2,c3,c4,h0,hc2,hc3,hc4⟩:=h;subst h0;exact⟨_,mk1 (TR.agg _ hc2),hc2⟩
structure ae where
 Name:List UInt8
 Headers:List bz
 Metadata:List az
 Registers:List cq
 Actions:List bm
 Tables:List bw
 States:List bt
 Control:List aw
 Deparser:List Int
 deriving Inhabited
def ae.R:ae->PV->Prop:=λs v=>∃c1,∃c2,∃c3,∃c4,∃c5,∃c6,∃c7,∃c8,v= .agg [vs s.Name,c1,c2,c3,c4,c5,c6,c7,c8]/\(tSl bz.t).R s.Headers c1/\(tSl az.t).R s.Metadata c2/\(tSl cq.t).R s.Registers c3/\(tSl bm.t).R s.Actions c4/\(tSl bw.t).R s.Tables c5/\(tSl bt.t).R s.States c6/\(tSl aw.t).R s.Control c7/\(tSl tI).R s.Deparser c8
def ae.t:TR ae:=⟨ae.R,9,true,λh=>by obtain⟨c1,c2,c3,c4,c5,c6,c7,c8,h0,hc1,hc2,hc3,hc4,hc5,hc6,hc7,hc8⟩:=h;subst h0;rfl,λh=>by obtain⟨c1,c2,c3,c4,c5,c6,c7,c8,h0,hc1,hc2,hc3,hc4,hc5,hc6,hc7,hc8⟩:=h;subst h0;rfl,λh=>by obtain⟨c1,c2,c3,c4,c5,c6,c7,c8,h0,hc1,hc2,hc3,hc4,hc5,hc6,hc7,hc8⟩:=h;subst h0;simp[closed,closedL,TR.clo _ hc1,TR.clo _ hc2,TR.clo _ hc3,TR.clo _ hc4,TR.clo _ hc5,TR.clo _ hc6,TR.clo _ hc7,TR.clo _ hc8]⟩
theorem ae.g_Name{s v}(h:ae.t.R s v):fieldR 0 1 false v=some (vs s.Name):=by obtain⟨_,_,_,_,_,_,_,_,rfl,_⟩:=h;rfl
theorem ae.g_Headers{s v}(h:ae.t.R s v):∃w,fieldR 1 1 false v=some w/\(tSl bz.t).R s.Headers w:=by obtain⟨_,_,_,_,_,_,_,_,rfl,q,_⟩:=h;exact⟨_,mk1 (TR.agg _ q),q⟩
theorem ae.g_Metadata{s v}(h:ae.t.R s v):∃w,fieldR 2 1 false v=some w/\(tSl az.t).R s.Metadata w:=by obtain⟨_,_,_,_,_,_,_,_,rfl,_,q,_⟩:=h;exact⟨_,mk1 (TR.agg _ q),q⟩
theorem ae.g_Registers{s v}(h:ae.t.R s v):∃w,fieldR 3 1 false v=some w/\(tSl cq.t).R s.Registers w:=by obtain⟨_,_,_,_,_,_,_,_,rfl,_,_,q,_⟩:=h;exact⟨_,mk1 (TR.agg _ q),q⟩
theorem ae.g_Actions{s v}(h:ae.t.R s v):∃w,fieldR 4 1 false v=some w/\(tSl bm.t).R s.Actions w:=by obtain⟨_,_,_,_,_,_,_,_,rfl,_,_,_,q,_⟩:=h;exact⟨_,mk1 (TR.agg _ q),q⟩
theorem ae.g_Tables{s v}(h:ae.t.R s v):∃w,fieldR 5 1 false v=some w/\(tSl bw.t).R s.Tables w:=by obtain⟨_,_,_,_,_,_,_,_,rfl,_,_,_,_,q,_⟩:=h;exact⟨_,mk1 (TR.agg _ q),q⟩
theorem ae.g_States{s v}(h:ae.t.R s v):∃w,fieldR 6 1 false v=some w/\(tSl bt.t).R s.States w:=by obtain⟨_,_,_,_,_,_,_,_,rfl,_,_,_,_,_,q,_⟩:=h;exact⟨_,mk1 (TR.agg _ q),q⟩
theorem ae.g_Deparser{s v}(h:ae.t.R s v):∃w,fieldR 8 1 false v=some w/\(tSl tI).R s.Deparser w:=by obtain⟨_,_,_,_,_,_,_,_,rfl,_,_,_,_,_,_,_,q⟩:=h;exact⟨_,mk1 (TR.agg _ q),q⟩
structure bq where
 Unit:Int
 Want:Bool
 deriving Inhabited,DecidableEq
def bq.R:bq->PV->Prop:=λs v=>v= .agg [vi s.Unit,vb s.Want]
def bq.t:TR bq:=⟨bq.R,2,true,λh=>by have h0:_=_:=h;subst h0;rfl,λh=>by have h0:_=_:=h;subst h0;rfl,λh=>by have h0:_=_:=h;subst h0;simp[closed,closedL]⟩
theorem bq.g_Unit{s v}(h:bq.t.R s v):fieldR 0 1 false v=some (vi s.Unit):=by cases h;rfl
theorem bq.g_Want{s v}(h:bq.t.R s v):fieldR 1 1 false v=some (vb s.Want):=by cases h;rfl
structure ba where
 Table:Int
 Cond:List ah
 Guards:List bq
 deriving Inhabited,DecidableEq
def ba.R:ba->PV->Prop:=λs v=>∃c1,∃c2,v= .agg [vi s.Table,c1,c2]/\(tSl ah.t).R s.Cond c1/\(tSl bq.t).R s.Guards c2
def ba.t:TR ba:=⟨ba.R,3,true,λh=>by obtain⟨c1,c2,h0,hc1,hc2⟩:=h;subst h0;rfl,λh=>by obtain⟨c1,c2,h0,hc1,hc2⟩:=h;subst h0;rfl,λh=>by obtain⟨c1,c2,h0,hc1,hc2⟩:=h;subst h0;simp[closed,closedL,TR.clo _ hc1,TR.clo _ hc2]⟩
theorem ba.g_Table{s v}(h:ba.t.R s v):fieldR 0 1 false v=some (vi s.Table):=by obtain⟨_,_,rfl,_⟩:=h;rfl
theorem ba.g_Cond{s v}(h:ba.t.R s v):∃w,fieldR 1 1 false v=some w/\(tSl ah.t).R s.Cond w:=by obtain⟨_,_,rfl,q,_⟩:=h;exact⟨_,mk1 (TR.agg _ q),q⟩
theorem ba.g_Guards{s v}(h:ba.t.R s v):∃w,fieldR 2 1 false v=some w/\(tSl bq.t).R s.Guards w:=by obtain⟨_,_,rfl,_,q⟩:=h;exact⟨_,mk1 (TR.agg _ q),q⟩
structure ak where
 p:ae
 cells:List Int
 deriving Inhabited
def ak.R:ak->PV->Prop:=λs v=>∃c1,∃c2,∃c3,∃c4,∃c5,∃c6,∃c7,∃c8,∃c9,v= .agg [vs s.p.Name,c1,c2,c3,c4,c5,c6,c7,c8,c9]/\(tSl bz.t).R s.p.Headers c1/\(tSl az.t).R s.p.Metadata c2/\(tSl cq.t).R s.p.Registers c3/\(tSl bm.t).R s.p.Actions c4/\(tSl bw.t).R s.p.Tables c5/\(tSl bt.t).R s.p.States c6/\(tSl aw.t).R s.p.Control c7/\(tSl tI).R s.p.Deparser c8/\(tSl tI).R s.cells c9
def ak.t:TR ak:=⟨ak.R,10,true,λh=>by obtain⟨c1,c2,c3,c4,c5,c6,c7,c8,c9,h0,hc1,hc2,hc3,hc4,hc5,hc6,hc7,hc8,hc9⟩:=h;subst h0;rfl,λh=>by obtain⟨c1,c2,c3,c4,c5,c6,c7,c8,c9,h0,hc1,hc2,hc3,hc4,hc5,hc6,hc7,hc8,hc9⟩:=h;subst h0;rfl,λh=>by obtain⟨c1,c2,c3,c4,c5,c6,c7,c8,c9,h0,hc1,hc2,hc3,hc4,hc5,hc6,hc7,hc8,hc9⟩:=h;subst h0;simp[closed,closedL,TR.clo _ hc1,TR.clo _ hc2,TR.clo _ hc3,TR.clo _ hc4,TR.clo _ hc5,TR.clo _ hc6,TR.clo _ hc7,TR.clo _ hc8,TR.clo _ hc9]⟩
structure bc where
 Program:ae
 Params:List az
 deriving Inhabited
def bc.R:bc->PV->Prop:=λs v=>∃c1,∃c2,∃c3,∃c4,∃c5,∃c6,∃c7,∃c8,∃c9,v= .agg [vs s.Program.Name,c1,c2,c3,c4,c5,c6,c7,c8,c9]/\(tSl bz.t).R s.Program.Headers c1/\(tSl az.t).R s.Program.Metadata c2/\(tSl cq.t).R s.Program.Registers c3/\(tSl bm.t).R s.Program.Actions c4/\(tSl bw.t).R s.Program.Tables c5/\(tSl bt.t).R s.Program.States c6/\(tSl aw.t).R s.Program.Control c7/\(tSl tI).R s.Program.Deparser c8/\(tSl az.t).R s.Params c9
def bc.t:TR bc:=⟨bc.R,10,true,λh=>by obtain⟨c1,c2,c3,c4,c5,c6,c7,c8,c9,h0,hc1,hc2,hc3,hc4,hc5,hc6,hc7,hc8,hc9⟩:=h;subst h0;rfl,λh=>by obtain⟨c1,c2,c3,c4,c5,c6,c7,c8,c9,h0,hc1,hc2,hc3,hc4,hc5,hc6,hc7,hc8,hc9⟩:=h;subst h0;rfl,λh=>by obtain⟨c1,c2,c3,c4,c5,c6,c7,c8,c9,h0,hc1,hc2,hc3,hc4,hc5,hc6,hc7,hc8,hc9⟩:=h;subst h0;simp[closed,closedL,TR.clo _ hc1,TR.clo _ hc2,TR.clo _ hc3,TR.clo _ hc4,TR.clo _ hc5,TR.clo _ hc6,TR.clo _ hc7,TR.clo _ hc8,TR.clo _ hc9]⟩
theorem bc.g_Program{s:bc}{v:PV}(h:bc.t.R s v):∃w,fieldR 0 9 true v=some w/\ae.t.R s.Program w:=by obtain⟨c1,c2,c3,c4,c5,c6,c7,c8,c9,h0,hc1,hc2,hc3,hc4,hc5,hc6,hc7,hc8,hc9⟩:=h;subst h0;exact⟨_,O,⟨c1,c2,c3,c4,c5,c6,c7,c8,O,hc1,hc2,hc3,hc4,hc5,hc6,hc7,hc8⟩⟩
theorem bc.g_Params{s v}(h:bc.t.R s v):∃w,fieldR 9 1 false v=some w/\(tSl az.t).R s.Params w:=by obtain⟨_,_,_,_,_,_,_,_,_,rfl,_,_,_,_,_,_,_,_,q⟩:=h;exact⟨_,mk1 (TR.agg _ q),q⟩
structure di where
 scope:bc
 deriving Inhabited
def di.R:di->PV->Prop:=λs v=>∃c1,∃c2,∃c3,∃c4,∃c5,∃c6,∃c7,∃c8,∃c9,v= .agg [vs s.scope.Program.Name,c1,c2,c3,c4,c5,c6,c7,c8,c9]/\(tSl bz.t).R s.scope.Program.Headers c1/\(tSl az.t).R s.scope.Program.Metadata c2/\(tSl cq.t).R s.scope.Program.Registers c3/\(tSl bm.t).R s.scope.Program.Actions c4/\(tSl bw.t).R s.scope.Program.Tables c5/\(tSl bt.t).R s.scope.Program.States c6/\(tSl aw.t).R s.scope.Program.Control c7/\(tSl tI).R s.scope.Program.Deparser c8/\(tSl az.t).R s.scope.Params c9
def di.t:TR di:=⟨di.R,10,true,λh=>by obtain⟨c1,c2,c3,c4,c5,c6,c7,c8,c9,h0,hc1,hc2,hc3,hc4,hc5,hc6,hc7,hc8,hc9⟩:=h;subst h0;rfl,λh=>by obtain⟨c1,c2,c3,c4,c5,c6,c7,c8,c9,h0,hc1,hc2,hc3,hc4,hc5,hc6,hc7,hc8,hc9⟩:=h;subst h0;rfl,λh=>by obtain⟨c1,c2,c3,c4,c5,c6,c7,c8,c9,h0,hc1,hc2,hc3,hc4,hc5,hc6,hc7,hc8,hc9⟩:=h;subst h0;simp[closed,closedL,TR.clo _ hc1,TR.clo _ hc2,TR.clo _ hc3,TR.clo _ hc4,TR.clo _ hc5,TR.clo _ hc6,TR.clo _ hc7,TR.clo _ hc8,TR.clo _ hc9]⟩
theorem di.g_scope{s:di}{v:PV}(h:di.t.R s v):∃w,fieldR 0 10 true v=some w/\bc.t.R s.scope w:=by obtain⟨c1,c2,c3,c4,c5,c6,c7,c8,c9,h0,hc1,hc2,hc3,hc4,hc5,hc6,hc7,hc8,hc9⟩:=h;subst h0;exact⟨_,O,⟨c1,c2,c3,c4,c5,c6,c7,c8,c9,O,hc1,hc2,hc3,hc4,hc5,hc6,hc7,hc8,hc9⟩⟩
structure cb where
 fields:List aa
 headers:List Int
 registers:List Int
 deriving Inhabited,DecidableEq
def cb.R:cb->PV->Prop:=λs v=>∃c0,∃c1,∃c2,v= .agg [c0,c1,c2]/\(tSl aa.t).R s.fields c0/\(tSl tI).R s.headers c1/\(tSl tI).R s.registers c2
def cb.t:TR cb:=⟨cb.R,3,true,λh=>by obtain⟨c0,c1,c2,h0,hc0,hc1,hc2⟩:=h;subst h0;rfl,λh=>by obtain⟨c0,c1,c2,h0,hc0,hc1,hc2⟩:=h;subst h0;rfl,λh=>by obtain⟨c0,c1,c2,h0,hc0,hc1,hc2⟩:=h;subst h0;simp[closed,closedL,TR.clo _ hc0,TR.clo _ hc1,TR.clo _ hc2]⟩
structure aq where
 Fields:List aa
 Headers:List Int
 Registers:List Int
 deriving Inhabited,DecidableEq
def aq.R:aq->PV->Prop:=λs v=>∃c0,∃c1,∃c2,v= .agg [c0,c1,c2]/\(tSl aa.t).R s.Fields c0/\(tSl tI).R s.Headers c1/\(tSl tI).R s.Registers c2
def aq.t:TR aq:=⟨aq.R,3,true,λh=>by obtain⟨c0,c1,c2,h0,hc0,hc1,hc2⟩:=h;subst h0;rfl,λh=>by obtain⟨c0,c1,c2,h0,hc0,hc1,hc2⟩:=h;subst h0;rfl,λh=>by obtain⟨c0,c1,c2,h0,hc0,hc1,hc2⟩:=h;subst h0;simp[closed,closedL,TR.clo _ hc0,TR.clo _ hc1,TR.clo _ hc2]⟩
theorem aq.g_Fields{s v}(h:aq.t.R s v):∃w,fieldR 0 1 false v=some w/\(tSl aa.t).R s.Fields w:=by obtain⟨_,_,_,rfl,q,_⟩:=h;exact⟨_,mk1 (TR.agg _ q),q⟩
theorem aq.g_Headers{s v}(h:aq.t.R s v):∃w,fieldR 1 1 false v=some w/\(tSl tI).R s.Headers w:=by obtain⟨_,_,_,rfl,_,q,_⟩:=h;exact⟨_,mk1 (TR.agg _ q),q⟩
theorem aq.g_Registers{s v}(h:aq.t.R s v):∃w,fieldR 2 1 false v=some w/\(tSl tI).R s.Registers w:=by obtain⟨_,_,_,rfl,_,_,q⟩:=h;exact⟨_,mk1 (TR.agg _ q),q⟩
theorem aa.eql_87{ox oy:Operand}{a b:aa}{va vb':PV}(ha:aa.t.R a va)(hb:aa.t.R b vb'):binF Tryz.prog .eql 87 ox oy va vb'=some (vb (decide (a=b))):=by
 have ha:va=_:=ha;have hb:vb'=_:=hb;subst ha;subst hb;rw[bv4 Tryz.underlying87 Y Y Tryz.underlying3 Tryz.underlying3 rfl rfl OO OO];cases a;cases b;simp only[Option.some.injEq,PV.sc.injEq,Value.bool.injEq];rw[Bool.eq_iff_iff];simp[aa.mk.injEq,rj,BitVec.toNat_inj]
theorem aa.neq_87{ox oy:Operand}{a b:aa}{va vb':PV}(ha:aa.t.R a va)(hb:aa.t.R b vb'):binF Tryz.prog .neq 87 ox oy va vb'=some (vb (!decide (a=b))):=by
 have ha:va=_:=ha;have hb:vb'=_:=hb;subst ha;subst hb;rw[bz3 Tryz.underlying87 Y Y Tryz.underlying3 Tryz.underlying3 rfl rfl OO OO];cases a;cases b;simp only[Option.some.injEq,PV.sc.injEq,Value.bool.injEq,Bool.not_eq_not];rw[Bool.eq_iff_iff];simp[aa.mk.injEq,rj,BitVec.toNat_inj]
theorem bq.eq_102{ox oy:Operand}{a b:bq}{va vb':PV}(ha:bq.t.R a va)(hb:bq.t.R b vb'):binF Tryz.prog .eql 102 ox oy va vb'=some (vb (decide (a=b)))/\binF Tryz.prog .neq 102 ox oy va vb'=some (vb (!decide (a=b))):=by
 have ha:va=_:=ha;have hb:vb'=_:=hb;subst ha;subst hb;have h:=dq8 (ox:=ox) (oy:=oy) (P:=Tryz.prog) (t:=102) (va:= .agg [vi a.Unit,vb a.Want]) (vb':= .agg [vi b.Unit,vb b.Want]) O O Y (cj3 (n:=9998) Tryz.underlying102 Y Tryz.underlying3 Tryz.underlying4 O O O O OO OO (aj6 Tryz.underlying3) (bq7 Tryz.underlying4));have e:decide (a=b)=((a.Unit==b.Unit)&&(a.Want==b.Want)):=by
  cases a;cases b;rw[Bool.eq_iff_iff];simp[bq.mk.injEq,rj,BitVec.toNat_inj,and_assoc]
 rw[e];exact h
theorem bq.eql_102{ox oy:Operand}{a b:bq}{va vb':PV}(ha:bq.t.R a va)(hb:bq.t.R b vb'):binF Tryz.prog .eql 102 ox oy va vb'=some (vb (decide (a=b))):=(bq.eq_102 ha hb).1
end Go.Proofs.YtmonnlkagniolaaGreat
