import Derived.Test.YtmonnlkagniolaaGreatPbEq
import Derived.Test.YtmonnlkagniolaaGreatRows
set_option linter.all false
set_option maxRecDepth 100000
namespace Go.Proofs.YtmonnlkagniolaaGreat
open Go Go.Pb Go.RowKit
structure ak where
 Op:Int
 N:Int
 W:Int
 deriving Inhabited,DecidableEq
def ak.R:ak->PV->Prop:=λs v=>v= .agg [vi s.Op,vi s.N,vi s.W]
def ak.t:TR ak:=⟨ak.R,3,true,λh=>by have h0:_=_:=h;subst h0;rfl,λh=>by have h0:_=_:=h;subst h0;rfl,λh=>by have h0:_=_:=h;subst h0;simp[closed,closedL]⟩
theorem ak.g_Op{s v}(h:ak.t.R s v):fieldR 0 1 false v=some (vi s.Op):=by cases h;rfl
theorem ak.g_N{s v}(h:ak.t.R s v):fieldR 1 1 false v=some (vi s.N):=by cases h;rfl
theorem ak.g_W{s v}(h:ak.t.R s v):fieldR 2 1 false v=some (vi s.W):=by cases h;rfl
structure ab where
 Kind:Int
 Table:Int
 Cond:List ak
 Then:List ab
 Else:List ab
 deriving Inhabited
mutual
def ab.R:ab->PV->Prop
 |⟨xKind,xTable,xCond,xThen,xElse⟩,v=>∃c2,∃c3,∃c4,v= .agg [vi xKind,vi xTable,c2,c3,c4]/\(tSl ak.t).R xCond c2/\((∃es,IsSl c3 es/\ab.Rl xThen es)/\xThen.length<=9223372036854775807)/\((∃es,IsSl c4 es/\ab.Rl xElse es)/\xElse.length<=9223372036854775807)
def ab.Rl:List ab->List PV->Prop
 |[],[]=>True
 |a::l,e::es=>ab.R a e/\ab.Rl l es
 |_,_=>False
end
theorem ab.Rl_eq:∀(l:List ab)(es:List PV),ab.Rl l es=All2 ab.R l es
 |[],[]=>by simp[ab.Rl,All2]
 |a::l,e::es=>by simp[ab.Rl,All2,ab.Rl_eq l es]
 |[],_::_=>by simp[ab.Rl,All2]
 |_::_,[]=>by simp[ab.Rl,All2]
mutual
theorem ab.R_clo:∀(s:ab)(v:PV),ab.R s v->closed v=true
 |⟨xKind,xTable,xCond,xThen,xElse⟩,v,h=>by
  simp only[ab.R]at h;obtain⟨c2,c3,c4,h0,hc2,hc3,hc4⟩:=h;subst h0;have kc2:=TR.clo _ hc2;obtain⟨⟨esc3,hic3,hlc3⟩,_⟩:=hc3;have kc3:=hic3.closed (ab.Rl_clo _ _ hlc3);obtain⟨⟨esc4,hic4,hlc4⟩,_⟩:=hc4;have kc4:=hic4.closed (ab.Rl_clo _ _ hlc4);simp[closed,closedL,kc2,kc3,kc4]
theorem ab.Rl_clo:∀(l:List ab)(es:List PV),ab.Rl l es->closedL es=true
 |[],[],_=>rfl
 |a::l,e::es,h=>by
  simp only[ab.Rl]at h;simp[closedL,ab.R_clo a e h.1,ab.Rl_clo l es h.2]
 |[],_::_,h=>by simp[ab.Rl]at h
 |_::_,[],h=>by simp[ab.Rl]at h
end
def ab.t:TR ab:=⟨ab.R,5,true,λ{a v} h=>by cases a;simp only[ab.R]at h;obtain⟨c2,c3,c4,h0,hc2,hc3,hc4⟩:=h;subst h0;rfl,λ{a v} h=>by cases a;simp only[ab.R]at h;obtain⟨c2,c3,c4,h0,hc2,hc3,hc4⟩:=h;subst h0;rfl,λ{a v} h=>ab.R_clo a v h⟩
theorem ab.lR{l:List ab}{v:PV}(h:(∃es,IsSl v es/\ab.Rl l es)/\l.length<=9223372036854775807):(tSl ab.t).R l v:=by obtain⟨⟨es,hi,hl⟩,hb⟩:=h;rw[ab.Rl_eq]at hl;exact⟨⟨es,hi,hl⟩,hb⟩
theorem ab.g_Kind{s:ab}{v:PV}(h:ab.t.R s v):fieldR 0 1 false v=some (vi s.Kind):=by cases s;have h:ab.R _ v:=h;simp only[ab.R]at h;obtain⟨c2,c3,c4,h0,hc2,hc3,hc4⟩:=h;subst h0;rfl
theorem ab.g_Table{s:ab}{v:PV}(h:ab.t.R s v):fieldR 1 1 false v=some (vi s.Table):=by cases s;have h:ab.R _ v:=h;simp only[ab.R]at h;obtain⟨c2,c3,c4,h0,hc2,hc3,hc4⟩:=h;subst h0;rfl
theorem ab.g_Cond{s:ab}{v:PV}(h:ab.t.R s v):∃w,fieldR 2 1 false v=some w/\(tSl ak.t).R s.Cond w:=by cases s;have h:ab.R _ v:=h;simp only[ab.R]at h;obtain⟨c2,c3,c4,h0,hc2,hc3,hc4⟩:=h;subst h0;exact⟨_,mk1 (TR.agg _ hc2),hc2⟩
theorem ab.g_Then{s:ab}{v:PV}(h:ab.t.R s v):∃w,fieldR 3 1 false v=some w/\(tSl ab.t).R s.Then w:=by cases s;have h:ab.R _ v:=h;simp only[ab.R]at h;obtain⟨c2,c3,c4,h0,hc2,hc3,hc4⟩:=h;subst h0;obtain⟨⟨es,hi,hl⟩,hb⟩:=hc3;rw[ab.Rl_eq]at hl;have hh:(tSl ab.t).R _ _:=⟨⟨es,hi,hl⟩,hb⟩;exact⟨_,mk1 (TR.agg _ hh),hh⟩
theorem ab.g_Else{s:ab}{v:PV}(h:ab.t.R s v):∃w,fieldR 4 1 false v=some w/\(tSl ab.t).R s.Else w:=by cases s;have h:ab.R _ v:=h;simp only[ab.R]at h;obtain⟨c2,c3,c4,h0,hc2,hc3,hc4⟩:=h;subst h0;obtain⟨⟨es,hi,hl⟩,hb⟩:=hc4;rw[ab.Rl_eq]at hl;have hh:(tSl ab.t).R _ _:=⟨⟨es,hi,hl⟩,hb⟩;exact⟨_,mk1 (TR.agg _ hh),hh⟩
structure av where
 Name:List UInt8
 Width:Int
 deriving Inhabited,DecidableEq
def av.R:av->PV->Prop:=λs v=>v= .agg [vs s.Name,vi s.Width]
def av.t:TR av:=⟨av.R,2,true,λh=>by have h0:_=_:=h;subst h0;rfl,λh=>by have h0:_=_:=h;subst h0;rfl,λh=>by have h0:_=_:=h;subst h0;simp[closed,closedL]⟩
theorem av.g_Name{s v}(h:av.t.R s v):fieldR 0 1 false v=some (vs s.Name):=by cases h;rfl
theorem av.g_Width{s v}(h:av.t.R s v):fieldR 1 1 false v=some (vi s.Width):=by cases h;rfl
structure bm where
 Name:List UInt8
 Fields:List av
 deriving Inhabited,DecidableEq
def bm.R:bm->PV->Prop:=λs v=>∃c1,v= .agg [vs s.Name,c1]/\(tSl av.t).R s.Fields c1
def bm.t:TR bm:=⟨bm.R,2,true,λh=>by obtain⟨c1,h0,hc1⟩:=h;subst h0;rfl,λh=>by obtain⟨c1,h0,hc1⟩:=h;subst h0;rfl,λh=>by obtain⟨c1,h0,hc1⟩:=h;subst h0;simp[closed,closedL,TR.clo _ hc1]⟩
theorem bm.g_Name{s v}(h:bm.t.R s v):fieldR 0 1 false v=some (vs s.Name):=by obtain⟨_,rfl,_⟩:=h;rfl
theorem bm.g_Fields{s v}(h:bm.t.R s v):∃w,fieldR 1 1 false v=some w/\(tSl av.t).R s.Fields w:=by obtain⟨_,rfl,q⟩:=h;exact⟨_,mk1 (TR.agg _ q),q⟩
structure ae where
 Header:Int
 Field:Int
 deriving Inhabited,DecidableEq
def ae.R:ae->PV->Prop:=λs v=>v= .agg [vi s.Header,vi s.Field]
def ae.t:TR ae:=⟨ae.R,2,true,λh=>by have h0:_=_:=h;subst h0;rfl,λh=>by have h0:_=_:=h;subst h0;rfl,λh=>by have h0:_=_:=h;subst h0;simp[closed,closedL]⟩
theorem ae.g_Header{s v}(h:ae.t.R s v):fieldR 0 1 false v=some (vi s.Header):=by cases h;rfl
theorem ae.g_Field{s v}(h:ae.t.R s v):fieldR 1 1 false v=some (vi s.Field):=by cases h;rfl
structure bf where
 Kind:Int
 Dst:ae
 Register:Int
 Header:Int
 Index:List ak
 Value:List ak
 deriving Inhabited,DecidableEq
def bf.R:bf->PV->Prop:=λs v=>∃c5,∃c6,v= .agg [vi s.Kind,vi s.Dst.Header,vi s.Dst.Field,vi s.Register,vi s.Header,c5,c6]/\(tSl ak.t).R s.Index c5/\(tSl ak.t).R s.Value c6
def bf.t:TR bf:=⟨bf.R,7,true,λh=>by obtain⟨c5,c6,h0,hc5,hc6⟩:=h;subst h0;rfl,λh=>by obtain⟨c5,c6,h0,hc5,hc6⟩:=h;subst h0;rfl,λh=>by obtain⟨c5,c6,h0,hc5,hc6⟩:=h;subst h0;simp[closed,closedL,TR.clo _ hc5,TR.clo _ hc6]⟩
theorem bf.g_Kind{s v}(h:bf.t.R s v):fieldR 0 1 false v=some (vi s.Kind):=by obtain⟨_,_,rfl,_⟩:=h;rfl
theorem bf.g_Dst{s:bf}{v:PV}(h:bf.t.R s v):∃w,fieldR 1 2 true v=some w/\ae.t.R s.Dst w:=by obtain⟨c5,c6,h0,hc5,hc6⟩:=h;subst h0;exact⟨_,O,O⟩
theorem bf.g_Register{s v}(h:bf.t.R s v):fieldR 3 1 false v=some (vi s.Register):=by obtain⟨_,_,rfl,_⟩:=h;rfl
theorem bf.g_Header{s v}(h:bf.t.R s v):fieldR 4 1 false v=some (vi s.Header):=by obtain⟨_,_,rfl,_⟩:=h;rfl
theorem bf.g_Index{s v}(h:bf.t.R s v):∃w,fieldR 5 1 false v=some w/\(tSl ak.t).R s.Index w:=by obtain⟨_,_,rfl,q,_⟩:=h;exact⟨_,mk1 (TR.agg _ q),q⟩
theorem bf.g_Value{s v}(h:bf.t.R s v):∃w,fieldR 6 1 false v=some w/\(tSl ak.t).R s.Value w:=by obtain⟨_,_,rfl,_,q⟩:=h;exact⟨_,mk1 (TR.agg _ q),q⟩
structure cm where
 Name:List UInt8
 Params:List av
 Body:List bf
 deriving Inhabited,DecidableEq
def cm.R:cm->PV->Prop:=λs v=>∃c1,∃c2,v= .agg [vs s.Name,c1,c2]/\(tSl av.t).R s.Params c1/\(tSl bf.t).R s.Body c2
def cm.t:TR cm:=⟨cm.R,3,true,λh=>by obtain⟨c1,c2,h0,hc1,hc2⟩:=h;subst h0;rfl,λh=>by obtain⟨c1,c2,h0,hc1,hc2⟩:=h;subst h0;rfl,λh=>by obtain⟨c1,c2,h0,hc1,hc2⟩:=h;subst h0;simp[closed,closedL,TR.clo _ hc1,TR.clo _ hc2]⟩
theorem cm.g_Name{s v}(h:cm.t.R s v):fieldR 0 1 false v=some (vs s.Name):=by obtain⟨_,_,rfl,_⟩:=h;rfl
theorem cm.g_Params{s v}(h:cm.t.R s v):∃w,fieldR 1 1 false v=some w/\(tSl av.t).R s.Params w:=by obtain⟨_,_,rfl,q,_⟩:=h;exact⟨_,mk1 (TR.agg _ q),q⟩
theorem cm.g_Body{s v}(h:cm.t.R s v):∃w,fieldR 2 1 false v=some w/\(tSl bf.t).R s.Body w:=by obtain⟨_,_,rfl,_,q⟩:=h;exact⟨_,mk1 (TR.agg _ q),q⟩
structure en where
 Value:BitVec 32
 Mask:BitVec 32
 Next:Int
 deriving Inhabited,DecidableEq
def en.R:en->PV->Prop:=λs v=>v= .agg [de s.Value,de s.Mask,vi s.Next]
def en.t:TR en:=⟨en.R,3,true,λh=>by have h0:_=_:=h;subst h0;rfl,λh=>by have h0:_=_:=h;subst h0;rfl,λh=>by have h0:_=_:=h;subst h0;simp[closed,closedL]⟩
theorem en.g_Value{s v}(h:en.t.R s v):fieldR 0 1 false v=some (de s.Value):=by cases h;rfl
theorem en.g_Mask{s v}(h:en.t.R s v):fieldR 1 1 false v=some (de s.Mask):=by cases h;rfl
theorem en.g_Next{s v}(h:en.t.R s v):fieldR 2 1 false v=some (vi s.Next):=by cases h;rfl
structure bh where
 Name:List UInt8
 Extract:List Int
 Select:Bool
 On:ae
 Cases:List en
 Default:Int
 deriving Inhabited,DecidableEq
def bh.R:bh->PV->Prop:=λs v=>∃c1,∃c5,v= .agg [vs s.Name,c1,vb s.Select,vi s.On.Header,vi s.On.Field,c5,vi s.Default]/\(tSl tI).R s.Extract c1/\(tSl en.t).R s.Cases c5
def bh.t:TR bh:=⟨bh.R,7,true,λh=>by obtain⟨c1,c5,h0,hc1,hc5⟩:=h;subst h0;rfl,λh=>by obtain⟨c1,c5,h0,hc1,hc5⟩:=h;subst h0;rfl,λh=>by obtain⟨c1,c5,h0,hc1,hc5⟩:=h;subst h0;simp[closed,closedL,TR.clo _ hc1,TR.clo _ hc5]⟩
theorem bh.g_Name{s v}(h:bh.t.R s v):fieldR 0 1 false v=some (vs s.Name):=by obtain⟨_,_,rfl,_⟩:=h;rfl
theorem bh.g_Extract{s v}(h:bh.t.R s v):∃w,fieldR 1 1 false v=some w/\(tSl tI).R s.Extract w:=by obtain⟨_,_,rfl,q,_⟩:=h;exact⟨_,mk1 (TR.agg _ q),q⟩
theorem bh.g_Select{s v}(h:bh.t.R s v):fieldR 2 1 false v=some (vb s.Select):=by obtain⟨_,_,rfl,_⟩:=h;rfl
theorem bh.g_On{s:bh}{v:PV}(h:bh.t.R s v):∃w,fieldR 3 2 true v=some w/\ae.t.R s.On w:=by obtain⟨c1,c5,h0,hc1,hc5⟩:=h;subst h0;exact⟨_,O,O⟩
theorem bh.g_Cases{s v}(h:bh.t.R s v):∃w,fieldR 5 1 false v=some w/\(tSl en.t).R s.Cases w:=by obtain⟨_,_,rfl,_,q⟩:=h;exact⟨_,mk1 (TR.agg _ q),q⟩
theorem bh.g_Default{s v}(h:bh.t.R s v):fieldR 6 1 false v=some (vi s.Default):=by obtain⟨_,_,rfl,_⟩:=h;rfl
structure cj where
 Name:List UInt8
 Width:Int
 Size:Int
 deriving Inhabited,DecidableEq
def cj.R:cj->PV->Prop:=λs v=>v= .agg [vs s.Name,vi s.Width,vi s.Size]
def cj.t:TR cj:=⟨cj.R,3,true,λh=>by have h0:_=_:=h;subst h0;rfl,λh=>by have h0:_=_:=h;subst h0;rfl,λh=>by have h0:_=_:=h;subst h0;simp[closed,closedL]⟩
theorem cj.g_Name{s v}(h:cj.t.R s v):fieldR 0 1 false v=some (vs s.Name):=by cases h;rfl
theorem cj.g_Width{s v}(h:cj.t.R s v):fieldR 1 1 false v=some (vi s.Width):=by cases h;rfl
theorem cj.g_Size{s v}(h:cj.t.R s v):fieldR 2 1 false v=some (vi s.Size):=by cases h;rfl
structure gb where
 Field:ae
 Kind:Int
 deriving Inhabited,DecidableEq
def gb.R:gb->PV->Prop:=λs v=>v= .agg [vi s.Field.Header,vi s.Field.Field,vi s.Kind]
def gb.t:TR gb:=⟨gb.R,3,true,λh=>by have h0:_=_:=h;subst h0;rfl,λh=>by have h0:_=_:=h;subst h0;rfl,λh=>by have h0:_=_:=h;subst h0;simp[closed,closedL]⟩
theorem gb.g_Field{s:gb}{v:PV}(h:gb.t.R s v):∃w,fieldR 0 2 true v=some w/\ae.t.R s.Field w:=by have h0:_=_:=h;subst h0;exact⟨_,O,O⟩
theorem gb.g_Kind{s v}(h:gb.t.R s v):fieldR 2 1 false v=some (vi s.Kind):=by cases h;rfl
structure cp where
 Action:Int
 Args:List (BitVec 32)
 deriving Inhabited,DecidableEq
def cp.R:cp->PV->Prop:=λs v=>∃c1,v= .agg [vi s.Action,c1]/\(tSl gv).R s.Args c1
def cp.t:TR cp:=⟨cp.R,2,true,λh=>by obtain⟨c1,h0,hc1⟩:=h;subst h0;rfl,λh=>by obtain⟨c1,h0,hc1⟩:=h;subst h0;rfl,λh=>by obtain⟨c1,h0,hc1⟩:=h;subst h0;simp[closed,closedL,TR.clo _ hc1]⟩
theorem cp.g_Action{s v}(h:cp.t.R s v):fieldR 0 1 false v=some (vi s.Action):=by obtain⟨_,rfl,_⟩:=h;rfl
theorem cp.g_Args{s v}(h:cp.t.R s v):∃w,fieldR 1 1 false v=some w/\(tSl gv).R s.Args w:=by obtain⟨_,rfl,q⟩:=h;exact⟨_,mk1 (TR.agg _ q),q⟩
structure bz where
 Name:List UInt8
 Keys:List gb
 Actions:List Int
 Default:cp
 Size:Int
 deriving Inhabited,DecidableEq
def bz.R:bz->PV->Prop:=λs v=>∃c1,∃c2,∃c4,v= .agg [vs s.Name,c1,c2,vi s.Default.Action,c4,vi s.Size]/\(tSl gb.t).R s.Keys c1/\(tSl tI).R s.Actions c2/\(tSl gv).R s.Default.Args c4
def bz.t:TR bz:=⟨bz.R,6,true,λh=>by obtain⟨c1,c2,c4,h0,hc1,hc2,hc4⟩:=h;subst h0;rfl,λh=>by obtain⟨c1,c2,c4,h0,hc1,hc2,hc4⟩:=h;subst h0;rfl,λh=>by obtain⟨c1,c2,c4,h0,hc1,hc2,hc4⟩:=h;subst h0;simp[closed,closedL,TR.clo _ hc1,TR.clo _ hc2,TR.clo _ hc4]⟩
theorem bz.g_Name{s v}(h:bz.t.R s v):fieldR 0 1 false v=some (vs s.Name):=by obtain⟨_,_,_,rfl,_⟩:=h;rfl
theorem bz.g_Keys{s v}(h:bz.t.R s v):∃w,fieldR 1 1 false v=some w/\(tSl gb.t).R s.Keys w:=by obtain⟨_,_,_,rfl,q,_⟩:=h;exact⟨_,mk1 (TR.agg _ q),q⟩
theorem bz.g_Actions{s v}(h:bz.t.R s v):∃w,fieldR 2 1 false v=some w/\(tSl tI).R s.Actions w:=by obtain⟨_,_,_,rfl,_,q,_⟩:=h;exact⟨_,mk1 (TR.agg _ q),q⟩
theorem bz.g_Default{s:bz}{v:PV}(h:bz.t.R s v):∃w,fieldR 3 2 true v=some w/\cp.t.R s.Default w:=by obtain⟨c1,c2,c4,h0,hc1,hc2,hc4⟩:=h;subst h0;exact⟨_,O,⟨c4,O,hc4⟩⟩
theorem bz.g_Size{s v}(h:bz.t.R s v):fieldR 5 1 false v=some (vi s.Size):=by obtain⟨_,_,_,rfl,_⟩:=h;rfl
structure aa where
 Name:List UInt8
 Headers:List bm
 Metadata:List av
 Registers:List cj
 Actions:List cm
 Tables:List bz
 States:List bh
 Control:List ab
 Deparser:List Int
 deriving Inhabited
def aa.R:aa->PV->Prop:=λs v=>∃c1,∃c2,∃c3,∃c4,∃c5,∃c6,∃c7,∃c8,v= .agg [vs s.Name,c1,c2,c3,c4,c5,c6,c7,c8]/\(tSl bm.t).R s.Headers c1/\(tSl av.t).R s.Metadata c2/\(tSl cj.t).R s.Registers c3/\(tSl cm.t).R s.Actions c4/\(tSl bz.t).R s.Tables c5/\(tSl bh.t).R s.States c6/\(tSl ab.t).R s.Control c7/\(tSl tI).R s.Deparser c8
def aa.t:TR aa:=⟨aa.R,9,true,λh=>by obtain⟨c1,c2,c3,c4,c5,c6,c7,c8,h0,hc1,hc2,hc3,hc4,hc5,hc6,hc7,hc8⟩:=h;subst h0;rfl,λh=>by obtain⟨c1,c2,c3,c4,c5,c6,c7,c8,h0,hc1,hc2,hc3,hc4,hc5,hc6,hc7,hc8⟩:=h;subst h0;rfl,λh=>by obtain⟨c1,c2,c3,c4,c5,c6,c7,c8,h0,hc1,hc2,hc3,hc4,hc5,hc6,hc7,hc8⟩:=h;subst h0;simp[closed,closedL,TR.clo _ hc1,TR.clo _ hc2,TR.clo _ hc3,TR.clo _ hc4,TR.clo _ hc5,TR.clo _ hc6,TR.clo _ hc7,TR.clo _ hc8]⟩
theorem aa.g_Name{s v}(h:aa.t.R s v):fieldR 0 1 false v=some (vs s.Name):=by obtain⟨_,_,_,_,_,_,_,_,rfl,_⟩:=h;rfl
theorem aa.g_Headers{s v}(h:aa.t.R s v):∃w,fieldR 1 1 false v=some w/\(tSl bm.t).R s.Headers w:=by obtain⟨_,_,_,_,_,_,_,_,rfl,q,_⟩:=h;exact⟨_,mk1 (TR.agg _ q),q⟩
theorem aa.g_Metadata{s v}(h:aa.t.R s v):∃w,fieldR 2 1 false v=some w/\(tSl av.t).R s.Metadata w:=by obtain⟨_,_,_,_,_,_,_,_,rfl,_,q,_⟩:=h;exact⟨_,mk1 (TR.agg _ q),q⟩
theorem aa.g_Registers{s v}(h:aa.t.R s v):∃w,fieldR 3 1 false v=some w/\(tSl cj.t).R s.Registers w:=by obtain⟨_,_,_,_,_,_,_,_,rfl,_,_,q,_⟩:=h;exact⟨_,mk1 (TR.agg _ q),q⟩
theorem aa.g_Actions{s v}(h:aa.t.R s v):∃w,fieldR 4 1 false v=some w/\(tSl cm.t).R s.Actions w:=by obtain⟨_,_,_,_,_,_,_,_,rfl,_,_,_,q,_⟩:=h;exact⟨_,mk1 (TR.agg _ q),q⟩
theorem aa.g_Tables{s v}(h:aa.t.R s v):∃w,fieldR 5 1 false v=some w/\(tSl bz.t).R s.Tables w:=by obtain⟨_,_,_,_,_,_,_,_,rfl,_,_,_,_,q,_⟩:=h;exact⟨_,mk1 (TR.agg _ q),q⟩
theorem aa.g_States{s v}(h:aa.t.R s v):∃w,fieldR 6 1 false v=some w/\(tSl bh.t).R s.States w:=by obtain⟨_,_,_,_,_,_,_,_,rfl,_,_,_,_,_,q,_⟩:=h;exact⟨_,mk1 (TR.agg _ q),q⟩
theorem aa.g_Control{s v}(h:aa.t.R s v):∃w,fieldR 7 1 false v=some w/\(tSl ab.t).R s.Control w:=by obtain⟨_,_,_,_,_,_,_,_,rfl,_,_,_,_,_,_,q,_⟩:=h;exact⟨_,mk1 (TR.agg _ q),q⟩
theorem aa.g_Deparser{s v}(h:aa.t.R s v):∃w,fieldR 8 1 false v=some w/\(tSl tI).R s.Deparser w:=by obtain⟨_,_,_,_,_,_,_,_,rfl,_,_,_,_,_,_,_,q⟩:=h;exact⟨_,mk1 (TR.agg _ q),q⟩
structure af where
 Code:Int
 Part:Int
 Item:Int
 Sub:Int
 deriving Inhabited,DecidableEq
def af.R:af->PV->Prop:=λs v=>v= .agg [vi s.Code,vi s.Part,vi s.Item,vi s.Sub]
def af.t:TR af:=⟨af.R,4,true,λh=>by have h0:_=_:=h;subst h0;rfl,λh=>by have h0:_=_:=h;subst h0;rfl,λh=>by have h0:_=_:=h;subst h0;simp[closed,closedL]⟩
theorem af.g_Code{s v}(h:af.t.R s v):fieldR 0 1 false v=some (vi s.Code):=by cases h;rfl
structure au where
 Program:aa
 Params:List av
 deriving Inhabited
def au.R:au->PV->Prop:=λs v=>∃c1,∃c2,∃c3,∃c4,∃c5,∃c6,∃c7,∃c8,∃c9,v= .agg [vs s.Program.Name,c1,c2,c3,c4,c5,c6,c7,c8,c9]/\(tSl bm.t).R s.Program.Headers c1/\(tSl av.t).R s.Program.Metadata c2/\(tSl cj.t).R s.Program.Registers c3/\(tSl cm.t).R s.Program.Actions c4/\(tSl bz.t).R s.Program.Tables c5/\(tSl bh.t).R s.Program.States c6/\(tSl ab.t).R s.Program.Control c7/\(tSl tI).R s.Program.Deparser c8/\(tSl av.t).R s.Params c9
def au.t:TR au:=⟨au.R,10,true,λh=>by obtain⟨c1,c2,c3,c4,c5,c6,c7,c8,c9,h0,hc1,hc2,hc3,hc4,hc5,hc6,hc7,hc8,hc9⟩:=h;subst h0;rfl,λh=>by obtain⟨c1,c2,c3,c4,c5,c6,c7,c8,c9,h0,hc1,hc2,hc3,hc4,hc5,hc6,hc7,hc8,hc9⟩:=h;subst h0;rfl,λh=>by obtain⟨c1,c2,c3,c4,c5,c6,c7,c8,c9,h0,hc1,hc2,hc3,hc4,hc5,hc6,hc7,hc8,hc9⟩:=h;subst h0;simp[closed,closedL,TR.clo _ hc1,TR.clo _ hc2,TR.clo _ hc3,TR.clo _ hc4,TR.clo _ hc5,TR.clo _ hc6,TR.clo _ hc7,TR.clo _ hc8,TR.clo _ hc9]⟩
theorem au.g_Program{s:au}{v:PV}(h:au.t.R s v):∃w,fieldR 0 9 true v=some w/\aa.t.R s.Program w:=by obtain⟨c1,c2,c3,c4,c5,c6,c7,c8,c9,h0,hc1,hc2,hc3,hc4,hc5,hc6,hc7,hc8,hc9⟩:=h;subst h0;exact⟨_,O,⟨c1,c2,c3,c4,c5,c6,c7,c8,O,hc1,hc2,hc3,hc4,hc5,hc6,hc7,hc8⟩⟩
theorem au.g_Params{s v}(h:au.t.R s v):∃w,fieldR 9 1 false v=some w/\(tSl av.t).R s.Params w:=by obtain⟨_,_,_,_,_,_,_,_,_,rfl,_,_,_,_,_,_,_,_,q⟩:=h;exact⟨_,mk1 (TR.agg _ q),q⟩
structure ax where
 Valid:List Bool
 Fields:List (List (BitVec 32))
 Metd:List (BitVec 32)
 Payload:List UInt8
 deriving Inhabited,DecidableEq
def ax.R:ax->PV->Prop:=λs v=>∃c0,∃c1,∃c2,∃c3,v= .agg [c0,c1,c2,c3]/\(tSl tB).R s.Valid c0/\(tSl (tSl gv)).R s.Fields c1/\(tSl gv).R s.Metd c2/\(tSl tU8).R s.Payload c3
def ax.t:TR ax:=⟨ax.R,4,true,λh=>by obtain⟨c0,c1,c2,c3,h0,hc0,hc1,hc2,hc3⟩:=h;subst h0;rfl,λh=>by obtain⟨c0,c1,c2,c3,h0,hc0,hc1,hc2,hc3⟩:=h;subst h0;rfl,λh=>by obtain⟨c0,c1,c2,c3,h0,hc0,hc1,hc2,hc3⟩:=h;subst h0;simp[closed,closedL,TR.clo _ hc0,TR.clo _ hc1,TR.clo _ hc2,TR.clo _ hc3]⟩
theorem ax.g_Valid{s v}(h:ax.t.R s v):∃w,fieldR 0 1 false v=some w/\(tSl tB).R s.Valid w:=by obtain⟨_,_,_,_,rfl,q,_⟩:=h;exact⟨_,mk1 (TR.agg _ q),q⟩
theorem ax.g_Fields{s v}(h:ax.t.R s v):∃w,fieldR 1 1 false v=some w/\(tSl (tSl gv)).R s.Fields w:=by obtain⟨_,_,_,_,rfl,_,q,_⟩:=h;exact⟨_,mk1 (TR.agg _ q),q⟩
theorem ax.g_Meta{s v}(h:ax.t.R s v):∃w,fieldR 2 1 false v=some w/\(tSl gv).R s.Metd w:=by obtain⟨_,_,_,_,rfl,_,_,q,_⟩:=h;exact⟨_,mk1 (TR.agg _ q),q⟩
theorem ax.g_Payload{s v}(h:ax.t.R s v):∃w,fieldR 3 1 false v=some w/\(tSl tU8).R s.Payload w:=by obtain⟨_,_,_,_,rfl,_,_,_,q⟩:=h;exact⟨_,mk1 (TR.agg _ q),q⟩
structure oz where
 Unit:Int
 Want:Bool
 deriving Inhabited,DecidableEq
def oz.R:oz->PV->Prop:=λs v=>v= .agg [vi s.Unit,vb s.Want]
def oz.t:TR oz:=⟨oz.R,2,true,λh=>by have h0:_=_:=h;subst h0;rfl,λh=>by have h0:_=_:=h;subst h0;rfl,λh=>by have h0:_=_:=h;subst h0;simp[closed,closedL]⟩
structure ia where
 Table:Int
 Cond:List ak
 Guards:List oz
 deriving Inhabited,DecidableEq
def ia.R:ia->PV->Prop:=λs v=>∃c1,∃c2,v= .agg [vi s.Table,c1,c2]/\(tSl ak.t).R s.Cond c1/\(tSl oz.t).R s.Guards c2
def ia.t:TR ia:=⟨ia.R,3,true,λh=>by obtain⟨c1,c2,h0,hc1,hc2⟩:=h;subst h0;rfl,λh=>by obtain⟨c1,c2,h0,hc1,hc2⟩:=h;subst h0;rfl,λh=>by obtain⟨c1,c2,h0,hc1,hc2⟩:=h;subst h0;simp[closed,closedL,TR.clo _ hc1,TR.clo _ hc2]⟩
theorem ia.g_Table{s v}(h:ia.t.R s v):fieldR 0 1 false v=some (vi s.Table):=by obtain⟨_,_,rfl,_⟩:=h;rfl
theorem ia.g_Cond{s v}(h:ia.t.R s v):∃w,fieldR 1 1 false v=some w/\(tSl ak.t).R s.Cond w:=by obtain⟨_,_,rfl,q,_⟩:=h;exact⟨_,mk1 (TR.agg _ q),q⟩
structure dt where
 scope:au
 deriving Inhabited
def dt.R:dt->PV->Prop:=λs v=>∃c1,∃c2,∃c3,∃c4,∃c5,∃c6,∃c7,∃c8,∃c9,v= .agg [vs s.scope.Program.Name,c1,c2,c3,c4,c5,c6,c7,c8,c9]/\(tSl bm.t).R s.scope.Program.Headers c1/\(tSl av.t).R s.scope.Program.Metadata c2/\(tSl cj.t).R s.scope.Program.Registers c3/\(tSl cm.t).R s.scope.Program.Actions c4/\(tSl bz.t).R s.scope.Program.Tables c5/\(tSl bh.t).R s.scope.Program.States c6/\(tSl ab.t).R s.scope.Program.Control c7/\(tSl tI).R s.scope.Program.Deparser c8/\(tSl av.t).R s.scope.Params c9
def dt.t:TR dt:=⟨dt.R,10,true,λh=>by obtain⟨c1,c2,c3,c4,c5,c6,c7,c8,c9,h0,hc1,hc2,hc3,hc4,hc5,hc6,hc7,hc8,hc9⟩:=h;subst h0;rfl,λh=>by obtain⟨c1,c2,c3,c4,c5,c6,c7,c8,c9,h0,hc1,hc2,hc3,hc4,hc5,hc6,hc7,hc8,hc9⟩:=h;subst h0;rfl,λh=>by obtain⟨c1,c2,c3,c4,c5,c6,c7,c8,c9,h0,hc1,hc2,hc3,hc4,hc5,hc6,hc7,hc8,hc9⟩:=h;subst h0;simp[closed,closedL,TR.clo _ hc1,TR.clo _ hc2,TR.clo _ hc3,TR.clo _ hc4,TR.clo _ hc5,TR.clo _ hc6,TR.clo _ hc7,TR.clo _ hc8,TR.clo _ hc9]⟩
theorem dt.g_scope{s:dt}{v:PV}(h:dt.t.R s v):∃w,fieldR 0 10 true v=some w/\au.t.R s.scope w:=by obtain⟨c1,c2,c3,c4,c5,c6,c7,c8,c9,h0,hc1,hc2,hc3,hc4,hc5,hc6,hc7,hc8,hc9⟩:=h;subst h0;exact⟨_,O,⟨c1,c2,c3,c4,c5,c6,c7,c8,c9,O,hc1,hc2,hc3,hc4,hc5,hc6,hc7,hc8,hc9⟩⟩
structure kt where
 fields:List ae
 headers:List Int
 registers:List Int
 deriving Inhabited,DecidableEq
def kt.R:kt->PV->Prop:=λs v=>∃c0,∃c1,∃c2,v= .agg [c0,c1,c2]/\(tSl ae.t).R s.fields c0/\(tSl tI).R s.headers c1/\(tSl tI).R s.registers c2
def kt.t:TR kt:=⟨kt.R,3,true,λh=>by obtain⟨c0,c1,c2,h0,hc0,hc1,hc2⟩:=h;subst h0;rfl,λh=>by obtain⟨c0,c1,c2,h0,hc0,hc1,hc2⟩:=h;subst h0;rfl,λh=>by obtain⟨c0,c1,c2,h0,hc0,hc1,hc2⟩:=h;subst h0;simp[closed,closedL,TR.clo _ hc0,TR.clo _ hc1,TR.clo _ hc2]⟩
structure ay where
 p:aa
 cells:List Int
 deriving Inhabited
def ay.R:ay->PV->Prop:=λs v=>∃c1,∃c2,∃c3,∃c4,∃c5,∃c6,∃c7,∃c8,∃c9,v= .agg [vs s.p.Name,c1,c2,c3,c4,c5,c6,c7,c8,c9]/\(tSl bm.t).R s.p.Headers c1/\(tSl av.t).R s.p.Metadata c2/\(tSl cj.t).R s.p.Registers c3/\(tSl cm.t).R s.p.Actions c4/\(tSl bz.t).R s.p.Tables c5/\(tSl bh.t).R s.p.States c6/\(tSl ab.t).R s.p.Control c7/\(tSl tI).R s.p.Deparser c8/\(tSl tI).R s.cells c9
def ay.t:TR ay:=⟨ay.R,10,true,λh=>by obtain⟨c1,c2,c3,c4,c5,c6,c7,c8,c9,h0,hc1,hc2,hc3,hc4,hc5,hc6,hc7,hc8,hc9⟩:=h;subst h0;rfl,λh=>by obtain⟨c1,c2,c3,c4,c5,c6,c7,c8,c9,h0,hc1,hc2,hc3,hc4,hc5,hc6,hc7,hc8,hc9⟩:=h;subst h0;rfl,λh=>by obtain⟨c1,c2,c3,c4,c5,c6,c7,c8,c9,h0,hc1,hc2,hc3,hc4,hc5,hc6,hc7,hc8,hc9⟩:=h;subst h0;simp[closed,closedL,TR.clo _ hc1,TR.clo _ hc2,TR.clo _ hc3,TR.clo _ hc4,TR.clo _ hc5,TR.clo _ hc6,TR.clo _ hc7,TR.clo _ hc8,TR.clo _ hc9]⟩
theorem ay.g_p{s:ay}{v:PV}(h:ay.t.R s v):∃w,fieldR 0 9 true v=some w/\aa.t.R s.p w:=by obtain⟨c1,c2,c3,c4,c5,c6,c7,c8,c9,h0,hc1,hc2,hc3,hc4,hc5,hc6,hc7,hc8,hc9⟩:=h;subst h0;exact⟨_,O,⟨c1,c2,c3,c4,c5,c6,c7,c8,O,hc1,hc2,hc3,hc4,hc5,hc6,hc7,hc8⟩⟩
theorem ay.g_cells{s v}(h:ay.t.R s v):∃w,fieldR 9 1 false v=some w/\(tSl tI).R s.cells w:=by obtain⟨_,_,_,_,_,_,_,_,_,rfl,_,_,_,_,_,_,_,_,q⟩:=h;exact⟨_,mk1 (TR.agg _ q),q⟩
structure bn where
 V:BitVec 32
 W:Int
 To:Int
 deriving Inhabited,DecidableEq
def bn.R:bn->PV->Prop:=λs v=>v= .agg [de s.V,vi s.W,vi s.To]
def bn.t:TR bn:=⟨bn.R,3,true,λh=>by have h0:_=_:=h;subst h0;rfl,λh=>by have h0:_=_:=h;subst h0;rfl,λh=>by have h0:_=_:=h;subst h0;simp[closed,closedL]⟩
theorem bn.g_V{s v}(h:bn.t.R s v):fieldR 0 1 false v=some (de s.V):=by cases h;rfl
theorem bn.g_W{s v}(h:bn.t.R s v):fieldR 1 1 false v=some (vi s.W):=by cases h;rfl
theorem bn.g_To{s v}(h:bn.t.R s v):fieldR 2 1 false v=some (vi s.To):=by cases h;rfl
structure jw where
 p:aa
 cells:List (List (BitVec 32))
 deriving Inhabited
def jw.R:jw->PV->Prop:=λs v=>∃c1,∃c2,∃c3,∃c4,∃c5,∃c6,∃c7,∃c8,∃c9,v= .agg [vs s.p.Name,c1,c2,c3,c4,c5,c6,c7,c8,c9]/\(tSl bm.t).R s.p.Headers c1/\(tSl av.t).R s.p.Metadata c2/\(tSl cj.t).R s.p.Registers c3/\(tSl cm.t).R s.p.Actions c4/\(tSl bz.t).R s.p.Tables c5/\(tSl bh.t).R s.p.States c6/\(tSl ab.t).R s.p.Control c7/\(tSl tI).R s.p.Deparser c8/\(tSl (tSl gv)).R s.cells c9
def jw.t:TR jw:=⟨jw.R,10,true,λh=>by obtain⟨c1,c2,c3,c4,c5,c6,c7,c8,c9,h0,hc1,hc2,hc3,hc4,hc5,hc6,hc7,hc8,hc9⟩:=h;subst h0;rfl,λh=>by obtain⟨c1,c2,c3,c4,c5,c6,c7,c8,c9,h0,hc1,hc2,hc3,hc4,hc5,hc6,hc7,hc8,hc9⟩:=h;subst h0;rfl,λh=>by obtain⟨c1,c2,c3,c4,c5,c6,c7,c8,c9,h0,hc1,hc2,hc3,hc4,hc5,hc6,hc7,hc8,hc9⟩:=h;subst h0;simp[closed,closedL,TR.clo _ hc1,TR.clo _ hc2,TR.clo _ hc3,TR.clo _ hc4,TR.clo _ hc5,TR.clo _ hc6,TR.clo _ hc7,TR.clo _ hc8,TR.clo _ hc9]⟩
theorem jw.g_p{s:jw}{v:PV}(h:jw.t.R s v):∃w,fieldR 0 9 true v=some w/\aa.t.R s.p w:=by obtain⟨c1,c2,c3,c4,c5,c6,c7,c8,c9,h0,hc1,hc2,hc3,hc4,hc5,hc6,hc7,hc8,hc9⟩:=h;subst h0;exact⟨_,O,⟨c1,c2,c3,c4,c5,c6,c7,c8,O,hc1,hc2,hc3,hc4,hc5,hc6,hc7,hc8⟩⟩
theorem jw.g_cells{s v}(h:jw.t.R s v):∃w,fieldR 9 1 false v=some w/\(tSl (tSl gv)).R s.cells w:=by obtain⟨_,_,_,_,_,_,_,_,_,rfl,_,_,_,_,_,_,_,_,q⟩:=h;exact⟨_,mk1 (TR.agg _ q),q⟩
structure dj where
 Env:ax
 Registers:List (List (BitVec 32))
 Call:cp
 deriving Inhabited,DecidableEq
def dj.R:dj->PV->Prop:=λs v=>∃c0,∃c1,∃c2,∃c3,∃c4,∃c6,v= .agg [c0,c1,c2,c3,c4,vi s.Call.Action,c6]/\(tSl tB).R s.Env.Valid c0/\(tSl (tSl gv)).R s.Env.Fields c1/\(tSl gv).R s.Env.Metd c2/\(tSl tU8).R s.Env.Payload c3/\(tSl (tSl gv)).R s.Registers c4/\(tSl gv).R s.Call.Args c6
def dj.t:TR dj:=⟨dj.R,7,true,λh=>by obtain⟨c0,c1,c2,c3,c4,c6,h0,hc0,hc1,hc2,hc3,hc4,hc6⟩:=h;subst h0;rfl,λh=>by obtain⟨c0,c1,c2,c3,c4,c6,h0,hc0,hc1,hc2,hc3,hc4,hc6⟩:=h;subst h0;rfl,λh=>by obtain⟨c0,c1,c2,c3,c4,c6,h0,hc0,hc1,hc2,hc3,hc4,hc6⟩:=h;subst h0;simp[closed,closedL,TR.clo _ hc0,TR.clo _ hc1,TR.clo _ hc2,TR.clo _ hc3,TR.clo _ hc4,TR.clo _ hc6]⟩
theorem dj.g_Env{s:dj}{v:PV}(h:dj.t.R s v):∃w,fieldR 0 4 true v=some w/\ax.t.R s.Env w:=by obtain⟨c0,c1,c2,c3,c4,c6,h0,hc0,hc1,hc2,hc3,hc4,hc6⟩:=h;subst h0;exact⟨_,O,⟨c0,c1,c2,c3,O,hc0,hc1,hc2,hc3⟩⟩
theorem dj.g_Registers{s v}(h:dj.t.R s v):∃w,fieldR 4 1 false v=some w/\(tSl (tSl gv)).R s.Registers w:=by obtain⟨_,_,_,_,_,_,rfl,_,_,_,_,q,_⟩:=h;exact⟨_,mk1 (TR.agg _ q),q⟩
theorem dj.g_Call{s:dj}{v:PV}(h:dj.t.R s v):∃w,fieldR 5 2 true v=some w/\cp.t.R s.Call w:=by obtain⟨c0,c1,c2,c3,c4,c6,h0,hc0,hc1,hc2,hc3,hc4,hc6⟩:=h;subst h0;exact⟨_,O,⟨c6,O,hc6⟩⟩
theorem ae.eql_87{ox oy:Operand}{a b:ae}{va vb':PV}(ha:ae.t.R a va)(hb:ae.t.R b vb'):binF Tryz.prog .eql 87 ox oy va vb'=some (vb (decide (a=b))):=by
 have ha:va=_:=ha;have hb:vb'=_:=hb;subst ha;subst hb;rw[cl3 Tryz.underlying87 Z Z Tryz.underlying3 Tryz.underlying3 rfl rfl OO OO];cases a;cases b;simp only[Option.some.injEq,PV.sc.injEq,Value.bool.injEq];rw[Bool.eq_iff_iff];simp[ae.mk.injEq,pl,BitVec.toNat_inj]
theorem ae.neq_87{ox oy:Operand}{a b:ae}{va vb':PV}(ha:ae.t.R a va)(hb:ae.t.R b vb'):binF Tryz.prog .neq 87 ox oy va vb'=some (vb (!decide (a=b))):=by
 have ha:va=_:=ha;have hb:vb'=_:=hb;subst ha;subst hb;rw[cw0 Tryz.underlying87 Z Z Tryz.underlying3 Tryz.underlying3 rfl rfl OO OO];cases a;cases b;simp only[Option.some.injEq,PV.sc.injEq,Value.bool.injEq,Bool.not_eq_not];rw[Bool.eq_iff_iff];simp[ae.mk.injEq,pl,BitVec.toNat_inj]
theorem av.eq_166{ox oy:Operand}{a b:av}{va vb':PV}(ha:av.t.R a va)(hb:av.t.R b vb'):binF Tryz.prog .eql 166 ox oy va vb'=some (vb (decide (a=b)))/\binF Tryz.prog .neq 166 ox oy va vb'=some (vb (!decide (a=b))):=by
 have ha:va=_:=ha;have hb:vb'=_:=hb;subst ha;subst hb;have h:=eg0 (ox:=ox) (oy:=oy) (P:=Tryz.prog) (t:=166) (va:= .agg [vs a.Name,vi a.Width]) (vb':= .agg [vs b.Name,vi b.Width]) O O Z (dt1 (n:=9998) Tryz.underlying166 Z Tryz.underlying9 Tryz.underlying3 O O O O OO OO (cl0 Tryz.underlying9) (aw6 Tryz.underlying3));have e:decide (a=b)=((decide (a.Name=b.Name))&&(a.Width==b.Width)):=by
  cases a;cases b;rw[Bool.eq_iff_iff];simp[av.mk.injEq,pl,BitVec.toNat_inj,and_assoc]
 rw[e];exact h
theorem av.neq_166{ox oy:Operand}{a b:av}{va vb':PV}(ha:av.t.R a va)(hb:av.t.R b vb'):binF Tryz.prog .neq 166 ox oy va vb'=some (vb (!decide (a=b))):=(av.eq_166 ha hb).2
end Go.Proofs.YtmonnlkagniolaaGreat
