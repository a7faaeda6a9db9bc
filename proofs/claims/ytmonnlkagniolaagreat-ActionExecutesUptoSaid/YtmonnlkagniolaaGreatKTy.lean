import Derived.Test.YtmonnlkagniolaaGreatPbEq
import Derived.Test.YtmonnlkagniolaaGreatRows
set_option linter.unusedVariables false
set_option linter.unusedSimpArgs false
set_option maxRecDepth 100000
namespace Go.Proofs.YtmonnlkagniolaaGreat
open Go Go.Pb Go.RowKit
structure aw where
 Name : List UInt8
 Width : Int
 deriving Inhabited, DecidableEq
def aw.R : aw → PV → Prop := fun s v => v = .agg [vs s.Name, vi s.Width]
def aw.t : TR aw := ⟨aw.R, 2, true, fun h => by have h0 : _ = _ := h; subst h0; rfl, fun h => by have h0 : _ = _ := h; subst h0; rfl, fun h => by have h0 : _ = _ := h; subst h0; simp [closed, closedL]⟩
theorem aw.g_Name {s v} (h : aw.t.R s v) : fieldR 0 1 false v = some (vs s.Name) := by cases h; rfl
theorem aw.g_Width {s v} (h : aw.t.R s v) : fieldR 1 1 false v = some (vi s.Width) := by cases h; rfl
structure cm where
 Name : List UInt8
 Fields : List aw
 deriving Inhabited, DecidableEq
def cm.R : cm → PV → Prop := fun s v => ∃ c1, v = .agg [vs s.Name, c1] ∧ (tSl aw.t).R s.Fields c1
def cm.t : TR cm := ⟨cm.R, 2, true, fun h => by obtain ⟨c1, h0, hc1⟩ := h; subst h0; rfl, fun h => by obtain ⟨c1, h0, hc1⟩ := h; subst h0; rfl, fun h => by obtain ⟨c1, h0, hc1⟩ := h; subst h0; simp [closed, closedL, TR.clo _ hc1]⟩
theorem cm.g_Name {s v} (h : cm.t.R s v) : fieldR 0 1 false v = some (vs s.Name) := by obtain ⟨_, rfl, _⟩ := h; rfl
theorem cm.g_Fields {s v} (h : cm.t.R s v) : ∃ w, fieldR 1 1 false v = some w ∧ (tSl aw.t).R s.Fields w := by obtain ⟨_, rfl, q⟩ := h; exact ⟨_, mk1 (TR.agg _ q), q⟩
structure cg where
 Name : List UInt8
 Width : Int
 Size : Int
 deriving Inhabited, DecidableEq
def cg.R : cg → PV → Prop := fun s v => v = .agg [vs s.Name, vi s.Width, vi s.Size]
def cg.t : TR cg := ⟨cg.R, 3, true, fun h => by have h0 : _ = _ := h; subst h0; rfl, fun h => by have h0 : _ = _ := h; subst h0; rfl, fun h => by have h0 : _ = _ := h; subst h0; simp [closed, closedL]⟩
theorem cg.g_Name {s v} (h : cg.t.R s v) : fieldR 0 1 false v = some (vs s.Name) := by cases h; rfl
theorem cg.g_Width {s v} (h : cg.t.R s v) : fieldR 1 1 false v = some (vi s.Width) := by cases h; rfl
theorem cg.g_Size {s v} (h : cg.t.R s v) : fieldR 2 1 false v = some (vi s.Size) := by cases h; rfl
structure ak where
 Header : Int
 Field : Int
 deriving Inhabited, DecidableEq
def ak.R : ak → PV → Prop := fun s v => v = .agg [vi s.Header, vi s.Field]
def ak.t : TR ak := ⟨ak.R, 2, true, fun h => by have h0 : _ = _ := h; subst h0; rfl, fun h => by have h0 : _ = _ := h; subst h0; rfl, fun h => by have h0 : _ = _ := h; subst h0; simp [closed, closedL]⟩
theorem ak.g_Header {s v} (h : ak.t.R s v) : fieldR 0 1 false v = some (vi s.Header) := by cases h; rfl
theorem ak.g_Field {s v} (h : ak.t.R s v) : fieldR 1 1 false v = some (vi s.Field) := by cases h; rfl
structure aa where
 Op : Int
 N : Int
 W : Int
 deriving Inhabited, DecidableEq
def aa.R : aa → PV → Prop := fun s v => v = .agg [vi s.Op, vi s.N, vi s.W]
def aa.t : TR aa := ⟨aa.R, 3, true, fun h => by have h0 : _ = _ := h; subst h0; rfl, fun h => by have h0 : _ = _ := h; subst h0; rfl, fun h => by have h0 : _ = _ := h; subst h0; simp [closed, closedL]⟩
theorem aa.g_Op {s v} (h : aa.t.R s v) : fieldR 0 1 false v = some (vi s.Op) := by cases h; rfl
theorem aa.g_N {s v} (h : aa.t.R s v) : fieldR 1 1 false v = some (vi s.N) := by cases h; rfl
theorem aa.g_W {s v} (h : aa.t.R s v) : fieldR 2 1 false v = some (vi s.W) := by cases h; rfl
structure av where
 Kind : Int
 Dst : ak
 Register : Int
 Header : Int
 Index : List aa
 Value : List aa
 deriving Inhabited, DecidableEq
def av.R : av → PV → Prop := fun s v => ∃ c5, ∃ c6, v = .agg [vi s.Kind, vi s.Dst.Header, vi s.Dst.Field, vi s.Register, vi s.Header, c5, c6] ∧ (tSl aa.t).R s.Index c5 ∧ (tSl aa.t).R s.Value c6
def av.t : TR av := ⟨av.R, 7, true, fun h => by obtain ⟨c5, c6, h0, hc5, hc6⟩ := h; subst h0; rfl, fun h => by obtain ⟨c5, c6, h0, hc5, hc6⟩ := h; subst h0; rfl, fun h => by obtain ⟨c5, c6, h0, hc5, hc6⟩ := h; subst h0; simp [closed, closedL, TR.clo _ hc5, TR.clo _ hc6]⟩
theorem av.g_Kind {s v} (h : av.t.R s v) : fieldR 0 1 false v = some (vi s.Kind) := by obtain ⟨_, _, rfl, _⟩ := h; rfl
theorem av.g_Dst {s : av} {v : PV} (h : av.t.R s v) : ∃ w, fieldR 1 2 true v = some w ∧ ak.t.R s.Dst w := by obtain ⟨c5, c6, h0, hc5, hc6⟩ := h; subst h0; exact ⟨_, rfl, rfl⟩
theorem av.g_Register {s v} (h : av.t.R s v) : fieldR 3 1 false v = some (vi s.Register) := by obtain ⟨_, _, rfl, _⟩ := h; rfl
theorem av.g_Header {s v} (h : av.t.R s v) : fieldR 4 1 false v = some (vi s.Header) := by obtain ⟨_, _, rfl, _⟩ := h; rfl
theorem av.g_Index {s v} (h : av.t.R s v) : ∃ w, fieldR 5 1 false v = some w ∧ (tSl aa.t).R s.Index w := by obtain ⟨_, _, rfl, q, _⟩ := h; exact ⟨_, mk1 (TR.agg _ q), q⟩
theorem av.g_Value {s v} (h : av.t.R s v) : ∃ w, fieldR 6 1 false v = some w ∧ (tSl aa.t).R s.Value w := by obtain ⟨_, _, rfl, _, q⟩ := h; exact ⟨_, mk1 (TR.agg _ q), q⟩
structure bz where
 Name : List UInt8
 Params : List aw
 Body : List av
 deriving Inhabited, DecidableEq
def bz.R : bz → PV → Prop := fun s v => ∃ c1, ∃ c2, v = .agg [vs s.Name, c1, c2] ∧ (tSl aw.t).R s.Params c1 ∧ (tSl av.t).R s.Body c2
def bz.t : TR bz := ⟨bz.R, 3, true, fun h => by obtain ⟨c1, c2, h0, hc1, hc2⟩ := h; subst h0; rfl, fun h => by obtain ⟨c1, c2, h0, hc1, hc2⟩ := h; subst h0; rfl, fun h => by obtain ⟨c1, c2, h0, hc1, hc2⟩ := h; subst h0; simp [closed, closedL, TR.clo _ hc1, TR.clo _ hc2]⟩
theorem bz.g_Name {s v} (h : bz.t.R s v) : fieldR 0 1 false v = some (vs s.Name) := by obtain ⟨_, _, rfl, _⟩ := h; rfl
theorem bz.g_Params {s v} (h : bz.t.R s v) : ∃ w, fieldR 1 1 false v = some w ∧ (tSl aw.t).R s.Params w := by obtain ⟨_, _, rfl, q, _⟩ := h; exact ⟨_, mk1 (TR.agg _ q), q⟩
theorem bz.g_Body {s v} (h : bz.t.R s v) : ∃ w, fieldR 2 1 false v = some w ∧ (tSl av.t).R s.Body w := by obtain ⟨_, _, rfl, _, q⟩ := h; exact ⟨_, mk1 (TR.agg _ q), q⟩
structure gk where
 Field : ak
 Kind : Int
 deriving Inhabited, DecidableEq
def gk.R : gk → PV → Prop := fun s v => v = .agg [vi s.Field.Header, vi s.Field.Field, vi s.Kind]
def gk.t : TR gk := ⟨gk.R, 3, true, fun h => by have h0 : _ = _ := h; subst h0; rfl, fun h => by have h0 : _ = _ := h; subst h0; rfl, fun h => by have h0 : _ = _ := h; subst h0; simp [closed, closedL]⟩
theorem gk.g_Field {s : gk} {v : PV} (h : gk.t.R s v) : ∃ w, fieldR 0 2 true v = some w ∧ ak.t.R s.Field w := by have h0 : _ = _ := h; subst h0; exact ⟨_, rfl, rfl⟩
theorem gk.g_Kind {s v} (h : gk.t.R s v) : fieldR 2 1 false v = some (vi s.Kind) := by cases h; rfl
structure bm where
 Action : Int
 Args : List (BitVec 32)
 deriving Inhabited, DecidableEq
def bm.R : bm → PV → Prop := fun s v => ∃ c1, v = .agg [vi s.Action, c1] ∧ (tSl dg).R s.Args c1
def bm.t : TR bm := ⟨bm.R, 2, true, fun h => by obtain ⟨c1, h0, hc1⟩ := h; subst h0; rfl, fun h => by obtain ⟨c1, h0, hc1⟩ := h; subst h0; rfl, fun h => by obtain ⟨c1, h0, hc1⟩ := h; subst h0; simp [closed, closedL, TR.clo _ hc1]⟩
theorem bm.g_Action {s v} (h : bm.t.R s v) : fieldR 0 1 false v = some (vi s.Action) := by obtain ⟨_, rfl, _⟩ := h; rfl
theorem bm.g_Args {s v} (h : bm.t.R s v) : ∃ w, fieldR 1 1 false v = some w ∧ (tSl dg).R s.Args w := by obtain ⟨_, rfl, q⟩ := h; exact ⟨_, mk1 (TR.agg _ q), q⟩
structure fw where
 Name : List UInt8
 Keys : List gk
 Actions : List Int
 Default : bm
 Size : Int
 deriving Inhabited, DecidableEq
def fw.R : fw → PV → Prop := fun s v => ∃ c1, ∃ c2, ∃ c4, v = .agg [vs s.Name, c1, c2, vi s.Default.Action, c4, vi s.Size] ∧ (tSl gk.t).R s.Keys c1 ∧ (tSl tI).R s.Actions c2 ∧ (tSl dg).R s.Default.Args c4
def fw.t : TR fw := ⟨fw.R, 6, true, fun h => by obtain ⟨c1, c2, c4, h0, hc1, hc2, hc4⟩ := h; subst h0; rfl, fun h => by obtain ⟨c1, c2, c4, h0, hc1, hc2, hc4⟩ := h; subst h0; rfl, fun h => by obtain ⟨c1, c2, c4, h0, hc1, hc2, hc4⟩ := h; subst h0; simp [closed, closedL, TR.clo _ hc1, TR.clo _ hc2, TR.clo _ hc4]⟩
theorem fw.g_Name {s v} (h : fw.t.R s v) : fieldR 0 1 false v = some (vs s.Name) := by obtain ⟨_, _, _, rfl, _⟩ := h; rfl
theorem fw.g_Actions {s v} (h : fw.t.R s v) : ∃ w, fieldR 2 1 false v = some w ∧ (tSl tI).R s.Actions w := by obtain ⟨_, _, _, rfl, _, q, _⟩ := h; exact ⟨_, mk1 (TR.agg _ q), q⟩
theorem fw.g_Default {s : fw} {v : PV} (h : fw.t.R s v) : ∃ w, fieldR 3 2 true v = some w ∧ bm.t.R s.Default w := by obtain ⟨c1, c2, c4, h0, hc1, hc2, hc4⟩ := h; subst h0; exact ⟨_, rfl, ⟨c4, rfl, hc4⟩⟩
theorem fw.g_Size {s v} (h : fw.t.R s v) : fieldR 5 1 false v = some (vi s.Size) := by obtain ⟨_, _, _, rfl, _⟩ := h; rfl
structure gw where
 Value : BitVec 32
 Mask : BitVec 32
 Next : Int
 deriving Inhabited, DecidableEq
def gw.R : gw → PV → Prop := fun s v => v = .agg [bd s.Value, bd s.Mask, vi s.Next]
def gw.t : TR gw := ⟨gw.R, 3, true, fun h => by have h0 : _ = _ := h; subst h0; rfl, fun h => by have h0 : _ = _ := h; subst h0; rfl, fun h => by have h0 : _ = _ := h; subst h0; simp [closed, closedL]⟩
theorem gw.g_Value {s v} (h : gw.t.R s v) : fieldR 0 1 false v = some (bd s.Value) := by cases h; rfl
structure dv where
 Name : List UInt8
 Extract : List Int
 Select : Bool
 On : ak
 Cases : List gw
 Default : Int
 deriving Inhabited, DecidableEq
def dv.R : dv → PV → Prop := fun s v => ∃ c1, ∃ c5, v = .agg [vs s.Name, c1, vb s.Select, vi s.On.Header, vi s.On.Field, c5, vi s.Default] ∧ (tSl tI).R s.Extract c1 ∧ (tSl gw.t).R s.Cases c5
def dv.t : TR dv := ⟨dv.R, 7, true, fun h => by obtain ⟨c1, c5, h0, hc1, hc5⟩ := h; subst h0; rfl, fun h => by obtain ⟨c1, c5, h0, hc1, hc5⟩ := h; subst h0; rfl, fun h => by obtain ⟨c1, c5, h0, hc1, hc5⟩ := h; subst h0; simp [closed, closedL, TR.clo _ hc1, TR.clo _ hc5]⟩
theorem dv.g_Name {s v} (h : dv.t.R s v) : fieldR 0 1 false v = some (vs s.Name) := by obtain ⟨_, _, rfl, _⟩ := h; rfl
theorem dv.g_Default {s v} (h : dv.t.R s v) : fieldR 6 1 false v = some (vi s.Default) := by obtain ⟨_, _, rfl, _⟩ := h; rfl
structure bc where
 Kind : Int
 Table : Int
 Cond : List aa
 Then : List bc
 Else : List bc
 deriving Inhabited
mutual
def bc.R : bc → PV → Prop
 | ⟨xKind, xTable, xCond, xThen, xElse⟩, v => ∃ c2, ∃ c3, ∃ c4, v = .agg [vi xKind, vi xTable, c2, c3, c4] ∧ (tSl aa.t).R xCond c2 ∧ ((∃ es, IsSl c3 es ∧ bc.Rl xThen es) ∧ xThen.length ≤ 9223372036854775807) ∧ ((∃ es, IsSl c4 es ∧ bc.Rl xElse es) ∧ xElse.length ≤ 9223372036854775807)
def bc.Rl : List bc → List PV → Prop
 | [], [] => True
 | a :: l, e :: es => bc.R a e ∧ bc.Rl l es
 | _, _ => False
end
theorem bc.Rl_eq : ∀ (l : List bc) (es : List PV), bc.Rl l es = All2 bc.R l es
 | [], [] => by simp [bc.Rl, All2]
 | a :: l, e :: es => by simp [bc.Rl, All2, bc.Rl_eq l es]
 | [], _ :: _ => by simp [bc.Rl, All2]
 | _ :: _, [] => by simp [bc.Rl, All2]
mutual
theorem bc.R_clo : ∀ (s : bc) (v : PV), bc.R s v → closed v = true
 | ⟨xKind, xTable, xCond, xThen, xElse⟩, v, h => by
   simp only [bc.R] at h
   obtain ⟨c2, c3, c4, h0, hc2, hc3, hc4⟩ := h
   subst h0
   have kc2 := TR.clo _ hc2
   obtain ⟨⟨esc3, hic3, hlc3⟩, _⟩ := hc3
   have kc3 := hic3.closed (bc.Rl_clo _ _ hlc3)
   obtain ⟨⟨esc4, hic4, hlc4⟩, _⟩ := hc4
   have kc4 := hic4.closed (bc.Rl_clo _ _ hlc4)
   simp [closed, closedL, kc2, kc3, kc4]
theorem bc.Rl_clo : ∀ (l : List bc) (es : List PV), bc.Rl l es → closedL es = true
 | [], [], _ => rfl
 | a :: l, e :: es, h => by
   simp only [bc.Rl] at h
   simp [closedL, bc.R_clo a e h.1, bc.Rl_clo l es h.2]
 | [], _ :: _, h => by simp [bc.Rl] at h
 | _ :: _, [], h => by simp [bc.Rl] at h
end
def bc.t : TR bc := ⟨bc.R, 5, true, fun {a v} h => by cases a; simp only [bc.R] at h; obtain ⟨c2, c3, c4, h0, hc2, hc3, hc4⟩ := h; subst h0; rfl, fun {a v} h => by cases a; simp only [bc.R] at h; obtain ⟨c2, c3, c4, h0, hc2, hc3, hc4⟩ := h; subst h0; rfl, fun {a v} h => bc.R_clo a v h⟩
theorem bc.lR {l : List bc} {v : PV} (h : (∃ es, IsSl v es ∧ bc.Rl l es) ∧ l.length ≤ 9223372036854775807) : (tSl bc.t).R l v := by obtain ⟨⟨es, hi, hl⟩, hb⟩ := h; rw [bc.Rl_eq] at hl; exact ⟨⟨es, hi, hl⟩, hb⟩
theorem bc.op_of {s : bc} {v : PV} (h : bc.t.R s v) : ∃ c2, ∃ c3, ∃ c4, v = .agg [vi s.Kind, vi s.Table, c2, c3, c4] ∧ (tSl aa.t).R s.Cond c2 ∧ (tSl bc.t).R s.Then c3 ∧ (tSl bc.t).R s.Else c4 := by cases s; have h : bc.R _ v := h; simp only [bc.R] at h; obtain ⟨c2, c3, c4, h0, hc2, hc3, hc4⟩ := h; exact ⟨c2, c3, c4, h0, hc2, (bc.lR hc3), (bc.lR hc4)⟩
theorem bc.g_Kind {s : bc} {v : PV} (h : bc.t.R s v) : fieldR 0 1 false v = some (vi s.Kind) := by cases s; have h : bc.R _ v := h; simp only [bc.R] at h; obtain ⟨c2, c3, c4, h0, hc2, hc3, hc4⟩ := h; subst h0; rfl
structure af where
 Name : List UInt8
 Headers : List cm
 Metadata : List aw
 Registers : List cg
 Actions : List bz
 Tables : List fw
 States : List dv
 Control : List bc
 Deparser : List Int
 deriving Inhabited
def af.R : af → PV → Prop := fun s v => ∃ c1, ∃ c2, ∃ c3, ∃ c4, ∃ c5, ∃ c6, ∃ c7, ∃ c8, v = .agg [vs s.Name, c1, c2, c3, c4, c5, c6, c7, c8] ∧ (tSl cm.t).R s.Headers c1 ∧ (tSl aw.t).R s.Metadata c2 ∧ (tSl cg.t).R s.Registers c3 ∧ (tSl bz.t).R s.Actions c4 ∧ (tSl fw.t).R s.Tables c5 ∧ (tSl dv.t).R s.States c6 ∧ (tSl bc.t).R s.Control c7 ∧ (tSl tI).R s.Deparser c8
def af.t : TR af := ⟨af.R, 9, true, fun h => by obtain ⟨c1, c2, c3, c4, c5, c6, c7, c8, h0, hc1, hc2, hc3, hc4, hc5, hc6, hc7, hc8⟩ := h; subst h0; rfl, fun h => by obtain ⟨c1, c2, c3, c4, c5, c6, c7, c8, h0, hc1, hc2, hc3, hc4, hc5, hc6, hc7, hc8⟩ := h; subst h0; rfl, fun h => by obtain ⟨c1, c2, c3, c4, c5, c6, c7, c8, h0, hc1, hc2, hc3, hc4, hc5, hc6, hc7, hc8⟩ := h; subst h0; simp [closed, closedL, TR.clo _ hc1, TR.clo _ hc2, TR.clo _ hc3, TR.clo _ hc4, TR.clo _ hc5, TR.clo _ hc6, TR.clo _ hc7, TR.clo _ hc8]⟩
theorem af.g_Name {s v} (h : af.t.R s v) : fieldR 0 1 false v = some (vs s.Name) := by obtain ⟨_, _, _, _, _, _, _, _, rfl, _⟩ := h; rfl
theorem af.g_Headers {s v} (h : af.t.R s v) : ∃ w, fieldR 1 1 false v = some w ∧ (tSl cm.t).R s.Headers w := by obtain ⟨_, _, _, _, _, _, _, _, rfl, q, _⟩ := h; exact ⟨_, mk1 (TR.agg _ q), q⟩
theorem af.g_Metadata {s v} (h : af.t.R s v) : ∃ w, fieldR 2 1 false v = some w ∧ (tSl aw.t).R s.Metadata w := by obtain ⟨_, _, _, _, _, _, _, _, rfl, _, q, _⟩ := h; exact ⟨_, mk1 (TR.agg _ q), q⟩
theorem af.g_Registers {s v} (h : af.t.R s v) : ∃ w, fieldR 3 1 false v = some w ∧ (tSl cg.t).R s.Registers w := by obtain ⟨_, _, _, _, _, _, _, _, rfl, _, _, q, _⟩ := h; exact ⟨_, mk1 (TR.agg _ q), q⟩
theorem af.g_Actions {s v} (h : af.t.R s v) : ∃ w, fieldR 4 1 false v = some w ∧ (tSl bz.t).R s.Actions w := by obtain ⟨_, _, _, _, _, _, _, _, rfl, _, _, _, q, _⟩ := h; exact ⟨_, mk1 (TR.agg _ q), q⟩
structure ai where
 Valid : List Bool
 Fields : List (List (BitVec 32))
 Metd : List (BitVec 32)
 Payload : List UInt8
 deriving Inhabited, DecidableEq
def ai.R : ai → PV → Prop := fun s v => ∃ c0, ∃ c1, ∃ c2, ∃ c3, v = .agg [c0, c1, c2, c3] ∧ (tSl tB).R s.Valid c0 ∧ (tSl (tSl dg)).R s.Fields c1 ∧ (tSl dg).R s.Metd c2 ∧ (tSl tU8).R s.Payload c3
def ai.t : TR ai := ⟨ai.R, 4, true, fun h => by obtain ⟨c0, c1, c2, c3, h0, hc0, hc1, hc2, hc3⟩ := h; subst h0; rfl, fun h => by obtain ⟨c0, c1, c2, c3, h0, hc0, hc1, hc2, hc3⟩ := h; subst h0; rfl, fun h => by obtain ⟨c0, c1, c2, c3, h0, hc0, hc1, hc2, hc3⟩ := h; subst h0; simp [closed, closedL, TR.clo _ hc0, TR.clo _ hc1, TR.clo _ hc2, TR.clo _ hc3]⟩
theorem ai.g_Valid {s v} (h : ai.t.R s v) : ∃ w, fieldR 0 1 false v = some w ∧ (tSl tB).R s.Valid w := by obtain ⟨_, _, _, _, rfl, q, _⟩ := h; exact ⟨_, mk1 (TR.agg _ q), q⟩
theorem ai.g_Fields {s v} (h : ai.t.R s v) : ∃ w, fieldR 1 1 false v = some w ∧ (tSl (tSl dg)).R s.Fields w := by obtain ⟨_, _, _, _, rfl, _, q, _⟩ := h; exact ⟨_, mk1 (TR.agg _ q), q⟩
theorem ai.g_Meta {s v} (h : ai.t.R s v) : ∃ w, fieldR 2 1 false v = some w ∧ (tSl dg).R s.Metd w := by obtain ⟨_, _, _, _, rfl, _, _, q, _⟩ := h; exact ⟨_, mk1 (TR.agg _ q), q⟩
theorem ai.g_Payload {s v} (h : ai.t.R s v) : ∃ w, fieldR 3 1 false v = some w ∧ (tSl tU8).R s.Payload w := by obtain ⟨_, _, _, _, rfl, _, _, _, q⟩ := h; exact ⟨_, mk1 (TR.agg _ q), q⟩
structure aj where
 Program : af
 Params : List aw
 deriving Inhabited
def aj.R : aj → PV → Prop := fun s v => ∃ c1, ∃ c2, ∃ c3, ∃ c4, ∃ c5, ∃ c6, ∃ c7, ∃ c8, ∃ c9, v = .agg [vs s.Program.Name, c1, c2, c3, c4, c5, c6, c7, c8, c9] ∧ (tSl cm.t).R s.Program.Headers c1 ∧ (tSl aw.t).R s.Program.Metadata c2 ∧ (tSl cg.t).R s.Program.Registers c3 ∧ (tSl bz.t).R s.Program.Actions c4 ∧ (tSl fw.t).R s.Program.Tables c5 ∧ (tSl dv.t).R s.Program.States c6 ∧ (tSl bc.t).R s.Program.Control c7 ∧ (tSl tI).R s.Program.Deparser c8 ∧ (tSl aw.t).R s.Params c9
def aj.t : TR aj := ⟨aj.R, 10, true, fun h => by obtain ⟨c1, c2, c3, c4, c5, c6, c7, c8, c9, h0, hc1, hc2, hc3, hc4, hc5, hc6, hc7, hc8, hc9⟩ := h; subst h0; rfl, fun h => by obtain ⟨c1, c2, c3, c4, c5, c6, c7, c8, c9, h0, hc1, hc2, hc3, hc4, hc5, hc6, hc7, hc8, hc9⟩ := h; subst h0; rfl, fun h => by obtain ⟨c1, c2, c3, c4, c5, c6, c7, c8, c9, h0, hc1, hc2, hc3, hc4, hc5, hc6, hc7, hc8, hc9⟩ := h; subst h0; simp [closed, closedL, TR.clo _ hc1, TR.clo _ hc2, TR.clo _ hc3, TR.clo _ hc4, TR.clo _ hc5, TR.clo _ hc6, TR.clo _ hc7, TR.clo _ hc8, TR.clo _ hc9]⟩
theorem aj.g_Program {s : aj} {v : PV} (h : aj.t.R s v) : ∃ w, fieldR 0 9 true v = some w ∧ af.t.R s.Program w := by obtain ⟨c1, c2, c3, c4, c5, c6, c7, c8, c9, h0, hc1, hc2, hc3, hc4, hc5, hc6, hc7, hc8, hc9⟩ := h; subst h0; exact ⟨_, rfl, ⟨c1, c2, c3, c4, c5, c6, c7, c8, rfl, hc1, hc2, hc3, hc4, hc5, hc6, hc7, hc8⟩⟩
theorem aj.g_Params {s v} (h : aj.t.R s v) : ∃ w, fieldR 9 1 false v = some w ∧ (tSl aw.t).R s.Params w := by obtain ⟨_, _, _, _, _, _, _, _, _, rfl, _, _, _, _, _, _, _, _, q⟩ := h; exact ⟨_, mk1 (TR.agg _ q), q⟩
structure dh where
 scope : aj
 deriving Inhabited
def dh.R : dh → PV → Prop := fun s v => ∃ c1, ∃ c2, ∃ c3, ∃ c4, ∃ c5, ∃ c6, ∃ c7, ∃ c8, ∃ c9, v = .agg [vs s.scope.Program.Name, c1, c2, c3, c4, c5, c6, c7, c8, c9] ∧ (tSl cm.t).R s.scope.Program.Headers c1 ∧ (tSl aw.t).R s.scope.Program.Metadata c2 ∧ (tSl cg.t).R s.scope.Program.Registers c3 ∧ (tSl bz.t).R s.scope.Program.Actions c4 ∧ (tSl fw.t).R s.scope.Program.Tables c5 ∧ (tSl dv.t).R s.scope.Program.States c6 ∧ (tSl bc.t).R s.scope.Program.Control c7 ∧ (tSl tI).R s.scope.Program.Deparser c8 ∧ (tSl aw.t).R s.scope.Params c9
def dh.t : TR dh := ⟨dh.R, 10, true, fun h => by obtain ⟨c1, c2, c3, c4, c5, c6, c7, c8, c9, h0, hc1, hc2, hc3, hc4, hc5, hc6, hc7, hc8, hc9⟩ := h; subst h0; rfl, fun h => by obtain ⟨c1, c2, c3, c4, c5, c6, c7, c8, c9, h0, hc1, hc2, hc3, hc4, hc5, hc6, hc7, hc8, hc9⟩ := h; subst h0; rfl, fun h => by obtain ⟨c1, c2, c3, c4, c5, c6, c7, c8, c9, h0, hc1, hc2, hc3, hc4, hc5, hc6, hc7, hc8, hc9⟩ := h; subst h0; simp [closed, closedL, TR.clo _ hc1, TR.clo _ hc2, TR.clo _ hc3, TR.clo _ hc4, TR.clo _ hc5, TR.clo _ hc6, TR.clo _ hc7, TR.clo _ hc8, TR.clo _ hc9]⟩
theorem dh.g_scope {s : dh} {v : PV} (h : dh.t.R s v) : ∃ w, fieldR 0 10 true v = some w ∧ aj.t.R s.scope w := by obtain ⟨c1, c2, c3, c4, c5, c6, c7, c8, c9, h0, hc1, hc2, hc3, hc4, hc5, hc6, hc7, hc8, hc9⟩ := h; subst h0; exact ⟨_, rfl, ⟨c1, c2, c3, c4, c5, c6, c7, c8, c9, rfl, hc1, hc2, hc3, hc4, hc5, hc6, hc7, hc8, hc9⟩⟩
structure bg where
 scope : aj
 env : ai
 args : List (BitVec 32)
 nodes : List aa
 next : Int
 deriving Inhabited
def bg.R : bg → PV → Prop := fun s v => ∃ c1, ∃ c2, ∃ c3, ∃ c4, ∃ c5, ∃ c6, ∃ c7, ∃ c8, ∃ c9, ∃ c10, ∃ c11, ∃ c12, ∃ c13, ∃ c14, ∃ c15, v = .agg [vs s.scope.Program.Name, c1, c2, c3, c4, c5, c6, c7, c8, c9, c10, c11, c12, c13, c14, c15, vi s.next] ∧ (tSl cm.t).R s.scope.Program.Headers c1 ∧ (tSl aw.t).R s.scope.Program.Metadata c2 ∧ (tSl cg.t).R s.scope.Program.Registers c3 ∧ (tSl bz.t).R s.scope.Program.Actions c4 ∧ (tSl fw.t).R s.scope.Program.Tables c5 ∧ (tSl dv.t).R s.scope.Program.States c6 ∧ (tSl bc.t).R s.scope.Program.Control c7 ∧ (tSl tI).R s.scope.Program.Deparser c8 ∧ (tSl aw.t).R s.scope.Params c9 ∧ (tSl tB).R s.env.Valid c10 ∧ (tSl (tSl dg)).R s.env.Fields c11 ∧ (tSl dg).R s.env.Metd c12 ∧ (tSl tU8).R s.env.Payload c13 ∧ (tSl dg).R s.args c14 ∧ (tSl aa.t).R s.nodes c15
def bg.t : TR bg := ⟨bg.R, 17, true, fun h => by obtain ⟨c1, c2, c3, c4, c5, c6, c7, c8, c9, c10, c11, c12, c13, c14, c15, h0, hc1, hc2, hc3, hc4, hc5, hc6, hc7, hc8, hc9, hc10, hc11, hc12, hc13, hc14, hc15⟩ := h; subst h0; rfl, fun h => by obtain ⟨c1, c2, c3, c4, c5, c6, c7, c8, c9, c10, c11, c12, c13, c14, c15, h0, hc1, hc2, hc3, hc4, hc5, hc6, hc7, hc8, hc9, hc10, hc11, hc12, hc13, hc14, hc15⟩ := h; subst h0; rfl, fun h => by obtain ⟨c1, c2, c3, c4, c5, c6, c7, c8, c9, c10, c11, c12, c13, c14, c15, h0, hc1, hc2, hc3, hc4, hc5, hc6, hc7, hc8, hc9, hc10, hc11, hc12, hc13, hc14, hc15⟩ := h; subst h0; simp [closed, closedL, TR.clo _ hc1, TR.clo _ hc2, TR.clo _ hc3, TR.clo _ hc4, TR.clo _ hc5, TR.clo _ hc6, TR.clo _ hc7, TR.clo _ hc8, TR.clo _ hc9, TR.clo _ hc10, TR.clo _ hc11, TR.clo _ hc12, TR.clo _ hc13, TR.clo _ hc14, TR.clo _ hc15]⟩
theorem bg.g_scope {s : bg} {v : PV} (h : bg.t.R s v) : ∃ w, fieldR 0 10 true v = some w ∧ aj.t.R s.scope w := by obtain ⟨c1, c2, c3, c4, c5, c6, c7, c8, c9, c10, c11, c12, c13, c14, c15, h0, hc1, hc2, hc3, hc4, hc5, hc6, hc7, hc8, hc9, hc10, hc11, hc12, hc13, hc14, hc15⟩ := h; subst h0; exact ⟨_, rfl, ⟨c1, c2, c3, c4, c5, c6, c7, c8, c9, rfl, hc1, hc2, hc3, hc4, hc5, hc6, hc7, hc8, hc9⟩⟩
theorem bg.g_env {s : bg} {v : PV} (h : bg.t.R s v) : ∃ w, fieldR 10 4 true v = some w ∧ ai.t.R s.env w := by obtain ⟨c1, c2, c3, c4, c5, c6, c7, c8, c9, c10, c11, c12, c13, c14, c15, h0, hc1, hc2, hc3, hc4, hc5, hc6, hc7, hc8, hc9, hc10, hc11, hc12, hc13, hc14, hc15⟩ := h; subst h0; exact ⟨_, rfl, ⟨c10, c11, c12, c13, rfl, hc10, hc11, hc12, hc13⟩⟩
theorem bg.g_args {s v} (h : bg.t.R s v) : ∃ w, fieldR 14 1 false v = some w ∧ (tSl dg).R s.args w := by obtain ⟨_, _, _, _, _, _, _, _, _, _, _, _, _, _, _, rfl, _, _, _, _, _, _, _, _, _, _, _, _, _, q, _⟩ := h; exact ⟨_, mk1 (TR.agg _ q), q⟩
theorem bg.g_nodes {s v} (h : bg.t.R s v) : ∃ w, fieldR 15 1 false v = some w ∧ (tSl aa.t).R s.nodes w := by obtain ⟨_, _, _, _, _, _, _, _, _, _, _, _, _, _, _, rfl, _, _, _, _, _, _, _, _, _, _, _, _, _, _, q⟩ := h; exact ⟨_, mk1 (TR.agg _ q), q⟩
theorem bg.g_next {s v} (h : bg.t.R s v) : fieldR 16 1 false v = some (vi s.next) := by obtain ⟨_, _, _, _, _, _, _, _, _, _, _, _, _, _, _, rfl, _⟩ := h; rfl
structure am where
 v : BitVec 32
 w : Int
 deriving Inhabited, DecidableEq
def am.R : am → PV → Prop := fun s v => v = .agg [bd s.v, vi s.w]
def am.t : TR am := ⟨am.R, 2, true, fun h => by have h0 : _ = _ := h; subst h0; rfl, fun h => by have h0 : _ = _ := h; subst h0; rfl, fun h => by have h0 : _ = _ := h; subst h0; simp [closed, closedL]⟩
theorem am.g_v {s v} (h : am.t.R s v) : fieldR 0 1 false v = some (bd s.v) := by cases h; rfl
theorem am.g_w {s v} (h : am.t.R s v) : fieldR 1 1 false v = some (vi s.w) := by cases h; rfl
structure bf where
 scope : aj
 args : List (BitVec 32)
 env : ai
 regs : List (List (BitVec 32))
 deriving Inhabited
def bf.R : bf → PV → Prop := fun s v => ∃ c1, ∃ c2, ∃ c3, ∃ c4, ∃ c5, ∃ c6, ∃ c7, ∃ c8, ∃ c9, ∃ c10, ∃ c11, ∃ c12, ∃ c13, ∃ c14, ∃ c15, v = .agg [vs s.scope.Program.Name, c1, c2, c3, c4, c5, c6, c7, c8, c9, c10, c11, c12, c13, c14, c15] ∧ (tSl cm.t).R s.scope.Program.Headers c1 ∧ (tSl aw.t).R s.scope.Program.Metadata c2 ∧ (tSl cg.t).R s.scope.Program.Registers c3 ∧ (tSl bz.t).R s.scope.Program.Actions c4 ∧ (tSl fw.t).R s.scope.Program.Tables c5 ∧ (tSl dv.t).R s.scope.Program.States c6 ∧ (tSl bc.t).R s.scope.Program.Control c7 ∧ (tSl tI).R s.scope.Program.Deparser c8 ∧ (tSl aw.t).R s.scope.Params c9 ∧ (tSl dg).R s.args c10 ∧ (tSl tB).R s.env.Valid c11 ∧ (tSl (tSl dg)).R s.env.Fields c12 ∧ (tSl dg).R s.env.Metd c13 ∧ (tSl tU8).R s.env.Payload c14 ∧ (tSl (tSl dg)).R s.regs c15
def bf.t : TR bf := ⟨bf.R, 16, true, fun h => by obtain ⟨c1, c2, c3, c4, c5, c6, c7, c8, c9, c10, c11, c12, c13, c14, c15, h0, hc1, hc2, hc3, hc4, hc5, hc6, hc7, hc8, hc9, hc10, hc11, hc12, hc13, hc14, hc15⟩ := h; subst h0; rfl, fun h => by obtain ⟨c1, c2, c3, c4, c5, c6, c7, c8, c9, c10, c11, c12, c13, c14, c15, h0, hc1, hc2, hc3, hc4, hc5, hc6, hc7, hc8, hc9, hc10, hc11, hc12, hc13, hc14, hc15⟩ := h; subst h0; rfl, fun h => by obtain ⟨c1, c2, c3, c4, c5, c6, c7, c8, c9, c10, c11, c12, c13, c14, c15, h0, hc1, hc2, hc3, hc4, hc5, hc6, hc7, hc8, hc9, hc10, hc11, hc12, hc13, hc14, hc15⟩ := h; subst h0; simp [closed, closedL, TR.clo _ hc1, TR.clo _ hc2, TR.clo _ hc3, TR.clo _ hc4, TR.clo _ hc5, TR.clo _ hc6, TR.clo _ hc7, TR.clo _ hc8, TR.clo _ hc9, TR.clo _ hc10, TR.clo _ hc11, TR.clo _ hc12, TR.clo _ hc13, TR.clo _ hc14, TR.clo _ hc15]⟩
theorem bf.g_scope {s : bf} {v : PV} (h : bf.t.R s v) : ∃ w, fieldR 0 10 true v = some w ∧ aj.t.R s.scope w := by obtain ⟨c1, c2, c3, c4, c5, c6, c7, c8, c9, c10, c11, c12, c13, c14, c15, h0, hc1, hc2, hc3, hc4, hc5, hc6, hc7, hc8, hc9, hc10, hc11, hc12, hc13, hc14, hc15⟩ := h; subst h0; exact ⟨_, rfl, ⟨c1, c2, c3, c4, c5, c6, c7, c8, c9, rfl, hc1, hc2, hc3, hc4, hc5, hc6, hc7, hc8, hc9⟩⟩
theorem bf.g_args {s v} (h : bf.t.R s v) : ∃ w, fieldR 10 1 false v = some w ∧ (tSl dg).R s.args w := by obtain ⟨_, _, _, _, _, _, _, _, _, _, _, _, _, _, _, rfl, _, _, _, _, _, _, _, _, _, q, _⟩ := h; exact ⟨_, mk1 (TR.agg _ q), q⟩
theorem bf.g_env {s : bf} {v : PV} (h : bf.t.R s v) : ∃ w, fieldR 11 4 true v = some w ∧ ai.t.R s.env w := by obtain ⟨c1, c2, c3, c4, c5, c6, c7, c8, c9, c10, c11, c12, c13, c14, c15, h0, hc1, hc2, hc3, hc4, hc5, hc6, hc7, hc8, hc9, hc10, hc11, hc12, hc13, hc14, hc15⟩ := h; subst h0; exact ⟨_, rfl, ⟨c11, c12, c13, c14, rfl, hc11, hc12, hc13, hc14⟩⟩
theorem bf.g_regs {s v} (h : bf.t.R s v) : ∃ w, fieldR 15 1 false v = some w ∧ (tSl (tSl dg)).R s.regs w := by obtain ⟨_, _, _, _, _, _, _, _, _, _, _, _, _, _, _, rfl, _, _, _, _, _, _, _, _, _, _, _, _, _, _, q⟩ := h; exact ⟨_, mk1 (TR.agg _ q), q⟩
structure dq where
 p : af
 cells : List (List (BitVec 32))
 deriving Inhabited
def dq.R : dq → PV → Prop := fun s v => ∃ c1, ∃ c2, ∃ c3, ∃ c4, ∃ c5, ∃ c6, ∃ c7, ∃ c8, ∃ c9, v = .agg [vs s.p.Name, c1, c2, c3, c4, c5, c6, c7, c8, c9] ∧ (tSl cm.t).R s.p.Headers c1 ∧ (tSl aw.t).R s.p.Metadata c2 ∧ (tSl cg.t).R s.p.Registers c3 ∧ (tSl bz.t).R s.p.Actions c4 ∧ (tSl fw.t).R s.p.Tables c5 ∧ (tSl dv.t).R s.p.States c6 ∧ (tSl bc.t).R s.p.Control c7 ∧ (tSl tI).R s.p.Deparser c8 ∧ (tSl (tSl dg)).R s.cells c9
def dq.t : TR dq := ⟨dq.R, 10, true, fun h => by obtain ⟨c1, c2, c3, c4, c5, c6, c7, c8, c9, h0, hc1, hc2, hc3, hc4, hc5, hc6, hc7, hc8, hc9⟩ := h; subst h0; rfl, fun h => by obtain ⟨c1, c2, c3, c4, c5, c6, c7, c8, c9, h0, hc1, hc2, hc3, hc4, hc5, hc6, hc7, hc8, hc9⟩ := h; subst h0; rfl, fun h => by obtain ⟨c1, c2, c3, c4, c5, c6, c7, c8, c9, h0, hc1, hc2, hc3, hc4, hc5, hc6, hc7, hc8, hc9⟩ := h; subst h0; simp [closed, closedL, TR.clo _ hc1, TR.clo _ hc2, TR.clo _ hc3, TR.clo _ hc4, TR.clo _ hc5, TR.clo _ hc6, TR.clo _ hc7, TR.clo _ hc8, TR.clo _ hc9]⟩
theorem dq.g_p {s : dq} {v : PV} (h : dq.t.R s v) : ∃ w, fieldR 0 9 true v = some w ∧ af.t.R s.p w := by obtain ⟨c1, c2, c3, c4, c5, c6, c7, c8, c9, h0, hc1, hc2, hc3, hc4, hc5, hc6, hc7, hc8, hc9⟩ := h; subst h0; exact ⟨_, rfl, ⟨c1, c2, c3, c4, c5, c6, c7, c8, rfl, hc1, hc2, hc3, hc4, hc5, hc6, hc7, hc8⟩⟩
theorem dq.g_cells {s v} (h : dq.t.R s v) : ∃ w, fieldR 9 1 false v = some w ∧ (tSl (tSl dg)).R s.cells w := by obtain ⟨_, _, _, _, _, _, _, _, _, rfl, _, _, _, _, _, _, _, _, q⟩ := h; exact ⟨_, mk1 (TR.agg _ q), q⟩
structure az where
 V : BitVec 32
 W : Int
 To : Int
 deriving Inhabited, DecidableEq
def az.R : az → PV → Prop := fun s v => v = .agg [bd s.V, vi s.W, vi s.To]
def az.t : TR az := ⟨az.R, 3, true, fun h => by have h0 : _ = _ := h; subst h0; rfl, fun h => by have h0 : _ = _ := h; subst h0; rfl, fun h => by have h0 : _ = _ := h; subst h0; simp [closed, closedL]⟩
theorem az.g_V {s v} (h : az.t.R s v) : fieldR 0 1 false v = some (bd s.V) := by cases h; rfl
theorem az.g_W {s v} (h : az.t.R s v) : fieldR 1 1 false v = some (vi s.W) := by cases h; rfl
theorem az.g_To {s v} (h : az.t.R s v) : fieldR 2 1 false v = some (vi s.To) := by cases h; rfl
structure dm where
 P : af
 Call : bm
 E : ai
 Regs : List (List (BitVec 32))
 deriving Inhabited
def dm.R : dm → PV → Prop := fun s v => ∃ c1, ∃ c2, ∃ c3, ∃ c4, ∃ c5, ∃ c6, ∃ c7, ∃ c8, ∃ c10, ∃ c11, ∃ c12, ∃ c13, ∃ c14, ∃ c15, v = .agg [vs s.P.Name, c1, c2, c3, c4, c5, c6, c7, c8, vi s.Call.Action, c10, c11, c12, c13, c14, c15] ∧ (tSl cm.t).R s.P.Headers c1 ∧ (tSl aw.t).R s.P.Metadata c2 ∧ (tSl cg.t).R s.P.Registers c3 ∧ (tSl bz.t).R s.P.Actions c4 ∧ (tSl fw.t).R s.P.Tables c5 ∧ (tSl dv.t).R s.P.States c6 ∧ (tSl bc.t).R s.P.Control c7 ∧ (tSl tI).R s.P.Deparser c8 ∧ (tSl dg).R s.Call.Args c10 ∧ (tSl tB).R s.E.Valid c11 ∧ (tSl (tSl dg)).R s.E.Fields c12 ∧ (tSl dg).R s.E.Metd c13 ∧ (tSl tU8).R s.E.Payload c14 ∧ (tSl (tSl dg)).R s.Regs c15
def dm.t : TR dm := ⟨dm.R, 16, true, fun h => by obtain ⟨c1, c2, c3, c4, c5, c6, c7, c8, c10, c11, c12, c13, c14, c15, h0, hc1, hc2, hc3, hc4, hc5, hc6, hc7, hc8, hc10, hc11, hc12, hc13, hc14, hc15⟩ := h; subst h0; rfl, fun h => by obtain ⟨c1, c2, c3, c4, c5, c6, c7, c8, c10, c11, c12, c13, c14, c15, h0, hc1, hc2, hc3, hc4, hc5, hc6, hc7, hc8, hc10, hc11, hc12, hc13, hc14, hc15⟩ := h; subst h0; rfl, fun h => by obtain ⟨c1, c2, c3, c4, c5, c6, c7, c8, c10, c11, c12, c13, c14, c15, h0, hc1, hc2, hc3, hc4, hc5, hc6, hc7, hc8, hc10, hc11, hc12, hc13, hc14, hc15⟩ := h; subst h0; simp [closed, closedL, TR.clo _ hc1, TR.clo _ hc2, TR.clo _ hc3, TR.clo _ hc4, TR.clo _ hc5, TR.clo _ hc6, TR.clo _ hc7, TR.clo _ hc8, TR.clo _ hc10, TR.clo _ hc11, TR.clo _ hc12, TR.clo _ hc13, TR.clo _ hc14, TR.clo _ hc15]⟩
theorem dm.g_P {s : dm} {v : PV} (h : dm.t.R s v) : ∃ w, fieldR 0 9 true v = some w ∧ af.t.R s.P w := by obtain ⟨c1, c2, c3, c4, c5, c6, c7, c8, c10, c11, c12, c13, c14, c15, h0, hc1, hc2, hc3, hc4, hc5, hc6, hc7, hc8, hc10, hc11, hc12, hc13, hc14, hc15⟩ := h; subst h0; exact ⟨_, rfl, ⟨c1, c2, c3, c4, c5, c6, c7, c8, rfl, hc1, hc2, hc3, hc4, hc5, hc6, hc7, hc8⟩⟩
theorem dm.g_Call {s : dm} {v : PV} (h : dm.t.R s v) : ∃ w, fieldR 9 2 true v = some w ∧ bm.t.R s.Call w := by obtain ⟨c1, c2, c3, c4, c5, c6, c7, c8, c10, c11, c12, c13, c14, c15, h0, hc1, hc2, hc3, hc4, hc5, hc6, hc7, hc8, hc10, hc11, hc12, hc13, hc14, hc15⟩ := h; subst h0; exact ⟨_, rfl, ⟨c10, rfl, hc10⟩⟩
theorem dm.g_E {s : dm} {v : PV} (h : dm.t.R s v) : ∃ w, fieldR 11 4 true v = some w ∧ ai.t.R s.E w := by obtain ⟨c1, c2, c3, c4, c5, c6, c7, c8, c10, c11, c12, c13, c14, c15, h0, hc1, hc2, hc3, hc4, hc5, hc6, hc7, hc8, hc10, hc11, hc12, hc13, hc14, hc15⟩ := h; subst h0; exact ⟨_, rfl, ⟨c11, c12, c13, c14, rfl, hc11, hc12, hc13, hc14⟩⟩
theorem dm.g_Regs {s v} (h : dm.t.R s v) : ∃ w, fieldR 15 1 false v = some w ∧ (tSl (tSl dg)).R s.Regs w := by obtain ⟨_, _, _, _, _, _, _, _, _, _, _, _, _, _, rfl, _, _, _, _, _, _, _, _, _, _, _, _, _, q⟩ := h; exact ⟨_, mk1 (TR.agg _ q), q⟩
theorem ak.eql_87 {ox oy : Operand} {a b : ak} {va vb' : PV} (ha : ak.t.R a va) (hb : ak.t.R b vb') : binF Tryz.prog .eql 87 ox oy va vb' = some (vb (decide (a = b))) := by
 have ha : va = _ := ha; have hb : vb' = _ := hb; subst ha; subst hb
 rw [cf2 Tryz.underlying87 (by kernel_rfl) (by kernel_rfl) Tryz.underlying3 Tryz.underlying3 rfl rfl (by decide) (by decide)]
 cases a; cases b; simp only [Option.some.injEq, PV.sc.injEq, Value.bool.injEq]; rw [Bool.eq_iff_iff]; simp [ak.mk.injEq, qf, BitVec.toNat_inj]
end Go.Proofs.YtmonnlkagniolaaGreat
