import Derived.Test.YthdnpgpnodgicaaGreatPbEq
import Derived.Test.YthdnpgpnodgicaaGreatRows
set_option linter.unusedVariables false
set_option linter.unusedSimpArgs false
set_option maxRecDepth 100000
namespace Go.Proofs.YthdnpgpnodgicaaGreat
open Go Go.Pb Go.RowKit
structure dv where
 Op : Int
 N : Int
 W : Int
 deriving Inhabited, DecidableEq
def dv.R : dv → PV → Prop := fun s v => v = .agg [vi s.Op, vi s.N, vi s.W]
def dv.t : TR dv := ⟨dv.R, 3, true, fun h => by have h0 : _ = _ := h; subst h0; rfl, fun h => by have h0 : _ = _ := h; subst h0; rfl, fun h => by have h0 : _ = _ := h; subst h0; simp [closed, closedL]⟩
structure ak where
 Kind : Int
 Table : Int
 Cond : List dv
 Then : List ak
 Else : List ak
 deriving Inhabited
mutual
def ak.R : ak → PV → Prop
 | ⟨xKind, xTable, xCond, xThen, xElse⟩, v => ∃ c2, ∃ c3, ∃ c4, v = .agg [vi xKind, vi xTable, c2, c3, c4] ∧ (tSl dv.t).R xCond c2 ∧ ((∃ es, IsSl c3 es ∧ ak.Rl xThen es) ∧ xThen.length ≤ 9223372036854775807) ∧ ((∃ es, IsSl c4 es ∧ ak.Rl xElse es) ∧ xElse.length ≤ 9223372036854775807)
def ak.Rl : List ak → List PV → Prop
 | [], [] => True
 | a :: l, e :: es => ak.R a e ∧ ak.Rl l es
 | _, _ => False
end
theorem ak.Rl_eq : ∀ (l : List ak) (es : List PV), ak.Rl l es = All2 ak.R l es
 | [], [] => by simp [ak.Rl, All2]
 | a :: l, e :: es => by simp [ak.Rl, All2, ak.Rl_eq l es]
 | [], _ :: _ => by simp [ak.Rl, All2]
 | _ :: _, [] => by simp [ak.Rl, All2]
mutual
theorem ak.R_clo : ∀ (s : ak) (v : PV), ak.R s v → closed v = true
 | ⟨xKind, xTable, xCond, xThen, xElse⟩, v, h => by
   simp only [ak.R] at h
   obtain ⟨c2, c3, c4, h0, hc2, hc3, hc4⟩ := h
   subst h0
   have kc2 := TR.clo _ hc2
   obtain ⟨⟨esc3, hic3, hlc3⟩, _⟩ := hc3
   have kc3 := hic3.closed (ak.Rl_clo _ _ hlc3)
   obtain ⟨⟨esc4, hic4, hlc4⟩, _⟩ := hc4
   have kc4 := hic4.closed (ak.Rl_clo _ _ hlc4)
   simp [closed, closedL, kc2, kc3, kc4]
theorem ak.Rl_clo : ∀ (l : List ak) (es : List PV), ak.Rl l es → closedL es = true
 | [], [], _ => rfl
 | a :: l, e :: es, h => by
   simp only [ak.Rl] at h
   simp [closedL, ak.R_clo a e h.1, ak.Rl_clo l es h.2]
 | [], _ :: _, h => by simp [ak.Rl] at h
 | _ :: _, [], h => by simp [ak.Rl] at h
end
def ak.t : TR ak := ⟨ak.R, 5, true, fun {a v} h => by cases a; simp only [ak.R] at h; obtain ⟨c2, c3, c4, h0, hc2, hc3, hc4⟩ := h; subst h0; rfl, fun {a v} h => by cases a; simp only [ak.R] at h; obtain ⟨c2, c3, c4, h0, hc2, hc3, hc4⟩ := h; subst h0; rfl, fun {a v} h => ak.R_clo a v h⟩
theorem ak.lR {l : List ak} {v : PV} (h : (∃ es, IsSl v es ∧ ak.Rl l es) ∧ l.length ≤ 9223372036854775807) : (tSl ak.t).R l v := by obtain ⟨⟨es, hi, hl⟩, hb⟩ := h; rw [ak.Rl_eq] at hl; exact ⟨⟨es, hi, hl⟩, hb⟩
theorem ak.g_Kind {s : ak} {v : PV} (h : ak.t.R s v) : fieldR 0 1 false v = some (vi s.Kind) := by cases s; have h : ak.R _ v := h; simp only [ak.R] at h; obtain ⟨c2, c3, c4, h0, hc2, hc3, hc4⟩ := h; subst h0; rfl
theorem ak.g_Table {s : ak} {v : PV} (h : ak.t.R s v) : fieldR 1 1 false v = some (vi s.Table) := by cases s; have h : ak.R _ v := h; simp only [ak.R] at h; obtain ⟨c2, c3, c4, h0, hc2, hc3, hc4⟩ := h; subst h0; rfl
theorem ak.g_Cond {s : ak} {v : PV} (h : ak.t.R s v) : ∃ w, fieldR 2 1 false v = some w ∧ (tSl dv.t).R s.Cond w := by cases s; have h : ak.R _ v := h; simp only [ak.R] at h; obtain ⟨c2, c3, c4, h0, hc2, hc3, hc4⟩ := h; subst h0; exact ⟨_, mk1 (TR.agg _ hc2), hc2⟩
theorem ak.g_Then {s : ak} {v : PV} (h : ak.t.R s v) : ∃ w, fieldR 3 1 false v = some w ∧ (tSl ak.t).R s.Then w := by cases s; have h : ak.R _ v := h; simp only [ak.R] at h; obtain ⟨c2, c3, c4, h0, hc2, hc3, hc4⟩ := h; subst h0; obtain ⟨⟨es, hi, hl⟩, hb⟩ := hc3; rw [ak.Rl_eq] at hl; have hh : (tSl ak.t).R _ _ := ⟨⟨es, hi, hl⟩, hb⟩; exact ⟨_, mk1 (TR.agg _ hh), hh⟩
theorem ak.g_Else {s : ak} {v : PV} (h : ak.t.R s v) : ∃ w, fieldR 4 1 false v = some w ∧ (tSl ak.t).R s.Else w := by cases s; have h : ak.R _ v := h; simp only [ak.R] at h; obtain ⟨c2, c3, c4, h0, hc2, hc3, hc4⟩ := h; subst h0; obtain ⟨⟨es, hi, hl⟩, hb⟩ := hc4; rw [ak.Rl_eq] at hl; have hh : (tSl ak.t).R _ _ := ⟨⟨es, hi, hl⟩, hb⟩; exact ⟨_, mk1 (TR.agg _ hh), hh⟩
structure bw where
 Name : List UInt8
 Width : Int
 deriving Inhabited, DecidableEq
def bw.R : bw → PV → Prop := fun s v => v = .agg [vs s.Name, vi s.Width]
def bw.t : TR bw := ⟨bw.R, 2, true, fun h => by have h0 : _ = _ := h; subst h0; rfl, fun h => by have h0 : _ = _ := h; subst h0; rfl, fun h => by have h0 : _ = _ := h; subst h0; simp [closed, closedL]⟩
theorem bw.g_Name {s v} (h : bw.t.R s v) : fieldR 0 1 false v = some (vs s.Name) := by cases h; rfl
theorem bw.g_Width {s v} (h : bw.t.R s v) : fieldR 1 1 false v = some (vi s.Width) := by cases h; rfl
structure cj where
 Name : List UInt8
 Fields : List bw
 deriving Inhabited, DecidableEq
def cj.R : cj → PV → Prop := fun s v => ∃ c1, v = .agg [vs s.Name, c1] ∧ (tSl bw.t).R s.Fields c1
def cj.t : TR cj := ⟨cj.R, 2, true, fun h => by obtain ⟨c1, h0, hc1⟩ := h; subst h0; rfl, fun h => by obtain ⟨c1, h0, hc1⟩ := h; subst h0; rfl, fun h => by obtain ⟨c1, h0, hc1⟩ := h; subst h0; simp [closed, closedL, TR.clo _ hc1]⟩
theorem cj.g_Name {s v} (h : cj.t.R s v) : fieldR 0 1 false v = some (vs s.Name) := by obtain ⟨_, rfl, _⟩ := h; rfl
theorem cj.g_Fields {s v} (h : cj.t.R s v) : ∃ w, fieldR 1 1 false v = some w ∧ (tSl bw.t).R s.Fields w := by obtain ⟨_, rfl, q⟩ := h; exact ⟨_, mk1 (TR.agg _ q), q⟩
structure cf where
 Header : Int
 Field : Int
 deriving Inhabited, DecidableEq
def cf.R : cf → PV → Prop := fun s v => v = .agg [vi s.Header, vi s.Field]
def cf.t : TR cf := ⟨cf.R, 2, true, fun h => by have h0 : _ = _ := h; subst h0; rfl, fun h => by have h0 : _ = _ := h; subst h0; rfl, fun h => by have h0 : _ = _ := h; subst h0; simp [closed, closedL]⟩
theorem cf.g_Header {s v} (h : cf.t.R s v) : fieldR 0 1 false v = some (vi s.Header) := by cases h; rfl
theorem cf.g_Field {s v} (h : cf.t.R s v) : fieldR 1 1 false v = some (vi s.Field) := by cases h; rfl
structure dj where
 Kind : Int
 Dst : cf
 Register : Int
 Header : Int
 Index : List dv
 Value : List dv
 deriving Inhabited, DecidableEq
def dj.R : dj → PV → Prop := fun s v => ∃ c5, ∃ c6, v = .agg [vi s.Kind, vi s.Dst.Header, vi s.Dst.Field, vi s.Register, vi s.Header, c5, c6] ∧ (tSl dv.t).R s.Index c5 ∧ (tSl dv.t).R s.Value c6
def dj.t : TR dj := ⟨dj.R, 7, true, fun h => by obtain ⟨c5, c6, h0, hc5, hc6⟩ := h; subst h0; rfl, fun h => by obtain ⟨c5, c6, h0, hc5, hc6⟩ := h; subst h0; rfl, fun h => by obtain ⟨c5, c6, h0, hc5, hc6⟩ := h; subst h0; simp [closed, closedL, TR.clo _ hc5, TR.clo _ hc6]⟩
theorem dj.g_Kind {s v} (h : dj.t.R s v) : fieldR 0 1 false v = some (vi s.Kind) := by obtain ⟨_, _, rfl, _⟩ := h; rfl
theorem dj.g_Header {s v} (h : dj.t.R s v) : fieldR 4 1 false v = some (vi s.Header) := by obtain ⟨_, _, rfl, _⟩ := h; rfl
theorem dj.g_Index {s v} (h : dj.t.R s v) : ∃ w, fieldR 5 1 false v = some w ∧ (tSl dv.t).R s.Index w := by obtain ⟨_, _, rfl, q, _⟩ := h; exact ⟨_, mk1 (TR.agg _ q), q⟩
theorem dj.g_Value {s v} (h : dj.t.R s v) : ∃ w, fieldR 6 1 false v = some w ∧ (tSl dv.t).R s.Value w := by obtain ⟨_, _, rfl, _, q⟩ := h; exact ⟨_, mk1 (TR.agg _ q), q⟩
structure cp where
 Name : List UInt8
 Params : List bw
 Body : List dj
 deriving Inhabited, DecidableEq
def cp.R : cp → PV → Prop := fun s v => ∃ c1, ∃ c2, v = .agg [vs s.Name, c1, c2] ∧ (tSl bw.t).R s.Params c1 ∧ (tSl dj.t).R s.Body c2
def cp.t : TR cp := ⟨cp.R, 3, true, fun h => by obtain ⟨c1, c2, h0, hc1, hc2⟩ := h; subst h0; rfl, fun h => by obtain ⟨c1, c2, h0, hc1, hc2⟩ := h; subst h0; rfl, fun h => by obtain ⟨c1, c2, h0, hc1, hc2⟩ := h; subst h0; simp [closed, closedL, TR.clo _ hc1, TR.clo _ hc2]⟩
theorem cp.g_Name {s v} (h : cp.t.R s v) : fieldR 0 1 false v = some (vs s.Name) := by obtain ⟨_, _, rfl, _⟩ := h; rfl
theorem cp.g_Params {s v} (h : cp.t.R s v) : ∃ w, fieldR 1 1 false v = some w ∧ (tSl bw.t).R s.Params w := by obtain ⟨_, _, rfl, q, _⟩ := h; exact ⟨_, mk1 (TR.agg _ q), q⟩
theorem cp.g_Body {s v} (h : cp.t.R s v) : ∃ w, fieldR 2 1 false v = some w ∧ (tSl dj.t).R s.Body w := by obtain ⟨_, _, rfl, _, q⟩ := h; exact ⟨_, mk1 (TR.agg _ q), q⟩
structure ee where
 Value : BitVec 32
 Mask : BitVec 32
 Next : Int
 deriving Inhabited, DecidableEq
def ee.R : ee → PV → Prop := fun s v => v = .agg [df s.Value, df s.Mask, vi s.Next]
def ee.t : TR ee := ⟨ee.R, 3, true, fun h => by have h0 : _ = _ := h; subst h0; rfl, fun h => by have h0 : _ = _ := h; subst h0; rfl, fun h => by have h0 : _ = _ := h; subst h0; simp [closed, closedL]⟩
theorem ee.g_Value {s v} (h : ee.t.R s v) : fieldR 0 1 false v = some (df s.Value) := by cases h; rfl
theorem ee.g_Mask {s v} (h : ee.t.R s v) : fieldR 1 1 false v = some (df s.Mask) := by cases h; rfl
structure ck where
 Name : List UInt8
 Extract : List Int
 Select : Bool
 On : cf
 Cases : List ee
 Default : Int
 deriving Inhabited, DecidableEq
def ck.R : ck → PV → Prop := fun s v => ∃ c1, ∃ c5, v = .agg [vs s.Name, c1, vb s.Select, vi s.On.Header, vi s.On.Field, c5, vi s.Default] ∧ (tSl tI).R s.Extract c1 ∧ (tSl ee.t).R s.Cases c5
def ck.t : TR ck := ⟨ck.R, 7, true, fun h => by obtain ⟨c1, c5, h0, hc1, hc5⟩ := h; subst h0; rfl, fun h => by obtain ⟨c1, c5, h0, hc1, hc5⟩ := h; subst h0; rfl, fun h => by obtain ⟨c1, c5, h0, hc1, hc5⟩ := h; subst h0; simp [closed, closedL, TR.clo _ hc1, TR.clo _ hc5]⟩
theorem ck.g_Name {s v} (h : ck.t.R s v) : fieldR 0 1 false v = some (vs s.Name) := by obtain ⟨_, _, rfl, _⟩ := h; rfl
theorem ck.g_Extract {s v} (h : ck.t.R s v) : ∃ w, fieldR 1 1 false v = some w ∧ (tSl tI).R s.Extract w := by obtain ⟨_, _, rfl, q, _⟩ := h; exact ⟨_, mk1 (TR.agg _ q), q⟩
theorem ck.g_Cases {s v} (h : ck.t.R s v) : ∃ w, fieldR 5 1 false v = some w ∧ (tSl ee.t).R s.Cases w := by obtain ⟨_, _, rfl, _, q⟩ := h; exact ⟨_, mk1 (TR.agg _ q), q⟩
theorem ck.g_Default {s v} (h : ck.t.R s v) : fieldR 6 1 false v = some (vi s.Default) := by obtain ⟨_, _, rfl, _⟩ := h; rfl
structure ep where
 Name : List UInt8
 Width : Int
 Size : Int
 deriving Inhabited, DecidableEq
def ep.R : ep → PV → Prop := fun s v => v = .agg [vs s.Name, vi s.Width, vi s.Size]
def ep.t : TR ep := ⟨ep.R, 3, true, fun h => by have h0 : _ = _ := h; subst h0; rfl, fun h => by have h0 : _ = _ := h; subst h0; rfl, fun h => by have h0 : _ = _ := h; subst h0; simp [closed, closedL]⟩
theorem ep.g_Name {s v} (h : ep.t.R s v) : fieldR 0 1 false v = some (vs s.Name) := by cases h; rfl
theorem ep.g_Width {s v} (h : ep.t.R s v) : fieldR 1 1 false v = some (vi s.Width) := by cases h; rfl
theorem ep.g_Size {s v} (h : ep.t.R s v) : fieldR 2 1 false v = some (vi s.Size) := by cases h; rfl
structure bh where
 Field : cf
 Kind : Int
 deriving Inhabited, DecidableEq
def bh.R : bh → PV → Prop := fun s v => v = .agg [vi s.Field.Header, vi s.Field.Field, vi s.Kind]
def bh.t : TR bh := ⟨bh.R, 3, true, fun h => by have h0 : _ = _ := h; subst h0; rfl, fun h => by have h0 : _ = _ := h; subst h0; rfl, fun h => by have h0 : _ = _ := h; subst h0; simp [closed, closedL]⟩
theorem bh.g_Field {s : bh} {v : PV} (h : bh.t.R s v) : ∃ w, fieldR 0 2 true v = some w ∧ cf.t.R s.Field w := by have h0 : _ = _ := h; subst h0; exact ⟨_, rfl, rfl⟩
theorem bh.g_Kind {s v} (h : bh.t.R s v) : fieldR 2 1 false v = some (vi s.Kind) := by cases h; rfl
structure av where
 Action : Int
 Args : List (BitVec 32)
 deriving Inhabited, DecidableEq
def av.R : av → PV → Prop := fun s v => ∃ c1, v = .agg [vi s.Action, c1] ∧ (tSl ko).R s.Args c1
def av.t : TR av := ⟨av.R, 2, true, fun h => by obtain ⟨c1, h0, hc1⟩ := h; subst h0; rfl, fun h => by obtain ⟨c1, h0, hc1⟩ := h; subst h0; rfl, fun h => by obtain ⟨c1, h0, hc1⟩ := h; subst h0; simp [closed, closedL, TR.clo _ hc1]⟩
theorem av.g_Action {s v} (h : av.t.R s v) : fieldR 0 1 false v = some (vi s.Action) := by obtain ⟨_, rfl, _⟩ := h; rfl
theorem av.g_Args {s v} (h : av.t.R s v) : ∃ w, fieldR 1 1 false v = some w ∧ (tSl ko).R s.Args w := by obtain ⟨_, rfl, q⟩ := h; exact ⟨_, mk1 (TR.agg _ q), q⟩
structure ax where
 Name : List UInt8
 Keys : List bh
 Actions : List Int
 Default : av
 Size : Int
 deriving Inhabited, DecidableEq
def ax.R : ax → PV → Prop := fun s v => ∃ c1, ∃ c2, ∃ c4, v = .agg [vs s.Name, c1, c2, vi s.Default.Action, c4, vi s.Size] ∧ (tSl bh.t).R s.Keys c1 ∧ (tSl tI).R s.Actions c2 ∧ (tSl ko).R s.Default.Args c4
def ax.t : TR ax := ⟨ax.R, 6, true, fun h => by obtain ⟨c1, c2, c4, h0, hc1, hc2, hc4⟩ := h; subst h0; rfl, fun h => by obtain ⟨c1, c2, c4, h0, hc1, hc2, hc4⟩ := h; subst h0; rfl, fun h => by obtain ⟨c1, c2, c4, h0, hc1, hc2, hc4⟩ := h; subst h0; simp [closed, closedL, TR.clo _ hc1, TR.clo _ hc2, TR.clo _ hc4]⟩
theorem ax.g_Name {s v} (h : ax.t.R s v) : fieldR 0 1 false v = some (vs s.Name) := by obtain ⟨_, _, _, rfl, _⟩ := h; rfl
theorem ax.g_Keys {s v} (h : ax.t.R s v) : ∃ w, fieldR 1 1 false v = some w ∧ (tSl bh.t).R s.Keys w := by obtain ⟨_, _, _, rfl, q, _⟩ := h; exact ⟨_, mk1 (TR.agg _ q), q⟩
theorem ax.g_Actions {s v} (h : ax.t.R s v) : ∃ w, fieldR 2 1 false v = some w ∧ (tSl tI).R s.Actions w := by obtain ⟨_, _, _, rfl, _, q, _⟩ := h; exact ⟨_, mk1 (TR.agg _ q), q⟩
theorem ax.g_Default {s : ax} {v : PV} (h : ax.t.R s v) : ∃ w, fieldR 3 2 true v = some w ∧ av.t.R s.Default w := by obtain ⟨c1, c2, c4, h0, hc1, hc2, hc4⟩ := h; subst h0; exact ⟨_, rfl, ⟨c4, rfl, hc4⟩⟩
theorem ax.g_Size {s v} (h : ax.t.R s v) : fieldR 5 1 false v = some (vi s.Size) := by obtain ⟨_, _, _, rfl, _⟩ := h; rfl
structure aa where
 Name : List UInt8
 Headers : List cj
 Metadata : List bw
 Registers : List ep
 Actions : List cp
 Tables : List ax
 States : List ck
 Control : List ak
 Deparser : List Int
 deriving Inhabited
def aa.R : aa → PV → Prop := fun s v => ∃ c1, ∃ c2, ∃ c3, ∃ c4, ∃ c5, ∃ c6, ∃ c7, ∃ c8, v = .agg [vs s.Name, c1, c2, c3, c4, c5, c6, c7, c8] ∧ (tSl cj.t).R s.Headers c1 ∧ (tSl bw.t).R s.Metadata c2 ∧ (tSl ep.t).R s.Registers c3 ∧ (tSl cp.t).R s.Actions c4 ∧ (tSl ax.t).R s.Tables c5 ∧ (tSl ck.t).R s.States c6 ∧ (tSl ak.t).R s.Control c7 ∧ (tSl tI).R s.Deparser c8
def aa.t : TR aa := ⟨aa.R, 9, true, fun h => by obtain ⟨c1, c2, c3, c4, c5, c6, c7, c8, h0, hc1, hc2, hc3, hc4, hc5, hc6, hc7, hc8⟩ := h; subst h0; rfl, fun h => by obtain ⟨c1, c2, c3, c4, c5, c6, c7, c8, h0, hc1, hc2, hc3, hc4, hc5, hc6, hc7, hc8⟩ := h; subst h0; rfl, fun h => by obtain ⟨c1, c2, c3, c4, c5, c6, c7, c8, h0, hc1, hc2, hc3, hc4, hc5, hc6, hc7, hc8⟩ := h; subst h0; simp [closed, closedL, TR.clo _ hc1, TR.clo _ hc2, TR.clo _ hc3, TR.clo _ hc4, TR.clo _ hc5, TR.clo _ hc6, TR.clo _ hc7, TR.clo _ hc8]⟩
theorem aa.g_Name {s v} (h : aa.t.R s v) : fieldR 0 1 false v = some (vs s.Name) := by obtain ⟨_, _, _, _, _, _, _, _, rfl, _⟩ := h; rfl
theorem aa.g_Headers {s v} (h : aa.t.R s v) : ∃ w, fieldR 1 1 false v = some w ∧ (tSl cj.t).R s.Headers w := by obtain ⟨_, _, _, _, _, _, _, _, rfl, q, _⟩ := h; exact ⟨_, mk1 (TR.agg _ q), q⟩
theorem aa.g_Metadata {s v} (h : aa.t.R s v) : ∃ w, fieldR 2 1 false v = some w ∧ (tSl bw.t).R s.Metadata w := by obtain ⟨_, _, _, _, _, _, _, _, rfl, _, q, _⟩ := h; exact ⟨_, mk1 (TR.agg _ q), q⟩
theorem aa.g_Registers {s v} (h : aa.t.R s v) : ∃ w, fieldR 3 1 false v = some w ∧ (tSl ep.t).R s.Registers w := by obtain ⟨_, _, _, _, _, _, _, _, rfl, _, _, q, _⟩ := h; exact ⟨_, mk1 (TR.agg _ q), q⟩
theorem aa.g_Actions {s v} (h : aa.t.R s v) : ∃ w, fieldR 4 1 false v = some w ∧ (tSl cp.t).R s.Actions w := by obtain ⟨_, _, _, _, _, _, _, _, rfl, _, _, _, q, _⟩ := h; exact ⟨_, mk1 (TR.agg _ q), q⟩
theorem aa.g_Tables {s v} (h : aa.t.R s v) : ∃ w, fieldR 5 1 false v = some w ∧ (tSl ax.t).R s.Tables w := by obtain ⟨_, _, _, _, _, _, _, _, rfl, _, _, _, _, q, _⟩ := h; exact ⟨_, mk1 (TR.agg _ q), q⟩
theorem aa.g_States {s v} (h : aa.t.R s v) : ∃ w, fieldR 6 1 false v = some w ∧ (tSl ck.t).R s.States w := by obtain ⟨_, _, _, _, _, _, _, _, rfl, _, _, _, _, _, q, _⟩ := h; exact ⟨_, mk1 (TR.agg _ q), q⟩
theorem aa.g_Control {s v} (h : aa.t.R s v) : ∃ w, fieldR 7 1 false v = some w ∧ (tSl ak.t).R s.Control w := by obtain ⟨_, _, _, _, _, _, _, _, rfl, _, _, _, _, _, _, q, _⟩ := h; exact ⟨_, mk1 (TR.agg _ q), q⟩
theorem aa.g_Deparser {s v} (h : aa.t.R s v) : ∃ w, fieldR 8 1 false v = some w ∧ (tSl tI).R s.Deparser w := by obtain ⟨_, _, _, _, _, _, _, _, rfl, _, _, _, _, _, _, _, q⟩ := h; exact ⟨_, mk1 (TR.agg _ q), q⟩
structure ay where
 Value : BitVec 32
 Mask : BitVec 32
 deriving Inhabited, DecidableEq
def ay.R : ay → PV → Prop := fun s v => v = .agg [df s.Value, df s.Mask]
def ay.t : TR ay := ⟨ay.R, 2, true, fun h => by have h0 : _ = _ := h; subst h0; rfl, fun h => by have h0 : _ = _ := h; subst h0; rfl, fun h => by have h0 : _ = _ := h; subst h0; simp [closed, closedL]⟩
theorem ay.g_Value {s v} (h : ay.t.R s v) : fieldR 0 1 false v = some (df s.Value) := by cases h; rfl
theorem ay.g_Mask {s v} (h : ay.t.R s v) : fieldR 1 1 false v = some (df s.Mask) := by cases h; rfl
structure au where
 Keys : List ay
 Priority : Int
 Call : av
 deriving Inhabited, DecidableEq
def au.R : au → PV → Prop := fun s v => ∃ c0, ∃ c3, v = .agg [c0, vi s.Priority, vi s.Call.Action, c3] ∧ (tSl ay.t).R s.Keys c0 ∧ (tSl ko).R s.Call.Args c3
def au.t : TR au := ⟨au.R, 4, true, fun h => by obtain ⟨c0, c3, h0, hc0, hc3⟩ := h; subst h0; rfl, fun h => by obtain ⟨c0, c3, h0, hc0, hc3⟩ := h; subst h0; rfl, fun h => by obtain ⟨c0, c3, h0, hc0, hc3⟩ := h; subst h0; simp [closed, closedL, TR.clo _ hc0, TR.clo _ hc3]⟩
theorem au.g_Keys {s v} (h : au.t.R s v) : ∃ w, fieldR 0 1 false v = some w ∧ (tSl ay.t).R s.Keys w := by obtain ⟨_, _, rfl, q, _⟩ := h; exact ⟨_, mk1 (TR.agg _ q), q⟩
theorem au.g_Priority {s v} (h : au.t.R s v) : fieldR 1 1 false v = some (vi s.Priority) := by obtain ⟨_, _, rfl, _⟩ := h; rfl
theorem au.g_Call {s : au} {v : PV} (h : au.t.R s v) : ∃ w, fieldR 2 2 true v = some w ∧ av.t.R s.Call w := by obtain ⟨c0, c3, h0, hc0, hc3⟩ := h; subst h0; exact ⟨_, rfl, ⟨c3, rfl, hc3⟩⟩
structure aj where
 ID : Int
 Entry : au
 deriving Inhabited, DecidableEq
def aj.R : aj → PV → Prop := fun s v => ∃ c1, ∃ c4, v = .agg [vi s.ID, c1, vi s.Entry.Priority, vi s.Entry.Call.Action, c4] ∧ (tSl ay.t).R s.Entry.Keys c1 ∧ (tSl ko).R s.Entry.Call.Args c4
def aj.t : TR aj := ⟨aj.R, 5, true, fun h => by obtain ⟨c1, c4, h0, hc1, hc4⟩ := h; subst h0; rfl, fun h => by obtain ⟨c1, c4, h0, hc1, hc4⟩ := h; subst h0; rfl, fun h => by obtain ⟨c1, c4, h0, hc1, hc4⟩ := h; subst h0; simp [closed, closedL, TR.clo _ hc1, TR.clo _ hc4]⟩
theorem aj.g_ID {s v} (h : aj.t.R s v) : fieldR 0 1 false v = some (vi s.ID) := by obtain ⟨_, _, rfl, _⟩ := h; rfl
theorem aj.g_Entry {s : aj} {v : PV} (h : aj.t.R s v) : ∃ w, fieldR 1 4 true v = some w ∧ au.t.R s.Entry w := by obtain ⟨c1, c4, h0, hc1, hc4⟩ := h; subst h0; exact ⟨_, rfl, ⟨c1, c4, rfl, hc1, hc4⟩⟩
structure cg where
 Program : aa
 Table : Int
 Rows : List aj
 Key : List (BitVec 32)
 deriving Inhabited
def cg.R : cg → PV → Prop := fun s v => ∃ c1, ∃ c2, ∃ c3, ∃ c4, ∃ c5, ∃ c6, ∃ c7, ∃ c8, ∃ c10, ∃ c11, v = .agg [vs s.Program.Name, c1, c2, c3, c4, c5, c6, c7, c8, vi s.Table, c10, c11] ∧ (tSl cj.t).R s.Program.Headers c1 ∧ (tSl bw.t).R s.Program.Metadata c2 ∧ (tSl ep.t).R s.Program.Registers c3 ∧ (tSl cp.t).R s.Program.Actions c4 ∧ (tSl ax.t).R s.Program.Tables c5 ∧ (tSl ck.t).R s.Program.States c6 ∧ (tSl ak.t).R s.Program.Control c7 ∧ (tSl tI).R s.Program.Deparser c8 ∧ (tSl aj.t).R s.Rows c10 ∧ (tSl ko).R s.Key c11
def cg.t : TR cg := ⟨cg.R, 12, true, fun h => by obtain ⟨c1, c2, c3, c4, c5, c6, c7, c8, c10, c11, h0, hc1, hc2, hc3, hc4, hc5, hc6, hc7, hc8, hc10, hc11⟩ := h; subst h0; rfl, fun h => by obtain ⟨c1, c2, c3, c4, c5, c6, c7, c8, c10, c11, h0, hc1, hc2, hc3, hc4, hc5, hc6, hc7, hc8, hc10, hc11⟩ := h; subst h0; rfl, fun h => by obtain ⟨c1, c2, c3, c4, c5, c6, c7, c8, c10, c11, h0, hc1, hc2, hc3, hc4, hc5, hc6, hc7, hc8, hc10, hc11⟩ := h; subst h0; simp [closed, closedL, TR.clo _ hc1, TR.clo _ hc2, TR.clo _ hc3, TR.clo _ hc4, TR.clo _ hc5, TR.clo _ hc6, TR.clo _ hc7, TR.clo _ hc8, TR.clo _ hc10, TR.clo _ hc11]⟩
theorem cg.g_Program {s : cg} {v : PV} (h : cg.t.R s v) : ∃ w, fieldR 0 9 true v = some w ∧ aa.t.R s.Program w := by obtain ⟨c1, c2, c3, c4, c5, c6, c7, c8, c10, c11, h0, hc1, hc2, hc3, hc4, hc5, hc6, hc7, hc8, hc10, hc11⟩ := h; subst h0; exact ⟨_, rfl, ⟨c1, c2, c3, c4, c5, c6, c7, c8, rfl, hc1, hc2, hc3, hc4, hc5, hc6, hc7, hc8⟩⟩
theorem cg.g_Table {s v} (h : cg.t.R s v) : fieldR 9 1 false v = some (vi s.Table) := by obtain ⟨_, _, _, _, _, _, _, _, _, _, rfl, _⟩ := h; rfl
theorem cg.g_Rows {s v} (h : cg.t.R s v) : ∃ w, fieldR 10 1 false v = some w ∧ (tSl aj.t).R s.Rows w := by obtain ⟨_, _, _, _, _, _, _, _, _, _, rfl, _, _, _, _, _, _, _, _, q, _⟩ := h; exact ⟨_, mk1 (TR.agg _ q), q⟩
theorem cg.g_Key {s v} (h : cg.t.R s v) : ∃ w, fieldR 11 1 false v = some w ∧ (tSl ko).R s.Key w := by obtain ⟨_, _, _, _, _, _, _, _, _, _, rfl, _, _, _, _, _, _, _, _, _, q⟩ := h; exact ⟨_, mk1 (TR.agg _ q), q⟩
theorem ay.neq_127 {ox oy : Operand} {a b : ay} {va vb' : PV} (ha : ay.t.R a va) (hb : ay.t.R b vb') : binF Tryz.prog .neq 127 ox oy va vb' = some (vb (!decide (a = b))) := by
 have ha : va = _ := ha; have hb : vb' = _ := hb; subst ha; subst hb
 rw [cc8 Tryz.underlying127 (by kernel_rfl) (by kernel_rfl) Tryz.underlying64 Tryz.underlying64 rfl rfl (by decide) (by decide)]
 cases a; cases b; simp only [Option.some.injEq, PV.sc.injEq, Value.bool.injEq, Bool.not_eq_not]; rw [Bool.eq_iff_iff]; simp [ay.mk.injEq, ph, BitVec.toNat_inj]
end Go.Proofs.YthdnpgpnodgicaaGreat
