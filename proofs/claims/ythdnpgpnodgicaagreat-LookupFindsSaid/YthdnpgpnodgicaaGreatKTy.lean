import Derived.Test.YthdnpgpnodgicaaGreatPbEq
import Derived.Test.YthdnpgpnodgicaaGreatRows
set_option linter.unusedVariables false
set_option linter.unusedSimpArgs false
set_option maxRecDepth 100000
namespace Go.Proofs.YthdnpgpnodgicaaGreat
open Go Go.Pb Go.RowKit
structure dn where
 Op : Int
 N : Int
 W : Int
 deriving Inhabited, DecidableEq
def dn.R : dn → PV → Prop := fun s v => v = .agg [vi s.Op, vi s.N, vi s.W]
def dn.t : TR dn := ⟨dn.R, 3, true, fun h => by have h0 : _ = _ := h; subst h0; rfl, fun h => by have h0 : _ = _ := h; subst h0; rfl, fun h => by have h0 : _ = _ := h; subst h0; simp [closed, closedL]⟩
structure aj where
 Kind : Int
 Table : Int
 Cond : List dn
 Then : List aj
 Else : List aj
 deriving Inhabited
mutual
def aj.R : aj → PV → Prop
 | ⟨xKind, xTable, xCond, xThen, xElse⟩, v => ∃ c2, ∃ c3, ∃ c4, v = .agg [vi xKind, vi xTable, c2, c3, c4] ∧ (tSl dn.t).R xCond c2 ∧ ((∃ es, IsSl c3 es ∧ aj.Rl xThen es) ∧ xThen.length ≤ 9223372036854775807) ∧ ((∃ es, IsSl c4 es ∧ aj.Rl xElse es) ∧ xElse.length ≤ 9223372036854775807)
def aj.Rl : List aj → List PV → Prop
 | [], [] => True
 | a :: l, e :: es => aj.R a e ∧ aj.Rl l es
 | _, _ => False
end
theorem aj.Rl_eq : ∀ (l : List aj) (es : List PV), aj.Rl l es = All2 aj.R l es
 | [], [] => by simp [aj.Rl, All2]
 | a :: l, e :: es => by simp [aj.Rl, All2, aj.Rl_eq l es]
 | [], _ :: _ => by simp [aj.Rl, All2]
 | _ :: _, [] => by simp [aj.Rl, All2]
mutual
theorem aj.R_clo : ∀ (s : aj) (v : PV), aj.R s v → closed v = true
 | ⟨xKind, xTable, xCond, xThen, xElse⟩, v, h => by
   simp only [aj.R] at h
   obtain ⟨c2, c3, c4, h0, hc2, hc3, hc4⟩ := h
   subst h0
   have kc2 := TR.clo _ hc2
   obtain ⟨⟨esc3, hic3, hlc3⟩, _⟩ := hc3
   have kc3 := hic3.closed (aj.Rl_clo _ _ hlc3)
   obtain ⟨⟨esc4, hic4, hlc4⟩, _⟩ := hc4
   have kc4 := hic4.closed (aj.Rl_clo _ _ hlc4)
   simp [closed, closedL, kc2, kc3, kc4]
theorem aj.Rl_clo : ∀ (l : List aj) (es : List PV), aj.Rl l es → closedL es = true
 | [], [], _ => rfl
 | a :: l, e :: es, h => by
   simp only [aj.Rl] at h
   simp [closedL, aj.R_clo a e h.1, aj.Rl_clo l es h.2]
 | [], _ :: _, h => by simp [aj.Rl] at h
 | _ :: _, [], h => by simp [aj.Rl] at h
end
def aj.t : TR aj := ⟨aj.R, 5, true, fun {a v} h => by cases a; simp only [aj.R] at h; obtain ⟨c2, c3, c4, h0, hc2, hc3, hc4⟩ := h; subst h0; rfl, fun {a v} h => by cases a; simp only [aj.R] at h; obtain ⟨c2, c3, c4, h0, hc2, hc3, hc4⟩ := h; subst h0; rfl, fun {a v} h => aj.R_clo a v h⟩
theorem aj.lR {l : List aj} {v : PV} (h : (∃ es, IsSl v es ∧ aj.Rl l es) ∧ l.length ≤ 9223372036854775807) : (tSl aj.t).R l v := by obtain ⟨⟨es, hi, hl⟩, hb⟩ := h; rw [aj.Rl_eq] at hl; exact ⟨⟨es, hi, hl⟩, hb⟩
theorem aj.g_Kind {s : aj} {v : PV} (h : aj.t.R s v) : fieldR 0 1 false v = some (vi s.Kind) := by cases s; have h : aj.R _ v := h; simp only [aj.R] at h; obtain ⟨c2, c3, c4, h0, hc2, hc3, hc4⟩ := h; subst h0; rfl
theorem aj.g_Table {s : aj} {v : PV} (h : aj.t.R s v) : fieldR 1 1 false v = some (vi s.Table) := by cases s; have h : aj.R _ v := h; simp only [aj.R] at h; obtain ⟨c2, c3, c4, h0, hc2, hc3, hc4⟩ := h; subst h0; rfl
theorem aj.g_Cond {s : aj} {v : PV} (h : aj.t.R s v) : ∃ w, fieldR 2 1 false v = some w ∧ (tSl dn.t).R s.Cond w := by cases s; have h : aj.R _ v := h; simp only [aj.R] at h; obtain ⟨c2, c3, c4, h0, hc2, hc3, hc4⟩ := h; subst h0; exact ⟨_, mk1 (TR.agg _ hc2), hc2⟩
theorem aj.g_Then {s : aj} {v : PV} (h : aj.t.R s v) : ∃ w, fieldR 3 1 false v = some w ∧ (tSl aj.t).R s.Then w := by cases s; have h : aj.R _ v := h; simp only [aj.R] at h; obtain ⟨c2, c3, c4, h0, hc2, hc3, hc4⟩ := h; subst h0; obtain ⟨⟨es, hi, hl⟩, hb⟩ := hc3; rw [aj.Rl_eq] at hl; have hh : (tSl aj.t).R _ _ := ⟨⟨es, hi, hl⟩, hb⟩; exact ⟨_, mk1 (TR.agg _ hh), hh⟩
theorem aj.g_Else {s : aj} {v : PV} (h : aj.t.R s v) : ∃ w, fieldR 4 1 false v = some w ∧ (tSl aj.t).R s.Else w := by cases s; have h : aj.R _ v := h; simp only [aj.R] at h; obtain ⟨c2, c3, c4, h0, hc2, hc3, hc4⟩ := h; subst h0; obtain ⟨⟨es, hi, hl⟩, hb⟩ := hc4; rw [aj.Rl_eq] at hl; have hh : (tSl aj.t).R _ _ := ⟨⟨es, hi, hl⟩, hb⟩; exact ⟨_, mk1 (TR.agg _ hh), hh⟩
structure bw where
 Name : List UInt8
 Width : Int
 deriving Inhabited, DecidableEq
def bw.R : bw → PV → Prop := fun s v => v = .agg [vs s.Name, vi s.Width]
def bw.t : TR bw := ⟨bw.R, 2, true, fun h => by have h0 : _ = _ := h; subst h0; rfl, fun h => by have h0 : _ = _ := h; subst h0; rfl, fun h => by have h0 : _ = _ := h; subst h0; simp [closed, closedL]⟩
theorem bw.g_Name {s v} (h : bw.t.R s v) : fieldR 0 1 false v = some (vs s.Name) := by cases h; rfl
theorem bw.g_Width {s v} (h : bw.t.R s v) : fieldR 1 1 false v = some (vi s.Width) := by cases h; rfl
structure cg where
 Name : List UInt8
 Fields : List bw
 deriving Inhabited, DecidableEq
def cg.R : cg → PV → Prop := fun s v => ∃ c1, v = .agg [vs s.Name, c1] ∧ (tSl bw.t).R s.Fields c1
def cg.t : TR cg := ⟨cg.R, 2, true, fun h => by obtain ⟨c1, h0, hc1⟩ := h; subst h0; rfl, fun h => by obtain ⟨c1, h0, hc1⟩ := h; subst h0; rfl, fun h => by obtain ⟨c1, h0, hc1⟩ := h; subst h0; simp [closed, closedL, TR.clo _ hc1]⟩
theorem cg.g_Name {s v} (h : cg.t.R s v) : fieldR 0 1 false v = some (vs s.Name) := by obtain ⟨_, rfl, _⟩ := h; rfl
theorem cg.g_Fields {s v} (h : cg.t.R s v) : ∃ w, fieldR 1 1 false v = some w ∧ (tSl bw.t).R s.Fields w := by obtain ⟨_, rfl, q⟩ := h; exact ⟨_, mk1 (TR.agg _ q), q⟩
structure cd where
 Header : Int
 Field : Int
 deriving Inhabited, DecidableEq
def cd.R : cd → PV → Prop := fun s v => v = .agg [vi s.Header, vi s.Field]
def cd.t : TR cd := ⟨cd.R, 2, true, fun h => by have h0 : _ = _ := h; subst h0; rfl, fun h => by have h0 : _ = _ := h; subst h0; rfl, fun h => by have h0 : _ = _ := h; subst h0; simp [closed, closedL]⟩
theorem cd.g_Header {s v} (h : cd.t.R s v) : fieldR 0 1 false v = some (vi s.Header) := by cases h; rfl
theorem cd.g_Field {s v} (h : cd.t.R s v) : fieldR 1 1 false v = some (vi s.Field) := by cases h; rfl
structure df where
 Kind : Int
 Dst : cd
 Register : Int
 Header : Int
 Index : List dn
 Value : List dn
 deriving Inhabited, DecidableEq
def df.R : df → PV → Prop := fun s v => ∃ c5, ∃ c6, v = .agg [vi s.Kind, vi s.Dst.Header, vi s.Dst.Field, vi s.Register, vi s.Header, c5, c6] ∧ (tSl dn.t).R s.Index c5 ∧ (tSl dn.t).R s.Value c6
def df.t : TR df := ⟨df.R, 7, true, fun h => by obtain ⟨c5, c6, h0, hc5, hc6⟩ := h; subst h0; rfl, fun h => by obtain ⟨c5, c6, h0, hc5, hc6⟩ := h; subst h0; rfl, fun h => by obtain ⟨c5, c6, h0, hc5, hc6⟩ := h; subst h0; simp [closed, closedL, TR.clo _ hc5, TR.clo _ hc6]⟩
theorem df.g_Kind {s v} (h : df.t.R s v) : fieldR 0 1 false v = some (vi s.Kind) := by obtain ⟨_, _, rfl, _⟩ := h; rfl
theorem df.g_Header {s v} (h : df.t.R s v) : fieldR 4 1 false v = some (vi s.Header) := by obtain ⟨_, _, rfl, _⟩ := h; rfl
theorem df.g_Index {s v} (h : df.t.R s v) : ∃ w, fieldR 5 1 false v = some w ∧ (tSl dn.t).R s.Index w := by obtain ⟨_, _, rfl, q, _⟩ := h; exact ⟨_, mk1 (TR.agg _ q), q⟩
theorem df.g_Value {s v} (h : df.t.R s v) : ∃ w, fieldR 6 1 false v = some w ∧ (tSl dn.t).R s.Value w := by obtain ⟨_, _, rfl, _, q⟩ := h; exact ⟨_, mk1 (TR.agg _ q), q⟩
structure cn where
 Name : List UInt8
 Params : List bw
 Body : List df
 deriving Inhabited, DecidableEq
def cn.R : cn → PV → Prop := fun s v => ∃ c1, ∃ c2, v = .agg [vs s.Name, c1, c2] ∧ (tSl bw.t).R s.Params c1 ∧ (tSl df.t).R s.Body c2
def cn.t : TR cn := ⟨cn.R, 3, true, fun h => by obtain ⟨c1, c2, h0, hc1, hc2⟩ := h; subst h0; rfl, fun h => by obtain ⟨c1, c2, h0, hc1, hc2⟩ := h; subst h0; rfl, fun h => by obtain ⟨c1, c2, h0, hc1, hc2⟩ := h; subst h0; simp [closed, closedL, TR.clo _ hc1, TR.clo _ hc2]⟩
theorem cn.g_Name {s v} (h : cn.t.R s v) : fieldR 0 1 false v = some (vs s.Name) := by obtain ⟨_, _, rfl, _⟩ := h; rfl
theorem cn.g_Params {s v} (h : cn.t.R s v) : ∃ w, fieldR 1 1 false v = some w ∧ (tSl bw.t).R s.Params w := by obtain ⟨_, _, rfl, q, _⟩ := h; exact ⟨_, mk1 (TR.agg _ q), q⟩
theorem cn.g_Body {s v} (h : cn.t.R s v) : ∃ w, fieldR 2 1 false v = some w ∧ (tSl df.t).R s.Body w := by obtain ⟨_, _, rfl, _, q⟩ := h; exact ⟨_, mk1 (TR.agg _ q), q⟩
structure dy where
 Value : BitVec 32
 Mask : BitVec 32
 Next : Int
 deriving Inhabited, DecidableEq
def dy.R : dy → PV → Prop := fun s v => v = .agg [da s.Value, da s.Mask, vi s.Next]
def dy.t : TR dy := ⟨dy.R, 3, true, fun h => by have h0 : _ = _ := h; subst h0; rfl, fun h => by have h0 : _ = _ := h; subst h0; rfl, fun h => by have h0 : _ = _ := h; subst h0; simp [closed, closedL]⟩
theorem dy.g_Value {s v} (h : dy.t.R s v) : fieldR 0 1 false v = some (da s.Value) := by cases h; rfl
theorem dy.g_Mask {s v} (h : dy.t.R s v) : fieldR 1 1 false v = some (da s.Mask) := by cases h; rfl
structure cf where
 Name : List UInt8
 Extract : List Int
 Select : Bool
 On : cd
 Cases : List dy
 Default : Int
 deriving Inhabited, DecidableEq
def cf.R : cf → PV → Prop := fun s v => ∃ c1, ∃ c5, v = .agg [vs s.Name, c1, vb s.Select, vi s.On.Header, vi s.On.Field, c5, vi s.Default] ∧ (tSl tI).R s.Extract c1 ∧ (tSl dy.t).R s.Cases c5
def cf.t : TR cf := ⟨cf.R, 7, true, fun h => by obtain ⟨c1, c5, h0, hc1, hc5⟩ := h; subst h0; rfl, fun h => by obtain ⟨c1, c5, h0, hc1, hc5⟩ := h; subst h0; rfl, fun h => by obtain ⟨c1, c5, h0, hc1, hc5⟩ := h; subst h0; simp [closed, closedL, TR.clo _ hc1, TR.clo _ hc5]⟩
theorem cf.g_Name {s v} (h : cf.t.R s v) : fieldR 0 1 false v = some (vs s.Name) := by obtain ⟨_, _, rfl, _⟩ := h; rfl
theorem cf.g_Extract {s v} (h : cf.t.R s v) : ∃ w, fieldR 1 1 false v = some w ∧ (tSl tI).R s.Extract w := by obtain ⟨_, _, rfl, q, _⟩ := h; exact ⟨_, mk1 (TR.agg _ q), q⟩
theorem cf.g_Cases {s v} (h : cf.t.R s v) : ∃ w, fieldR 5 1 false v = some w ∧ (tSl dy.t).R s.Cases w := by obtain ⟨_, _, rfl, _, q⟩ := h; exact ⟨_, mk1 (TR.agg _ q), q⟩
theorem cf.g_Default {s v} (h : cf.t.R s v) : fieldR 6 1 false v = some (vi s.Default) := by obtain ⟨_, _, rfl, _⟩ := h; rfl
structure ej where
 Name : List UInt8
 Width : Int
 Size : Int
 deriving Inhabited, DecidableEq
def ej.R : ej → PV → Prop := fun s v => v = .agg [vs s.Name, vi s.Width, vi s.Size]
def ej.t : TR ej := ⟨ej.R, 3, true, fun h => by have h0 : _ = _ := h; subst h0; rfl, fun h => by have h0 : _ = _ := h; subst h0; rfl, fun h => by have h0 : _ = _ := h; subst h0; simp [closed, closedL]⟩
theorem ej.g_Name {s v} (h : ej.t.R s v) : fieldR 0 1 false v = some (vs s.Name) := by cases h; rfl
theorem ej.g_Width {s v} (h : ej.t.R s v) : fieldR 1 1 false v = some (vi s.Width) := by cases h; rfl
theorem ej.g_Size {s v} (h : ej.t.R s v) : fieldR 2 1 false v = some (vi s.Size) := by cases h; rfl
structure bm where
 Field : cd
 Kind : Int
 deriving Inhabited, DecidableEq
def bm.R : bm → PV → Prop := fun s v => v = .agg [vi s.Field.Header, vi s.Field.Field, vi s.Kind]
def bm.t : TR bm := ⟨bm.R, 3, true, fun h => by have h0 : _ = _ := h; subst h0; rfl, fun h => by have h0 : _ = _ := h; subst h0; rfl, fun h => by have h0 : _ = _ := h; subst h0; simp [closed, closedL]⟩
theorem bm.g_Field {s : bm} {v : PV} (h : bm.t.R s v) : ∃ w, fieldR 0 2 true v = some w ∧ cd.t.R s.Field w := by have h0 : _ = _ := h; subst h0; exact ⟨_, rfl, rfl⟩
theorem bm.g_Kind {s v} (h : bm.t.R s v) : fieldR 2 1 false v = some (vi s.Kind) := by cases h; rfl
structure av where
 Action : Int
 Args : List (BitVec 32)
 deriving Inhabited, DecidableEq
def av.R : av → PV → Prop := fun s v => ∃ c1, v = .agg [vi s.Action, c1] ∧ (tSl kg).R s.Args c1
def av.t : TR av := ⟨av.R, 2, true, fun h => by obtain ⟨c1, h0, hc1⟩ := h; subst h0; rfl, fun h => by obtain ⟨c1, h0, hc1⟩ := h; subst h0; rfl, fun h => by obtain ⟨c1, h0, hc1⟩ := h; subst h0; simp [closed, closedL, TR.clo _ hc1]⟩
theorem av.g_Action {s v} (h : av.t.R s v) : fieldR 0 1 false v = some (vi s.Action) := by obtain ⟨_, rfl, _⟩ := h; rfl
theorem av.g_Args {s v} (h : av.t.R s v) : ∃ w, fieldR 1 1 false v = some w ∧ (tSl kg).R s.Args w := by obtain ⟨_, rfl, q⟩ := h; exact ⟨_, mk1 (TR.agg _ q), q⟩
structure ax where
 Name : List UInt8
 Keys : List bm
 Actions : List Int
 Default : av
 Size : Int
 deriving Inhabited, DecidableEq
def ax.R : ax → PV → Prop := fun s v => ∃ c1, ∃ c2, ∃ c4, v = .agg [vs s.Name, c1, c2, vi s.Default.Action, c4, vi s.Size] ∧ (tSl bm.t).R s.Keys c1 ∧ (tSl tI).R s.Actions c2 ∧ (tSl kg).R s.Default.Args c4
def ax.t : TR ax := ⟨ax.R, 6, true, fun h => by obtain ⟨c1, c2, c4, h0, hc1, hc2, hc4⟩ := h; subst h0; rfl, fun h => by obtain ⟨c1, c2, c4, h0, hc1, hc2, hc4⟩ := h; subst h0; rfl, fun h => by obtain ⟨c1, c2, c4, h0, hc1, hc2, hc4⟩ := h; subst h0; simp [closed, closedL, TR.clo _ hc1, TR.clo _ hc2, TR.clo _ hc4]⟩
theorem ax.g_Name {s v} (h : ax.t.R s v) : fieldR 0 1 false v = some (vs s.Name) := by obtain ⟨_, _, _, rfl, _⟩ := h; rfl
theorem ax.g_Keys {s v} (h : ax.t.R s v) : ∃ w, fieldR 1 1 false v = some w ∧ (tSl bm.t).R s.Keys w := by obtain ⟨_, _, _, rfl, q, _⟩ := h; exact ⟨_, mk1 (TR.agg _ q), q⟩
theorem ax.g_Actions {s v} (h : ax.t.R s v) : ∃ w, fieldR 2 1 false v = some w ∧ (tSl tI).R s.Actions w := by obtain ⟨_, _, _, rfl, _, q, _⟩ := h; exact ⟨_, mk1 (TR.agg _ q), q⟩
theorem ax.g_Default {s : ax} {v : PV} (h : ax.t.R s v) : ∃ w, fieldR 3 2 true v = some w ∧ av.t.R s.Default w := by obtain ⟨c1, c2, c4, h0, hc1, hc2, hc4⟩ := h; subst h0; exact ⟨_, rfl, ⟨c4, rfl, hc4⟩⟩
theorem ax.g_Size {s v} (h : ax.t.R s v) : fieldR 5 1 false v = some (vi s.Size) := by obtain ⟨_, _, _, rfl, _⟩ := h; rfl
structure aa where
 Name : List UInt8
 Headers : List cg
 Metadata : List bw
 Registers : List ej
 Actions : List cn
 Tables : List ax
 States : List cf
 Control : List aj
 Deparser : List Int
 deriving Inhabited
def aa.R : aa → PV → Prop := fun s v => ∃ c1, ∃ c2, ∃ c3, ∃ c4, ∃ c5, ∃ c6, ∃ c7, ∃ c8, v = .agg [vs s.Name, c1, c2, c3, c4, c5, c6, c7, c8] ∧ (tSl cg.t).R s.Headers c1 ∧ (tSl bw.t).R s.Metadata c2 ∧ (tSl ej.t).R s.Registers c3 ∧ (tSl cn.t).R s.Actions c4 ∧ (tSl ax.t).R s.Tables c5 ∧ (tSl cf.t).R s.States c6 ∧ (tSl aj.t).R s.Control c7 ∧ (tSl tI).R s.Deparser c8
def aa.t : TR aa := ⟨aa.R, 9, true, fun h => by obtain ⟨c1, c2, c3, c4, c5, c6, c7, c8, h0, hc1, hc2, hc3, hc4, hc5, hc6, hc7, hc8⟩ := h; subst h0; rfl, fun h => by obtain ⟨c1, c2, c3, c4, c5, c6, c7, c8, h0, hc1, hc2, hc3, hc4, hc5, hc6, hc7, hc8⟩ := h; subst h0; rfl, fun h => by obtain ⟨c1, c2, c3, c4, c5, c6, c7, c8, h0, hc1, hc2, hc3, hc4, hc5, hc6, hc7, hc8⟩ := h; subst h0; simp [closed, closedL, TR.clo _ hc1, TR.clo _ hc2, TR.clo _ hc3, TR.clo _ hc4, TR.clo _ hc5, TR.clo _ hc6, TR.clo _ hc7, TR.clo _ hc8]⟩
theorem aa.g_Name {s v} (h : aa.t.R s v) : fieldR 0 1 false v = some (vs s.Name) := by obtain ⟨_, _, _, _, _, _, _, _, rfl, _⟩ := h; rfl
theorem aa.g_Headers {s v} (h : aa.t.R s v) : ∃ w, fieldR 1 1 false v = some w ∧ (tSl cg.t).R s.Headers w := by obtain ⟨_, _, _, _, _, _, _, _, rfl, q, _⟩ := h; exact ⟨_, mk1 (TR.agg _ q), q⟩
theorem aa.g_Metadata {s v} (h : aa.t.R s v) : ∃ w, fieldR 2 1 false v = some w ∧ (tSl bw.t).R s.Metadata w := by obtain ⟨_, _, _, _, _, _, _, _, rfl, _, q, _⟩ := h; exact ⟨_, mk1 (TR.agg _ q), q⟩
theorem aa.g_Registers {s v} (h : aa.t.R s v) : ∃ w, fieldR 3 1 false v = some w ∧ (tSl ej.t).R s.Registers w := by obtain ⟨_, _, _, _, _, _, _, _, rfl, _, _, q, _⟩ := h; exact ⟨_, mk1 (TR.agg _ q), q⟩
theorem aa.g_Actions {s v} (h : aa.t.R s v) : ∃ w, fieldR 4 1 false v = some w ∧ (tSl cn.t).R s.Actions w := by obtain ⟨_, _, _, _, _, _, _, _, rfl, _, _, _, q, _⟩ := h; exact ⟨_, mk1 (TR.agg _ q), q⟩
theorem aa.g_Tables {s v} (h : aa.t.R s v) : ∃ w, fieldR 5 1 false v = some w ∧ (tSl ax.t).R s.Tables w := by obtain ⟨_, _, _, _, _, _, _, _, rfl, _, _, _, _, q, _⟩ := h; exact ⟨_, mk1 (TR.agg _ q), q⟩
theorem aa.g_States {s v} (h : aa.t.R s v) : ∃ w, fieldR 6 1 false v = some w ∧ (tSl cf.t).R s.States w := by obtain ⟨_, _, _, _, _, _, _, _, rfl, _, _, _, _, _, q, _⟩ := h; exact ⟨_, mk1 (TR.agg _ q), q⟩
theorem aa.g_Control {s v} (h : aa.t.R s v) : ∃ w, fieldR 7 1 false v = some w ∧ (tSl aj.t).R s.Control w := by obtain ⟨_, _, _, _, _, _, _, _, rfl, _, _, _, _, _, _, q, _⟩ := h; exact ⟨_, mk1 (TR.agg _ q), q⟩
theorem aa.g_Deparser {s v} (h : aa.t.R s v) : ∃ w, fieldR 8 1 false v = some w ∧ (tSl tI).R s.Deparser w := by obtain ⟨_, _, _, _, _, _, _, _, rfl, _, _, _, _, _, _, _, q⟩ := h; exact ⟨_, mk1 (TR.agg _ q), q⟩
structure ay where
 Value : BitVec 32
 Mask : BitVec 32
 deriving Inhabited, DecidableEq
def ay.R : ay → PV → Prop := fun s v => v = .agg [da s.Value, da s.Mask]
def ay.t : TR ay := ⟨ay.R, 2, true, fun h => by have h0 : _ = _ := h; subst h0; rfl, fun h => by have h0 : _ = _ := h; subst h0; rfl, fun h => by have h0 : _ = _ := h; subst h0; simp [closed, closedL]⟩
theorem ay.g_Value {s v} (h : ay.t.R s v) : fieldR 0 1 false v = some (da s.Value) := by cases h; rfl
theorem ay.g_Mask {s v} (h : ay.t.R s v) : fieldR 1 1 false v = some (da s.Mask) := by cases h; rfl
structure au where
 Keys : List ay
 Priority : Int
 Call : av
 deriving Inhabited, DecidableEq
def au.R : au → PV → Prop := fun s v => ∃ c0, ∃ c3, v = .agg [c0, vi s.Priority, vi s.Call.Action, c3] ∧ (tSl ay.t).R s.Keys c0 ∧ (tSl kg).R s.Call.Args c3
def au.t : TR au := ⟨au.R, 4, true, fun h => by obtain ⟨c0, c3, h0, hc0, hc3⟩ := h; subst h0; rfl, fun h => by obtain ⟨c0, c3, h0, hc0, hc3⟩ := h; subst h0; rfl, fun h => by obtain ⟨c0, c3, h0, hc0, hc3⟩ := h; subst h0; simp [closed, closedL, TR.clo _ hc0, TR.clo _ hc3]⟩
theorem au.g_Keys {s v} (h : au.t.R s v) : ∃ w, fieldR 0 1 false v = some w ∧ (tSl ay.t).R s.Keys w := by obtain ⟨_, _, rfl, q, _⟩ := h; exact ⟨_, mk1 (TR.agg _ q), q⟩
theorem au.g_Priority {s v} (h : au.t.R s v) : fieldR 1 1 false v = some (vi s.Priority) := by obtain ⟨_, _, rfl, _⟩ := h; rfl
theorem au.g_Call {s : au} {v : PV} (h : au.t.R s v) : ∃ w, fieldR 2 2 true v = some w ∧ av.t.R s.Call w := by obtain ⟨c0, c3, h0, hc0, hc3⟩ := h; subst h0; exact ⟨_, rfl, ⟨c3, rfl, hc3⟩⟩
structure am where
 ID : Int
 Entry : au
 deriving Inhabited, DecidableEq
def am.R : am → PV → Prop := fun s v => ∃ c1, ∃ c4, v = .agg [vi s.ID, c1, vi s.Entry.Priority, vi s.Entry.Call.Action, c4] ∧ (tSl ay.t).R s.Entry.Keys c1 ∧ (tSl kg).R s.Entry.Call.Args c4
def am.t : TR am := ⟨am.R, 5, true, fun h => by obtain ⟨c1, c4, h0, hc1, hc4⟩ := h; subst h0; rfl, fun h => by obtain ⟨c1, c4, h0, hc1, hc4⟩ := h; subst h0; rfl, fun h => by obtain ⟨c1, c4, h0, hc1, hc4⟩ := h; subst h0; simp [closed, closedL, TR.clo _ hc1, TR.clo _ hc4]⟩
theorem am.g_ID {s v} (h : am.t.R s v) : fieldR 0 1 false v = some (vi s.ID) := by obtain ⟨_, _, rfl, _⟩ := h; rfl
theorem am.g_Entry {s : am} {v : PV} (h : am.t.R s v) : ∃ w, fieldR 1 4 true v = some w ∧ au.t.R s.Entry w := by obtain ⟨c1, c4, h0, hc1, hc4⟩ := h; subst h0; exact ⟨_, rfl, ⟨c1, c4, rfl, hc1, hc4⟩⟩
structure cb where
 Program : aa
 Table : Int
 Rows : List am
 Key : List (BitVec 32)
 deriving Inhabited
def cb.R : cb → PV → Prop := fun s v => ∃ c1, ∃ c2, ∃ c3, ∃ c4, ∃ c5, ∃ c6, ∃ c7, ∃ c8, ∃ c10, ∃ c11, v = .agg [vs s.Program.Name, c1, c2, c3, c4, c5, c6, c7, c8, vi s.Table, c10, c11] ∧ (tSl cg.t).R s.Program.Headers c1 ∧ (tSl bw.t).R s.Program.Metadata c2 ∧ (tSl ej.t).R s.Program.Registers c3 ∧ (tSl cn.t).R s.Program.Actions c4 ∧ (tSl ax.t).R s.Program.Tables c5 ∧ (tSl cf.t).R s.Program.States c6 ∧ (tSl aj.t).R s.Program.Control c7 ∧ (tSl tI).R s.Program.Deparser c8 ∧ (tSl am.t).R s.Rows c10 ∧ (tSl kg).R s.Key c11
def cb.t : TR cb := ⟨cb.R, 12, true, fun h => by obtain ⟨c1, c2, c3, c4, c5, c6, c7, c8, c10, c11, h0, hc1, hc2, hc3, hc4, hc5, hc6, hc7, hc8, hc10, hc11⟩ := h; subst h0; rfl, fun h => by obtain ⟨c1, c2, c3, c4, c5, c6, c7, c8, c10, c11, h0, hc1, hc2, hc3, hc4, hc5, hc6, hc7, hc8, hc10, hc11⟩ := h; subst h0; rfl, fun h => by obtain ⟨c1, c2, c3, c4, c5, c6, c7, c8, c10, c11, h0, hc1, hc2, hc3, hc4, hc5, hc6, hc7, hc8, hc10, hc11⟩ := h; subst h0; simp [closed, closedL, TR.clo _ hc1, TR.clo _ hc2, TR.clo _ hc3, TR.clo _ hc4, TR.clo _ hc5, TR.clo _ hc6, TR.clo _ hc7, TR.clo _ hc8, TR.clo _ hc10, TR.clo _ hc11]⟩
theorem cb.g_Program {s : cb} {v : PV} (h : cb.t.R s v) : ∃ w, fieldR 0 9 true v = some w ∧ aa.t.R s.Program w := by obtain ⟨c1, c2, c3, c4, c5, c6, c7, c8, c10, c11, h0, hc1, hc2, hc3, hc4, hc5, hc6, hc7, hc8, hc10, hc11⟩ := h; subst h0; exact ⟨_, rfl, ⟨c1, c2, c3, c4, c5, c6, c7, c8, rfl, hc1, hc2, hc3, hc4, hc5, hc6, hc7, hc8⟩⟩
theorem cb.g_Table {s v} (h : cb.t.R s v) : fieldR 9 1 false v = some (vi s.Table) := by obtain ⟨_, _, _, _, _, _, _, _, _, _, rfl, _⟩ := h; rfl
theorem cb.g_Rows {s v} (h : cb.t.R s v) : ∃ w, fieldR 10 1 false v = some w ∧ (tSl am.t).R s.Rows w := by obtain ⟨_, _, _, _, _, _, _, _, _, _, rfl, _, _, _, _, _, _, _, _, q, _⟩ := h; exact ⟨_, mk1 (TR.agg _ q), q⟩
theorem cb.g_Key {s v} (h : cb.t.R s v) : ∃ w, fieldR 11 1 false v = some w ∧ (tSl kg).R s.Key w := by obtain ⟨_, _, _, _, _, _, _, _, _, _, rfl, _, _, _, _, _, _, _, _, _, q⟩ := h; exact ⟨_, mk1 (TR.agg _ q), q⟩
theorem ay.neq_127 {ox oy : Operand} {a b : ay} {va vb' : PV} (ha : ay.t.R a va) (hb : ay.t.R b vb') : binF Tryz.prog .neq 127 ox oy va vb' = some (vb (!decide (a = b))) := by
 have ha : va = _ := ha; have hb : vb' = _ := hb; subst ha; subst hb
 rw [cc8 Tryz.underlying127 (by kernel_rfl) (by kernel_rfl) Tryz.underlying64 Tryz.underlying64 rfl rfl (by decide) (by decide)]
 cases a; cases b; simp only [Option.some.injEq, PV.sc.injEq, Value.bool.injEq, Bool.not_eq_not]; rw [Bool.eq_iff_iff]; simp [ay.mk.injEq, ol, BitVec.toNat_inj]
end Go.Proofs.YthdnpgpnodgicaaGreat
