import Derived.Test.YthdnpgpnodgicaaGreatPbEq
import Derived.Test.YthdnpgpnodgicaaGreatRows
set_option linter.all false
set_option maxRecDepth 100000
namespace Go.Proofs.YthdnpgpnodgicaaGreat
open Go Go.Pb Go.RowKit
structure en where
 Op : Int
 N : Int
 W : Int
 deriving Inhabited, DecidableEq
def en.R : en → PV → Prop := fun s v => v = .agg [vi s.Op, vi s.N, vi s.W]
def en.t : TR en := ⟨en.R, 3, true, fun h => by have h0 : _ = _ := h; subst h0; rfl, fun h => by have h0 : _ = _ := h; subst h0; rfl, fun h => by have h0 : _ = _ := h; subst h0; simp [closed, closedL]⟩
structure aj where
 Kind : Int
 Table : Int
 Cond : List en
 Then : List aj
 Else : List aj
 deriving Inhabited
mutual
def aj.R : aj → PV → Prop
 | ⟨xKind, xTable, xCond, xThen, xElse⟩, v => ∃ c2, ∃ c3, ∃ c4, v = .agg [vi xKind, vi xTable, c2, c3, c4] ∧ (tSl en.t).R xCond c2 ∧ ((∃ es, IsSl c3 es ∧ aj.Rl xThen es) ∧ xThen.length ≤ 9223372036854775807) ∧ ((∃ es, IsSl c4 es ∧ aj.Rl xElse es) ∧ xElse.length ≤ 9223372036854775807)
def aj.Rl : List aj → List PV → Prop
 | [], [] => True
 | a :: l, e :: es => aj.R a e ∧ aj.Rl l es
 | _, _ => False
end
theorem aj.Rl_eq : ∀ (l : List aj) (es : List PV), aj.Rl l es = All2 aj.R l es
 | [], [] => by simp [aj.Rl, All2]
 | a :: l, e :: es => by simp [aj.Rl, All2, aj.Rl_eq l es]
 | [], _ :: _ => by simp [aj.Rl, All2]
 | _ :: _, [] => by simp [aj.Rl, All2]
mutual
theorem aj.R_clo : ∀ (s : aj) (v : PV), aj.R s v → closed v = true
 | ⟨xKind, xTable, xCond, xThen, xElse⟩, v, h => by
   simp only [aj.R] at h
   obtain ⟨c2, c3, c4, h0, hc2, hc3, hc4⟩ := h
   subst h0
   have kc2 := TR.clo _ hc2
   obtain ⟨⟨esc3, hic3, hlc3⟩, _⟩ := hc3
   have kc3 := hic3.closed (aj.Rl_clo _ _ hlc3)
   obtain ⟨⟨esc4, hic4, hlc4⟩, _⟩ := hc4
   have kc4 := hic4.closed (aj.Rl_clo _ _ hlc4)
   simp [closed, closedL, kc2, kc3, kc4]
theorem aj.Rl_clo : ∀ (l : List aj) (es : List PV), aj.Rl l es → closedL es = true
 | [], [], _ => rfl
 | a :: l, e :: es, h => by
   simp only [aj.Rl] at h
   simp [closedL, aj.R_clo a e h.1, aj.Rl_clo l es h.2]
 | [], _ :: _, h => by simp [aj.Rl] at h
 | _ :: _, [], h => by simp [aj.Rl] at h
end
def aj.t : TR aj := ⟨aj.R, 5, true, fun {a v} h => by cases a; simp only [aj.R] at h; obtain ⟨c2, c3, c4, h0, hc2, hc3, hc4⟩ := h; subst h0; rfl, fun {a v} h => by cases a; simp only [aj.R] at h; obtain ⟨c2, c3, c4, h0, hc2, hc3, hc4⟩ := h; subst h0; rfl, fun {a v} h => aj.R_clo a v h⟩
theorem aj.lR {l : List aj} {v : PV} (h : (∃ es, IsSl v es ∧ aj.Rl l es) ∧ l.length ≤ 9223372036854775807) : (tSl aj.t).R l v := by obtain ⟨⟨es, hi, hl⟩, hb⟩ := h; rw [aj.Rl_eq] at hl; exact ⟨⟨es, hi, hl⟩, hb⟩
theorem aj.g_Kind {s : aj} {v : PV} (h : aj.t.R s v) : fieldR 0 1 false v = some (vi s.Kind) := by cases s; have h : aj.R _ v := h; simp only [aj.R] at h; obtain ⟨c2, c3, c4, h0, hc2, hc3, hc4⟩ := h; subst h0; rfl
theorem aj.g_Table {s : aj} {v : PV} (h : aj.t.R s v) : fieldR 1 1 false v = some (vi s.Table) := by cases s; have h : aj.R _ v := h; simp only [aj.R] at h; obtain ⟨c2, c3, c4, h0, hc2, hc3, hc4⟩ := h; subst h0; rfl
theorem aj.g_Cond {s : aj} {v : PV} (h : aj.t.R s v) : ∃ w, fieldR 2 1 false v = some w ∧ (tSl en.t).R s.Cond w := by cases s; have h : aj.R _ v := h; simp only [aj.R] at h; obtain ⟨c2, c3, c4, h0, hc2, hc3, hc4⟩ := h; subst h0; exact ⟨_, mk1 (TR.agg _ hc2), hc2⟩
theorem aj.g_Then {s : aj} {v : PV} (h : aj.t.R s v) : ∃ w, fieldR 3 1 false v = some w ∧ (tSl aj.t).R s.Then w := by cases s; have h : aj.R _ v := h; simp only [aj.R] at h; obtain ⟨c2, c3, c4, h0, hc2, hc3, hc4⟩ := h; subst h0; obtain ⟨⟨es, hi, hl⟩, hb⟩ := hc3; rw [aj.Rl_eq] at hl; have hh : (tSl aj.t).R _ _ := ⟨⟨es, hi, hl⟩, hb⟩; exact ⟨_, mk1 (TR.agg _ hh), hh⟩
theorem aj.g_Else {s : aj} {v : PV} (h : aj.t.R s v) : ∃ w, fieldR 4 1 false v = some w ∧ (tSl aj.t).R s.Else w := by cases s; have h : aj.R _ v := h; simp only [aj.R] at h; obtain ⟨c2, c3, c4, h0, hc2, hc3, hc4⟩ := h; subst h0; obtain ⟨⟨es, hi, hl⟩, hb⟩ := hc4; rw [aj.Rl_eq] at hl; have hh : (tSl aj.t).R _ _ := ⟨⟨es, hi, hl⟩, hb⟩; exact ⟨_, mk1 (TR.agg _ hh), hh⟩
structure cd where
 Name : List UInt8
 Width : Int
 deriving Inhabited, DecidableEq
def cd.R : cd → PV → Prop := fun s v => v = .agg [vs s.Name, vi s.Width]
def cd.t : TR cd := ⟨cd.R, 2, true, fun h => by have h0 : _ = _ := h; subst h0; rfl, fun h => by have h0 : _ = _ := h; subst h0; rfl, fun h => by have h0 : _ = _ := h; subst h0; simp [closed, closedL]⟩
theorem cd.g_Name {s v} (h : cd.t.R s v) : fieldR 0 1 false v = some (vs s.Name) := by cases h; rfl
theorem cd.g_Width {s v} (h : cd.t.R s v) : fieldR 1 1 false v = some (vi s.Width) := by cases h; rfl
structure cv where
 Name : List UInt8
 Fields : List cd
 deriving Inhabited, DecidableEq
def cv.R : cv → PV → Prop := fun s v => ∃ c1, v = .agg [vs s.Name, c1] ∧ (tSl cd.t).R s.Fields c1
def cv.t : TR cv := ⟨cv.R, 2, true, fun h => by obtain ⟨c1, h0, hc1⟩ := h; subst h0; rfl, fun h => by obtain ⟨c1, h0, hc1⟩ := h; subst h0; rfl, fun h => by obtain ⟨c1, h0, hc1⟩ := h; subst h0; simp [closed, closedL, TR.clo _ hc1]⟩
theorem cv.g_Name {s v} (h : cv.t.R s v) : fieldR 0 1 false v = some (vs s.Name) := by obtain ⟨_, rfl, _⟩ := h; rfl
theorem cv.g_Fields {s v} (h : cv.t.R s v) : ∃ w, fieldR 1 1 false v = some w ∧ (tSl cd.t).R s.Fields w := by obtain ⟨_, rfl, q⟩ := h; exact ⟨_, mk1 (TR.agg _ q), q⟩
structure cm where
 Header : Int
 Field : Int
 deriving Inhabited, DecidableEq
def cm.R : cm → PV → Prop := fun s v => v = .agg [vi s.Header, vi s.Field]
def cm.t : TR cm := ⟨cm.R, 2, true, fun h => by have h0 : _ = _ := h; subst h0; rfl, fun h => by have h0 : _ = _ := h; subst h0; rfl, fun h => by have h0 : _ = _ := h; subst h0; simp [closed, closedL]⟩
theorem cm.g_Header {s v} (h : cm.t.R s v) : fieldR 0 1 false v = some (vi s.Header) := by cases h; rfl
theorem cm.g_Field {s v} (h : cm.t.R s v) : fieldR 1 1 false v = some (vi s.Field) := by cases h; rfl
structure dn where
 Kind : Int
 Dst : cm
 Register : Int
 Header : Int
 Index : List en
 Value : List en
 deriving Inhabited, DecidableEq
def dn.R : dn → PV → Prop := fun s v => ∃ c5, ∃ c6, v = .agg [vi s.Kind, vi s.Dst.Header, vi s.Dst.Field, vi s.Register, vi s.Header, c5, c6] ∧ (tSl en.t).R s.Index c5 ∧ (tSl en.t).R s.Value c6
def dn.t : TR dn := ⟨dn.R, 7, true, fun h => by obtain ⟨c5, c6, h0, hc5, hc6⟩ := h; subst h0; rfl, fun h => by obtain ⟨c5, c6, h0, hc5, hc6⟩ := h; subst h0; rfl, fun h => by obtain ⟨c5, c6, h0, hc5, hc6⟩ := h; subst h0; simp [closed, closedL, TR.clo _ hc5, TR.clo _ hc6]⟩
theorem dn.g_Kind {s v} (h : dn.t.R s v) : fieldR 0 1 false v = some (vi s.Kind) := by obtain ⟨_, _, rfl, _⟩ := h; rfl
theorem dn.g_Header {s v} (h : dn.t.R s v) : fieldR 4 1 false v = some (vi s.Header) := by obtain ⟨_, _, rfl, _⟩ := h; rfl
theorem dn.g_Index {s v} (h : dn.t.R s v) : ∃ w, fieldR 5 1 false v = some w ∧ (tSl en.t).R s.Index w := by obtain ⟨_, _, rfl, q, _⟩ := h; exact ⟨_, mk1 (TR.agg _ q), q⟩
theorem dn.g_Value {s v} (h : dn.t.R s v) : ∃ w, fieldR 6 1 false v = some w ∧ (tSl en.t).R s.Value w := by obtain ⟨_, _, rfl, _, q⟩ := h; exact ⟨_, mk1 (TR.agg _ q), q⟩
structure cz where
 Name : List UInt8
 Params : List cd
 Body : List dn
 deriving Inhabited, DecidableEq
def cz.R : cz → PV → Prop := fun s v => ∃ c1, ∃ c2, v = .agg [vs s.Name, c1, c2] ∧ (tSl cd.t).R s.Params c1 ∧ (tSl dn.t).R s.Body c2
def cz.t : TR cz := ⟨cz.R, 3, true, fun h => by obtain ⟨c1, c2, h0, hc1, hc2⟩ := h; subst h0; rfl, fun h => by obtain ⟨c1, c2, h0, hc1, hc2⟩ := h; subst h0; rfl, fun h => by obtain ⟨c1, c2, h0, hc1, hc2⟩ := h; subst h0; simp [closed, closedL, TR.clo _ hc1, TR.clo _ hc2]⟩
theorem cz.g_Name {s v} (h : cz.t.R s v) : fieldR 0 1 false v = some (vs s.Name) := by obtain ⟨_, _, rfl, _⟩ := h; rfl
theorem cz.g_Params {s v} (h : cz.t.R s v) : ∃ w, fieldR 1 1 false v = some w ∧ (tSl cd.t).R s.Params w := by obtain ⟨_, _, rfl, q, _⟩ := h; exact ⟨_, mk1 (TR.agg _ q), q⟩
theorem cz.g_Body {s v} (h : cz.t.R s v) : ∃ w, fieldR 2 1 false v = some w ∧ (tSl dn.t).R s.Body w := by obtain ⟨_, _, rfl, _, q⟩ := h; exact ⟨_, mk1 (TR.agg _ q), q⟩
structure fg where
 Value : BitVec 32
 Mask : BitVec 32
 Next : Int
 deriving Inhabited, DecidableEq
def fg.R : fg → PV → Prop := fun s v => v = .agg [dx s.Value, dx s.Mask, vi s.Next]
def fg.t : TR fg := ⟨fg.R, 3, true, fun h => by have h0 : _ = _ := h; subst h0; rfl, fun h => by have h0 : _ = _ := h; subst h0; rfl, fun h => by have h0 : _ = _ := h; subst h0; simp [closed, closedL]⟩
theorem fg.g_Value {s v} (h : fg.t.R s v) : fieldR 0 1 false v = some (dx s.Value) := by cases h; rfl
theorem fg.g_Mask {s v} (h : fg.t.R s v) : fieldR 1 1 false v = some (dx s.Mask) := by cases h; rfl
structure ct where
 Name : List UInt8
 Extract : List Int
 Select : Bool
 On : cm
 Cases : List fg
 Default : Int
 deriving Inhabited, DecidableEq
def ct.R : ct → PV → Prop := fun s v => ∃ c1, ∃ c5, v = .agg [vs s.Name, c1, vb s.Select, vi s.On.Header, vi s.On.Field, c5, vi s.Default] ∧ (tSl tI).R s.Extract c1 ∧ (tSl fg.t).R s.Cases c5
def ct.t : TR ct := ⟨ct.R, 7, true, fun h => by obtain ⟨c1, c5, h0, hc1, hc5⟩ := h; subst h0; rfl, fun h => by obtain ⟨c1, c5, h0, hc1, hc5⟩ := h; subst h0; rfl, fun h => by obtain ⟨c1, c5, h0, hc1, hc5⟩ := h; subst h0; simp [closed, closedL, TR.clo _ hc1, TR.clo _ hc5]⟩
theorem ct.g_Name {s v} (h : ct.t.R s v) : fieldR 0 1 false v = some (vs s.Name) := by obtain ⟨_, _, rfl, _⟩ := h; rfl
theorem ct.g_Extract {s v} (h : ct.t.R s v) : ∃ w, fieldR 1 1 false v = some w ∧ (tSl tI).R s.Extract w := by obtain ⟨_, _, rfl, q, _⟩ := h; exact ⟨_, mk1 (TR.agg _ q), q⟩
theorem ct.g_Cases {s v} (h : ct.t.R s v) : ∃ w, fieldR 5 1 false v = some w ∧ (tSl fg.t).R s.Cases w := by obtain ⟨_, _, rfl, _, q⟩ := h; exact ⟨_, mk1 (TR.agg _ q), q⟩
theorem ct.g_Default {s v} (h : ct.t.R s v) : fieldR 6 1 false v = some (vi s.Default) := by obtain ⟨_, _, rfl, _⟩ := h; rfl
structure fm where
 Name : List UInt8
 Width : Int
 Size : Int
 deriving Inhabited, DecidableEq
def fm.R : fm → PV → Prop := fun s v => v = .agg [vs s.Name, vi s.Width, vi s.Size]
def fm.t : TR fm := ⟨fm.R, 3, true, fun h => by have h0 : _ = _ := h; subst h0; rfl, fun h => by have h0 : _ = _ := h; subst h0; rfl, fun h => by have h0 : _ = _ := h; subst h0; simp [closed, closedL]⟩
theorem fm.g_Name {s v} (h : fm.t.R s v) : fieldR 0 1 false v = some (vs s.Name) := by cases h; rfl
theorem fm.g_Width {s v} (h : fm.t.R s v) : fieldR 1 1 false v = some (vi s.Width) := by cases h; rfl
theorem fm.g_Size {s v} (h : fm.t.R s v) : fieldR 2 1 false v = some (vi s.Size) := by cases h; rfl
structure bh where
 Field : cm
 Kind : Int
 deriving Inhabited, DecidableEq
def bh.R : bh → PV → Prop := fun s v => v = .agg [vi s.Field.Header, vi s.Field.Field, vi s.Kind]
def bh.t : TR bh := ⟨bh.R, 3, true, fun h => by have h0 : _ = _ := h; subst h0; rfl, fun h => by have h0 : _ = _ := h; subst h0; rfl, fun h => by have h0 : _ = _ := h; subst h0; simp [closed, closedL]⟩
theorem bh.g_Field {s : bh} {v : PV} (h : bh.t.R s v) : ∃ w, fieldR 0 2 true v = some w ∧ cm.t.R s.Field w := by have h0 : _ = _ := h; subst h0; exact ⟨_, rfl, rfl⟩
theorem bh.g_Kind {s v} (h : bh.t.R s v) : fieldR 2 1 false v = some (vi s.Kind) := by cases h; rfl
structure ax where
 Action : Int
 Args : List (BitVec 32)
 deriving Inhabited, DecidableEq
def ax.R : ax → PV → Prop := fun s v => ∃ c1, v = .agg [vi s.Action, c1] ∧ (tSl lr).R s.Args c1
def ax.t : TR ax := ⟨ax.R, 2, true, fun h => by obtain ⟨c1, h0, hc1⟩ := h; subst h0; rfl, fun h => by obtain ⟨c1, h0, hc1⟩ := h; subst h0; rfl, fun h => by obtain ⟨c1, h0, hc1⟩ := h; subst h0; simp [closed, closedL, TR.clo _ hc1]⟩
theorem ax.g_Action {s v} (h : ax.t.R s v) : fieldR 0 1 false v = some (vi s.Action) := by obtain ⟨_, rfl, _⟩ := h; rfl
theorem ax.g_Args {s v} (h : ax.t.R s v) : ∃ w, fieldR 1 1 false v = some w ∧ (tSl lr).R s.Args w := by obtain ⟨_, rfl, q⟩ := h; exact ⟨_, mk1 (TR.agg _ q), q⟩
structure az where
 Name : List UInt8
 Keys : List bh
 Actions : List Int
 Default : ax
 Size : Int
 deriving Inhabited, DecidableEq
def az.R : az → PV → Prop := fun s v => ∃ c1, ∃ c2, ∃ c4, v = .agg [vs s.Name, c1, c2, vi s.Default.Action, c4, vi s.Size] ∧ (tSl bh.t).R s.Keys c1 ∧ (tSl tI).R s.Actions c2 ∧ (tSl lr).R s.Default.Args c4
def az.t : TR az := ⟨az.R, 6, true, fun h => by obtain ⟨c1, c2, c4, h0, hc1, hc2, hc4⟩ := h; subst h0; rfl, fun h => by obtain ⟨c1, c2, c4, h0, hc1, hc2, hc4⟩ := h; subst h0; rfl, fun h => by obtain ⟨c1, c2, c4, h0, hc1, hc2, hc4⟩ := h; subst h0; simp [closed, closedL, TR.clo _ hc1, TR.clo _ hc2, TR.clo _ hc4]⟩
theorem az.g_Name {s v} (h : az.t.R s v) : fieldR 0 1 false v = some (vs s.Name) := by obtain ⟨_, _, _, rfl, _⟩ := h; rfl
theorem az.g_Keys {s v} (h : az.t.R s v) : ∃ w, fieldR 1 1 false v = some w ∧ (tSl bh.t).R s.Keys w := by obtain ⟨_, _, _, rfl, q, _⟩ := h; exact ⟨_, mk1 (TR.agg _ q), q⟩
theorem az.g_Actions {s v} (h : az.t.R s v) : ∃ w, fieldR 2 1 false v = some w ∧ (tSl tI).R s.Actions w := by obtain ⟨_, _, _, rfl, _, q, _⟩ := h; exact ⟨_, mk1 (TR.agg _ q), q⟩
theorem az.g_Default {s : az} {v : PV} (h : az.t.R s v) : ∃ w, fieldR 3 2 true v = some w ∧ ax.t.R s.Default w := by obtain ⟨c1, c2, c4, h0, hc1, hc2, hc4⟩ := h; subst h0; exact ⟨_, rfl, ⟨c4, rfl, hc4⟩⟩
theorem az.g_Size {s v} (h : az.t.R s v) : fieldR 5 1 false v = some (vi s.Size) := by obtain ⟨_, _, _, rfl, _⟩ := h; rfl
structure aa where
 Name : List UInt8
 Headers : List cv
 Metadata : List cd
 Registers : List fm
 Actions : List cz
 Tables : List az
 States : List ct
 Control : List aj
 Deparser : List Int
 deriving Inhabited
def aa.R : aa → PV → Prop := fun s v => ∃ c1, ∃ c2, ∃ c3, ∃ c4, ∃ c5, ∃ c6, ∃ c7, ∃ c8, v = .agg [vs s.Name, c1, c2, c3, c4, c5, c6, c7, c8] ∧ (tSl cv.t).R s.Headers c1 ∧ (tSl cd.t).R s.Metadata c2 ∧ (tSl fm.t).R s.Registers c3 ∧ (tSl cz.t).R s.Actions c4 ∧ (tSl az.t).R s.Tables c5 ∧ (tSl ct.t).R s.States c6 ∧ (tSl aj.t).R s.Control c7 ∧ (tSl tI).R s.Deparser c8
def aa.t : TR aa := ⟨aa.R, 9, true, fun h => by obtain ⟨c1, c2, c3, c4, c5, c6, c7, c8, h0, hc1, hc2, hc3, hc4, hc5, hc6, hc7, hc8⟩ := h; subst h0; rfl, fun h => by obtain ⟨c1, c2, c3, c4, c5, c6, c7, c8, h0, hc1, hc2, hc3, hc4, hc5, hc6, hc7, hc8⟩ := h; subst h0; rfl, fun h => by obtain ⟨c1, c2, c3, c4, c5, c6, c7, c8, h0, hc1, hc2, hc3, hc4, hc5, hc6, hc7, hc8⟩ := h; subst h0; simp [closed, closedL, TR.clo _ hc1, TR.clo _ hc2, TR.clo _ hc3, TR.clo _ hc4, TR.clo _ hc5, TR.clo _ hc6, TR.clo _ hc7, TR.clo _ hc8]⟩
theorem aa.g_Name {s v} (h : aa.t.R s v) : fieldR 0 1 false v = some (vs s.Name) := by obtain ⟨_, _, _, _, _, _, _, _, rfl, _⟩ := h; rfl
theorem aa.g_Headers {s v} (h : aa.t.R s v) : ∃ w, fieldR 1 1 false v = some w ∧ (tSl cv.t).R s.Headers w := by obtain ⟨_, _, _, _, _, _, _, _, rfl, q, _⟩ := h; exact ⟨_, mk1 (TR.agg _ q), q⟩
theorem aa.g_Metadata {s v} (h : aa.t.R s v) : ∃ w, fieldR 2 1 false v = some w ∧ (tSl cd.t).R s.Metadata w := by obtain ⟨_, _, _, _, _, _, _, _, rfl, _, q, _⟩ := h; exact ⟨_, mk1 (TR.agg _ q), q⟩
theorem aa.g_Registers {s v} (h : aa.t.R s v) : ∃ w, fieldR 3 1 false v = some w ∧ (tSl fm.t).R s.Registers w := by obtain ⟨_, _, _, _, _, _, _, _, rfl, _, _, q, _⟩ := h; exact ⟨_, mk1 (TR.agg _ q), q⟩
theorem aa.g_Actions {s v} (h : aa.t.R s v) : ∃ w, fieldR 4 1 false v = some w ∧ (tSl cz.t).R s.Actions w := by obtain ⟨_, _, _, _, _, _, _, _, rfl, _, _, _, q, _⟩ := h; exact ⟨_, mk1 (TR.agg _ q), q⟩
theorem aa.g_Tables {s v} (h : aa.t.R s v) : ∃ w, fieldR 5 1 false v = some w ∧ (tSl az.t).R s.Tables w := by obtain ⟨_, _, _, _, _, _, _, _, rfl, _, _, _, _, q, _⟩ := h; exact ⟨_, mk1 (TR.agg _ q), q⟩
theorem aa.g_States {s v} (h : aa.t.R s v) : ∃ w, fieldR 6 1 false v = some w ∧ (tSl ct.t).R s.States w := by obtain ⟨_, _, _, _, _, _, _, _, rfl, _, _, _, _, _, q, _⟩ := h; exact ⟨_, mk1 (TR.agg _ q), q⟩
theorem aa.g_Control {s v} (h : aa.t.R s v) : ∃ w, fieldR 7 1 false v = some w ∧ (tSl aj.t).R s.Control w := by obtain ⟨_, _, _, _, _, _, _, _, rfl, _, _, _, _, _, _, q, _⟩ := h; exact ⟨_, mk1 (TR.agg _ q), q⟩
theorem aa.g_Deparser {s v} (h : aa.t.R s v) : ∃ w, fieldR 8 1 false v = some w ∧ (tSl tI).R s.Deparser w := by obtain ⟨_, _, _, _, _, _, _, _, rfl, _, _, _, _, _, _, _, q⟩ := h; exact ⟨_, mk1 (TR.agg _ q), q⟩
structure bb where
 Value : BitVec 32
 Mask : BitVec 32
 deriving Inhabited, DecidableEq
def bb.R : bb → PV → Prop := fun s v => v = .agg [dx s.Value, dx s.Mask]
def bb.t : TR bb := ⟨bb.R, 2, true, fun h => by have h0 : _ = _ := h; subst h0; rfl, fun h => by have h0 : _ = _ := h; subst h0; rfl, fun h => by have h0 : _ = _ := h; subst h0; simp [closed, closedL]⟩
theorem bb.g_Value {s v} (h : bb.t.R s v) : fieldR 0 1 false v = some (dx s.Value) := by cases h; rfl
theorem bb.g_Mask {s v} (h : bb.t.R s v) : fieldR 1 1 false v = some (dx s.Mask) := by cases h; rfl
structure av where
 Keys : List bb
 Priority : Int
 Call : ax
 deriving Inhabited, DecidableEq
def av.R : av → PV → Prop := fun s v => ∃ c0, ∃ c3, v = .agg [c0, vi s.Priority, vi s.Call.Action, c3] ∧ (tSl bb.t).R s.Keys c0 ∧ (tSl lr).R s.Call.Args c3
def av.t : TR av := ⟨av.R, 4, true, fun h => by obtain ⟨c0, c3, h0, hc0, hc3⟩ := h; subst h0; rfl, fun h => by obtain ⟨c0, c3, h0, hc0, hc3⟩ := h; subst h0; rfl, fun h => by obtain ⟨c0, c3, h0, hc0, hc3⟩ := h; subst h0; simp [closed, closedL, TR.clo _ hc0, TR.clo _ hc3]⟩
theorem av.g_Keys {s v} (h : av.t.R s v) : ∃ w, fieldR 0 1 false v = some w ∧ (tSl bb.t).R s.Keys w := by obtain ⟨_, _, rfl, q, _⟩ := h; exact ⟨_, mk1 (TR.agg _ q), q⟩
theorem av.g_Priority {s v} (h : av.t.R s v) : fieldR 1 1 false v = some (vi s.Priority) := by obtain ⟨_, _, rfl, _⟩ := h; rfl
theorem av.g_Call {s : av} {v : PV} (h : av.t.R s v) : ∃ w, fieldR 2 2 true v = some w ∧ ax.t.R s.Call w := by obtain ⟨c0, c3, h0, hc0, hc3⟩ := h; subst h0; exact ⟨_, rfl, ⟨c3, rfl, hc3⟩⟩
structure ak where
 ID : Int
 Entry : av
 deriving Inhabited, DecidableEq
def ak.R : ak → PV → Prop := fun s v => ∃ c1, ∃ c4, v = .agg [vi s.ID, c1, vi s.Entry.Priority, vi s.Entry.Call.Action, c4] ∧ (tSl bb.t).R s.Entry.Keys c1 ∧ (tSl lr).R s.Entry.Call.Args c4
def ak.t : TR ak := ⟨ak.R, 5, true, fun h => by obtain ⟨c1, c4, h0, hc1, hc4⟩ := h; subst h0; rfl, fun h => by obtain ⟨c1, c4, h0, hc1, hc4⟩ := h; subst h0; rfl, fun h => by obtain ⟨c1, c4, h0, hc1, hc4⟩ := h; subst h0; simp [closed, closedL, TR.clo _ hc1, TR.clo _ hc4]⟩
theorem ak.g_ID {s v} (h : ak.t.R s v) : fieldR 0 1 false v = some (vi s.ID) := by obtain ⟨_, _, rfl, _⟩ := h; rfl
theorem ak.g_Entry {s : ak} {v : PV} (h : ak.t.R s v) : ∃ w, fieldR 1 4 true v = some w ∧ av.t.R s.Entry w := by obtain ⟨c1, c4, h0, hc1, hc4⟩ := h; subst h0; exact ⟨_, rfl, ⟨c1, c4, rfl, hc1, hc4⟩⟩
structure bm where
 Program : aa
 Table : Int
 Rows : List ak
 Key : List (BitVec 32)
 deriving Inhabited
def bm.R : bm → PV → Prop := fun s v => ∃ c1, ∃ c2, ∃ c3, ∃ c4, ∃ c5, ∃ c6, ∃ c7, ∃ c8, ∃ c10, ∃ c11, v = .agg [vs s.Program.Name, c1, c2, c3, c4, c5, c6, c7, c8, vi s.Table, c10, c11] ∧ (tSl cv.t).R s.Program.Headers c1 ∧ (tSl cd.t).R s.Program.Metadata c2 ∧ (tSl fm.t).R s.Program.Registers c3 ∧ (tSl cz.t).R s.Program.Actions c4 ∧ (tSl az.t).R s.Program.Tables c5 ∧ (tSl ct.t).R s.Program.States c6 ∧ (tSl aj.t).R s.Program.Control c7 ∧ (tSl tI).R s.Program.Deparser c8 ∧ (tSl ak.t).R s.Rows c10 ∧ (tSl lr).R s.Key c11
def bm.t : TR bm := ⟨bm.R, 12, true, fun h => by obtain ⟨c1, c2, c3, c4, c5, c6, c7, c8, c10, c11, h0, hc1, hc2, hc3, hc4, hc5, hc6, hc7, hc8, hc10, hc11⟩ := h; subst h0; rfl, fun h => by obtain ⟨c1, c2, c3, c4, c5, c6, c7, c8, c10, c11, h0, hc1, hc2, hc3, hc4, hc5, hc6, hc7, hc8, hc10, hc11⟩ := h; subst h0; rfl, fun h => by obtain ⟨c1, c2, c3, c4, c5, c6, c7, c8, c10, c11, h0, hc1, hc2, hc3, hc4, hc5, hc6, hc7, hc8, hc10, hc11⟩ := h; subst h0; simp [closed, closedL, TR.clo _ hc1, TR.clo _ hc2, TR.clo _ hc3, TR.clo _ hc4, TR.clo _ hc5, TR.clo _ hc6, TR.clo _ hc7, TR.clo _ hc8, TR.clo _ hc10, TR.clo _ hc11]⟩
theorem bm.g_Program {s : bm} {v : PV} (h : bm.t.R s v) : ∃ w, fieldR 0 9 true v = some w ∧ aa.t.R s.Program w := by obtain ⟨c1, c2, c3, c4, c5, c6, c7, c8, c10, c11, h0, hc1, hc2, hc3, hc4, hc5, hc6, hc7, hc8, hc10, hc11⟩ := h; subst h0; exact ⟨_, rfl, ⟨c1, c2, c3, c4, c5, c6, c7, c8, rfl, hc1, hc2, hc3, hc4, hc5, hc6, hc7, hc8⟩⟩
theorem bm.g_Table {s v} (h : bm.t.R s v) : fieldR 9 1 false v = some (vi s.Table) := by obtain ⟨_, _, _, _, _, _, _, _, _, _, rfl, _⟩ := h; rfl
theorem bm.g_Rows {s v} (h : bm.t.R s v) : ∃ w, fieldR 10 1 false v = some w ∧ (tSl ak.t).R s.Rows w := by obtain ⟨_, _, _, _, _, _, _, _, _, _, rfl, _, _, _, _, _, _, _, _, q, _⟩ := h; exact ⟨_, mk1 (TR.agg _ q), q⟩
theorem bm.g_Key {s v} (h : bm.t.R s v) : ∃ w, fieldR 11 1 false v = some w ∧ (tSl lr).R s.Key w := by obtain ⟨_, _, _, _, _, _, _, _, _, _, rfl, _, _, _, _, _, _, _, _, _, q⟩ := h; exact ⟨_, mk1 (TR.agg _ q), q⟩
structure ae where
 Value : BitVec 64
 Mask : BitVec 64
 deriving Inhabited, DecidableEq
def ae.R : ae → PV → Prop := fun s v => v = .agg [cg s.Value, cg s.Mask]
def ae.t : TR ae := ⟨ae.R, 2, true, fun h => by have h0 : _ = _ := h; subst h0; rfl, fun h => by have h0 : _ = _ := h; subst h0; rfl, fun h => by have h0 : _ = _ := h; subst h0; simp [closed, closedL]⟩
theorem ae.g_Value {s v} (h : ae.t.R s v) : fieldR 0 1 false v = some (cg s.Value) := by cases h; rfl
theorem ae.g_Mask {s v} (h : ae.t.R s v) : fieldR 1 1 false v = some (cg s.Mask) := by cases h; rfl
theorem bb.neq_127 {ox oy : Operand} {a b : bb} {va vb' : PV} (ha : bb.t.R a va) (hb : bb.t.R b vb') : binF Tryz.prog .neq 127 ox oy va vb' = some (vb (!decide (a = b))) := by
 have ha : va = _ := ha; have hb : vb' = _ := hb; subst ha; subst hb
 rw [cl9 Tryz.underlying127 (by kernel_rfl) (by kernel_rfl) Tryz.underlying64 Tryz.underlying64 rfl rfl (by decide) (by decide)]
 cases a; cases b; simp only [Option.some.injEq, PV.sc.injEq, Value.bool.injEq, Bool.not_eq_not]; rw [Bool.eq_iff_iff]; simp [bb.mk.injEq, ou, BitVec.toNat_inj]
end Go.Proofs.YthdnpgpnodgicaaGreat
