import Derived.Test.YthdnpgpnodgicaaGreatPbEq
import Derived.Test.YthdnpgpnodgicaaGreatRows
set_option linter.unusedVariables false
set_option linter.unusedSimpArgs false
set_option maxRecDepth 100000
namespace Go.Proofs.YthdnpgpnodgicaaGreat
open Go Go.Pb Go.RowKit
structure ep where
 Op : Int
 N : Int
 W : Int
 deriving Inhabited, DecidableEq
def ep.R : ep → PV → Prop := fun s v => v = .agg [vi s.Op, vi s.N, vi s.W]
def ep.t : TR ep := ⟨ep.R, 3, true, fun h => by have h0 : _ = _ := h; subst h0; rfl, fun h => by have h0 : _ = _ := h; subst h0; rfl, fun h => by have h0 : _ = _ := h; subst h0; simp [closed, closedL]⟩
structure aj where
 Kind : Int
 Table : Int
 Cond : List ep
 Then : List aj
 Else : List aj
 deriving Inhabited
mutual
def aj.R : aj → PV → Prop
 | ⟨xKind, xTable, xCond, xThen, xElse⟩, v => ∃ c2, ∃ c3, ∃ c4, v = .agg [vi xKind, vi xTable, c2, c3, c4] ∧ (tSl ep.t).R xCond c2 ∧ ((∃ es, IsSl c3 es ∧ aj.Rl xThen es) ∧ xThen.length ≤ 9223372036854775807) ∧ ((∃ es, IsSl c4 es ∧ aj.Rl xElse es) ∧ xElse.length ≤ 9223372036854775807)
def aj.Rl : List aj → List PV → Prop
 | [], [] => True
 | a :: l, e :: es => aj.R a e ∧ aj.Rl l es
 | _, _ => False
end
theorem aj.Rl_eq : ∀ (l : List aj) (es : List PV), aj.Rl l es = All2 aj.R l es
 | [], [] => by simp [aj.Rl, All2]
 | a :: l, e :: es => by simp [aj.Rl, All2, aj.Rl_eq l es]
 | [], _ :: _ => by simp [aj.Rl, All2]
 | _ :: _, [] => by simp [aj.Rl, All2]
mutual
theorem aj.R_clo : ∀ (s : aj) (v : PV), aj.R s v → closed v = true
 | ⟨xKind, xTable, xCond, xThen, xElse⟩, v, h => by
   simp only [aj.R] at h
   obtain ⟨c2, c3, c4, h0, hc2, hc3, hc4⟩ := h
   subst h0
   have kc2 := TR.clo _ hc2
   obtain ⟨⟨esc3, hic3, hlc3⟩, _⟩ := hc3
   have kc3 := hic3.closed (aj.Rl_clo _ _ hlc3)
   obtain ⟨⟨esc4, hic4, hlc4⟩, _⟩ := hc4
   have kc4 := hic4.closed (aj.Rl_clo _ _ hlc4)
   simp [closed, closedL, kc2, kc3, kc4]
theorem aj.Rl_clo : ∀ (l : List aj) (es : List PV), aj.Rl l es → closedL es = true
 | [], [], _ => rfl
 | a :: l, e :: es, h => by
   simp only [aj.Rl] at h
   simp [closedL, aj.R_clo a e h.1, aj.Rl_clo l es h.2]
 | [], _ :: _, h => by simp [aj.Rl] at h
 | _ :: _, [], h => by simp [aj.Rl] at h
end
def aj.t : TR aj := ⟨aj.R, 5, true, fun {a v} h => by cases a; simp only [aj.R] at h; obtain ⟨c2, c3, c4, h0, hc2, hc3, hc4⟩ := h; subst h0; rfl, fun {a v} h => by cases a; simp only [aj.R] at h; obtain ⟨c2, c3, c4, h0, hc2, hc3, hc4⟩ := h; subst h0; rfl, fun {a v} h => aj.R_clo a v h⟩
theorem aj.lR {l : List aj} {v : PV} (h : (∃ es, IsSl v es ∧ aj.Rl l es) ∧ l.length ≤ 9223372036854775807) : (tSl aj.t).R l v := by obtain ⟨⟨es, hi, hl⟩, hb⟩ := h; rw [aj.Rl_eq] at hl; exact ⟨⟨es, hi, hl⟩, hb⟩
theorem aj.g_Kind {s : aj} {v : PV} (h : aj.t.R s v) : fieldR 0 1 false v = some (vi s.Kind) := by cases s; have h : aj.R _ v := h; simp only [aj.R] at h; obtain ⟨c2, c3, c4, h0, hc2, hc3, hc4⟩ := h; subst h0; rfl
theorem aj.g_Table {s : aj} {v : PV} (h : aj.t.R s v) : fieldR 1 1 false v = some (vi s.Table) := by cases s; have h : aj.R _ v := h; simp only [aj.R] at h; obtain ⟨c2, c3, c4, h0, hc2, hc3, hc4⟩ := h; subst h0; rfl
theorem aj.g_Cond {s : aj} {v : PV} (h : aj.t.R s v) : ∃ w, fieldR 2 1 false v = some w ∧ (tSl ep.t).R s.Cond w := by cases s; have h : aj.R _ v := h; simp only [aj.R] at h; obtain ⟨c2, c3, c4, h0, hc2, hc3, hc4⟩ := h; subst h0; exact ⟨_, mk1 (TR.agg _ hc2), hc2⟩
theorem aj.g_Then {s : aj} {v : PV} (h : aj.t.R s v) : ∃ w, fieldR 3 1 false v = some w ∧ (tSl aj.t).R s.Then w := by cases s; have h : aj.R _ v := h; simp only [aj.R] at h; obtain ⟨c2, c3, c4, h0, hc2, hc3, hc4⟩ := h; subst h0; obtain ⟨⟨es, hi, hl⟩, hb⟩ := hc3; rw [aj.Rl_eq] at hl; have hh : (tSl aj.t).R _ _ := ⟨⟨es, hi, hl⟩, hb⟩; exact ⟨_, mk1 (TR.agg _ hh), hh⟩
theorem aj.g_Else {s : aj} {v : PV} (h : aj.t.R s v) : ∃ w, fieldR 4 1 false v = some w ∧ (tSl aj.t).R s.Else w := by cases s; have h : aj.R _ v := h; simp only [aj.R] at h; obtain ⟨c2, c3, c4, h0, hc2, hc3, hc4⟩ := h; subst h0; obtain ⟨⟨es, hi, hl⟩, hb⟩ := hc4; rw [aj.Rl_eq] at hl; have hh : (tSl aj.t).R _ _ := ⟨⟨es, hi, hl⟩, hb⟩; exact ⟨_, mk1 (TR.agg _ hh), hh⟩
structure bz where
 Name : List UInt8
 Width : Int
 deriving Inhabited, DecidableEq
def bz.R : bz → PV → Prop := fun s v => v = .agg [vs s.Name, vi s.Width]
def bz.t : TR bz := ⟨bz.R, 2, true, fun h => by have h0 : _ = _ := h; subst h0; rfl, fun h => by have h0 : _ = _ := h; subst h0; rfl, fun h => by have h0 : _ = _ := h; subst h0; simp [closed, closedL]⟩
theorem bz.g_Name {s v} (h : bz.t.R s v) : fieldR 0 1 false v = some (vs s.Name) := by cases h; rfl
theorem bz.g_Width {s v} (h : bz.t.R s v) : fieldR 1 1 false v = some (vi s.Width) := by cases h; rfl
structure ct where
 Name : List UInt8
 Fields : List bz
 deriving Inhabited, DecidableEq
def ct.R : ct → PV → Prop := fun s v => ∃ c1, v = .agg [vs s.Name, c1] ∧ (tSl bz.t).R s.Fields c1
def ct.t : TR ct := ⟨ct.R, 2, true, fun h => by obtain ⟨c1, h0, hc1⟩ := h; subst h0; rfl, fun h => by obtain ⟨c1, h0, hc1⟩ := h; subst h0; rfl, fun h => by obtain ⟨c1, h0, hc1⟩ := h; subst h0; simp [closed, closedL, TR.clo _ hc1]⟩
theorem ct.g_Name {s v} (h : ct.t.R s v) : fieldR 0 1 false v = some (vs s.Name) := by obtain ⟨_, rfl, _⟩ := h; rfl
theorem ct.g_Fields {s v} (h : ct.t.R s v) : ∃ w, fieldR 1 1 false v = some w ∧ (tSl bz.t).R s.Fields w := by obtain ⟨_, rfl, q⟩ := h; exact ⟨_, mk1 (TR.agg _ q), q⟩
structure cm where
 Header : Int
 Field : Int
 deriving Inhabited, DecidableEq
def cm.R : cm → PV → Prop := fun s v => v = .agg [vi s.Header, vi s.Field]
def cm.t : TR cm := ⟨cm.R, 2, true, fun h => by have h0 : _ = _ := h; subst h0; rfl, fun h => by have h0 : _ = _ := h; subst h0; rfl, fun h => by have h0 : _ = _ := h; subst h0; simp [closed, closedL]⟩
theorem cm.g_Header {s v} (h : cm.t.R s v) : fieldR 0 1 false v = some (vi s.Header) := by cases h; rfl
theorem cm.g_Field {s v} (h : cm.t.R s v) : fieldR 1 1 false v = some (vi s.Field) := by cases h; rfl
structure dj where
 Kind : Int
 Dst : cm
 Register : Int
 Header : Int
 Index : List ep
 Value : List ep
 deriving Inhabited, DecidableEq
def dj.R : dj → PV → Prop := fun s v => ∃ c5, ∃ c6, v = .agg [vi s.Kind, vi s.Dst.Header, vi s.Dst.Field, vi s.Register, vi s.Header, c5, c6] ∧ (tSl ep.t).R s.Index c5 ∧ (tSl ep.t).R s.Value c6
def dj.t : TR dj := ⟨dj.R, 7, true, fun h => by obtain ⟨c5, c6, h0, hc5, hc6⟩ := h; subst h0; rfl, fun h => by obtain ⟨c5, c6, h0, hc5, hc6⟩ := h; subst h0; rfl, fun h => by obtain ⟨c5, c6, h0, hc5, hc6⟩ := h; subst h0; simp [closed, closedL, TR.clo _ hc5, TR.clo _ hc6]⟩
theorem dj.g_Kind {s v} (h : dj.t.R s v) : fieldR 0 1 false v = some (vi s.Kind) := by obtain ⟨_, _, rfl, _⟩ := h; rfl
theorem dj.g_Header {s v} (h : dj.t.R s v) : fieldR 4 1 false v = some (vi s.Header) := by obtain ⟨_, _, rfl, _⟩ := h; rfl
theorem dj.g_Index {s v} (h : dj.t.R s v) : ∃ w, fieldR 5 1 false v = some w ∧ (tSl ep.t).R s.Index w := by obtain ⟨_, _, rfl, q, _⟩ := h; exact ⟨_, mk1 (TR.agg _ q), q⟩
theorem dj.g_Value {s v} (h : dj.t.R s v) : ∃ w, fieldR 6 1 false v = some w ∧ (tSl ep.t).R s.Value w := by obtain ⟨_, _, rfl, _, q⟩ := h; exact ⟨_, mk1 (TR.agg _ q), q⟩
structure cz where
 Name : List UInt8
 Params : List bz
 Body : List dj
 deriving Inhabited, DecidableEq
def cz.R : cz → PV → Prop := fun s v => ∃ c1, ∃ c2, v = .agg [vs s.Name, c1, c2] ∧ (tSl bz.t).R s.Params c1 ∧ (tSl dj.t).R s.Body c2
def cz.t : TR cz := ⟨cz.R, 3, true, fun h => by obtain ⟨c1, c2, h0, hc1, hc2⟩ := h; subst h0; rfl, fun h => by obtain ⟨c1, c2, h0, hc1, hc2⟩ := h; subst h0; rfl, fun h => by obtain ⟨c1, c2, h0, hc1, hc2⟩ := h; subst h0; simp [closed, closedL, TR.clo _ hc1, TR.clo _ hc2]⟩
theorem cz.g_Name {s v} (h : cz.t.R s v) : fieldR 0 1 false v = some (vs s.Name) := by obtain ⟨_, _, rfl, _⟩ := h; rfl
theorem cz.g_Params {s v} (h : cz.t.R s v) : ∃ w, fieldR 1 1 false v = some w ∧ (tSl bz.t).R s.Params w := by obtain ⟨_, _, rfl, q, _⟩ := h; exact ⟨_, mk1 (TR.agg _ q), q⟩
theorem cz.g_Body {s v} (h : cz.t.R s v) : ∃ w, fieldR 2 1 false v = some w ∧ (tSl dj.t).R s.Body w := by obtain ⟨_, _, rfl, _, q⟩ := h; exact ⟨_, mk1 (TR.agg _ q), q⟩
structure fh where
 Value : BitVec 32
 Mask : BitVec 32
 Next : Int
 deriving Inhabited, DecidableEq
def fh.R : fh → PV → Prop := fun s v => v = .agg [fb s.Value, fb s.Mask, vi s.Next]
def fh.t : TR fh := ⟨fh.R, 3, true, fun h => by have h0 : _ = _ := h; subst h0; rfl, fun h => by have h0 : _ = _ := h; subst h0; rfl, fun h => by have h0 : _ = _ := h; subst h0; simp [closed, closedL]⟩
theorem fh.g_Value {s v} (h : fh.t.R s v) : fieldR 0 1 false v = some (fb s.Value) := by cases h; rfl
theorem fh.g_Mask {s v} (h : fh.t.R s v) : fieldR 1 1 false v = some (fb s.Mask) := by cases h; rfl
structure cv where
 Name : List UInt8
 Extract : List Int
 Select : Bool
 On : cm
 Cases : List fh
 Default : Int
 deriving Inhabited, DecidableEq
def cv.R : cv → PV → Prop := fun s v => ∃ c1, ∃ c5, v = .agg [vs s.Name, c1, vb s.Select, vi s.On.Header, vi s.On.Field, c5, vi s.Default] ∧ (tSl tI).R s.Extract c1 ∧ (tSl fh.t).R s.Cases c5
def cv.t : TR cv := ⟨cv.R, 7, true, fun h => by obtain ⟨c1, c5, h0, hc1, hc5⟩ := h; subst h0; rfl, fun h => by obtain ⟨c1, c5, h0, hc1, hc5⟩ := h; subst h0; rfl, fun h => by obtain ⟨c1, c5, h0, hc1, hc5⟩ := h; subst h0; simp [closed, closedL, TR.clo _ hc1, TR.clo _ hc5]⟩
theorem cv.g_Name {s v} (h : cv.t.R s v) : fieldR 0 1 false v = some (vs s.Name) := by obtain ⟨_, _, rfl, _⟩ := h; rfl
theorem cv.g_Extract {s v} (h : cv.t.R s v) : ∃ w, fieldR 1 1 false v = some w ∧ (tSl tI).R s.Extract w := by obtain ⟨_, _, rfl, q, _⟩ := h; exact ⟨_, mk1 (TR.agg _ q), q⟩
theorem cv.g_Cases {s v} (h : cv.t.R s v) : ∃ w, fieldR 5 1 false v = some w ∧ (tSl fh.t).R s.Cases w := by obtain ⟨_, _, rfl, _, q⟩ := h; exact ⟨_, mk1 (TR.agg _ q), q⟩
theorem cv.g_Default {s v} (h : cv.t.R s v) : fieldR 6 1 false v = some (vi s.Default) := by obtain ⟨_, _, rfl, _⟩ := h; rfl
structure fq where
 Name : List UInt8
 Width : Int
 Size : Int
 deriving Inhabited, DecidableEq
def fq.R : fq → PV → Prop := fun s v => v = .agg [vs s.Name, vi s.Width, vi s.Size]
def fq.t : TR fq := ⟨fq.R, 3, true, fun h => by have h0 : _ = _ := h; subst h0; rfl, fun h => by have h0 : _ = _ := h; subst h0; rfl, fun h => by have h0 : _ = _ := h; subst h0; simp [closed, closedL]⟩
theorem fq.g_Name {s v} (h : fq.t.R s v) : fieldR 0 1 false v = some (vs s.Name) := by cases h; rfl
theorem fq.g_Width {s v} (h : fq.t.R s v) : fieldR 1 1 false v = some (vi s.Width) := by cases h; rfl
theorem fq.g_Size {s v} (h : fq.t.R s v) : fieldR 2 1 false v = some (vi s.Size) := by cases h; rfl
structure bg where
 Field : cm
 Kind : Int
 deriving Inhabited, DecidableEq
def bg.R : bg → PV → Prop := fun s v => v = .agg [vi s.Field.Header, vi s.Field.Field, vi s.Kind]
def bg.t : TR bg := ⟨bg.R, 3, true, fun h => by have h0 : _ = _ := h; subst h0; rfl, fun h => by have h0 : _ = _ := h; subst h0; rfl, fun h => by have h0 : _ = _ := h; subst h0; simp [closed, closedL]⟩
theorem bg.g_Field {s : bg} {v : PV} (h : bg.t.R s v) : ∃ w, fieldR 0 2 true v = some w ∧ cm.t.R s.Field w := by have h0 : _ = _ := h; subst h0; exact ⟨_, rfl, rfl⟩
theorem bg.g_Kind {s v} (h : bg.t.R s v) : fieldR 2 1 false v = some (vi s.Kind) := by cases h; rfl
structure bb where
 Action : Int
 Args : List (BitVec 32)
 deriving Inhabited, DecidableEq
def bb.R : bb → PV → Prop := fun s v => ∃ c1, v = .agg [vi s.Action, c1] ∧ (tSl nq).R s.Args c1
def bb.t : TR bb := ⟨bb.R, 2, true, fun h => by obtain ⟨c1, h0, hc1⟩ := h; subst h0; rfl, fun h => by obtain ⟨c1, h0, hc1⟩ := h; subst h0; rfl, fun h => by obtain ⟨c1, h0, hc1⟩ := h; subst h0; simp [closed, closedL, TR.clo _ hc1]⟩
theorem bb.g_Action {s v} (h : bb.t.R s v) : fieldR 0 1 false v = some (vi s.Action) := by obtain ⟨_, rfl, _⟩ := h; rfl
theorem bb.g_Args {s v} (h : bb.t.R s v) : ∃ w, fieldR 1 1 false v = some w ∧ (tSl nq).R s.Args w := by obtain ⟨_, rfl, q⟩ := h; exact ⟨_, mk1 (TR.agg _ q), q⟩
structure ax where
 Name : List UInt8
 Keys : List bg
 Actions : List Int
 Default : bb
 Size : Int
 deriving Inhabited, DecidableEq
def ax.R : ax → PV → Prop := fun s v => ∃ c1, ∃ c2, ∃ c4, v = .agg [vs s.Name, c1, c2, vi s.Default.Action, c4, vi s.Size] ∧ (tSl bg.t).R s.Keys c1 ∧ (tSl tI).R s.Actions c2 ∧ (tSl nq).R s.Default.Args c4
def ax.t : TR ax := ⟨ax.R, 6, true, fun h => by obtain ⟨c1, c2, c4, h0, hc1, hc2, hc4⟩ := h; subst h0; rfl, fun h => by obtain ⟨c1, c2, c4, h0, hc1, hc2, hc4⟩ := h; subst h0; rfl, fun h => by obtain ⟨c1, c2, c4, h0, hc1, hc2, hc4⟩ := h; subst h0; simp [closed, closedL, TR.clo _ hc1, TR.clo _ hc2, TR.clo _ hc4]⟩
theorem ax.g_Name {s v} (h : ax.t.R s v) : fieldR 0 1 false v = some (vs s.Name) := by obtain ⟨_, _, _, rfl, _⟩ := h; rfl
theorem ax.g_Keys {s v} (h : ax.t.R s v) : ∃ w, fieldR 1 1 false v = some w ∧ (tSl bg.t).R s.Keys w := by obtain ⟨_, _, _, rfl, q, _⟩ := h; exact ⟨_, mk1 (TR.agg _ q), q⟩
theorem ax.g_Actions {s v} (h : ax.t.R s v) : ∃ w, fieldR 2 1 false v = some w ∧ (tSl tI).R s.Actions w := by obtain ⟨_, _, _, rfl, _, q, _⟩ := h; exact ⟨_, mk1 (TR.agg _ q), q⟩
theorem ax.g_Default {s : ax} {v : PV} (h : ax.t.R s v) : ∃ w, fieldR 3 2 true v = some w ∧ bb.t.R s.Default w := by obtain ⟨c1, c2, c4, h0, hc1, hc2, hc4⟩ := h; subst h0; exact ⟨_, rfl, ⟨c4, rfl, hc4⟩⟩
theorem ax.g_Size {s v} (h : ax.t.R s v) : fieldR 5 1 false v = some (vi s.Size) := by obtain ⟨_, _, _, rfl, _⟩ := h; rfl
structure aa where
 Name : List UInt8
 Headers : List ct
 Metadata : List bz
 Registers : List fq
 Actions : List cz
 Tables : List ax
 States : List cv
 Control : List aj
 Deparser : List Int
 deriving Inhabited
def aa.R : aa → PV → Prop := fun s v => ∃ c1, ∃ c2, ∃ c3, ∃ c4, ∃ c5, ∃ c6, ∃ c7, ∃ c8, v = .agg [vs s.Name, c1, c2, c3, c4, c5, c6, c7, c8] ∧ (tSl ct.t).R s.Headers c1 ∧ (tSl bz.t).R s.Metadata c2 ∧ (tSl fq.t).R s.Registers c3 ∧ (tSl cz.t).R s.Actions c4 ∧ (tSl ax.t).R s.Tables c5 ∧ (tSl cv.t).R s.States c6 ∧ (tSl aj.t).R s.Control c7 ∧ (tSl tI).R s.Deparser c8
def aa.t : TR aa := ⟨aa.R, 9, true, fun h => by obtain ⟨c1, c2, c3, c4, c5, c6, c7, c8, h0, hc1, hc2, hc3, hc4, hc5, hc6, hc7, hc8⟩ := h; subst h0; rfl, fun h => by obtain ⟨c1, c2, c3, c4, c5, c6, c7, c8, h0, hc1, hc2, hc3, hc4, hc5, hc6, hc7, hc8⟩ := h; subst h0; rfl, fun h => by obtain ⟨c1, c2, c3, c4, c5, c6, c7, c8, h0, hc1, hc2, hc3, hc4, hc5, hc6, hc7, hc8⟩ := h; subst h0; simp [closed, closedL, TR.clo _ hc1, TR.clo _ hc2, TR.clo _ hc3, TR.clo _ hc4, TR.clo _ hc5, TR.clo _ hc6, TR.clo _ hc7, TR.clo _ hc8]⟩
theorem aa.g_Name {s v} (h : aa.t.R s v) : fieldR 0 1 false v = some (vs s.Name) := by obtain ⟨_, _, _, _, _, _, _, _, rfl, _⟩ := h; rfl
theorem aa.g_Headers {s v} (h : aa.t.R s v) : ∃ w, fieldR 1 1 false v = some w ∧ (tSl ct.t).R s.Headers w := by obtain ⟨_, _, _, _, _, _, _, _, rfl, q, _⟩ := h; exact ⟨_, mk1 (TR.agg _ q), q⟩
theorem aa.g_Metadata {s v} (h : aa.t.R s v) : ∃ w, fieldR 2 1 false v = some w ∧ (tSl bz.t).R s.Metadata w := by obtain ⟨_, _, _, _, _, _, _, _, rfl, _, q, _⟩ := h; exact ⟨_, mk1 (TR.agg _ q), q⟩
theorem aa.g_Registers {s v} (h : aa.t.R s v) : ∃ w, fieldR 3 1 false v = some w ∧ (tSl fq.t).R s.Registers w := by obtain ⟨_, _, _, _, _, _, _, _, rfl, _, _, q, _⟩ := h; exact ⟨_, mk1 (TR.agg _ q), q⟩
theorem aa.g_Actions {s v} (h : aa.t.R s v) : ∃ w, fieldR 4 1 false v = some w ∧ (tSl cz.t).R s.Actions w := by obtain ⟨_, _, _, _, _, _, _, _, rfl, _, _, _, q, _⟩ := h; exact ⟨_, mk1 (TR.agg _ q), q⟩
theorem aa.g_Tables {s v} (h : aa.t.R s v) : ∃ w, fieldR 5 1 false v = some w ∧ (tSl ax.t).R s.Tables w := by obtain ⟨_, _, _, _, _, _, _, _, rfl, _, _, _, _, q, _⟩ := h; exact ⟨_, mk1 (TR.agg _ q), q⟩
theorem aa.g_States {s v} (h : aa.t.R s v) : ∃ w, fieldR 6 1 false v = some w ∧ (tSl cv.t).R s.States w := by obtain ⟨_, _, _, _, _, _, _, _, rfl, _, _, _, _, _, q, _⟩ := h; exact ⟨_, mk1 (TR.agg _ q), q⟩
theorem aa.g_Control {s v} (h : aa.t.R s v) : ∃ w, fieldR 7 1 false v = some w ∧ (tSl aj.t).R s.Control w := by obtain ⟨_, _, _, _, _, _, _, _, rfl, _, _, _, _, _, _, q, _⟩ := h; exact ⟨_, mk1 (TR.agg _ q), q⟩
theorem aa.g_Deparser {s v} (h : aa.t.R s v) : ∃ w, fieldR 8 1 false v = some w ∧ (tSl tI).R s.Deparser w := by obtain ⟨_, _, _, _, _, _, _, _, rfl, _, _, _, _, _, _, _, q⟩ := h; exact ⟨_, mk1 (TR.agg _ q), q⟩
structure ba where
 Value : BitVec 32
 Mask : BitVec 32
 deriving Inhabited, DecidableEq
def ba.R : ba → PV → Prop := fun s v => v = .agg [fb s.Value, fb s.Mask]
def ba.t : TR ba := ⟨ba.R, 2, true, fun h => by have h0 : _ = _ := h; subst h0; rfl, fun h => by have h0 : _ = _ := h; subst h0; rfl, fun h => by have h0 : _ = _ := h; subst h0; simp [closed, closedL]⟩
theorem ba.g_Value {s v} (h : ba.t.R s v) : fieldR 0 1 false v = some (fb s.Value) := by cases h; rfl
theorem ba.g_Mask {s v} (h : ba.t.R s v) : fieldR 1 1 false v = some (fb s.Mask) := by cases h; rfl
structure aw where
 Keys : List ba
 Priority : Int
 Call : bb
 deriving Inhabited, DecidableEq
def aw.R : aw → PV → Prop := fun s v => ∃ c0, ∃ c3, v = .agg [c0, vi s.Priority, vi s.Call.Action, c3] ∧ (tSl ba.t).R s.Keys c0 ∧ (tSl nq).R s.Call.Args c3
def aw.t : TR aw := ⟨aw.R, 4, true, fun h => by obtain ⟨c0, c3, h0, hc0, hc3⟩ := h; subst h0; rfl, fun h => by obtain ⟨c0, c3, h0, hc0, hc3⟩ := h; subst h0; rfl, fun h => by obtain ⟨c0, c3, h0, hc0, hc3⟩ := h; subst h0; simp [closed, closedL, TR.clo _ hc0, TR.clo _ hc3]⟩
theorem aw.g_Keys {s v} (h : aw.t.R s v) : ∃ w, fieldR 0 1 false v = some w ∧ (tSl ba.t).R s.Keys w := by obtain ⟨_, _, rfl, q, _⟩ := h; exact ⟨_, mk1 (TR.agg _ q), q⟩
theorem aw.g_Priority {s v} (h : aw.t.R s v) : fieldR 1 1 false v = some (vi s.Priority) := by obtain ⟨_, _, rfl, _⟩ := h; rfl
theorem aw.g_Call {s : aw} {v : PV} (h : aw.t.R s v) : ∃ w, fieldR 2 2 true v = some w ∧ bb.t.R s.Call w := by obtain ⟨c0, c3, h0, hc0, hc3⟩ := h; subst h0; exact ⟨_, rfl, ⟨c3, rfl, hc3⟩⟩
structure am where
 ID : Int
 Entry : aw
 deriving Inhabited, DecidableEq
def am.R : am → PV → Prop := fun s v => ∃ c1, ∃ c4, v = .agg [vi s.ID, c1, vi s.Entry.Priority, vi s.Entry.Call.Action, c4] ∧ (tSl ba.t).R s.Entry.Keys c1 ∧ (tSl nq).R s.Entry.Call.Args c4
def am.t : TR am := ⟨am.R, 5, true, fun h => by obtain ⟨c1, c4, h0, hc1, hc4⟩ := h; subst h0; rfl, fun h => by obtain ⟨c1, c4, h0, hc1, hc4⟩ := h; subst h0; rfl, fun h => by obtain ⟨c1, c4, h0, hc1, hc4⟩ := h; subst h0; simp [closed, closedL, TR.clo _ hc1, TR.clo _ hc4]⟩
theorem am.g_ID {s v} (h : am.t.R s v) : fieldR 0 1 false v = some (vi s.ID) := by obtain ⟨_, _, rfl, _⟩ := h; rfl
theorem am.g_Entry {s : am} {v : PV} (h : am.t.R s v) : ∃ w, fieldR 1 4 true v = some w ∧ aw.t.R s.Entry w := by obtain ⟨c1, c4, h0, hc1, hc4⟩ := h; subst h0; exact ⟨_, rfl, ⟨c1, c4, rfl, hc1, hc4⟩⟩
structure bm where
 Program : aa
 Table : Int
 Rows : List am
 Key : List (BitVec 32)
 deriving Inhabited
def bm.R : bm → PV → Prop := fun s v => ∃ c1, ∃ c2, ∃ c3, ∃ c4, ∃ c5, ∃ c6, ∃ c7, ∃ c8, ∃ c10, ∃ c11, v = .agg [vs s.Program.Name, c1, c2, c3, c4, c5, c6, c7, c8, vi s.Table, c10, c11] ∧ (tSl ct.t).R s.Program.Headers c1 ∧ (tSl bz.t).R s.Program.Metadata c2 ∧ (tSl fq.t).R s.Program.Registers c3 ∧ (tSl cz.t).R s.Program.Actions c4 ∧ (tSl ax.t).R s.Program.Tables c5 ∧ (tSl cv.t).R s.Program.States c6 ∧ (tSl aj.t).R s.Program.Control c7 ∧ (tSl tI).R s.Program.Deparser c8 ∧ (tSl am.t).R s.Rows c10 ∧ (tSl nq).R s.Key c11
def bm.t : TR bm := ⟨bm.R, 12, true, fun h => by obtain ⟨c1, c2, c3, c4, c5, c6, c7, c8, c10, c11, h0, hc1, hc2, hc3, hc4, hc5, hc6, hc7, hc8, hc10, hc11⟩ := h; subst h0; rfl, fun h => by obtain ⟨c1, c2, c3, c4, c5, c6, c7, c8, c10, c11, h0, hc1, hc2, hc3, hc4, hc5, hc6, hc7, hc8, hc10, hc11⟩ := h; subst h0; rfl, fun h => by obtain ⟨c1, c2, c3, c4, c5, c6, c7, c8, c10, c11, h0, hc1, hc2, hc3, hc4, hc5, hc6, hc7, hc8, hc10, hc11⟩ := h; subst h0; simp [closed, closedL, TR.clo _ hc1, TR.clo _ hc2, TR.clo _ hc3, TR.clo _ hc4, TR.clo _ hc5, TR.clo _ hc6, TR.clo _ hc7, TR.clo _ hc8, TR.clo _ hc10, TR.clo _ hc11]⟩
theorem bm.g_Program {s : bm} {v : PV} (h : bm.t.R s v) : ∃ w, fieldR 0 9 true v = some w ∧ aa.t.R s.Program w := by obtain ⟨c1, c2, c3, c4, c5, c6, c7, c8, c10, c11, h0, hc1, hc2, hc3, hc4, hc5, hc6, hc7, hc8, hc10, hc11⟩ := h; subst h0; exact ⟨_, rfl, ⟨c1, c2, c3, c4, c5, c6, c7, c8, rfl, hc1, hc2, hc3, hc4, hc5, hc6, hc7, hc8⟩⟩
theorem bm.g_Table {s v} (h : bm.t.R s v) : fieldR 9 1 false v = some (vi s.Table) := by obtain ⟨_, _, _, _, _, _, _, _, _, _, rfl, _⟩ := h; rfl
theorem bm.g_Rows {s v} (h : bm.t.R s v) : ∃ w, fieldR 10 1 false v = some w ∧ (tSl am.t).R s.Rows w := by obtain ⟨_, _, _, _, _, _, _, _, _, _, rfl, _, _, _, _, _, _, _, _, q, _⟩ := h; exact ⟨_, mk1 (TR.agg _ q), q⟩
theorem bm.g_Key {s v} (h : bm.t.R s v) : ∃ w, fieldR 11 1 false v = some w ∧ (tSl nq).R s.Key w := by obtain ⟨_, _, _, _, _, _, _, _, _, _, rfl, _, _, _, _, _, _, _, _, _, q⟩ := h; exact ⟨_, mk1 (TR.agg _ q), q⟩
structure ae where
 Value : BitVec 64
 Mask : BitVec 64
 deriving Inhabited, DecidableEq
def ae.R : ae → PV → Prop := fun s v => v = .agg [cj s.Value, cj s.Mask]
def ae.t : TR ae := ⟨ae.R, 2, true, fun h => by have h0 : _ = _ := h; subst h0; rfl, fun h => by have h0 : _ = _ := h; subst h0; rfl, fun h => by have h0 : _ = _ := h; subst h0; simp [closed, closedL]⟩
theorem ae.g_Value {s v} (h : ae.t.R s v) : fieldR 0 1 false v = some (cj s.Value) := by cases h; rfl
theorem ae.g_Mask {s v} (h : ae.t.R s v) : fieldR 1 1 false v = some (cj s.Mask) := by cases h; rfl
theorem ba.neq_127 {ox oy : Operand} {a b : ba} {va vb' : PV} (ha : ba.t.R a va) (hb : ba.t.R b vb') : binF Tryz.prog .neq 127 ox oy va vb' = some (vb (!decide (a = b))) := by
 have ha : va = _ := ha; have hb : vb' = _ := hb; subst ha; subst hb
 rw [cd8 Tryz.underlying127 (by kernel_rfl) (by kernel_rfl) Tryz.underlying64 Tryz.underlying64 rfl rfl (by decide) (by decide)]
 cases a; cases b; simp only [Option.some.injEq, PV.sc.injEq, Value.bool.injEq, Bool.not_eq_not]; rw [Bool.eq_iff_iff]; simp [ba.mk.injEq, oa, BitVec.toNat_inj]
end Go.Proofs.YthdnpgpnodgicaaGreat
