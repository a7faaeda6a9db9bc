import Derived.Test.YtmonnlkagniolaaGreatPbEq
import Derived.Test.YtmonnlkagniolaaGreatRows
set_option linter.unusedVariables false
set_option linter.unusedSimpArgs false
set_option maxRecDepth 100000
namespace Go.Proofs.YtmonnlkagniolaaGreat
open Go Go.Pb Go.RowKit
structure ae where
 Op : Int
 N : Int
 W : Int
 deriving Inhabited, DecidableEq
def ae.R : ae → PV → Prop := fun s v => v = .agg [vi s.Op, vi s.N, vi s.W]
def ae.t : TR ae := ⟨ae.R, 3, true, fun h => by have h0 : _ = _ := h; subst h0; rfl, fun h => by have h0 : _ = _ := h; subst h0; rfl, fun h => by have h0 : _ = _ := h; subst h0; simp [closed, closedL]⟩
theorem ae.g_Op {s v} (h : ae.t.R s v) : fieldR 0 1 false v = some (vi s.Op) := by cases h; rfl
theorem ae.g_N {s v} (h : ae.t.R s v) : fieldR 1 1 false v = some (vi s.N) := by cases h; rfl
theorem ae.g_W {s v} (h : ae.t.R s v) : fieldR 2 1 false v = some (vi s.W) := by cases h; rfl
structure aj where
 Kind : Int
 Table : Int
 Cond : List ae
 Then : List aj
 Else : List aj
 deriving Inhabited
mutual
def aj.R : aj → PV → Prop
 | ⟨xKind, xTable, xCond, xThen, xElse⟩, v => ∃ c2, ∃ c3, ∃ c4, v = .agg [vi xKind, vi xTable, c2, c3, c4] ∧ (tSl ae.t).R xCond c2 ∧ ((∃ es, IsSl c3 es ∧ aj.Rl xThen es) ∧ xThen.length ≤ 9223372036854775807) ∧ ((∃ es, IsSl c4 es ∧ aj.Rl xElse es) ∧ xElse.length ≤ 9223372036854775807)
def aj.Rl : List aj → List PV → Prop
 | [], [] => True
 | a :: l, e :: es => aj.R a e ∧ aj.Rl l es
 | _, _ => False
end
theorem aj.Rl_eq : ∀ (l : List aj) (es : List PV), aj.Rl l es = All2 aj.R l es
 | [], [] => by simp [aj.Rl, All2]
 | a :: l, e :: es => by simp [aj.Rl, All2, aj.Rl_eq l es]
 | [], _ :: _ => by simp [aj.Rl, All2]
 | _ :: _, [] => by simp [aj.Rl, All2]
mutual
theorem aj.R_clo : ∀ (s : aj) (v : PV), aj.R s v → closed v = true
 | ⟨xKind, xTable, xCond, xThen, xElse⟩, v, h => by
   simp only [aj.R] at h
   obtain ⟨c2, c3, c4, h0, hc2, hc3, hc4⟩ := h
   subst h0
   have kc2 := TR.clo _ hc2
   obtain ⟨⟨esc3, hic3, hlc3⟩, _⟩ := hc3
   have kc3 := hic3.closed (aj.Rl_clo _ _ hlc3)
   obtain ⟨⟨esc4, hic4, hlc4⟩, _⟩ := hc4
   have kc4 := hic4.closed (aj.Rl_clo _ _ hlc4)
   simp [closed, closedL, kc2, kc3, kc4]
theorem aj.Rl_clo : ∀ (l : List aj) (es : List PV), aj.Rl l es → closedL es = true
 | [], [], _ => rfl
 | a :: l, e :: es, h => by
   simp only [aj.Rl] at h
   simp [closedL, aj.R_clo a e h.1, aj.Rl_clo l es h.2]
 | [], _ :: _, h => by simp [aj.Rl] at h
 | _ :: _, [], h => by simp [aj.Rl] at h
end
def aj.t : TR aj := ⟨aj.R, 5, true, fun {a v} h => by cases a; simp only [aj.R] at h; obtain ⟨c2, c3, c4, h0, hc2, hc3, hc4⟩ := h; subst h0; rfl, fun {a v} h => by cases a; simp only [aj.R] at h; obtain ⟨c2, c3, c4, h0, hc2, hc3, hc4⟩ := h; subst h0; rfl, fun {a v} h => aj.R_clo a v h⟩
theorem aj.lR {l : List aj} {v : PV} (h : (∃ es, IsSl v es ∧ aj.Rl l es) ∧ l.length ≤ 9223372036854775807) : (tSl aj.t).R l v := by obtain ⟨⟨es, hi, hl⟩, hb⟩ := h; rw [aj.Rl_eq] at hl; exact ⟨⟨es, hi, hl⟩, hb⟩
theorem aj.g_Kind {s : aj} {v : PV} (h : aj.t.R s v) : fieldR 0 1 false v = some (vi s.Kind) := by cases s; have h : aj.R _ v := h; simp only [aj.R] at h; obtain ⟨c2, c3, c4, h0, hc2, hc3, hc4⟩ := h; subst h0; rfl
theorem aj.g_Table {s : aj} {v : PV} (h : aj.t.R s v) : fieldR 1 1 false v = some (vi s.Table) := by cases s; have h : aj.R _ v := h; simp only [aj.R] at h; obtain ⟨c2, c3, c4, h0, hc2, hc3, hc4⟩ := h; subst h0; rfl
theorem aj.g_Cond {s : aj} {v : PV} (h : aj.t.R s v) : ∃ w, fieldR 2 1 false v = some w ∧ (tSl ae.t).R s.Cond w := by cases s; have h : aj.R _ v := h; simp only [aj.R] at h; obtain ⟨c2, c3, c4, h0, hc2, hc3, hc4⟩ := h; subst h0; exact ⟨_, mk1 (TR.agg _ hc2), hc2⟩
theorem aj.g_Then {s : aj} {v : PV} (h : aj.t.R s v) : ∃ w, fieldR 3 1 false v = some w ∧ (tSl aj.t).R s.Then w := by cases s; have h : aj.R _ v := h; simp only [aj.R] at h; obtain ⟨c2, c3, c4, h0, hc2, hc3, hc4⟩ := h; subst h0; obtain ⟨⟨es, hi, hl⟩, hb⟩ := hc3; rw [aj.Rl_eq] at hl; have hh : (tSl aj.t).R _ _ := ⟨⟨es, hi, hl⟩, hb⟩; exact ⟨_, mk1 (TR.agg _ hh), hh⟩
theorem aj.g_Else {s : aj} {v : PV} (h : aj.t.R s v) : ∃ w, fieldR 4 1 false v = some w ∧ (tSl aj.t).R s.Else w := by cases s; have h : aj.R _ v := h; simp only [aj.R] at h; obtain ⟨c2, c3, c4, h0, hc2, hc3, hc4⟩ := h; subst h0; obtain ⟨⟨es, hi, hl⟩, hb⟩ := hc4; rw [aj.Rl_eq] at hl; have hh : (tSl aj.t).R _ _ := ⟨⟨es, hi, hl⟩, hb⟩; exact ⟨_, mk1 (TR.agg _ hh), hh⟩
structure ay where
 Name : List UInt8
 Width : Int
 deriving Inhabited, DecidableEq
def ay.R : ay → PV → Prop := fun s v => v = .agg [vs s.Name, vi s.Width]
def ay.t : TR ay := ⟨ay.R, 2, true, fun h => by have h0 : _ = _ := h; subst h0; rfl, fun h => by have h0 : _ = _ := h; subst h0; rfl, fun h => by have h0 : _ = _ := h; subst h0; simp [closed, closedL]⟩
theorem ay.g_Name {s v} (h : ay.t.R s v) : fieldR 0 1 false v = some (vs s.Name) := by cases h; rfl
theorem ay.g_Width {s v} (h : ay.t.R s v) : fieldR 1 1 false v = some (vi s.Width) := by cases h; rfl
structure bg where
 Name : List UInt8
 Fields : List ay
 deriving Inhabited, DecidableEq
def bg.R : bg → PV → Prop := fun s v => ∃ c1, v = .agg [vs s.Name, c1] ∧ (tSl ay.t).R s.Fields c1
def bg.t : TR bg := ⟨bg.R, 2, true, fun h => by obtain ⟨c1, h0, hc1⟩ := h; subst h0; rfl, fun h => by obtain ⟨c1, h0, hc1⟩ := h; subst h0; rfl, fun h => by obtain ⟨c1, h0, hc1⟩ := h; subst h0; simp [closed, closedL, TR.clo _ hc1]⟩
theorem bg.g_Name {s v} (h : bg.t.R s v) : fieldR 0 1 false v = some (vs s.Name) := by obtain ⟨_, rfl, _⟩ := h; rfl
theorem bg.g_Fields {s v} (h : bg.t.R s v) : ∃ w, fieldR 1 1 false v = some w ∧ (tSl ay.t).R s.Fields w := by obtain ⟨_, rfl, q⟩ := h; exact ⟨_, mk1 (TR.agg _ q), q⟩
structure aa where
 Header : Int
 Field : Int
 deriving Inhabited, DecidableEq
def aa.R : aa → PV → Prop := fun s v => v = .agg [vi s.Header, vi s.Field]
def aa.t : TR aa := ⟨aa.R, 2, true, fun h => by have h0 : _ = _ := h; subst h0; rfl, fun h => by have h0 : _ = _ := h; subst h0; rfl, fun h => by have h0 : _ = _ := h; subst h0; simp [closed, closedL]⟩
theorem aa.g_Header {s v} (h : aa.t.R s v) : fieldR 0 1 false v = some (vi s.Header) := by cases h; rfl
theorem aa.g_Field {s v} (h : aa.t.R s v) : fieldR 1 1 false v = some (vi s.Field) := by cases h; rfl
structure aq where
 Kind : Int
 Dst : aa
 Register : Int
 Header : Int
 Index : List ae
 Value : List ae
 deriving Inhabited, DecidableEq
def aq.R : aq → PV → Prop := fun s v => ∃ c5, ∃ c6, v = .agg [vi s.Kind, vi s.Dst.Header, vi s.Dst.Field, vi s.Register, vi s.Header, c5, c6] ∧ (tSl ae.t).R s.Index c5 ∧ (tSl ae.t).R s.Value c6
def aq.t : TR aq := ⟨aq.R, 7, true, fun h => by obtain ⟨c5, c6, h0, hc5, hc6⟩ := h; subst h0; rfl, fun h => by obtain ⟨c5, c6, h0, hc5, hc6⟩ := h; subst h0; rfl, fun h => by obtain ⟨c5, c6, h0, hc5, hc6⟩ := h; subst h0; simp [closed, closedL, TR.clo _ hc5, TR.clo _ hc6]⟩
theorem aq.g_Kind {s v} (h : aq.t.R s v) : fieldR 0 1 false v = some (vi s.Kind) := by obtain ⟨_, _, rfl, _⟩ := h; rfl
theorem aq.g_Dst {s : aq} {v : PV} (h : aq.t.R s v) : ∃ w, fieldR 1 2 true v = some w ∧ aa.t.R s.Dst w := by obtain ⟨c5, c6, h0, hc5, hc6⟩ := h; subst h0; exact ⟨_, rfl, rfl⟩
theorem aq.g_Register {s v} (h : aq.t.R s v) : fieldR 3 1 false v = some (vi s.Register) := by obtain ⟨_, _, rfl, _⟩ := h; rfl
theorem aq.g_Header {s v} (h : aq.t.R s v) : fieldR 4 1 false v = some (vi s.Header) := by obtain ⟨_, _, rfl, _⟩ := h; rfl
theorem aq.g_Index {s v} (h : aq.t.R s v) : ∃ w, fieldR 5 1 false v = some w ∧ (tSl ae.t).R s.Index w := by obtain ⟨_, _, rfl, q, _⟩ := h; exact ⟨_, mk1 (TR.agg _ q), q⟩
theorem aq.g_Value {s v} (h : aq.t.R s v) : ∃ w, fieldR 6 1 false v = some w ∧ (tSl ae.t).R s.Value w := by obtain ⟨_, _, rfl, _, q⟩ := h; exact ⟨_, mk1 (TR.agg _ q), q⟩
structure bc where
 Name : List UInt8
 Params : List ay
 Body : List aq
 deriving Inhabited, DecidableEq
def bc.R : bc → PV → Prop := fun s v => ∃ c1, ∃ c2, v = .agg [vs s.Name, c1, c2] ∧ (tSl ay.t).R s.Params c1 ∧ (tSl aq.t).R s.Body c2
def bc.t : TR bc := ⟨bc.R, 3, true, fun h => by obtain ⟨c1, c2, h0, hc1, hc2⟩ := h; subst h0; rfl, fun h => by obtain ⟨c1, c2, h0, hc1, hc2⟩ := h; subst h0; rfl, fun h => by obtain ⟨c1, c2, h0, hc1, hc2⟩ := h; subst h0; simp [closed, closedL, TR.clo _ hc1, TR.clo _ hc2]⟩
theorem bc.g_Name {s v} (h : bc.t.R s v) : fieldR 0 1 false v = some (vs s.Name) := by obtain ⟨_, _, rfl, _⟩ := h; rfl
theorem bc.g_Params {s v} (h : bc.t.R s v) : ∃ w, fieldR 1 1 false v = some w ∧ (tSl ay.t).R s.Params w := by obtain ⟨_, _, rfl, q, _⟩ := h; exact ⟨_, mk1 (TR.agg _ q), q⟩
theorem bc.g_Body {s v} (h : bc.t.R s v) : ∃ w, fieldR 2 1 false v = some w ∧ (tSl aq.t).R s.Body w := by obtain ⟨_, _, rfl, _, q⟩ := h; exact ⟨_, mk1 (TR.agg _ q), q⟩
structure fg where
 Value : BitVec 32
 Mask : BitVec 32
 Next : Int
 deriving Inhabited, DecidableEq
def fg.R : fg → PV → Prop := fun s v => v = .agg [sj s.Value, sj s.Mask, vi s.Next]
def fg.t : TR fg := ⟨fg.R, 3, true, fun h => by have h0 : _ = _ := h; subst h0; rfl, fun h => by have h0 : _ = _ := h; subst h0; rfl, fun h => by have h0 : _ = _ := h; subst h0; simp [closed, closedL]⟩
theorem fg.g_Value {s v} (h : fg.t.R s v) : fieldR 0 1 false v = some (sj s.Value) := by cases h; rfl
structure bm where
 Name : List UInt8
 Extract : List Int
 Select : Bool
 On : aa
 Cases : List fg
 Default : Int
 deriving Inhabited, DecidableEq
def bm.R : bm → PV → Prop := fun s v => ∃ c1, ∃ c5, v = .agg [vs s.Name, c1, vb s.Select, vi s.On.Header, vi s.On.Field, c5, vi s.Default] ∧ (tSl tI).R s.Extract c1 ∧ (tSl fg.t).R s.Cases c5
def bm.t : TR bm := ⟨bm.R, 7, true, fun h => by obtain ⟨c1, c5, h0, hc1, hc5⟩ := h; subst h0; rfl, fun h => by obtain ⟨c1, c5, h0, hc1, hc5⟩ := h; subst h0; rfl, fun h => by obtain ⟨c1, c5, h0, hc1, hc5⟩ := h; subst h0; simp [closed, closedL, TR.clo _ hc1, TR.clo _ hc5]⟩
theorem bm.g_Name {s v} (h : bm.t.R s v) : fieldR 0 1 false v = some (vs s.Name) := by obtain ⟨_, _, rfl, _⟩ := h; rfl
theorem bm.g_Extract {s v} (h : bm.t.R s v) : ∃ w, fieldR 1 1 false v = some w ∧ (tSl tI).R s.Extract w := by obtain ⟨_, _, rfl, q, _⟩ := h; exact ⟨_, mk1 (TR.agg _ q), q⟩
theorem bm.g_Cases {s v} (h : bm.t.R s v) : ∃ w, fieldR 5 1 false v = some w ∧ (tSl fg.t).R s.Cases w := by obtain ⟨_, _, rfl, _, q⟩ := h; exact ⟨_, mk1 (TR.agg _ q), q⟩
theorem bm.g_Default {s v} (h : bm.t.R s v) : fieldR 6 1 false v = some (vi s.Default) := by obtain ⟨_, _, rfl, _⟩ := h; rfl
structure cg where
 Name : List UInt8
 Width : Int
 Size : Int
 deriving Inhabited, DecidableEq
def cg.R : cg → PV → Prop := fun s v => v = .agg [vs s.Name, vi s.Width, vi s.Size]
def cg.t : TR cg := ⟨cg.R, 3, true, fun h => by have h0 : _ = _ := h; subst h0; rfl, fun h => by have h0 : _ = _ := h; subst h0; rfl, fun h => by have h0 : _ = _ := h; subst h0; simp [closed, closedL]⟩
theorem cg.g_Name {s v} (h : cg.t.R s v) : fieldR 0 1 false v = some (vs s.Name) := by cases h; rfl
theorem cg.g_Width {s v} (h : cg.t.R s v) : fieldR 1 1 false v = some (vi s.Width) := by cases h; rfl
theorem cg.g_Size {s v} (h : cg.t.R s v) : fieldR 2 1 false v = some (vi s.Size) := by cases h; rfl
structure ee where
 Field : aa
 Kind : Int
 deriving Inhabited, DecidableEq
def ee.R : ee → PV → Prop := fun s v => v = .agg [vi s.Field.Header, vi s.Field.Field, vi s.Kind]
def ee.t : TR ee := ⟨ee.R, 3, true, fun h => by have h0 : _ = _ := h; subst h0; rfl, fun h => by have h0 : _ = _ := h; subst h0; rfl, fun h => by have h0 : _ = _ := h; subst h0; simp [closed, closedL]⟩
theorem ee.g_Field {s : ee} {v : PV} (h : ee.t.R s v) : ∃ w, fieldR 0 2 true v = some w ∧ aa.t.R s.Field w := by have h0 : _ = _ := h; subst h0; exact ⟨_, rfl, rfl⟩
theorem ee.g_Kind {s v} (h : ee.t.R s v) : fieldR 2 1 false v = some (vi s.Kind) := by cases h; rfl
structure fh where
 Action : Int
 Args : List (BitVec 32)
 deriving Inhabited, DecidableEq
def fh.R : fh → PV → Prop := fun s v => ∃ c1, v = .agg [vi s.Action, c1] ∧ (tSl bi6).R s.Args c1
def fh.t : TR fh := ⟨fh.R, 2, true, fun h => by obtain ⟨c1, h0, hc1⟩ := h; subst h0; rfl, fun h => by obtain ⟨c1, h0, hc1⟩ := h; subst h0; rfl, fun h => by obtain ⟨c1, h0, hc1⟩ := h; subst h0; simp [closed, closedL, TR.clo _ hc1]⟩
theorem fh.g_Args {s v} (h : fh.t.R s v) : ∃ w, fieldR 1 1 false v = some w ∧ (tSl bi6).R s.Args w := by obtain ⟨_, rfl, q⟩ := h; exact ⟨_, mk1 (TR.agg _ q), q⟩
structure bh where
 Name : List UInt8
 Keys : List ee
 Actions : List Int
 Default : fh
 Size : Int
 deriving Inhabited, DecidableEq
def bh.R : bh → PV → Prop := fun s v => ∃ c1, ∃ c2, ∃ c4, v = .agg [vs s.Name, c1, c2, vi s.Default.Action, c4, vi s.Size] ∧ (tSl ee.t).R s.Keys c1 ∧ (tSl tI).R s.Actions c2 ∧ (tSl bi6).R s.Default.Args c4
def bh.t : TR bh := ⟨bh.R, 6, true, fun h => by obtain ⟨c1, c2, c4, h0, hc1, hc2, hc4⟩ := h; subst h0; rfl, fun h => by obtain ⟨c1, c2, c4, h0, hc1, hc2, hc4⟩ := h; subst h0; rfl, fun h => by obtain ⟨c1, c2, c4, h0, hc1, hc2, hc4⟩ := h; subst h0; simp [closed, closedL, TR.clo _ hc1, TR.clo _ hc2, TR.clo _ hc4]⟩
theorem bh.g_Name {s v} (h : bh.t.R s v) : fieldR 0 1 false v = some (vs s.Name) := by obtain ⟨_, _, _, rfl, _⟩ := h; rfl
theorem bh.g_Keys {s v} (h : bh.t.R s v) : ∃ w, fieldR 1 1 false v = some w ∧ (tSl ee.t).R s.Keys w := by obtain ⟨_, _, _, rfl, q, _⟩ := h; exact ⟨_, mk1 (TR.agg _ q), q⟩
theorem bh.g_Actions {s v} (h : bh.t.R s v) : ∃ w, fieldR 2 1 false v = some w ∧ (tSl tI).R s.Actions w := by obtain ⟨_, _, _, rfl, _, q, _⟩ := h; exact ⟨_, mk1 (TR.agg _ q), q⟩
theorem bh.g_Default {s : bh} {v : PV} (h : bh.t.R s v) : ∃ w, fieldR 3 2 true v = some w ∧ fh.t.R s.Default w := by obtain ⟨c1, c2, c4, h0, hc1, hc2, hc4⟩ := h; subst h0; exact ⟨_, rfl, ⟨c4, rfl, hc4⟩⟩
theorem bh.g_Size {s v} (h : bh.t.R s v) : fieldR 5 1 false v = some (vi s.Size) := by obtain ⟨_, _, _, rfl, _⟩ := h; rfl
structure ab where
 Name : List UInt8
 Headers : List bg
 Metadata : List ay
 Registers : List cg
 Actions : List bc
 Tables : List bh
 States : List bm
 Control : List aj
 Deparser : List Int
 deriving Inhabited
def ab.R : ab → PV → Prop := fun s v => ∃ c1, ∃ c2, ∃ c3, ∃ c4, ∃ c5, ∃ c6, ∃ c7, ∃ c8, v = .agg [vs s.Name, c1, c2, c3, c4, c5, c6, c7, c8] ∧ (tSl bg.t).R s.Headers c1 ∧ (tSl ay.t).R s.Metadata c2 ∧ (tSl cg.t).R s.Registers c3 ∧ (tSl bc.t).R s.Actions c4 ∧ (tSl bh.t).R s.Tables c5 ∧ (tSl bm.t).R s.States c6 ∧ (tSl aj.t).R s.Control c7 ∧ (tSl tI).R s.Deparser c8
def ab.t : TR ab := ⟨ab.R, 9, true, fun h => by obtain ⟨c1, c2, c3, c4, c5, c6, c7, c8, h0, hc1, hc2, hc3, hc4, hc5, hc6, hc7, hc8⟩ := h; subst h0; rfl, fun h => by obtain ⟨c1, c2, c3, c4, c5, c6, c7, c8, h0, hc1, hc2, hc3, hc4, hc5, hc6, hc7, hc8⟩ := h; subst h0; rfl, fun h => by obtain ⟨c1, c2, c3, c4, c5, c6, c7, c8, h0, hc1, hc2, hc3, hc4, hc5, hc6, hc7, hc8⟩ := h; subst h0; simp [closed, closedL, TR.clo _ hc1, TR.clo _ hc2, TR.clo _ hc3, TR.clo _ hc4, TR.clo _ hc5, TR.clo _ hc6, TR.clo _ hc7, TR.clo _ hc8]⟩
theorem ab.g_Name {s v} (h : ab.t.R s v) : fieldR 0 1 false v = some (vs s.Name) := by obtain ⟨_, _, _, _, _, _, _, _, rfl, _⟩ := h; rfl
theorem ab.g_Headers {s v} (h : ab.t.R s v) : ∃ w, fieldR 1 1 false v = some w ∧ (tSl bg.t).R s.Headers w := by obtain ⟨_, _, _, _, _, _, _, _, rfl, q, _⟩ := h; exact ⟨_, mk1 (TR.agg _ q), q⟩
theorem ab.g_Metadata {s v} (h : ab.t.R s v) : ∃ w, fieldR 2 1 false v = some w ∧ (tSl ay.t).R s.Metadata w := by obtain ⟨_, _, _, _, _, _, _, _, rfl, _, q, _⟩ := h; exact ⟨_, mk1 (TR.agg _ q), q⟩
theorem ab.g_Registers {s v} (h : ab.t.R s v) : ∃ w, fieldR 3 1 false v = some w ∧ (tSl cg.t).R s.Registers w := by obtain ⟨_, _, _, _, _, _, _, _, rfl, _, _, q, _⟩ := h; exact ⟨_, mk1 (TR.agg _ q), q⟩
theorem ab.g_Actions {s v} (h : ab.t.R s v) : ∃ w, fieldR 4 1 false v = some w ∧ (tSl bc.t).R s.Actions w := by obtain ⟨_, _, _, _, _, _, _, _, rfl, _, _, _, q, _⟩ := h; exact ⟨_, mk1 (TR.agg _ q), q⟩
theorem ab.g_Tables {s v} (h : ab.t.R s v) : ∃ w, fieldR 5 1 false v = some w ∧ (tSl bh.t).R s.Tables w := by obtain ⟨_, _, _, _, _, _, _, _, rfl, _, _, _, _, q, _⟩ := h; exact ⟨_, mk1 (TR.agg _ q), q⟩
theorem ab.g_States {s v} (h : ab.t.R s v) : ∃ w, fieldR 6 1 false v = some w ∧ (tSl bm.t).R s.States w := by obtain ⟨_, _, _, _, _, _, _, _, rfl, _, _, _, _, _, q, _⟩ := h; exact ⟨_, mk1 (TR.agg _ q), q⟩
theorem ab.g_Control {s v} (h : ab.t.R s v) : ∃ w, fieldR 7 1 false v = some w ∧ (tSl aj.t).R s.Control w := by obtain ⟨_, _, _, _, _, _, _, _, rfl, _, _, _, _, _, _, q, _⟩ := h; exact ⟨_, mk1 (TR.agg _ q), q⟩
theorem ab.g_Deparser {s v} (h : ab.t.R s v) : ∃ w, fieldR 8 1 false v = some w ∧ (tSl tI).R s.Deparser w := by obtain ⟨_, _, _, _, _, _, _, _, rfl, _, _, _, _, _, _, _, q⟩ := h; exact ⟨_, mk1 (TR.agg _ q), q⟩
structure ai where
 p : ab
 cells : List Int
 deriving Inhabited
def ai.R : ai → PV → Prop := fun s v => ∃ c1, ∃ c2, ∃ c3, ∃ c4, ∃ c5, ∃ c6, ∃ c7, ∃ c8, ∃ c9, v = .agg [vs s.p.Name, c1, c2, c3, c4, c5, c6, c7, c8, c9] ∧ (tSl bg.t).R s.p.Headers c1 ∧ (tSl ay.t).R s.p.Metadata c2 ∧ (tSl cg.t).R s.p.Registers c3 ∧ (tSl bc.t).R s.p.Actions c4 ∧ (tSl bh.t).R s.p.Tables c5 ∧ (tSl bm.t).R s.p.States c6 ∧ (tSl aj.t).R s.p.Control c7 ∧ (tSl tI).R s.p.Deparser c8 ∧ (tSl tI).R s.cells c9
def ai.t : TR ai := ⟨ai.R, 10, true, fun h => by obtain ⟨c1, c2, c3, c4, c5, c6, c7, c8, c9, h0, hc1, hc2, hc3, hc4, hc5, hc6, hc7, hc8, hc9⟩ := h; subst h0; rfl, fun h => by obtain ⟨c1, c2, c3, c4, c5, c6, c7, c8, c9, h0, hc1, hc2, hc3, hc4, hc5, hc6, hc7, hc8, hc9⟩ := h; subst h0; rfl, fun h => by obtain ⟨c1, c2, c3, c4, c5, c6, c7, c8, c9, h0, hc1, hc2, hc3, hc4, hc5, hc6, hc7, hc8, hc9⟩ := h; subst h0; simp [closed, closedL, TR.clo _ hc1, TR.clo _ hc2, TR.clo _ hc3, TR.clo _ hc4, TR.clo _ hc5, TR.clo _ hc6, TR.clo _ hc7, TR.clo _ hc8, TR.clo _ hc9]⟩
structure ng where
 Unit : Int
 Want : Bool
 deriving Inhabited, DecidableEq
def ng.R : ng → PV → Prop := fun s v => v = .agg [vi s.Unit, vb s.Want]
def ng.t : TR ng := ⟨ng.R, 2, true, fun h => by have h0 : _ = _ := h; subst h0; rfl, fun h => by have h0 : _ = _ := h; subst h0; rfl, fun h => by have h0 : _ = _ := h; subst h0; simp [closed, closedL]⟩
structure ct where
 Table : Int
 Cond : List ae
 Guards : List ng
 deriving Inhabited, DecidableEq
def ct.R : ct → PV → Prop := fun s v => ∃ c1, ∃ c2, v = .agg [vi s.Table, c1, c2] ∧ (tSl ae.t).R s.Cond c1 ∧ (tSl ng.t).R s.Guards c2
def ct.t : TR ct := ⟨ct.R, 3, true, fun h => by obtain ⟨c1, c2, h0, hc1, hc2⟩ := h; subst h0; rfl, fun h => by obtain ⟨c1, c2, h0, hc1, hc2⟩ := h; subst h0; rfl, fun h => by obtain ⟨c1, c2, h0, hc1, hc2⟩ := h; subst h0; simp [closed, closedL, TR.clo _ hc1, TR.clo _ hc2]⟩
theorem ct.g_Table {s v} (h : ct.t.R s v) : fieldR 0 1 false v = some (vi s.Table) := by obtain ⟨_, _, rfl, _⟩ := h; rfl
theorem ct.g_Cond {s v} (h : ct.t.R s v) : ∃ w, fieldR 1 1 false v = some w ∧ (tSl ae.t).R s.Cond w := by obtain ⟨_, _, rfl, q, _⟩ := h; exact ⟨_, mk1 (TR.agg _ q), q⟩
structure av where
 Program : ab
 Params : List ay
 deriving Inhabited
def av.R : av → PV → Prop := fun s v => ∃ c1, ∃ c2, ∃ c3, ∃ c4, ∃ c5, ∃ c6, ∃ c7, ∃ c8, ∃ c9, v = .agg [vs s.Program.Name, c1, c2, c3, c4, c5, c6, c7, c8, c9] ∧ (tSl bg.t).R s.Program.Headers c1 ∧ (tSl ay.t).R s.Program.Metadata c2 ∧ (tSl cg.t).R s.Program.Registers c3 ∧ (tSl bc.t).R s.Program.Actions c4 ∧ (tSl bh.t).R s.Program.Tables c5 ∧ (tSl bm.t).R s.Program.States c6 ∧ (tSl aj.t).R s.Program.Control c7 ∧ (tSl tI).R s.Program.Deparser c8 ∧ (tSl ay.t).R s.Params c9
def av.t : TR av := ⟨av.R, 10, true, fun h => by obtain ⟨c1, c2, c3, c4, c5, c6, c7, c8, c9, h0, hc1, hc2, hc3, hc4, hc5, hc6, hc7, hc8, hc9⟩ := h; subst h0; rfl, fun h => by obtain ⟨c1, c2, c3, c4, c5, c6, c7, c8, c9, h0, hc1, hc2, hc3, hc4, hc5, hc6, hc7, hc8, hc9⟩ := h; subst h0; rfl, fun h => by obtain ⟨c1, c2, c3, c4, c5, c6, c7, c8, c9, h0, hc1, hc2, hc3, hc4, hc5, hc6, hc7, hc8, hc9⟩ := h; subst h0; simp [closed, closedL, TR.clo _ hc1, TR.clo _ hc2, TR.clo _ hc3, TR.clo _ hc4, TR.clo _ hc5, TR.clo _ hc6, TR.clo _ hc7, TR.clo _ hc8, TR.clo _ hc9]⟩
theorem av.g_Program {s : av} {v : PV} (h : av.t.R s v) : ∃ w, fieldR 0 9 true v = some w ∧ ab.t.R s.Program w := by obtain ⟨c1, c2, c3, c4, c5, c6, c7, c8, c9, h0, hc1, hc2, hc3, hc4, hc5, hc6, hc7, hc8, hc9⟩ := h; subst h0; exact ⟨_, rfl, ⟨c1, c2, c3, c4, c5, c6, c7, c8, rfl, hc1, hc2, hc3, hc4, hc5, hc6, hc7, hc8⟩⟩
theorem av.g_Params {s v} (h : av.t.R s v) : ∃ w, fieldR 9 1 false v = some w ∧ (tSl ay.t).R s.Params w := by obtain ⟨_, _, _, _, _, _, _, _, _, rfl, _, _, _, _, _, _, _, _, q⟩ := h; exact ⟨_, mk1 (TR.agg _ q), q⟩
structure db where
 scope : av
 deriving Inhabited
def db.R : db → PV → Prop := fun s v => ∃ c1, ∃ c2, ∃ c3, ∃ c4, ∃ c5, ∃ c6, ∃ c7, ∃ c8, ∃ c9, v = .agg [vs s.scope.Program.Name, c1, c2, c3, c4, c5, c6, c7, c8, c9] ∧ (tSl bg.t).R s.scope.Program.Headers c1 ∧ (tSl ay.t).R s.scope.Program.Metadata c2 ∧ (tSl cg.t).R s.scope.Program.Registers c3 ∧ (tSl bc.t).R s.scope.Program.Actions c4 ∧ (tSl bh.t).R s.scope.Program.Tables c5 ∧ (tSl bm.t).R s.scope.Program.States c6 ∧ (tSl aj.t).R s.scope.Program.Control c7 ∧ (tSl tI).R s.scope.Program.Deparser c8 ∧ (tSl ay.t).R s.scope.Params c9
def db.t : TR db := ⟨db.R, 10, true, fun h => by obtain ⟨c1, c2, c3, c4, c5, c6, c7, c8, c9, h0, hc1, hc2, hc3, hc4, hc5, hc6, hc7, hc8, hc9⟩ := h; subst h0; rfl, fun h => by obtain ⟨c1, c2, c3, c4, c5, c6, c7, c8, c9, h0, hc1, hc2, hc3, hc4, hc5, hc6, hc7, hc8, hc9⟩ := h; subst h0; rfl, fun h => by obtain ⟨c1, c2, c3, c4, c5, c6, c7, c8, c9, h0, hc1, hc2, hc3, hc4, hc5, hc6, hc7, hc8, hc9⟩ := h; subst h0; simp [closed, closedL, TR.clo _ hc1, TR.clo _ hc2, TR.clo _ hc3, TR.clo _ hc4, TR.clo _ hc5, TR.clo _ hc6, TR.clo _ hc7, TR.clo _ hc8, TR.clo _ hc9]⟩
theorem db.g_scope {s : db} {v : PV} (h : db.t.R s v) : ∃ w, fieldR 0 10 true v = some w ∧ av.t.R s.scope w := by obtain ⟨c1, c2, c3, c4, c5, c6, c7, c8, c9, h0, hc1, hc2, hc3, hc4, hc5, hc6, hc7, hc8, hc9⟩ := h; subst h0; exact ⟨_, rfl, ⟨c1, c2, c3, c4, c5, c6, c7, c8, c9, rfl, hc1, hc2, hc3, hc4, hc5, hc6, hc7, hc8, hc9⟩⟩
structure bq where
 fields : List aa
 headers : List Int
 registers : List Int
 deriving Inhabited, DecidableEq
def bq.R : bq → PV → Prop := fun s v => ∃ c0, ∃ c1, ∃ c2, v = .agg [c0, c1, c2] ∧ (tSl aa.t).R s.fields c0 ∧ (tSl tI).R s.headers c1 ∧ (tSl tI).R s.registers c2
def bq.t : TR bq := ⟨bq.R, 3, true, fun h => by obtain ⟨c0, c1, c2, h0, hc0, hc1, hc2⟩ := h; subst h0; rfl, fun h => by obtain ⟨c0, c1, c2, h0, hc0, hc1, hc2⟩ := h; subst h0; rfl, fun h => by obtain ⟨c0, c1, c2, h0, hc0, hc1, hc2⟩ := h; subst h0; simp [closed, closedL, TR.clo _ hc0, TR.clo _ hc1, TR.clo _ hc2]⟩
structure am where
 Fields : List aa
 Headers : List Int
 Registers : List Int
 deriving Inhabited, DecidableEq
def am.R : am → PV → Prop := fun s v => ∃ c0, ∃ c1, ∃ c2, v = .agg [c0, c1, c2] ∧ (tSl aa.t).R s.Fields c0 ∧ (tSl tI).R s.Headers c1 ∧ (tSl tI).R s.Registers c2
def am.t : TR am := ⟨am.R, 3, true, fun h => by obtain ⟨c0, c1, c2, h0, hc0, hc1, hc2⟩ := h; subst h0; rfl, fun h => by obtain ⟨c0, c1, c2, h0, hc0, hc1, hc2⟩ := h; subst h0; rfl, fun h => by obtain ⟨c0, c1, c2, h0, hc0, hc1, hc2⟩ := h; subst h0; simp [closed, closedL, TR.clo _ hc0, TR.clo _ hc1, TR.clo _ hc2]⟩
theorem am.g_Fields {s v} (h : am.t.R s v) : ∃ w, fieldR 0 1 false v = some w ∧ (tSl aa.t).R s.Fields w := by obtain ⟨_, _, _, rfl, q, _⟩ := h; exact ⟨_, mk1 (TR.agg _ q), q⟩
theorem am.g_Headers {s v} (h : am.t.R s v) : ∃ w, fieldR 1 1 false v = some w ∧ (tSl tI).R s.Headers w := by obtain ⟨_, _, _, rfl, _, q, _⟩ := h; exact ⟨_, mk1 (TR.agg _ q), q⟩
theorem am.g_Registers {s v} (h : am.t.R s v) : ∃ w, fieldR 2 1 false v = some w ∧ (tSl tI).R s.Registers w := by obtain ⟨_, _, _, rfl, _, _, q⟩ := h; exact ⟨_, mk1 (TR.agg _ q), q⟩
theorem aa.eql_87 {ox oy : Operand} {a b : aa} {va vb' : PV} (ha : aa.t.R a va) (hb : aa.t.R b vb') : binF Tryz.prog .eql 87 ox oy va vb' = some (vb (decide (a = b))) := by
 have ha : va = _ := ha; have hb : vb' = _ := hb; subst ha; subst hb
 rw [bq4 Tryz.underlying87 (by kernel_rfl) (by kernel_rfl) Tryz.underlying3 Tryz.underlying3 rfl rfl (by decide) (by decide)]
 cases a; cases b; simp only [Option.some.injEq, PV.sc.injEq, Value.bool.injEq]; rw [Bool.eq_iff_iff]; simp [aa.mk.injEq, qr, BitVec.toNat_inj]
theorem aa.neq_87 {ox oy : Operand} {a b : aa} {va vb' : PV} (ha : aa.t.R a va) (hb : aa.t.R b vb') : binF Tryz.prog .neq 87 ox oy va vb' = some (vb (!decide (a = b))) := by
 have ha : va = _ := ha; have hb : vb' = _ := hb; subst ha; subst hb
 rw [bp9 Tryz.underlying87 (by kernel_rfl) (by kernel_rfl) Tryz.underlying3 Tryz.underlying3 rfl rfl (by decide) (by decide)]
 cases a; cases b; simp only [Option.some.injEq, PV.sc.injEq, Value.bool.injEq, Bool.not_eq_not]; rw [Bool.eq_iff_iff]; simp [aa.mk.injEq, qr, BitVec.toNat_inj]
end Go.Proofs.YtmonnlkagniolaaGreat
