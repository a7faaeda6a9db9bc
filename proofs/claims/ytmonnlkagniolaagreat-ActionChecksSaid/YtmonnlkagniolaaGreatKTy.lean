import Derived.Test.YtmonnlkagniolaaGreatPbEq
import Derived.Test.YtmonnlkagniolaaGreatRows
set_option linter.unusedVariables false
set_option linter.unusedSimpArgs false
set_option maxRecDepth 100000
namespace Go.Proofs.YtmonnlkagniolaaGreat
open Go Go.Pb Go.RowKit
structure ay where
 Name : List UInt8
 Width : Int
 deriving Inhabited, DecidableEq
def ay.R : ay → PV → Prop := fun s v => v = .agg [vs s.Name, vi s.Width]
def ay.t : TR ay := ⟨ay.R, 2, true, fun h => by have h0 : _ = _ := h; subst h0; rfl, fun h => by have h0 : _ = _ := h; subst h0; rfl, fun h => by have h0 : _ = _ := h; subst h0; simp [closed, closedL]⟩
theorem ay.g_Name {s v} (h : ay.t.R s v) : fieldR 0 1 false v = some (vs s.Name) := by cases h; rfl
theorem ay.g_Width {s v} (h : ay.t.R s v) : fieldR 1 1 false v = some (vi s.Width) := by cases h; rfl
structure cy where
 Name : List UInt8
 Fields : List ay
 deriving Inhabited, DecidableEq
def cy.R : cy → PV → Prop := fun s v => ∃ c1, v = .agg [vs s.Name, c1] ∧ (tSl ay.t).R s.Fields c1
def cy.t : TR cy := ⟨cy.R, 2, true, fun h => by obtain ⟨c1, h0, hc1⟩ := h; subst h0; rfl, fun h => by obtain ⟨c1, h0, hc1⟩ := h; subst h0; rfl, fun h => by obtain ⟨c1, h0, hc1⟩ := h; subst h0; simp [closed, closedL, TR.clo _ hc1]⟩
theorem cy.g_Name {s v} (h : cy.t.R s v) : fieldR 0 1 false v = some (vs s.Name) := by obtain ⟨_, rfl, _⟩ := h; rfl
theorem cy.g_Fields {s v} (h : cy.t.R s v) : ∃ w, fieldR 1 1 false v = some w ∧ (tSl ay.t).R s.Fields w := by obtain ⟨_, rfl, q⟩ := h; exact ⟨_, mk1 (TR.agg _ q), q⟩
structure cx where
 Name : List UInt8
 Width : Int
 Size : Int
 deriving Inhabited, DecidableEq
def cx.R : cx → PV → Prop := fun s v => v = .agg [vs s.Name, vi s.Width, vi s.Size]
def cx.t : TR cx := ⟨cx.R, 3, true, fun h => by have h0 : _ = _ := h; subst h0; rfl, fun h => by have h0 : _ = _ := h; subst h0; rfl, fun h => by have h0 : _ = _ := h; subst h0; simp [closed, closedL]⟩
theorem cx.g_Name {s v} (h : cx.t.R s v) : fieldR 0 1 false v = some (vs s.Name) := by cases h; rfl
theorem cx.g_Width {s v} (h : cx.t.R s v) : fieldR 1 1 false v = some (vi s.Width) := by cases h; rfl
theorem cx.g_Size {s v} (h : cx.t.R s v) : fieldR 2 1 false v = some (vi s.Size) := by cases h; rfl
structure aa where
 Header : Int
 Field : Int
 deriving Inhabited, DecidableEq
def aa.R : aa → PV → Prop := fun s v => v = .agg [vi s.Header, vi s.Field]
def aa.t : TR aa := ⟨aa.R, 2, true, fun h => by have h0 : _ = _ := h; subst h0; rfl, fun h => by have h0 : _ = _ := h; subst h0; rfl, fun h => by have h0 : _ = _ := h; subst h0; simp [closed, closedL]⟩
theorem aa.g_Header {s v} (h : aa.t.R s v) : fieldR 0 1 false v = some (vi s.Header) := by cases h; rfl
theorem aa.g_Field {s v} (h : aa.t.R s v) : fieldR 1 1 false v = some (vi s.Field) := by cases h; rfl
structure ab where
 Op : Int
 N : Int
 W : Int
 deriving Inhabited, DecidableEq
def ab.R : ab → PV → Prop := fun s v => v = .agg [vi s.Op, vi s.N, vi s.W]
def ab.t : TR ab := ⟨ab.R, 3, true, fun h => by have h0 : _ = _ := h; subst h0; rfl, fun h => by have h0 : _ = _ := h; subst h0; rfl, fun h => by have h0 : _ = _ := h; subst h0; simp [closed, closedL]⟩
theorem ab.g_Op {s v} (h : ab.t.R s v) : fieldR 0 1 false v = some (vi s.Op) := by cases h; rfl
theorem ab.g_N {s v} (h : ab.t.R s v) : fieldR 1 1 false v = some (vi s.N) := by cases h; rfl
theorem ab.g_W {s v} (h : ab.t.R s v) : fieldR 2 1 false v = some (vi s.W) := by cases h; rfl
structure aj where
 Kind : Int
 Dst : aa
 Register : Int
 Header : Int
 Index : List ab
 Value : List ab
 deriving Inhabited, DecidableEq
def aj.R : aj → PV → Prop := fun s v => ∃ c5, ∃ c6, v = .agg [vi s.Kind, vi s.Dst.Header, vi s.Dst.Field, vi s.Register, vi s.Header, c5, c6] ∧ (tSl ab.t).R s.Index c5 ∧ (tSl ab.t).R s.Value c6
def aj.t : TR aj := ⟨aj.R, 7, true, fun h => by obtain ⟨c5, c6, h0, hc5, hc6⟩ := h; subst h0; rfl, fun h => by obtain ⟨c5, c6, h0, hc5, hc6⟩ := h; subst h0; rfl, fun h => by obtain ⟨c5, c6, h0, hc5, hc6⟩ := h; subst h0; simp [closed, closedL, TR.clo _ hc5, TR.clo _ hc6]⟩
theorem aj.g_Kind {s v} (h : aj.t.R s v) : fieldR 0 1 false v = some (vi s.Kind) := by obtain ⟨_, _, rfl, _⟩ := h; rfl
theorem aj.g_Dst {s : aj} {v : PV} (h : aj.t.R s v) : ∃ w, fieldR 1 2 true v = some w ∧ aa.t.R s.Dst w := by obtain ⟨c5, c6, h0, hc5, hc6⟩ := h; subst h0; exact ⟨_, rfl, rfl⟩
theorem aj.g_Register {s v} (h : aj.t.R s v) : fieldR 3 1 false v = some (vi s.Register) := by obtain ⟨_, _, rfl, _⟩ := h; rfl
theorem aj.g_Header {s v} (h : aj.t.R s v) : fieldR 4 1 false v = some (vi s.Header) := by obtain ⟨_, _, rfl, _⟩ := h; rfl
theorem aj.g_Index {s v} (h : aj.t.R s v) : ∃ w, fieldR 5 1 false v = some w ∧ (tSl ab.t).R s.Index w := by obtain ⟨_, _, rfl, q, _⟩ := h; exact ⟨_, mk1 (TR.agg _ q), q⟩
theorem aj.g_Value {s v} (h : aj.t.R s v) : ∃ w, fieldR 6 1 false v = some w ∧ (tSl ab.t).R s.Value w := by obtain ⟨_, _, rfl, _, q⟩ := h; exact ⟨_, mk1 (TR.agg _ q), q⟩
structure bg where
 Name : List UInt8
 Params : List ay
 Body : List aj
 deriving Inhabited, DecidableEq
def bg.R : bg → PV → Prop := fun s v => ∃ c1, ∃ c2, v = .agg [vs s.Name, c1, c2] ∧ (tSl ay.t).R s.Params c1 ∧ (tSl aj.t).R s.Body c2
def bg.t : TR bg := ⟨bg.R, 3, true, fun h => by obtain ⟨c1, c2, h0, hc1, hc2⟩ := h; subst h0; rfl, fun h => by obtain ⟨c1, c2, h0, hc1, hc2⟩ := h; subst h0; rfl, fun h => by obtain ⟨c1, c2, h0, hc1, hc2⟩ := h; subst h0; simp [closed, closedL, TR.clo _ hc1, TR.clo _ hc2]⟩
theorem bg.g_Name {s v} (h : bg.t.R s v) : fieldR 0 1 false v = some (vs s.Name) := by obtain ⟨_, _, rfl, _⟩ := h; rfl
theorem bg.g_Params {s v} (h : bg.t.R s v) : ∃ w, fieldR 1 1 false v = some w ∧ (tSl ay.t).R s.Params w := by obtain ⟨_, _, rfl, q, _⟩ := h; exact ⟨_, mk1 (TR.agg _ q), q⟩
theorem bg.g_Body {s v} (h : bg.t.R s v) : ∃ w, fieldR 2 1 false v = some w ∧ (tSl aj.t).R s.Body w := by obtain ⟨_, _, rfl, _, q⟩ := h; exact ⟨_, mk1 (TR.agg _ q), q⟩
structure ff where
 Field : aa
 Kind : Int
 deriving Inhabited, DecidableEq
def ff.R : ff → PV → Prop := fun s v => v = .agg [vi s.Field.Header, vi s.Field.Field, vi s.Kind]
def ff.t : TR ff := ⟨ff.R, 3, true, fun h => by have h0 : _ = _ := h; subst h0; rfl, fun h => by have h0 : _ = _ := h; subst h0; rfl, fun h => by have h0 : _ = _ := h; subst h0; simp [closed, closedL]⟩
theorem ff.g_Field {s : ff} {v : PV} (h : ff.t.R s v) : ∃ w, fieldR 0 2 true v = some w ∧ aa.t.R s.Field w := by have h0 : _ = _ := h; subst h0; exact ⟨_, rfl, rfl⟩
theorem ff.g_Kind {s v} (h : ff.t.R s v) : fieldR 2 1 false v = some (vi s.Kind) := by cases h; rfl
structure bb where
 Action : Int
 Args : List (BitVec 32)
 deriving Inhabited, DecidableEq
def bb.R : bb → PV → Prop := fun s v => ∃ c1, v = .agg [vi s.Action, c1] ∧ (tSl aj6).R s.Args c1
def bb.t : TR bb := ⟨bb.R, 2, true, fun h => by obtain ⟨c1, h0, hc1⟩ := h; subst h0; rfl, fun h => by obtain ⟨c1, h0, hc1⟩ := h; subst h0; rfl, fun h => by obtain ⟨c1, h0, hc1⟩ := h; subst h0; simp [closed, closedL, TR.clo _ hc1]⟩
theorem bb.g_Action {s v} (h : bb.t.R s v) : fieldR 0 1 false v = some (vi s.Action) := by obtain ⟨_, rfl, _⟩ := h; rfl
theorem bb.g_Args {s v} (h : bb.t.R s v) : ∃ w, fieldR 1 1 false v = some w ∧ (tSl aj6).R s.Args w := by obtain ⟨_, rfl, q⟩ := h; exact ⟨_, mk1 (TR.agg _ q), q⟩
structure fq where
 Name : List UInt8
 Keys : List ff
 Actions : List Int
 Default : bb
 Size : Int
 deriving Inhabited, DecidableEq
def fq.R : fq → PV → Prop := fun s v => ∃ c1, ∃ c2, ∃ c4, v = .agg [vs s.Name, c1, c2, vi s.Default.Action, c4, vi s.Size] ∧ (tSl ff.t).R s.Keys c1 ∧ (tSl tI).R s.Actions c2 ∧ (tSl aj6).R s.Default.Args c4
def fq.t : TR fq := ⟨fq.R, 6, true, fun h => by obtain ⟨c1, c2, c4, h0, hc1, hc2, hc4⟩ := h; subst h0; rfl, fun h => by obtain ⟨c1, c2, c4, h0, hc1, hc2, hc4⟩ := h; subst h0; rfl, fun h => by obtain ⟨c1, c2, c4, h0, hc1, hc2, hc4⟩ := h; subst h0; simp [closed, closedL, TR.clo _ hc1, TR.clo _ hc2, TR.clo _ hc4]⟩
theorem fq.g_Name {s v} (h : fq.t.R s v) : fieldR 0 1 false v = some (vs s.Name) := by obtain ⟨_, _, _, rfl, _⟩ := h; rfl
theorem fq.g_Actions {s v} (h : fq.t.R s v) : ∃ w, fieldR 2 1 false v = some w ∧ (tSl tI).R s.Actions w := by obtain ⟨_, _, _, rfl, _, q, _⟩ := h; exact ⟨_, mk1 (TR.agg _ q), q⟩
theorem fq.g_Default {s : fq} {v : PV} (h : fq.t.R s v) : ∃ w, fieldR 3 2 true v = some w ∧ bb.t.R s.Default w := by obtain ⟨c1, c2, c4, h0, hc1, hc2, hc4⟩ := h; subst h0; exact ⟨_, rfl, ⟨c4, rfl, hc4⟩⟩
theorem fq.g_Size {s v} (h : fq.t.R s v) : fieldR 5 1 false v = some (vi s.Size) := by obtain ⟨_, _, _, rfl, _⟩ := h; rfl
structure fi where
 Value : BitVec 32
 Mask : BitVec 32
 Next : Int
 deriving Inhabited, DecidableEq
def fi.R : fi → PV → Prop := fun s v => v = .agg [nk s.Value, nk s.Mask, vi s.Next]
def fi.t : TR fi := ⟨fi.R, 3, true, fun h => by have h0 : _ = _ := h; subst h0; rfl, fun h => by have h0 : _ = _ := h; subst h0; rfl, fun h => by have h0 : _ = _ := h; subst h0; simp [closed, closedL]⟩
theorem fi.g_Value {s v} (h : fi.t.R s v) : fieldR 0 1 false v = some (nk s.Value) := by cases h; rfl
structure dp where
 Name : List UInt8
 Extract : List Int
 Select : Bool
 On : aa
 Cases : List fi
 Default : Int
 deriving Inhabited, DecidableEq
def dp.R : dp → PV → Prop := fun s v => ∃ c1, ∃ c5, v = .agg [vs s.Name, c1, vb s.Select, vi s.On.Header, vi s.On.Field, c5, vi s.Default] ∧ (tSl tI).R s.Extract c1 ∧ (tSl fi.t).R s.Cases c5
def dp.t : TR dp := ⟨dp.R, 7, true, fun h => by obtain ⟨c1, c5, h0, hc1, hc5⟩ := h; subst h0; rfl, fun h => by obtain ⟨c1, c5, h0, hc1, hc5⟩ := h; subst h0; rfl, fun h => by obtain ⟨c1, c5, h0, hc1, hc5⟩ := h; subst h0; simp [closed, closedL, TR.clo _ hc1, TR.clo _ hc5]⟩
theorem dp.g_Name {s v} (h : dp.t.R s v) : fieldR 0 1 false v = some (vs s.Name) := by obtain ⟨_, _, rfl, _⟩ := h; rfl
theorem dp.g_Default {s v} (h : dp.t.R s v) : fieldR 6 1 false v = some (vi s.Default) := by obtain ⟨_, _, rfl, _⟩ := h; rfl
structure az where
 Kind : Int
 Table : Int
 Cond : List ab
 Then : List az
 Else : List az
 deriving Inhabited
mutual
def az.R : az → PV → Prop
 | ⟨xKind, xTable, xCond, xThen, xElse⟩, v => ∃ c2, ∃ c3, ∃ c4, v = .agg [vi xKind, vi xTable, c2, c3, c4] ∧ (tSl ab.t).R xCond c2 ∧ ((∃ es, IsSl c3 es ∧ az.Rl xThen es) ∧ xThen.length ≤ 9223372036854775807) ∧ ((∃ es, IsSl c4 es ∧ az.Rl xElse es) ∧ xElse.length ≤ 9223372036854775807)
def az.Rl : List az → List PV → Prop
 | [], [] => True
 | a :: l, e :: es => az.R a e ∧ az.Rl l es
 | _, _ => False
end
theorem az.Rl_eq : ∀ (l : List az) (es : List PV), az.Rl l es = All2 az.R l es
 | [], [] => by simp [az.Rl, All2]
 | a :: l, e :: es => by simp [az.Rl, All2, az.Rl_eq l es]
 | [], _ :: _ => by simp [az.Rl, All2]
 | _ :: _, [] => by simp [az.Rl, All2]
mutual
theorem az.R_clo : ∀ (s : az) (v : PV), az.R s v → closed v = true
 | ⟨xKind, xTable, xCond, xThen, xElse⟩, v, h => by
   simp only [az.R] at h
   obtain ⟨c2, c3, c4, h0, hc2, hc3, hc4⟩ := h
   subst h0
   have kc2 := TR.clo _ hc2
   obtain ⟨⟨esc3, hic3, hlc3⟩, _⟩ := hc3
   have kc3 := hic3.closed (az.Rl_clo _ _ hlc3)
   obtain ⟨⟨esc4, hic4, hlc4⟩, _⟩ := hc4
   have kc4 := hic4.closed (az.Rl_clo _ _ hlc4)
   simp [closed, closedL, kc2, kc3, kc4]
theorem az.Rl_clo : ∀ (l : List az) (es : List PV), az.Rl l es → closedL es = true
 | [], [], _ => rfl
 | a :: l, e :: es, h => by
   simp only [az.Rl] at h
   simp [closedL, az.R_clo a e h.1, az.Rl_clo l es h.2]
 | [], _ :: _, h => by simp [az.Rl] at h
 | _ :: _, [], h => by simp [az.Rl] at h
end
def az.t : TR az := ⟨az.R, 5, true, fun {a v} h => by cases a; simp only [az.R] at h; obtain ⟨c2, c3, c4, h0, hc2, hc3, hc4⟩ := h; subst h0; rfl, fun {a v} h => by cases a; simp only [az.R] at h; obtain ⟨c2, c3, c4, h0, hc2, hc3, hc4⟩ := h; subst h0; rfl, fun {a v} h => az.R_clo a v h⟩
theorem az.lR {l : List az} {v : PV} (h : (∃ es, IsSl v es ∧ az.Rl l es) ∧ l.length ≤ 9223372036854775807) : (tSl az.t).R l v := by obtain ⟨⟨es, hi, hl⟩, hb⟩ := h; rw [az.Rl_eq] at hl; exact ⟨⟨es, hi, hl⟩, hb⟩
theorem az.g_Kind {s : az} {v : PV} (h : az.t.R s v) : fieldR 0 1 false v = some (vi s.Kind) := by cases s; have h : az.R _ v := h; simp only [az.R] at h; obtain ⟨c2, c3, c4, h0, hc2, hc3, hc4⟩ := h; subst h0; rfl
structure af where
 Name : List UInt8
 Headers : List cy
 Metadata : List ay
 Registers : List cx
 Actions : List bg
 Tables : List fq
 States : List dp
 Control : List az
 Deparser : List Int
 deriving Inhabited
def af.R : af → PV → Prop := fun s v => ∃ c1, ∃ c2, ∃ c3, ∃ c4, ∃ c5, ∃ c6, ∃ c7, ∃ c8, v = .agg [vs s.Name, c1, c2, c3, c4, c5, c6, c7, c8] ∧ (tSl cy.t).R s.Headers c1 ∧ (tSl ay.t).R s.Metadata c2 ∧ (tSl cx.t).R s.Registers c3 ∧ (tSl bg.t).R s.Actions c4 ∧ (tSl fq.t).R s.Tables c5 ∧ (tSl dp.t).R s.States c6 ∧ (tSl az.t).R s.Control c7 ∧ (tSl tI).R s.Deparser c8
def af.t : TR af := ⟨af.R, 9, true, fun h => by obtain ⟨c1, c2, c3, c4, c5, c6, c7, c8, h0, hc1, hc2, hc3, hc4, hc5, hc6, hc7, hc8⟩ := h; subst h0; rfl, fun h => by obtain ⟨c1, c2, c3, c4, c5, c6, c7, c8, h0, hc1, hc2, hc3, hc4, hc5, hc6, hc7, hc8⟩ := h; subst h0; rfl, fun h => by obtain ⟨c1, c2, c3, c4, c5, c6, c7, c8, h0, hc1, hc2, hc3, hc4, hc5, hc6, hc7, hc8⟩ := h; subst h0; simp [closed, closedL, TR.clo _ hc1, TR.clo _ hc2, TR.clo _ hc3, TR.clo _ hc4, TR.clo _ hc5, TR.clo _ hc6, TR.clo _ hc7, TR.clo _ hc8]⟩
theorem af.g_Name {s v} (h : af.t.R s v) : fieldR 0 1 false v = some (vs s.Name) := by obtain ⟨_, _, _, _, _, _, _, _, rfl, _⟩ := h; rfl
theorem af.g_Headers {s v} (h : af.t.R s v) : ∃ w, fieldR 1 1 false v = some w ∧ (tSl cy.t).R s.Headers w := by obtain ⟨_, _, _, _, _, _, _, _, rfl, q, _⟩ := h; exact ⟨_, mk1 (TR.agg _ q), q⟩
theorem af.g_Metadata {s v} (h : af.t.R s v) : ∃ w, fieldR 2 1 false v = some w ∧ (tSl ay.t).R s.Metadata w := by obtain ⟨_, _, _, _, _, _, _, _, rfl, _, q, _⟩ := h; exact ⟨_, mk1 (TR.agg _ q), q⟩
theorem af.g_Registers {s v} (h : af.t.R s v) : ∃ w, fieldR 3 1 false v = some w ∧ (tSl cx.t).R s.Registers w := by obtain ⟨_, _, _, _, _, _, _, _, rfl, _, _, q, _⟩ := h; exact ⟨_, mk1 (TR.agg _ q), q⟩
theorem af.g_Actions {s v} (h : af.t.R s v) : ∃ w, fieldR 4 1 false v = some w ∧ (tSl bg.t).R s.Actions w := by obtain ⟨_, _, _, _, _, _, _, _, rfl, _, _, _, q, _⟩ := h; exact ⟨_, mk1 (TR.agg _ q), q⟩
structure au where
 Program : af
 Params : List ay
 deriving Inhabited
def au.R : au → PV → Prop := fun s v => ∃ c1, ∃ c2, ∃ c3, ∃ c4, ∃ c5, ∃ c6, ∃ c7, ∃ c8, ∃ c9, v = .agg [vs s.Program.Name, c1, c2, c3, c4, c5, c6, c7, c8, c9] ∧ (tSl cy.t).R s.Program.Headers c1 ∧ (tSl ay.t).R s.Program.Metadata c2 ∧ (tSl cx.t).R s.Program.Registers c3 ∧ (tSl bg.t).R s.Program.Actions c4 ∧ (tSl fq.t).R s.Program.Tables c5 ∧ (tSl dp.t).R s.Program.States c6 ∧ (tSl az.t).R s.Program.Control c7 ∧ (tSl tI).R s.Program.Deparser c8 ∧ (tSl ay.t).R s.Params c9
def au.t : TR au := ⟨au.R, 10, true, fun h => by obtain ⟨c1, c2, c3, c4, c5, c6, c7, c8, c9, h0, hc1, hc2, hc3, hc4, hc5, hc6, hc7, hc8, hc9⟩ := h; subst h0; rfl, fun h => by obtain ⟨c1, c2, c3, c4, c5, c6, c7, c8, c9, h0, hc1, hc2, hc3, hc4, hc5, hc6, hc7, hc8, hc9⟩ := h; subst h0; rfl, fun h => by obtain ⟨c1, c2, c3, c4, c5, c6, c7, c8, c9, h0, hc1, hc2, hc3, hc4, hc5, hc6, hc7, hc8, hc9⟩ := h; subst h0; simp [closed, closedL, TR.clo _ hc1, TR.clo _ hc2, TR.clo _ hc3, TR.clo _ hc4, TR.clo _ hc5, TR.clo _ hc6, TR.clo _ hc7, TR.clo _ hc8, TR.clo _ hc9]⟩
theorem au.g_Program {s : au} {v : PV} (h : au.t.R s v) : ∃ w, fieldR 0 9 true v = some w ∧ af.t.R s.Program w := by obtain ⟨c1, c2, c3, c4, c5, c6, c7, c8, c9, h0, hc1, hc2, hc3, hc4, hc5, hc6, hc7, hc8, hc9⟩ := h; subst h0; exact ⟨_, rfl, ⟨c1, c2, c3, c4, c5, c6, c7, c8, rfl, hc1, hc2, hc3, hc4, hc5, hc6, hc7, hc8⟩⟩
theorem au.g_Params {s v} (h : au.t.R s v) : ∃ w, fieldR 9 1 false v = some w ∧ (tSl ay.t).R s.Params w := by obtain ⟨_, _, _, _, _, _, _, _, _, rfl, _, _, _, _, _, _, _, _, q⟩ := h; exact ⟨_, mk1 (TR.agg _ q), q⟩
structure ck where
 scope : au
 deriving Inhabited
def ck.R : ck → PV → Prop := fun s v => ∃ c1, ∃ c2, ∃ c3, ∃ c4, ∃ c5, ∃ c6, ∃ c7, ∃ c8, ∃ c9, v = .agg [vs s.scope.Program.Name, c1, c2, c3, c4, c5, c6, c7, c8, c9] ∧ (tSl cy.t).R s.scope.Program.Headers c1 ∧ (tSl ay.t).R s.scope.Program.Metadata c2 ∧ (tSl cx.t).R s.scope.Program.Registers c3 ∧ (tSl bg.t).R s.scope.Program.Actions c4 ∧ (tSl fq.t).R s.scope.Program.Tables c5 ∧ (tSl dp.t).R s.scope.Program.States c6 ∧ (tSl az.t).R s.scope.Program.Control c7 ∧ (tSl tI).R s.scope.Program.Deparser c8 ∧ (tSl ay.t).R s.scope.Params c9
def ck.t : TR ck := ⟨ck.R, 10, true, fun h => by obtain ⟨c1, c2, c3, c4, c5, c6, c7, c8, c9, h0, hc1, hc2, hc3, hc4, hc5, hc6, hc7, hc8, hc9⟩ := h; subst h0; rfl, fun h => by obtain ⟨c1, c2, c3, c4, c5, c6, c7, c8, c9, h0, hc1, hc2, hc3, hc4, hc5, hc6, hc7, hc8, hc9⟩ := h; subst h0; rfl, fun h => by obtain ⟨c1, c2, c3, c4, c5, c6, c7, c8, c9, h0, hc1, hc2, hc3, hc4, hc5, hc6, hc7, hc8, hc9⟩ := h; subst h0; simp [closed, closedL, TR.clo _ hc1, TR.clo _ hc2, TR.clo _ hc3, TR.clo _ hc4, TR.clo _ hc5, TR.clo _ hc6, TR.clo _ hc7, TR.clo _ hc8, TR.clo _ hc9]⟩
theorem ck.g_scope {s : ck} {v : PV} (h : ck.t.R s v) : ∃ w, fieldR 0 10 true v = some w ∧ au.t.R s.scope w := by obtain ⟨c1, c2, c3, c4, c5, c6, c7, c8, c9, h0, hc1, hc2, hc3, hc4, hc5, hc6, hc7, hc8, hc9⟩ := h; subst h0; exact ⟨_, rfl, ⟨c1, c2, c3, c4, c5, c6, c7, c8, c9, rfl, hc1, hc2, hc3, hc4, hc5, hc6, hc7, hc8, hc9⟩⟩
structure bd where
 fields : List aa
 headers : List Int
 registers : List Int
 deriving Inhabited, DecidableEq
def bd.R : bd → PV → Prop := fun s v => ∃ c0, ∃ c1, ∃ c2, v = .agg [c0, c1, c2] ∧ (tSl aa.t).R s.fields c0 ∧ (tSl tI).R s.headers c1 ∧ (tSl tI).R s.registers c2
def bd.t : TR bd := ⟨bd.R, 3, true, fun h => by obtain ⟨c0, c1, c2, h0, hc0, hc1, hc2⟩ := h; subst h0; rfl, fun h => by obtain ⟨c0, c1, c2, h0, hc0, hc1, hc2⟩ := h; subst h0; rfl, fun h => by obtain ⟨c0, c1, c2, h0, hc0, hc1, hc2⟩ := h; subst h0; simp [closed, closedL, TR.clo _ hc0, TR.clo _ hc1, TR.clo _ hc2]⟩
structure ah where
 Fields : List aa
 Headers : List Int
 Registers : List Int
 deriving Inhabited, DecidableEq
def ah.R : ah → PV → Prop := fun s v => ∃ c0, ∃ c1, ∃ c2, v = .agg [c0, c1, c2] ∧ (tSl aa.t).R s.Fields c0 ∧ (tSl tI).R s.Headers c1 ∧ (tSl tI).R s.Registers c2
def ah.t : TR ah := ⟨ah.R, 3, true, fun h => by obtain ⟨c0, c1, c2, h0, hc0, hc1, hc2⟩ := h; subst h0; rfl, fun h => by obtain ⟨c0, c1, c2, h0, hc0, hc1, hc2⟩ := h; subst h0; rfl, fun h => by obtain ⟨c0, c1, c2, h0, hc0, hc1, hc2⟩ := h; subst h0; simp [closed, closedL, TR.clo _ hc0, TR.clo _ hc1, TR.clo _ hc2]⟩
theorem ah.g_Fields {s v} (h : ah.t.R s v) : ∃ w, fieldR 0 1 false v = some w ∧ (tSl aa.t).R s.Fields w := by obtain ⟨_, _, _, rfl, q, _⟩ := h; exact ⟨_, mk1 (TR.agg _ q), q⟩
theorem ah.g_Headers {s v} (h : ah.t.R s v) : ∃ w, fieldR 1 1 false v = some w ∧ (tSl tI).R s.Headers w := by obtain ⟨_, _, _, rfl, _, q, _⟩ := h; exact ⟨_, mk1 (TR.agg _ q), q⟩
theorem ah.g_Registers {s v} (h : ah.t.R s v) : ∃ w, fieldR 2 1 false v = some w ∧ (tSl tI).R s.Registers w := by obtain ⟨_, _, _, rfl, _, _, q⟩ := h; exact ⟨_, mk1 (TR.agg _ q), q⟩
theorem aa.eql_87 {ox oy : Operand} {a b : aa} {va vb' : PV} (ha : aa.t.R a va) (hb : aa.t.R b vb') : binF Tryz.prog .eql 87 ox oy va vb' = some (vb (decide (a = b))) := by
 have ha : va = _ := ha; have hb : vb' = _ := hb; subst ha; subst hb
 rw [bm7 Tryz.underlying87 (by kernel_rfl) (by kernel_rfl) Tryz.underlying3 Tryz.underlying3 rfl rfl (by decide) (by decide)]
 cases a; cases b; simp only [Option.some.injEq, PV.sc.injEq, Value.bool.injEq]; rw [Bool.eq_iff_iff]; simp [aa.mk.injEq, pj, BitVec.toNat_inj]
theorem aa.neq_87 {ox oy : Operand} {a b : aa} {va vb' : PV} (ha : aa.t.R a va) (hb : aa.t.R b vb') : binF Tryz.prog .neq 87 ox oy va vb' = some (vb (!decide (a = b))) := by
 have ha : va = _ := ha; have hb : vb' = _ := hb; subst ha; subst hb
 rw [bg2 Tryz.underlying87 (by kernel_rfl) (by kernel_rfl) Tryz.underlying3 Tryz.underlying3 rfl rfl (by decide) (by decide)]
 cases a; cases b; simp only [Option.some.injEq, PV.sc.injEq, Value.bool.injEq, Bool.not_eq_not]; rw [Bool.eq_iff_iff]; simp [aa.mk.injEq, pj, BitVec.toNat_inj]
end Go.Proofs.YtmonnlkagniolaaGreat
