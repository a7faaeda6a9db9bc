import Derived.Test.YtmonnlkagniolaaGreatPbEq
import Derived.Test.YtmonnlkagniolaaGreatRows
set_option linter.unusedVariables false
set_option linter.unusedSimpArgs false
set_option maxRecDepth 100000
namespace Go.Proofs.YtmonnlkagniolaaGreat
open Go Go.Pb Go.RowKit
structure ay where
 Name : List UInt8
 Width : Int
 deriving Inhabited, DecidableEq
def ay.R : ay → PV → Prop := fun s v => v = .agg [vs s.Name, vi s.Width]
def ay.t : TR ay := ⟨ay.R, 2, true, fun h => by have h0 : _ = _ := h; subst h0; rfl, fun h => by have h0 : _ = _ := h; subst h0; rfl, fun h => by have h0 : _ = _ := h; subst h0; simp [closed, closedL]⟩
theorem ay.g_Name {s v} (h : ay.t.R s v) : fieldR 0 1 false v = some (vs s.Name) := by cases h; rfl
theorem ay.g_Width {s v} (h : ay.t.R s v) : fieldR 1 1 false v = some (vi s.Width) := by cases h; rfl
structure co where
 Name : List UInt8
 Fields : List ay
 deriving Inhabited, DecidableEq
def co.R : co → PV → Prop := fun s v => ∃ c1, v = .agg [vs s.Name, c1] ∧ (tSl ay.t).R s.Fields c1
def co.t : TR co := ⟨co.R, 2, true, fun h => by obtain ⟨c1, h0, hc1⟩ := h; subst h0; rfl, fun h => by obtain ⟨c1, h0, hc1⟩ := h; subst h0; rfl, fun h => by obtain ⟨c1, h0, hc1⟩ := h; subst h0; simp [closed, closedL, TR.clo _ hc1]⟩
theorem co.g_Name {s v} (h : co.t.R s v) : fieldR 0 1 false v = some (vs s.Name) := by obtain ⟨_, rfl, _⟩ := h; rfl
theorem co.g_Fields {s v} (h : co.t.R s v) : ∃ w, fieldR 1 1 false v = some w ∧ (tSl ay.t).R s.Fields w := by obtain ⟨_, rfl, q⟩ := h; exact ⟨_, mk1 (TR.agg _ q), q⟩
structure cp where
 Name : List UInt8
 Width : Int
 Size : Int
 deriving Inhabited, DecidableEq
def cp.R : cp → PV → Prop := fun s v => v = .agg [vs s.Name, vi s.Width, vi s.Size]
def cp.t : TR cp := ⟨cp.R, 3, true, fun h => by have h0 : _ = _ := h; subst h0; rfl, fun h => by have h0 : _ = _ := h; subst h0; rfl, fun h => by have h0 : _ = _ := h; subst h0; simp [closed, closedL]⟩
theorem cp.g_Name {s v} (h : cp.t.R s v) : fieldR 0 1 false v = some (vs s.Name) := by cases h; rfl
theorem cp.g_Width {s v} (h : cp.t.R s v) : fieldR 1 1 false v = some (vi s.Width) := by cases h; rfl
theorem cp.g_Size {s v} (h : cp.t.R s v) : fieldR 2 1 false v = some (vi s.Size) := by cases h; rfl
structure aa where
 Header : Int
 Field : Int
 deriving Inhabited, DecidableEq
def aa.R : aa → PV → Prop := fun s v => v = .agg [vi s.Header, vi s.Field]
def aa.t : TR aa := ⟨aa.R, 2, true, fun h => by have h0 : _ = _ := h; subst h0; rfl, fun h => by have h0 : _ = _ := h; subst h0; rfl, fun h => by have h0 : _ = _ := h; subst h0; simp [closed, closedL]⟩
theorem aa.g_Header {s v} (h : aa.t.R s v) : fieldR 0 1 false v = some (vi s.Header) := by cases h; rfl
theorem aa.g_Field {s v} (h : aa.t.R s v) : fieldR 1 1 false v = some (vi s.Field) := by cases h; rfl
structure af where
 Op : Int
 N : Int
 W : Int
 deriving Inhabited, DecidableEq
def af.R : af → PV → Prop := fun s v => v = .agg [vi s.Op, vi s.N, vi s.W]
def af.t : TR af := ⟨af.R, 3, true, fun h => by have h0 : _ = _ := h; subst h0; rfl, fun h => by have h0 : _ = _ := h; subst h0; rfl, fun h => by have h0 : _ = _ := h; subst h0; simp [closed, closedL]⟩
theorem af.g_Op {s v} (h : af.t.R s v) : fieldR 0 1 false v = some (vi s.Op) := by cases h; rfl
theorem af.g_N {s v} (h : af.t.R s v) : fieldR 1 1 false v = some (vi s.N) := by cases h; rfl
theorem af.g_W {s v} (h : af.t.R s v) : fieldR 2 1 false v = some (vi s.W) := by cases h; rfl
structure ak where
 Kind : Int
 Dst : aa
 Register : Int
 Header : Int
 Index : List af
 Value : List af
 deriving Inhabited, DecidableEq
def ak.R : ak → PV → Prop := fun s v => ∃ c5, ∃ c6, v = .agg [vi s.Kind, vi s.Dst.Header, vi s.Dst.Field, vi s.Register, vi s.Header, c5, c6] ∧ (tSl af.t).R s.Index c5 ∧ (tSl af.t).R s.Value c6
def ak.t : TR ak := ⟨ak.R, 7, true, fun h => by obtain ⟨c5, c6, h0, hc5, hc6⟩ := h; subst h0; rfl, fun h => by obtain ⟨c5, c6, h0, hc5, hc6⟩ := h; subst h0; rfl, fun h => by obtain ⟨c5, c6, h0, hc5, hc6⟩ := h; subst h0; simp [closed, closedL, TR.clo _ hc5, TR.clo _ hc6]⟩
theorem ak.g_Kind {s v} (h : ak.t.R s v) : fieldR 0 1 false v = some (vi s.Kind) := by obtain ⟨_, _, rfl, _⟩ := h; rfl
theorem ak.g_Dst {s : ak} {v : PV} (h : ak.t.R s v) : ∃ w, fieldR 1 2 true v = some w ∧ aa.t.R s.Dst w := by obtain ⟨c5, c6, h0, hc5, hc6⟩ := h; subst h0; exact ⟨_, rfl, rfl⟩
theorem ak.g_Register {s v} (h : ak.t.R s v) : fieldR 3 1 false v = some (vi s.Register) := by obtain ⟨_, _, rfl, _⟩ := h; rfl
theorem ak.g_Header {s v} (h : ak.t.R s v) : fieldR 4 1 false v = some (vi s.Header) := by obtain ⟨_, _, rfl, _⟩ := h; rfl
theorem ak.g_Index {s v} (h : ak.t.R s v) : ∃ w, fieldR 5 1 false v = some w ∧ (tSl af.t).R s.Index w := by obtain ⟨_, _, rfl, q, _⟩ := h; exact ⟨_, mk1 (TR.agg _ q), q⟩
theorem ak.g_Value {s v} (h : ak.t.R s v) : ∃ w, fieldR 6 1 false v = some w ∧ (tSl af.t).R s.Value w := by obtain ⟨_, _, rfl, _, q⟩ := h; exact ⟨_, mk1 (TR.agg _ q), q⟩
structure cb where
 Name : List UInt8
 Params : List ay
 Body : List ak
 deriving Inhabited, DecidableEq
def cb.R : cb → PV → Prop := fun s v => ∃ c1, ∃ c2, v = .agg [vs s.Name, c1, c2] ∧ (tSl ay.t).R s.Params c1 ∧ (tSl ak.t).R s.Body c2
def cb.t : TR cb := ⟨cb.R, 3, true, fun h => by obtain ⟨c1, c2, h0, hc1, hc2⟩ := h; subst h0; rfl, fun h => by obtain ⟨c1, c2, h0, hc1, hc2⟩ := h; subst h0; rfl, fun h => by obtain ⟨c1, c2, h0, hc1, hc2⟩ := h; subst h0; simp [closed, closedL, TR.clo _ hc1, TR.clo _ hc2]⟩
theorem cb.g_Name {s v} (h : cb.t.R s v) : fieldR 0 1 false v = some (vs s.Name) := by obtain ⟨_, _, rfl, _⟩ := h; rfl
theorem cb.g_Params {s v} (h : cb.t.R s v) : ∃ w, fieldR 1 1 false v = some w ∧ (tSl ay.t).R s.Params w := by obtain ⟨_, _, rfl, q, _⟩ := h; exact ⟨_, mk1 (TR.agg _ q), q⟩
theorem cb.g_Body {s v} (h : cb.t.R s v) : ∃ w, fieldR 2 1 false v = some w ∧ (tSl ak.t).R s.Body w := by obtain ⟨_, _, rfl, _, q⟩ := h; exact ⟨_, mk1 (TR.agg _ q), q⟩
structure ia where
 Field : aa
 Kind : Int
 deriving Inhabited, DecidableEq
def ia.R : ia → PV → Prop := fun s v => v = .agg [vi s.Field.Header, vi s.Field.Field, vi s.Kind]
def ia.t : TR ia := ⟨ia.R, 3, true, fun h => by have h0 : _ = _ := h; subst h0; rfl, fun h => by have h0 : _ = _ := h; subst h0; rfl, fun h => by have h0 : _ = _ := h; subst h0; simp [closed, closedL]⟩
theorem ia.g_Field {s : ia} {v : PV} (h : ia.t.R s v) : ∃ w, fieldR 0 2 true v = some w ∧ aa.t.R s.Field w := by have h0 : _ = _ := h; subst h0; exact ⟨_, rfl, rfl⟩
theorem ia.g_Kind {s v} (h : ia.t.R s v) : fieldR 2 1 false v = some (vi s.Kind) := by cases h; rfl
structure bt where
 Action : Int
 Args : List (BitVec 32)
 deriving Inhabited, DecidableEq
def bt.R : bt → PV → Prop := fun s v => ∃ c1, v = .agg [vi s.Action, c1] ∧ (tSl dm).R s.Args c1
def bt.t : TR bt := ⟨bt.R, 2, true, fun h => by obtain ⟨c1, h0, hc1⟩ := h; subst h0; rfl, fun h => by obtain ⟨c1, h0, hc1⟩ := h; subst h0; rfl, fun h => by obtain ⟨c1, h0, hc1⟩ := h; subst h0; simp [closed, closedL, TR.clo _ hc1]⟩
theorem bt.g_Action {s v} (h : bt.t.R s v) : fieldR 0 1 false v = some (vi s.Action) := by obtain ⟨_, rfl, _⟩ := h; rfl
theorem bt.g_Args {s v} (h : bt.t.R s v) : ∃ w, fieldR 1 1 false v = some w ∧ (tSl dm).R s.Args w := by obtain ⟨_, rfl, q⟩ := h; exact ⟨_, mk1 (TR.agg _ q), q⟩
structure gi where
 Name : List UInt8
 Keys : List ia
 Actions : List Int
 Default : bt
 Size : Int
 deriving Inhabited, DecidableEq
def gi.R : gi → PV → Prop := fun s v => ∃ c1, ∃ c2, ∃ c4, v = .agg [vs s.Name, c1, c2, vi s.Default.Action, c4, vi s.Size] ∧ (tSl ia.t).R s.Keys c1 ∧ (tSl tI).R s.Actions c2 ∧ (tSl dm).R s.Default.Args c4
def gi.t : TR gi := ⟨gi.R, 6, true, fun h => by obtain ⟨c1, c2, c4, h0, hc1, hc2, hc4⟩ := h; subst h0; rfl, fun h => by obtain ⟨c1, c2, c4, h0, hc1, hc2, hc4⟩ := h; subst h0; rfl, fun h => by obtain ⟨c1, c2, c4, h0, hc1, hc2, hc4⟩ := h; subst h0; simp [closed, closedL, TR.clo _ hc1, TR.clo _ hc2, TR.clo _ hc4]⟩
theorem gi.g_Name {s v} (h : gi.t.R s v) : fieldR 0 1 false v = some (vs s.Name) := by obtain ⟨_, _, _, rfl, _⟩ := h; rfl
theorem gi.g_Actions {s v} (h : gi.t.R s v) : ∃ w, fieldR 2 1 false v = some w ∧ (tSl tI).R s.Actions w := by obtain ⟨_, _, _, rfl, _, q, _⟩ := h; exact ⟨_, mk1 (TR.agg _ q), q⟩
theorem gi.g_Default {s : gi} {v : PV} (h : gi.t.R s v) : ∃ w, fieldR 3 2 true v = some w ∧ bt.t.R s.Default w := by obtain ⟨c1, c2, c4, h0, hc1, hc2, hc4⟩ := h; subst h0; exact ⟨_, rfl, ⟨c4, rfl, hc4⟩⟩
theorem gi.g_Size {s v} (h : gi.t.R s v) : fieldR 5 1 false v = some (vi s.Size) := by obtain ⟨_, _, _, rfl, _⟩ := h; rfl
structure ij where
 Value : BitVec 32
 Mask : BitVec 32
 Next : Int
 deriving Inhabited, DecidableEq
def ij.R : ij → PV → Prop := fun s v => v = .agg [bm s.Value, bm s.Mask, vi s.Next]
def ij.t : TR ij := ⟨ij.R, 3, true, fun h => by have h0 : _ = _ := h; subst h0; rfl, fun h => by have h0 : _ = _ := h; subst h0; rfl, fun h => by have h0 : _ = _ := h; subst h0; simp [closed, closedL]⟩
theorem ij.g_Value {s v} (h : ij.t.R s v) : fieldR 0 1 false v = some (bm s.Value) := by cases h; rfl
structure dy where
 Name : List UInt8
 Extract : List Int
 Select : Bool
 On : aa
 Cases : List ij
 Default : Int
 deriving Inhabited, DecidableEq
def dy.R : dy → PV → Prop := fun s v => ∃ c1, ∃ c5, v = .agg [vs s.Name, c1, vb s.Select, vi s.On.Header, vi s.On.Field, c5, vi s.Default] ∧ (tSl tI).R s.Extract c1 ∧ (tSl ij.t).R s.Cases c5
def dy.t : TR dy := ⟨dy.R, 7, true, fun h => by obtain ⟨c1, c5, h0, hc1, hc5⟩ := h; subst h0; rfl, fun h => by obtain ⟨c1, c5, h0, hc1, hc5⟩ := h; subst h0; rfl, fun h => by obtain ⟨c1, c5, h0, hc1, hc5⟩ := h; subst h0; simp [closed, closedL, TR.clo _ hc1, TR.clo _ hc5]⟩
theorem dy.g_Name {s v} (h : dy.t.R s v) : fieldR 0 1 false v = some (vs s.Name) := by obtain ⟨_, _, rfl, _⟩ := h; rfl
theorem dy.g_Default {s v} (h : dy.t.R s v) : fieldR 6 1 false v = some (vi s.Default) := by obtain ⟨_, _, rfl, _⟩ := h; rfl
structure bc where
 Kind : Int
 Table : Int
 Cond : List af
 Then : List bc
 Else : List bc
 deriving Inhabited
mutual
def bc.R : bc → PV → Prop
 | ⟨xKind, xTable, xCond, xThen, xElse⟩, v => ∃ c2, ∃ c3, ∃ c4, v = .agg [vi xKind, vi xTable, c2, c3, c4] ∧ (tSl af.t).R xCond c2 ∧ ((∃ es, IsSl c3 es ∧ bc.Rl xThen es) ∧ xThen.length ≤ 9223372036854775807) ∧ ((∃ es, IsSl c4 es ∧ bc.Rl xElse es) ∧ xElse.length ≤ 9223372036854775807)
def bc.Rl : List bc → List PV → Prop
 | [], [] => True
 | a :: l, e :: es => bc.R a e ∧ bc.Rl l es
 | _, _ => False
end
theorem bc.Rl_eq : ∀ (l : List bc) (es : List PV), bc.Rl l es = All2 bc.R l es
 | [], [] => by simp [bc.Rl, All2]
 | a :: l, e :: es => by simp [bc.Rl, All2, bc.Rl_eq l es]
 | [], _ :: _ => by simp [bc.Rl, All2]
 | _ :: _, [] => by simp [bc.Rl, All2]
mutual
theorem bc.R_clo : ∀ (s : bc) (v : PV), bc.R s v → closed v = true
 | ⟨xKind, xTable, xCond, xThen, xElse⟩, v, h => by
   simp only [bc.R] at h
   obtain ⟨c2, c3, c4, h0, hc2, hc3, hc4⟩ := h
   subst h0
   have kc2 := TR.clo _ hc2
   obtain ⟨⟨esc3, hic3, hlc3⟩, _⟩ := hc3
   have kc3 := hic3.closed (bc.Rl_clo _ _ hlc3)
   obtain ⟨⟨esc4, hic4, hlc4⟩, _⟩ := hc4
   have kc4 := hic4.closed (bc.Rl_clo _ _ hlc4)
   simp [closed, closedL, kc2, kc3, kc4]
theorem bc.Rl_clo : ∀ (l : List bc) (es : List PV), bc.Rl l es → closedL es = true
 | [], [], _ => rfl
 | a :: l, e :: es, h => by
   simp only [bc.Rl] at h
   simp [closedL, bc.R_clo a e h.1, bc.Rl_clo l es h.2]
 | [], _ :: _, h => by simp [bc.Rl] at h
 | _ :: _, [], h => by simp [bc.Rl] at h
end
def bc.t : TR bc := ⟨bc.R, 5, true, fun {a v} h => by cases a; simp only [bc.R] at h; obtain ⟨c2, c3, c4, h0, hc2, hc3, hc4⟩ := h; subst h0; rfl, fun {a v} h => by cases a; simp only [bc.R] at h; obtain ⟨c2, c3, c4, h0, hc2, hc3, hc4⟩ := h; subst h0; rfl, fun {a v} h => bc.R_clo a v h⟩
theorem bc.lR {l : List bc} {v : PV} (h : (∃ es, IsSl v es ∧ bc.Rl l es) ∧ l.length ≤ 9223372036854775807) : (tSl bc.t).R l v := by obtain ⟨⟨es, hi, hl⟩, hb⟩ := h; rw [bc.Rl_eq] at hl; exact ⟨⟨es, hi, hl⟩, hb⟩
theorem bc.g_Kind {s : bc} {v : PV} (h : bc.t.R s v) : fieldR 0 1 false v = some (vi s.Kind) := by cases s; have h : bc.R _ v := h; simp only [bc.R] at h; obtain ⟨c2, c3, c4, h0, hc2, hc3, hc4⟩ := h; subst h0; rfl
structure ae where
 Name : List UInt8
 Headers : List co
 Metadata : List ay
 Registers : List cp
 Actions : List cb
 Tables : List gi
 States : List dy
 Control : List bc
 Deparser : List Int
 deriving Inhabited
def ae.R : ae → PV → Prop := fun s v => ∃ c1, ∃ c2, ∃ c3, ∃ c4, ∃ c5, ∃ c6, ∃ c7, ∃ c8, v = .agg [vs s.Name, c1, c2, c3, c4, c5, c6, c7, c8] ∧ (tSl co.t).R s.Headers c1 ∧ (tSl ay.t).R s.Metadata c2 ∧ (tSl cp.t).R s.Registers c3 ∧ (tSl cb.t).R s.Actions c4 ∧ (tSl gi.t).R s.Tables c5 ∧ (tSl dy.t).R s.States c6 ∧ (tSl bc.t).R s.Control c7 ∧ (tSl tI).R s.Deparser c8
def ae.t : TR ae := ⟨ae.R, 9, true, fun h => by obtain ⟨c1, c2, c3, c4, c5, c6, c7, c8, h0, hc1, hc2, hc3, hc4, hc5, hc6, hc7, hc8⟩ := h; subst h0; rfl, fun h => by obtain ⟨c1, c2, c3, c4, c5, c6, c7, c8, h0, hc1, hc2, hc3, hc4, hc5, hc6, hc7, hc8⟩ := h; subst h0; rfl, fun h => by obtain ⟨c1, c2, c3, c4, c5, c6, c7, c8, h0, hc1, hc2, hc3, hc4, hc5, hc6, hc7, hc8⟩ := h; subst h0; simp [closed, closedL, TR.clo _ hc1, TR.clo _ hc2, TR.clo _ hc3, TR.clo _ hc4, TR.clo _ hc5, TR.clo _ hc6, TR.clo _ hc7, TR.clo _ hc8]⟩
theorem ae.g_Name {s v} (h : ae.t.R s v) : fieldR 0 1 false v = some (vs s.Name) := by obtain ⟨_, _, _, _, _, _, _, _, rfl, _⟩ := h; rfl
theorem ae.g_Headers {s v} (h : ae.t.R s v) : ∃ w, fieldR 1 1 false v = some w ∧ (tSl co.t).R s.Headers w := by obtain ⟨_, _, _, _, _, _, _, _, rfl, q, _⟩ := h; exact ⟨_, mk1 (TR.agg _ q), q⟩
theorem ae.g_Metadata {s v} (h : ae.t.R s v) : ∃ w, fieldR 2 1 false v = some w ∧ (tSl ay.t).R s.Metadata w := by obtain ⟨_, _, _, _, _, _, _, _, rfl, _, q, _⟩ := h; exact ⟨_, mk1 (TR.agg _ q), q⟩
theorem ae.g_Registers {s v} (h : ae.t.R s v) : ∃ w, fieldR 3 1 false v = some w ∧ (tSl cp.t).R s.Registers w := by obtain ⟨_, _, _, _, _, _, _, _, rfl, _, _, q, _⟩ := h; exact ⟨_, mk1 (TR.agg _ q), q⟩
theorem ae.g_Actions {s v} (h : ae.t.R s v) : ∃ w, fieldR 4 1 false v = some w ∧ (tSl cb.t).R s.Actions w := by obtain ⟨_, _, _, _, _, _, _, _, rfl, _, _, _, q, _⟩ := h; exact ⟨_, mk1 (TR.agg _ q), q⟩
structure av where
 Valid : List Bool
 Fields : List (List (BitVec 32))
 Metd : List (BitVec 32)
 Payload : List UInt8
 deriving Inhabited, DecidableEq
def av.R : av → PV → Prop := fun s v => ∃ c0, ∃ c1, ∃ c2, ∃ c3, v = .agg [c0, c1, c2, c3] ∧ (tSl tB).R s.Valid c0 ∧ (tSl (tSl dm)).R s.Fields c1 ∧ (tSl dm).R s.Metd c2 ∧ (tSl tU8).R s.Payload c3
def av.t : TR av := ⟨av.R, 4, true, fun h => by obtain ⟨c0, c1, c2, c3, h0, hc0, hc1, hc2, hc3⟩ := h; subst h0; rfl, fun h => by obtain ⟨c0, c1, c2, c3, h0, hc0, hc1, hc2, hc3⟩ := h; subst h0; rfl, fun h => by obtain ⟨c0, c1, c2, c3, h0, hc0, hc1, hc2, hc3⟩ := h; subst h0; simp [closed, closedL, TR.clo _ hc0, TR.clo _ hc1, TR.clo _ hc2, TR.clo _ hc3]⟩
theorem av.g_Valid {s v} (h : av.t.R s v) : ∃ w, fieldR 0 1 false v = some w ∧ (tSl tB).R s.Valid w := by obtain ⟨_, _, _, _, rfl, q, _⟩ := h; exact ⟨_, mk1 (TR.agg _ q), q⟩
theorem av.g_Fields {s v} (h : av.t.R s v) : ∃ w, fieldR 1 1 false v = some w ∧ (tSl (tSl dm)).R s.Fields w := by obtain ⟨_, _, _, _, rfl, _, q, _⟩ := h; exact ⟨_, mk1 (TR.agg _ q), q⟩
theorem av.g_Meta {s v} (h : av.t.R s v) : ∃ w, fieldR 2 1 false v = some w ∧ (tSl dm).R s.Metd w := by obtain ⟨_, _, _, _, rfl, _, _, q, _⟩ := h; exact ⟨_, mk1 (TR.agg _ q), q⟩
structure az where
 P : ae
 Call : bt
 E : av
 Regs : List (List (BitVec 32))
 deriving Inhabited
def az.R : az → PV → Prop := fun s v => ∃ c1, ∃ c2, ∃ c3, ∃ c4, ∃ c5, ∃ c6, ∃ c7, ∃ c8, ∃ c10, ∃ c11, ∃ c12, ∃ c13, ∃ c14, ∃ c15, v = .agg [vs s.P.Name, c1, c2, c3, c4, c5, c6, c7, c8, vi s.Call.Action, c10, c11, c12, c13, c14, c15] ∧ (tSl co.t).R s.P.Headers c1 ∧ (tSl ay.t).R s.P.Metadata c2 ∧ (tSl cp.t).R s.P.Registers c3 ∧ (tSl cb.t).R s.P.Actions c4 ∧ (tSl gi.t).R s.P.Tables c5 ∧ (tSl dy.t).R s.P.States c6 ∧ (tSl bc.t).R s.P.Control c7 ∧ (tSl tI).R s.P.Deparser c8 ∧ (tSl dm).R s.Call.Args c10 ∧ (tSl tB).R s.E.Valid c11 ∧ (tSl (tSl dm)).R s.E.Fields c12 ∧ (tSl dm).R s.E.Metd c13 ∧ (tSl tU8).R s.E.Payload c14 ∧ (tSl (tSl dm)).R s.Regs c15
def az.t : TR az := ⟨az.R, 16, true, fun h => by obtain ⟨c1, c2, c3, c4, c5, c6, c7, c8, c10, c11, c12, c13, c14, c15, h0, hc1, hc2, hc3, hc4, hc5, hc6, hc7, hc8, hc10, hc11, hc12, hc13, hc14, hc15⟩ := h; subst h0; rfl, fun h => by obtain ⟨c1, c2, c3, c4, c5, c6, c7, c8, c10, c11, c12, c13, c14, c15, h0, hc1, hc2, hc3, hc4, hc5, hc6, hc7, hc8, hc10, hc11, hc12, hc13, hc14, hc15⟩ := h; subst h0; rfl, fun h => by obtain ⟨c1, c2, c3, c4, c5, c6, c7, c8, c10, c11, c12, c13, c14, c15, h0, hc1, hc2, hc3, hc4, hc5, hc6, hc7, hc8, hc10, hc11, hc12, hc13, hc14, hc15⟩ := h; subst h0; simp [closed, closedL, TR.clo _ hc1, TR.clo _ hc2, TR.clo _ hc3, TR.clo _ hc4, TR.clo _ hc5, TR.clo _ hc6, TR.clo _ hc7, TR.clo _ hc8, TR.clo _ hc10, TR.clo _ hc11, TR.clo _ hc12, TR.clo _ hc13, TR.clo _ hc14, TR.clo _ hc15]⟩
theorem az.g_P {s : az} {v : PV} (h : az.t.R s v) : ∃ w, fieldR 0 9 true v = some w ∧ ae.t.R s.P w := by obtain ⟨c1, c2, c3, c4, c5, c6, c7, c8, c10, c11, c12, c13, c14, c15, h0, hc1, hc2, hc3, hc4, hc5, hc6, hc7, hc8, hc10, hc11, hc12, hc13, hc14, hc15⟩ := h; subst h0; exact ⟨_, rfl, ⟨c1, c2, c3, c4, c5, c6, c7, c8, rfl, hc1, hc2, hc3, hc4, hc5, hc6, hc7, hc8⟩⟩
theorem az.g_Call {s : az} {v : PV} (h : az.t.R s v) : ∃ w, fieldR 9 2 true v = some w ∧ bt.t.R s.Call w := by obtain ⟨c1, c2, c3, c4, c5, c6, c7, c8, c10, c11, c12, c13, c14, c15, h0, hc1, hc2, hc3, hc4, hc5, hc6, hc7, hc8, hc10, hc11, hc12, hc13, hc14, hc15⟩ := h; subst h0; exact ⟨_, rfl, ⟨c10, rfl, hc10⟩⟩
theorem az.g_E {s : az} {v : PV} (h : az.t.R s v) : ∃ w, fieldR 11 4 true v = some w ∧ av.t.R s.E w := by obtain ⟨c1, c2, c3, c4, c5, c6, c7, c8, c10, c11, c12, c13, c14, c15, h0, hc1, hc2, hc3, hc4, hc5, hc6, hc7, hc8, hc10, hc11, hc12, hc13, hc14, hc15⟩ := h; subst h0; exact ⟨_, rfl, ⟨c11, c12, c13, c14, rfl, hc11, hc12, hc13, hc14⟩⟩
theorem az.g_Regs {s v} (h : az.t.R s v) : ∃ w, fieldR 15 1 false v = some w ∧ (tSl (tSl dm)).R s.Regs w := by obtain ⟨_, _, _, _, _, _, _, _, _, _, _, _, _, _, rfl, _, _, _, _, _, _, _, _, _, _, _, _, _, q⟩ := h; exact ⟨_, mk1 (TR.agg _ q), q⟩
structure bd where
 Program : ae
 Params : List ay
 deriving Inhabited
def bd.R : bd → PV → Prop := fun s v => ∃ c1, ∃ c2, ∃ c3, ∃ c4, ∃ c5, ∃ c6, ∃ c7, ∃ c8, ∃ c9, v = .agg [vs s.Program.Name, c1, c2, c3, c4, c5, c6, c7, c8, c9] ∧ (tSl co.t).R s.Program.Headers c1 ∧ (tSl ay.t).R s.Program.Metadata c2 ∧ (tSl cp.t).R s.Program.Registers c3 ∧ (tSl cb.t).R s.Program.Actions c4 ∧ (tSl gi.t).R s.Program.Tables c5 ∧ (tSl dy.t).R s.Program.States c6 ∧ (tSl bc.t).R s.Program.Control c7 ∧ (tSl tI).R s.Program.Deparser c8 ∧ (tSl ay.t).R s.Params c9
def bd.t : TR bd := ⟨bd.R, 10, true, fun h => by obtain ⟨c1, c2, c3, c4, c5, c6, c7, c8, c9, h0, hc1, hc2, hc3, hc4, hc5, hc6, hc7, hc8, hc9⟩ := h; subst h0; rfl, fun h => by obtain ⟨c1, c2, c3, c4, c5, c6, c7, c8, c9, h0, hc1, hc2, hc3, hc4, hc5, hc6, hc7, hc8, hc9⟩ := h; subst h0; rfl, fun h => by obtain ⟨c1, c2, c3, c4, c5, c6, c7, c8, c9, h0, hc1, hc2, hc3, hc4, hc5, hc6, hc7, hc8, hc9⟩ := h; subst h0; simp [closed, closedL, TR.clo _ hc1, TR.clo _ hc2, TR.clo _ hc3, TR.clo _ hc4, TR.clo _ hc5, TR.clo _ hc6, TR.clo _ hc7, TR.clo _ hc8, TR.clo _ hc9]⟩
theorem bd.g_Program {s : bd} {v : PV} (h : bd.t.R s v) : ∃ w, fieldR 0 9 true v = some w ∧ ae.t.R s.Program w := by obtain ⟨c1, c2, c3, c4, c5, c6, c7, c8, c9, h0, hc1, hc2, hc3, hc4, hc5, hc6, hc7, hc8, hc9⟩ := h; subst h0; exact ⟨_, rfl, ⟨c1, c2, c3, c4, c5, c6, c7, c8, rfl, hc1, hc2, hc3, hc4, hc5, hc6, hc7, hc8⟩⟩
theorem bd.g_Params {s v} (h : bd.t.R s v) : ∃ w, fieldR 9 1 false v = some w ∧ (tSl ay.t).R s.Params w := by obtain ⟨_, _, _, _, _, _, _, _, _, rfl, _, _, _, _, _, _, _, _, q⟩ := h; exact ⟨_, mk1 (TR.agg _ q), q⟩
structure da where
 scope : bd
 deriving Inhabited
def da.R : da → PV → Prop := fun s v => ∃ c1, ∃ c2, ∃ c3, ∃ c4, ∃ c5, ∃ c6, ∃ c7, ∃ c8, ∃ c9, v = .agg [vs s.scope.Program.Name, c1, c2, c3, c4, c5, c6, c7, c8, c9] ∧ (tSl co.t).R s.scope.Program.Headers c1 ∧ (tSl ay.t).R s.scope.Program.Metadata c2 ∧ (tSl cp.t).R s.scope.Program.Registers c3 ∧ (tSl cb.t).R s.scope.Program.Actions c4 ∧ (tSl gi.t).R s.scope.Program.Tables c5 ∧ (tSl dy.t).R s.scope.Program.States c6 ∧ (tSl bc.t).R s.scope.Program.Control c7 ∧ (tSl tI).R s.scope.Program.Deparser c8 ∧ (tSl ay.t).R s.scope.Params c9
def da.t : TR da := ⟨da.R, 10, true, fun h => by obtain ⟨c1, c2, c3, c4, c5, c6, c7, c8, c9, h0, hc1, hc2, hc3, hc4, hc5, hc6, hc7, hc8, hc9⟩ := h; subst h0; rfl, fun h => by obtain ⟨c1, c2, c3, c4, c5, c6, c7, c8, c9, h0, hc1, hc2, hc3, hc4, hc5, hc6, hc7, hc8, hc9⟩ := h; subst h0; rfl, fun h => by obtain ⟨c1, c2, c3, c4, c5, c6, c7, c8, c9, h0, hc1, hc2, hc3, hc4, hc5, hc6, hc7, hc8, hc9⟩ := h; subst h0; simp [closed, closedL, TR.clo _ hc1, TR.clo _ hc2, TR.clo _ hc3, TR.clo _ hc4, TR.clo _ hc5, TR.clo _ hc6, TR.clo _ hc7, TR.clo _ hc8, TR.clo _ hc9]⟩
theorem da.g_scope {s : da} {v : PV} (h : da.t.R s v) : ∃ w, fieldR 0 10 true v = some w ∧ bd.t.R s.scope w := by obtain ⟨c1, c2, c3, c4, c5, c6, c7, c8, c9, h0, hc1, hc2, hc3, hc4, hc5, hc6, hc7, hc8, hc9⟩ := h; subst h0; exact ⟨_, rfl, ⟨c1, c2, c3, c4, c5, c6, c7, c8, c9, rfl, hc1, hc2, hc3, hc4, hc5, hc6, hc7, hc8, hc9⟩⟩
structure ba where
 scope : bd
 env : av
 args : List (BitVec 32)
 nodes : List af
 next : Int
 deriving Inhabited
def ba.R : ba → PV → Prop := fun s v => ∃ c1, ∃ c2, ∃ c3, ∃ c4, ∃ c5, ∃ c6, ∃ c7, ∃ c8, ∃ c9, ∃ c10, ∃ c11, ∃ c12, ∃ c13, ∃ c14, ∃ c15, v = .agg [vs s.scope.Program.Name, c1, c2, c3, c4, c5, c6, c7, c8, c9, c10, c11, c12, c13, c14, c15, vi s.next] ∧ (tSl co.t).R s.scope.Program.Headers c1 ∧ (tSl ay.t).R s.scope.Program.Metadata c2 ∧ (tSl cp.t).R s.scope.Program.Registers c3 ∧ (tSl cb.t).R s.scope.Program.Actions c4 ∧ (tSl gi.t).R s.scope.Program.Tables c5 ∧ (tSl dy.t).R s.scope.Program.States c6 ∧ (tSl bc.t).R s.scope.Program.Control c7 ∧ (tSl tI).R s.scope.Program.Deparser c8 ∧ (tSl ay.t).R s.scope.Params c9 ∧ (tSl tB).R s.env.Valid c10 ∧ (tSl (tSl dm)).R s.env.Fields c11 ∧ (tSl dm).R s.env.Metd c12 ∧ (tSl tU8).R s.env.Payload c13 ∧ (tSl dm).R s.args c14 ∧ (tSl af.t).R s.nodes c15
def ba.t : TR ba := ⟨ba.R, 17, true, fun h => by obtain ⟨c1, c2, c3, c4, c5, c6, c7, c8, c9, c10, c11, c12, c13, c14, c15, h0, hc1, hc2, hc3, hc4, hc5, hc6, hc7, hc8, hc9, hc10, hc11, hc12, hc13, hc14, hc15⟩ := h; subst h0; rfl, fun h => by obtain ⟨c1, c2, c3, c4, c5, c6, c7, c8, c9, c10, c11, c12, c13, c14, c15, h0, hc1, hc2, hc3, hc4, hc5, hc6, hc7, hc8, hc9, hc10, hc11, hc12, hc13, hc14, hc15⟩ := h; subst h0; rfl, fun h => by obtain ⟨c1, c2, c3, c4, c5, c6, c7, c8, c9, c10, c11, c12, c13, c14, c15, h0, hc1, hc2, hc3, hc4, hc5, hc6, hc7, hc8, hc9, hc10, hc11, hc12, hc13, hc14, hc15⟩ := h; subst h0; simp [closed, closedL, TR.clo _ hc1, TR.clo _ hc2, TR.clo _ hc3, TR.clo _ hc4, TR.clo _ hc5, TR.clo _ hc6, TR.clo _ hc7, TR.clo _ hc8, TR.clo _ hc9, TR.clo _ hc10, TR.clo _ hc11, TR.clo _ hc12, TR.clo _ hc13, TR.clo _ hc14, TR.clo _ hc15]⟩
theorem ba.g_scope {s : ba} {v : PV} (h : ba.t.R s v) : ∃ w, fieldR 0 10 true v = some w ∧ bd.t.R s.scope w := by obtain ⟨c1, c2, c3, c4, c5, c6, c7, c8, c9, c10, c11, c12, c13, c14, c15, h0, hc1, hc2, hc3, hc4, hc5, hc6, hc7, hc8, hc9, hc10, hc11, hc12, hc13, hc14, hc15⟩ := h; subst h0; exact ⟨_, rfl, ⟨c1, c2, c3, c4, c5, c6, c7, c8, c9, rfl, hc1, hc2, hc3, hc4, hc5, hc6, hc7, hc8, hc9⟩⟩
theorem ba.g_env {s : ba} {v : PV} (h : ba.t.R s v) : ∃ w, fieldR 10 4 true v = some w ∧ av.t.R s.env w := by obtain ⟨c1, c2, c3, c4, c5, c6, c7, c8, c9, c10, c11, c12, c13, c14, c15, h0, hc1, hc2, hc3, hc4, hc5, hc6, hc7, hc8, hc9, hc10, hc11, hc12, hc13, hc14, hc15⟩ := h; subst h0; exact ⟨_, rfl, ⟨c10, c11, c12, c13, rfl, hc10, hc11, hc12, hc13⟩⟩
theorem ba.g_args {s v} (h : ba.t.R s v) : ∃ w, fieldR 14 1 false v = some w ∧ (tSl dm).R s.args w := by obtain ⟨_, _, _, _, _, _, _, _, _, _, _, _, _, _, _, rfl, _, _, _, _, _, _, _, _, _, _, _, _, _, q, _⟩ := h; exact ⟨_, mk1 (TR.agg _ q), q⟩
theorem ba.g_nodes {s v} (h : ba.t.R s v) : ∃ w, fieldR 15 1 false v = some w ∧ (tSl af.t).R s.nodes w := by obtain ⟨_, _, _, _, _, _, _, _, _, _, _, _, _, _, _, rfl, _, _, _, _, _, _, _, _, _, _, _, _, _, _, q⟩ := h; exact ⟨_, mk1 (TR.agg _ q), q⟩
theorem ba.g_next {s v} (h : ba.t.R s v) : fieldR 16 1 false v = some (vi s.next) := by obtain ⟨_, _, _, _, _, _, _, _, _, _, _, _, _, _, _, rfl, _⟩ := h; rfl
structure aj where
 v : BitVec 32
 w : Int
 deriving Inhabited, DecidableEq
def aj.R : aj → PV → Prop := fun s v => v = .agg [bm s.v, vi s.w]
def aj.t : TR aj := ⟨aj.R, 2, true, fun h => by have h0 : _ = _ := h; subst h0; rfl, fun h => by have h0 : _ = _ := h; subst h0; rfl, fun h => by have h0 : _ = _ := h; subst h0; simp [closed, closedL]⟩
theorem aj.g_v {s v} (h : aj.t.R s v) : fieldR 0 1 false v = some (bm s.v) := by cases h; rfl
theorem aj.g_w {s v} (h : aj.t.R s v) : fieldR 1 1 false v = some (vi s.w) := by cases h; rfl
structure aw where
 scope : bd
 args : List (BitVec 32)
 env : av
 regs : List (List (BitVec 32))
 deriving Inhabited
def aw.R : aw → PV → Prop := fun s v => ∃ c1, ∃ c2, ∃ c3, ∃ c4, ∃ c5, ∃ c6, ∃ c7, ∃ c8, ∃ c9, ∃ c10, ∃ c11, ∃ c12, ∃ c13, ∃ c14, ∃ c15, v = .agg [vs s.scope.Program.Name, c1, c2, c3, c4, c5, c6, c7, c8, c9, c10, c11, c12, c13, c14, c15] ∧ (tSl co.t).R s.scope.Program.Headers c1 ∧ (tSl ay.t).R s.scope.Program.Metadata c2 ∧ (tSl cp.t).R s.scope.Program.Registers c3 ∧ (tSl cb.t).R s.scope.Program.Actions c4 ∧ (tSl gi.t).R s.scope.Program.Tables c5 ∧ (tSl dy.t).R s.scope.Program.States c6 ∧ (tSl bc.t).R s.scope.Program.Control c7 ∧ (tSl tI).R s.scope.Program.Deparser c8 ∧ (tSl ay.t).R s.scope.Params c9 ∧ (tSl dm).R s.args c10 ∧ (tSl tB).R s.env.Valid c11 ∧ (tSl (tSl dm)).R s.env.Fields c12 ∧ (tSl dm).R s.env.Metd c13 ∧ (tSl tU8).R s.env.Payload c14 ∧ (tSl (tSl dm)).R s.regs c15
def aw.t : TR aw := ⟨aw.R, 16, true, fun h => by obtain ⟨c1, c2, c3, c4, c5, c6, c7, c8, c9, c10, c11, c12, c13, c14, c15, h0, hc1, hc2, hc3, hc4, hc5, hc6, hc7, hc8, hc9, hc10, hc11, hc12, hc13, hc14, hc15⟩ := h; subst h0; rfl, fun h => by obtain ⟨c1, c2, c3, c4, c5, c6, c7, c8, c9, c10, c11, c12, c13, c14, c15, h0, hc1, hc2, hc3, hc4, hc5, hc6, hc7, hc8, hc9, hc10, hc11, hc12, hc13, hc14, hc15⟩ := h; subst h0; rfl, fun h => by obtain ⟨c1, c2, c3, c4, c5, c6, c7, c8, c9, c10, c11, c12, c13, c14, c15, h0, hc1, hc2, hc3, hc4, hc5, hc6, hc7, hc8, hc9, hc10, hc11, hc12, hc13, hc14, hc15⟩ := h; subst h0; simp [closed, closedL, TR.clo _ hc1, TR.clo _ hc2, TR.clo _ hc3, TR.clo _ hc4, TR.clo _ hc5, TR.clo _ hc6, TR.clo _ hc7, TR.clo _ hc8, TR.clo _ hc9, TR.clo _ hc10, TR.clo _ hc11, TR.clo _ hc12, TR.clo _ hc13, TR.clo _ hc14, TR.clo _ hc15]⟩
theorem aw.g_scope {s : aw} {v : PV} (h : aw.t.R s v) : ∃ w, fieldR 0 10 true v = some w ∧ bd.t.R s.scope w := by obtain ⟨c1, c2, c3, c4, c5, c6, c7, c8, c9, c10, c11, c12, c13, c14, c15, h0, hc1, hc2, hc3, hc4, hc5, hc6, hc7, hc8, hc9, hc10, hc11, hc12, hc13, hc14, hc15⟩ := h; subst h0; exact ⟨_, rfl, ⟨c1, c2, c3, c4, c5, c6, c7, c8, c9, rfl, hc1, hc2, hc3, hc4, hc5, hc6, hc7, hc8, hc9⟩⟩
theorem aw.g_args {s v} (h : aw.t.R s v) : ∃ w, fieldR 10 1 false v = some w ∧ (tSl dm).R s.args w := by obtain ⟨_, _, _, _, _, _, _, _, _, _, _, _, _, _, _, rfl, _, _, _, _, _, _, _, _, _, q, _⟩ := h; exact ⟨_, mk1 (TR.agg _ q), q⟩
theorem aw.g_env {s : aw} {v : PV} (h : aw.t.R s v) : ∃ w, fieldR 11 4 true v = some w ∧ av.t.R s.env w := by obtain ⟨c1, c2, c3, c4, c5, c6, c7, c8, c9, c10, c11, c12, c13, c14, c15, h0, hc1, hc2, hc3, hc4, hc5, hc6, hc7, hc8, hc9, hc10, hc11, hc12, hc13, hc14, hc15⟩ := h; subst h0; exact ⟨_, rfl, ⟨c11, c12, c13, c14, rfl, hc11, hc12, hc13, hc14⟩⟩
theorem aw.g_regs {s v} (h : aw.t.R s v) : ∃ w, fieldR 15 1 false v = some w ∧ (tSl (tSl dm)).R s.regs w := by obtain ⟨_, _, _, _, _, _, _, _, _, _, _, _, _, _, _, rfl, _, _, _, _, _, _, _, _, _, _, _, _, _, _, q⟩ := h; exact ⟨_, mk1 (TR.agg _ q), q⟩
structure du where
 p : ae
 cells : List (List (BitVec 32))
 deriving Inhabited
def du.R : du → PV → Prop := fun s v => ∃ c1, ∃ c2, ∃ c3, ∃ c4, ∃ c5, ∃ c6, ∃ c7, ∃ c8, ∃ c9, v = .agg [vs s.p.Name, c1, c2, c3, c4, c5, c6, c7, c8, c9] ∧ (tSl co.t).R s.p.Headers c1 ∧ (tSl ay.t).R s.p.Metadata c2 ∧ (tSl cp.t).R s.p.Registers c3 ∧ (tSl cb.t).R s.p.Actions c4 ∧ (tSl gi.t).R s.p.Tables c5 ∧ (tSl dy.t).R s.p.States c6 ∧ (tSl bc.t).R s.p.Control c7 ∧ (tSl tI).R s.p.Deparser c8 ∧ (tSl (tSl dm)).R s.cells c9
def du.t : TR du := ⟨du.R, 10, true, fun h => by obtain ⟨c1, c2, c3, c4, c5, c6, c7, c8, c9, h0, hc1, hc2, hc3, hc4, hc5, hc6, hc7, hc8, hc9⟩ := h; subst h0; rfl, fun h => by obtain ⟨c1, c2, c3, c4, c5, c6, c7, c8, c9, h0, hc1, hc2, hc3, hc4, hc5, hc6, hc7, hc8, hc9⟩ := h; subst h0; rfl, fun h => by obtain ⟨c1, c2, c3, c4, c5, c6, c7, c8, c9, h0, hc1, hc2, hc3, hc4, hc5, hc6, hc7, hc8, hc9⟩ := h; subst h0; simp [closed, closedL, TR.clo _ hc1, TR.clo _ hc2, TR.clo _ hc3, TR.clo _ hc4, TR.clo _ hc5, TR.clo _ hc6, TR.clo _ hc7, TR.clo _ hc8, TR.clo _ hc9]⟩
theorem du.g_p {s : du} {v : PV} (h : du.t.R s v) : ∃ w, fieldR 0 9 true v = some w ∧ ae.t.R s.p w := by obtain ⟨c1, c2, c3, c4, c5, c6, c7, c8, c9, h0, hc1, hc2, hc3, hc4, hc5, hc6, hc7, hc8, hc9⟩ := h; subst h0; exact ⟨_, rfl, ⟨c1, c2, c3, c4, c5, c6, c7, c8, rfl, hc1, hc2, hc3, hc4, hc5, hc6, hc7, hc8⟩⟩
theorem du.g_cells {s v} (h : du.t.R s v) : ∃ w, fieldR 9 1 false v = some w ∧ (tSl (tSl dm)).R s.cells w := by obtain ⟨_, _, _, _, _, _, _, _, _, rfl, _, _, _, _, _, _, _, _, q⟩ := h; exact ⟨_, mk1 (TR.agg _ q), q⟩
structure bq where
 fields : List aa
 headers : List Int
 registers : List Int
 deriving Inhabited, DecidableEq
def bq.R : bq → PV → Prop := fun s v => ∃ c0, ∃ c1, ∃ c2, v = .agg [c0, c1, c2] ∧ (tSl aa.t).R s.fields c0 ∧ (tSl tI).R s.headers c1 ∧ (tSl tI).R s.registers c2
def bq.t : TR bq := ⟨bq.R, 3, true, fun h => by obtain ⟨c0, c1, c2, h0, hc0, hc1, hc2⟩ := h; subst h0; rfl, fun h => by obtain ⟨c0, c1, c2, h0, hc0, hc1, hc2⟩ := h; subst h0; rfl, fun h => by obtain ⟨c0, c1, c2, h0, hc0, hc1, hc2⟩ := h; subst h0; simp [closed, closedL, TR.clo _ hc0, TR.clo _ hc1, TR.clo _ hc2]⟩
theorem aa.eql_87 {ox oy : Operand} {a b : aa} {va vb' : PV} (ha : aa.t.R a va) (hb : aa.t.R b vb') : binF Tryz.prog .eql 87 ox oy va vb' = some (vb (decide (a = b))) := by
 have ha : va = _ := ha; have hb : vb' = _ := hb; subst ha; subst hb
 rw [cd2 Tryz.underlying87 (by kernel_rfl) (by kernel_rfl) Tryz.underlying3 Tryz.underlying3 rfl rfl (by decide) (by decide)]
 cases a; cases b; simp only [Option.some.injEq, PV.sc.injEq, Value.bool.injEq]; rw [Bool.eq_iff_iff]; simp [aa.mk.injEq, pw, BitVec.toNat_inj]
theorem aa.neq_87 {ox oy : Operand} {a b : aa} {va vb' : PV} (ha : aa.t.R a va) (hb : aa.t.R b vb') : binF Tryz.prog .neq 87 ox oy va vb' = some (vb (!decide (a = b))) := by
 have ha : va = _ := ha; have hb : vb' = _ := hb; subst ha; subst hb
 rw [bs7 Tryz.underlying87 (by kernel_rfl) (by kernel_rfl) Tryz.underlying3 Tryz.underlying3 rfl rfl (by decide) (by decide)]
 cases a; cases b; simp only [Option.some.injEq, PV.sc.injEq, Value.bool.injEq, Bool.not_eq_not]; rw [Bool.eq_iff_iff]; simp [aa.mk.injEq, pw, BitVec.toNat_inj]
end Go.Proofs.YtmonnlkagniolaaGreat
