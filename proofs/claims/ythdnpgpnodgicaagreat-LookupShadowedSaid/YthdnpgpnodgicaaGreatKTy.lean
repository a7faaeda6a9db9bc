import Derived.Test.YthdnpgpnodgicaaGreatPbEq
import Derived.Test.YthdnpgpnodgicaaGreatRows
set_option linter.unusedVariables false
set_option linter.unusedSimpArgs false
set_option maxRecDepth 100000
namespace Go.Proofs.YthdnpgpnodgicaaGreat
open Go Go.Pb Go.RowKit
structure eg where
 Op : Int
 N : Int
 W : Int
 deriving Inhabited, DecidableEq
def eg.R : eg → PV → Prop := fun s v => v = .agg [vi s.Op, vi s.N, vi s.W]
def eg.t : TR eg := ⟨eg.R, 3, true, fun h => by have h0 : _ = _ := h; subst h0; rfl, fun h => by have h0 : _ = _ := h; subst h0; rfl, fun h => by have h0 : _ = _ := h; subst h0; simp [closed, closedL]⟩
structure am where
 Kind : Int
 Table : Int
 Cond : List eg
 Then : List am
 Else : List am
 deriving Inhabited
mutual
def am.R : am → PV → Prop
 | ⟨xKind, xTable, xCond, xThen, xElse⟩, v => ∃ c2, ∃ c3, ∃ c4, v = .agg [vi xKind, vi xTable, c2, c3, c4] ∧ (tSl eg.t).R xCond c2 ∧ ((∃ es, IsSl c3 es ∧ am.Rl xThen es) ∧ xThen.length ≤ 9223372036854775807) ∧ ((∃ es, IsSl c4 es ∧ am.Rl xElse es) ∧ xElse.length ≤ 9223372036854775807)
def am.Rl : List am → List PV → Prop
 | [], [] => True
 | a :: l, e :: es => am.R a e ∧ am.Rl l es
 | _, _ => False
end
theorem am.Rl_eq : ∀ (l : List am) (es : List PV), am.Rl l es = All2 am.R l es
 | [], [] => by simp [am.Rl, All2]
 | a :: l, e :: es => by simp [am.Rl, All2, am.Rl_eq l es]
 | [], _ :: _ => by simp [am.Rl, All2]
 | _ :: _, [] => by simp [am.Rl, All2]
mutual
theorem am.R_clo : ∀ (s : am) (v : PV), am.R s v → closed v = true
 | ⟨xKind, xTable, xCond, xThen, xElse⟩, v, h => by
   simp only [am.R] at h
   obtain ⟨c2, c3, c4, h0, hc2, hc3, hc4⟩ := h
   subst h0
   have kc2 := TR.clo _ hc2
   obtain ⟨⟨esc3, hic3, hlc3⟩, _⟩ := hc3
   have kc3 := hic3.closed (am.Rl_clo _ _ hlc3)
   obtain ⟨⟨esc4, hic4, hlc4⟩, _⟩ := hc4
   have kc4 := hic4.closed (am.Rl_clo _ _ hlc4)
   simp [closed, closedL, kc2, kc3, kc4]
theorem am.Rl_clo : ∀ (l : List am) (es : List PV), am.Rl l es → closedL es = true
 | [], [], _ => rfl
 | a :: l, e :: es, h => by
   simp only [am.Rl] at h
   simp [closedL, am.R_clo a e h.1, am.Rl_clo l es h.2]
 | [], _ :: _, h => by simp [am.Rl] at h
 | _ :: _, [], h => by simp [am.Rl] at h
end
def am.t : TR am := ⟨am.R, 5, true, fun {a v} h => by cases a; simp only [am.R] at h; obtain ⟨c2, c3, c4, h0, hc2, hc3, hc4⟩ := h; subst h0; rfl, fun {a v} h => by cases a; simp only [am.R] at h; obtain ⟨c2, c3, c4, h0, hc2, hc3, hc4⟩ := h; subst h0; rfl, fun {a v} h => am.R_clo a v h⟩
theorem am.lR {l : List am} {v : PV} (h : (∃ es, IsSl v es ∧ am.Rl l es) ∧ l.length ≤ 9223372036854775807) : (tSl am.t).R l v := by obtain ⟨⟨es, hi, hl⟩, hb⟩ := h; rw [am.Rl_eq] at hl; exact ⟨⟨es, hi, hl⟩, hb⟩
theorem am.g_Kind {s : am} {v : PV} (h : am.t.R s v) : fieldR 0 1 false v = some (vi s.Kind) := by cases s; have h : am.R _ v := h; simp only [am.R] at h; obtain ⟨c2, c3, c4, h0, hc2, hc3, hc4⟩ := h; subst h0; rfl
theorem am.g_Table {s : am} {v : PV} (h : am.t.R s v) : fieldR 1 1 false v = some (vi s.Table) := by cases s; have h : am.R _ v := h; simp only [am.R] at h; obtain ⟨c2, c3, c4, h0, hc2, hc3, hc4⟩ := h; subst h0; rfl
theorem am.g_Cond {s : am} {v : PV} (h : am.t.R s v) : ∃ w, fieldR 2 1 false v = some w ∧ (tSl eg.t).R s.Cond w := by cases s; have h : am.R _ v := h; simp only [am.R] at h; obtain ⟨c2, c3, c4, h0, hc2, hc3, hc4⟩ := h; subst h0; exact ⟨_, mk1 (TR.agg _ hc2), hc2⟩
theorem am.g_Then {s : am} {v : PV} (h : am.t.R s v) : ∃ w, fieldR 3 1 false v = some w ∧ (tSl am.t).R s.Then w := by cases s; have h : am.R _ v := h; simp only [am.R] at h; obtain ⟨c2, c3, c4, h0, hc2, hc3, hc4⟩ := h; subst h0; obtain ⟨⟨es, hi, hl⟩, hb⟩ := hc3; rw [am.Rl_eq] at hl; have hh : (tSl am.t).R _ _ := ⟨⟨es, hi, hl⟩, hb⟩; exact ⟨_, mk1 (TR.agg _ hh), hh⟩
theorem am.g_Else {s : am} {v : PV} (h : am.t.R s v) : ∃ w, fieldR 4 1 false v = some w ∧ (tSl am.t).R s.Else w := by cases s; have h : am.R _ v := h; simp only [am.R] at h; obtain ⟨c2, c3, c4, h0, hc2, hc3, hc4⟩ := h; subst h0; obtain ⟨⟨es, hi, hl⟩, hb⟩ := hc4; rw [am.Rl_eq] at hl; have hh : (tSl am.t).R _ _ := ⟨⟨es, hi, hl⟩, hb⟩; exact ⟨_, mk1 (TR.agg _ hh), hh⟩
structure ck where
 Name : List UInt8
 Width : Int
 deriving Inhabited, DecidableEq
def ck.R : ck → PV → Prop := fun s v => v = .agg [vs s.Name, vi s.Width]
def ck.t : TR ck := ⟨ck.R, 2, true, fun h => by have h0 : _ = _ := h; subst h0; rfl, fun h => by have h0 : _ = _ := h; subst h0; rfl, fun h => by have h0 : _ = _ := h; subst h0; simp [closed, closedL]⟩
theorem ck.g_Name {s v} (h : ck.t.R s v) : fieldR 0 1 false v = some (vs s.Name) := by cases h; rfl
theorem ck.g_Width {s v} (h : ck.t.R s v) : fieldR 1 1 false v = some (vi s.Width) := by cases h; rfl
structure cy where
 Name : List UInt8
 Fields : List ck
 deriving Inhabited, DecidableEq
def cy.R : cy → PV → Prop := fun s v => ∃ c1, v = .agg [vs s.Name, c1] ∧ (tSl ck.t).R s.Fields c1
def cy.t : TR cy := ⟨cy.R, 2, true, fun h => by obtain ⟨c1, h0, hc1⟩ := h; subst h0; rfl, fun h => by obtain ⟨c1, h0, hc1⟩ := h; subst h0; rfl, fun h => by obtain ⟨c1, h0, hc1⟩ := h; subst h0; simp [closed, closedL, TR.clo _ hc1]⟩
theorem cy.g_Name {s v} (h : cy.t.R s v) : fieldR 0 1 false v = some (vs s.Name) := by obtain ⟨_, rfl, _⟩ := h; rfl
theorem cy.g_Fields {s v} (h : cy.t.R s v) : ∃ w, fieldR 1 1 false v = some w ∧ (tSl ck.t).R s.Fields w := by obtain ⟨_, rfl, q⟩ := h; exact ⟨_, mk1 (TR.agg _ q), q⟩
structure cp where
 Header : Int
 Field : Int
 deriving Inhabited, DecidableEq
def cp.R : cp → PV → Prop := fun s v => v = .agg [vi s.Header, vi s.Field]
def cp.t : TR cp := ⟨cp.R, 2, true, fun h => by have h0 : _ = _ := h; subst h0; rfl, fun h => by have h0 : _ = _ := h; subst h0; rfl, fun h => by have h0 : _ = _ := h; subst h0; simp [closed, closedL]⟩
theorem cp.g_Header {s v} (h : cp.t.R s v) : fieldR 0 1 false v = some (vi s.Header) := by cases h; rfl
theorem cp.g_Field {s v} (h : cp.t.R s v) : fieldR 1 1 false v = some (vi s.Field) := by cases h; rfl
structure dq where
 Kind : Int
 Dst : cp
 Register : Int
 Header : Int
 Index : List eg
 Value : List eg
 deriving Inhabited, DecidableEq
def dq.R : dq → PV → Prop := fun s v => ∃ c5, ∃ c6, v = .agg [vi s.Kind, vi s.Dst.Header, vi s.Dst.Field, vi s.Register, vi s.Header, c5, c6] ∧ (tSl eg.t).R s.Index c5 ∧ (tSl eg.t).R s.Value c6
def dq.t : TR dq := ⟨dq.R, 7, true, fun h => by obtain ⟨c5, c6, h0, hc5, hc6⟩ := h; subst h0; rfl, fun h => by obtain ⟨c5, c6, h0, hc5, hc6⟩ := h; subst h0; rfl, fun h => by obtain ⟨c5, c6, h0, hc5, hc6⟩ := h; subst h0; simp [closed, closedL, TR.clo _ hc5, TR.clo _ hc6]⟩
theorem dq.g_Kind {s v} (h : dq.t.R s v) : fieldR 0 1 false v = some (vi s.Kind) := by obtain ⟨_, _, rfl, _⟩ := h; rfl
theorem dq.g_Header {s v} (h : dq.t.R s v) : fieldR 4 1 false v = some (vi s.Header) := by obtain ⟨_, _, rfl, _⟩ := h; rfl
theorem dq.g_Index {s v} (h : dq.t.R s v) : ∃ w, fieldR 5 1 false v = some w ∧ (tSl eg.t).R s.Index w := by obtain ⟨_, _, rfl, q, _⟩ := h; exact ⟨_, mk1 (TR.agg _ q), q⟩
theorem dq.g_Value {s v} (h : dq.t.R s v) : ∃ w, fieldR 6 1 false v = some w ∧ (tSl eg.t).R s.Value w := by obtain ⟨_, _, rfl, _, q⟩ := h; exact ⟨_, mk1 (TR.agg _ q), q⟩
structure dc where
 Name : List UInt8
 Params : List ck
 Body : List dq
 deriving Inhabited, DecidableEq
def dc.R : dc → PV → Prop := fun s v => ∃ c1, ∃ c2, v = .agg [vs s.Name, c1, c2] ∧ (tSl ck.t).R s.Params c1 ∧ (tSl dq.t).R s.Body c2
def dc.t : TR dc := ⟨dc.R, 3, true, fun h => by obtain ⟨c1, c2, h0, hc1, hc2⟩ := h; subst h0; rfl, fun h => by obtain ⟨c1, c2, h0, hc1, hc2⟩ := h; subst h0; rfl, fun h => by obtain ⟨c1, c2, h0, hc1, hc2⟩ := h; subst h0; simp [closed, closedL, TR.clo _ hc1, TR.clo _ hc2]⟩
theorem dc.g_Name {s v} (h : dc.t.R s v) : fieldR 0 1 false v = some (vs s.Name) := by obtain ⟨_, _, rfl, _⟩ := h; rfl
theorem dc.g_Params {s v} (h : dc.t.R s v) : ∃ w, fieldR 1 1 false v = some w ∧ (tSl ck.t).R s.Params w := by obtain ⟨_, _, rfl, q, _⟩ := h; exact ⟨_, mk1 (TR.agg _ q), q⟩
theorem dc.g_Body {s v} (h : dc.t.R s v) : ∃ w, fieldR 2 1 false v = some w ∧ (tSl dq.t).R s.Body w := by obtain ⟨_, _, rfl, _, q⟩ := h; exact ⟨_, mk1 (TR.agg _ q), q⟩
structure fb where
 Value : BitVec 32
 Mask : BitVec 32
 Next : Int
 deriving Inhabited, DecidableEq
def fb.R : fb → PV → Prop := fun s v => v = .agg [dx s.Value, dx s.Mask, vi s.Next]
def fb.t : TR fb := ⟨fb.R, 3, true, fun h => by have h0 : _ = _ := h; subst h0; rfl, fun h => by have h0 : _ = _ := h; subst h0; rfl, fun h => by have h0 : _ = _ := h; subst h0; simp [closed, closedL]⟩
theorem fb.g_Value {s v} (h : fb.t.R s v) : fieldR 0 1 false v = some (dx s.Value) := by cases h; rfl
theorem fb.g_Mask {s v} (h : fb.t.R s v) : fieldR 1 1 false v = some (dx s.Mask) := by cases h; rfl
structure cz where
 Name : List UInt8
 Extract : List Int
 Select : Bool
 On : cp
 Cases : List fb
 Default : Int
 deriving Inhabited, DecidableEq
def cz.R : cz → PV → Prop := fun s v => ∃ c1, ∃ c5, v = .agg [vs s.Name, c1, vb s.Select, vi s.On.Header, vi s.On.Field, c5, vi s.Default] ∧ (tSl tI).R s.Extract c1 ∧ (tSl fb.t).R s.Cases c5
def cz.t : TR cz := ⟨cz.R, 7, true, fun h => by obtain ⟨c1, c5, h0, hc1, hc5⟩ := h; subst h0; rfl, fun h => by obtain ⟨c1, c5, h0, hc1, hc5⟩ := h; subst h0; rfl, fun h => by obtain ⟨c1, c5, h0, hc1, hc5⟩ := h; subst h0; simp [closed, closedL, TR.clo _ hc1, TR.clo _ hc5]⟩
theorem cz.g_Name {s v} (h : cz.t.R s v) : fieldR 0 1 false v = some (vs s.Name) := by obtain ⟨_, _, rfl, _⟩ := h; rfl
theorem cz.g_Extract {s v} (h : cz.t.R s v) : ∃ w, fieldR 1 1 false v = some w ∧ (tSl tI).R s.Extract w := by obtain ⟨_, _, rfl, q, _⟩ := h; exact ⟨_, mk1 (TR.agg _ q), q⟩
theorem cz.g_Cases {s v} (h : cz.t.R s v) : ∃ w, fieldR 5 1 false v = some w ∧ (tSl fb.t).R s.Cases w := by obtain ⟨_, _, rfl, _, q⟩ := h; exact ⟨_, mk1 (TR.agg _ q), q⟩
theorem cz.g_Default {s v} (h : cz.t.R s v) : fieldR 6 1 false v = some (vi s.Default) := by obtain ⟨_, _, rfl, _⟩ := h; rfl
structure fd where
 Name : List UInt8
 Width : Int
 Size : Int
 deriving Inhabited, DecidableEq
def fd.R : fd → PV → Prop := fun s v => v = .agg [vs s.Name, vi s.Width, vi s.Size]
def fd.t : TR fd := ⟨fd.R, 3, true, fun h => by have h0 : _ = _ := h; subst h0; rfl, fun h => by have h0 : _ = _ := h; subst h0; rfl, fun h => by have h0 : _ = _ := h; subst h0; simp [closed, closedL]⟩
theorem fd.g_Name {s v} (h : fd.t.R s v) : fieldR 0 1 false v = some (vs s.Name) := by cases h; rfl
theorem fd.g_Width {s v} (h : fd.t.R s v) : fieldR 1 1 false v = some (vi s.Width) := by cases h; rfl
theorem fd.g_Size {s v} (h : fd.t.R s v) : fieldR 2 1 false v = some (vi s.Size) := by cases h; rfl
structure bn where
 Field : cp
 Kind : Int
 deriving Inhabited, DecidableEq
def bn.R : bn → PV → Prop := fun s v => v = .agg [vi s.Field.Header, vi s.Field.Field, vi s.Kind]
def bn.t : TR bn := ⟨bn.R, 3, true, fun h => by have h0 : _ = _ := h; subst h0; rfl, fun h => by have h0 : _ = _ := h; subst h0; rfl, fun h => by have h0 : _ = _ := h; subst h0; simp [closed, closedL]⟩
theorem bn.g_Field {s : bn} {v : PV} (h : bn.t.R s v) : ∃ w, fieldR 0 2 true v = some w ∧ cp.t.R s.Field w := by have h0 : _ = _ := h; subst h0; exact ⟨_, rfl, rfl⟩
theorem bn.g_Kind {s v} (h : bn.t.R s v) : fieldR 2 1 false v = some (vi s.Kind) := by cases h; rfl
structure bh where
 Action : Int
 Args : List (BitVec 32)
 deriving Inhabited, DecidableEq
def bh.R : bh → PV → Prop := fun s v => ∃ c1, v = .agg [vi s.Action, c1] ∧ (tSl ru).R s.Args c1
def bh.t : TR bh := ⟨bh.R, 2, true, fun h => by obtain ⟨c1, h0, hc1⟩ := h; subst h0; rfl, fun h => by obtain ⟨c1, h0, hc1⟩ := h; subst h0; rfl, fun h => by obtain ⟨c1, h0, hc1⟩ := h; subst h0; simp [closed, closedL, TR.clo _ hc1]⟩
theorem bh.g_Action {s v} (h : bh.t.R s v) : fieldR 0 1 false v = some (vi s.Action) := by obtain ⟨_, rfl, _⟩ := h; rfl
theorem bh.g_Args {s v} (h : bh.t.R s v) : ∃ w, fieldR 1 1 false v = some w ∧ (tSl ru).R s.Args w := by obtain ⟨_, rfl, q⟩ := h; exact ⟨_, mk1 (TR.agg _ q), q⟩
structure az where
 Name : List UInt8
 Keys : List bn
 Actions : List Int
 Default : bh
 Size : Int
 deriving Inhabited, DecidableEq
def az.R : az → PV → Prop := fun s v => ∃ c1, ∃ c2, ∃ c4, v = .agg [vs s.Name, c1, c2, vi s.Default.Action, c4, vi s.Size] ∧ (tSl bn.t).R s.Keys c1 ∧ (tSl tI).R s.Actions c2 ∧ (tSl ru).R s.Default.Args c4
def az.t : TR az := ⟨az.R, 6, true, fun h => by obtain ⟨c1, c2, c4, h0, hc1, hc2, hc4⟩ := h; subst h0; rfl, fun h => by obtain ⟨c1, c2, c4, h0, hc1, hc2, hc4⟩ := h; subst h0; rfl, fun h => by obtain ⟨c1, c2, c4, h0, hc1, hc2, hc4⟩ := h; subst h0; simp [closed, closedL, TR.clo _ hc1, TR.clo _ hc2, TR.clo _ hc4]⟩
theorem az.g_Name {s v} (h : az.t.R s v) : fieldR 0 1 false v = some (vs s.Name) := by obtain ⟨_, _, _, rfl, _⟩ := h; rfl
theorem az.g_Keys {s v} (h : az.t.R s v) : ∃ w, fieldR 1 1 false v = some w ∧ (tSl bn.t).R s.Keys w := by obtain ⟨_, _, _, rfl, q, _⟩ := h; exact ⟨_, mk1 (TR.agg _ q), q⟩
theorem az.g_Actions {s v} (h : az.t.R s v) : ∃ w, fieldR 2 1 false v = some w ∧ (tSl tI).R s.Actions w := by obtain ⟨_, _, _, rfl, _, q, _⟩ := h; exact ⟨_, mk1 (TR.agg _ q), q⟩
theorem az.g_Default {s : az} {v : PV} (h : az.t.R s v) : ∃ w, fieldR 3 2 true v = some w ∧ bh.t.R s.Default w := by obtain ⟨c1, c2, c4, h0, hc1, hc2, hc4⟩ := h; subst h0; exact ⟨_, rfl, ⟨c4, rfl, hc4⟩⟩
theorem az.g_Size {s v} (h : az.t.R s v) : fieldR 5 1 false v = some (vi s.Size) := by obtain ⟨_, _, _, rfl, _⟩ := h; rfl
structure ab where
 Name : List UInt8
 Headers : List cy
 Metadata : List ck
 Registers : List fd
 Actions : List dc
 Tables : List az
 States : List cz
 Control : List am
 Deparser : List Int
 deriving Inhabited
def ab.R : ab → PV → Prop := fun s v => ∃ c1, ∃ c2, ∃ c3, ∃ c4, ∃ c5, ∃ c6, ∃ c7, ∃ c8, v = .agg [vs s.Name, c1, c2, c3, c4, c5, c6, c7, c8] ∧ (tSl cy.t).R s.Headers c1 ∧ (tSl ck.t).R s.Metadata c2 ∧ (tSl fd.t).R s.Registers c3 ∧ (tSl dc.t).R s.Actions c4 ∧ (tSl az.t).R s.Tables c5 ∧ (tSl cz.t).R s.States c6 ∧ (tSl am.t).R s.Control c7 ∧ (tSl tI).R s.Deparser c8
def ab.t : TR ab := ⟨ab.R, 9, true, fun h => by obtain ⟨c1, c2, c3, c4, c5, c6, c7, c8, h0, hc1, hc2, hc3, hc4, hc5, hc6, hc7, hc8⟩ := h; subst h0; rfl, fun h => by obtain ⟨c1, c2, c3, c4, c5, c6, c7, c8, h0, hc1, hc2, hc3, hc4, hc5, hc6, hc7, hc8⟩ := h; subst h0; rfl, fun h => by obtain ⟨c1, c2, c3, c4, c5, c6, c7, c8, h0, hc1, hc2, hc3, hc4, hc5, hc6, hc7, hc8⟩ := h; subst h0; simp [closed, closedL, TR.clo _ hc1, TR.clo _ hc2, TR.clo _ hc3, TR.clo _ hc4, TR.clo _ hc5, TR.clo _ hc6, TR.clo _ hc7, TR.clo _ hc8]⟩
theorem ab.g_Name {s v} (h : ab.t.R s v) : fieldR 0 1 false v = some (vs s.Name) := by obtain ⟨_, _, _, _, _, _, _, _, rfl, _⟩ := h; rfl
theorem ab.g_Headers {s v} (h : ab.t.R s v) : ∃ w, fieldR 1 1 false v = some w ∧ (tSl cy.t).R s.Headers w := by obtain ⟨_, _, _, _, _, _, _, _, rfl, q, _⟩ := h; exact ⟨_, mk1 (TR.agg _ q), q⟩
theorem ab.g_Metadata {s v} (h : ab.t.R s v) : ∃ w, fieldR 2 1 false v = some w ∧ (tSl ck.t).R s.Metadata w := by obtain ⟨_, _, _, _, _, _, _, _, rfl, _, q, _⟩ := h; exact ⟨_, mk1 (TR.agg _ q), q⟩
theorem ab.g_Registers {s v} (h : ab.t.R s v) : ∃ w, fieldR 3 1 false v = some w ∧ (tSl fd.t).R s.Registers w := by obtain ⟨_, _, _, _, _, _, _, _, rfl, _, _, q, _⟩ := h; exact ⟨_, mk1 (TR.agg _ q), q⟩
theorem ab.g_Actions {s v} (h : ab.t.R s v) : ∃ w, fieldR 4 1 false v = some w ∧ (tSl dc.t).R s.Actions w := by obtain ⟨_, _, _, _, _, _, _, _, rfl, _, _, _, q, _⟩ := h; exact ⟨_, mk1 (TR.agg _ q), q⟩
theorem ab.g_Tables {s v} (h : ab.t.R s v) : ∃ w, fieldR 5 1 false v = some w ∧ (tSl az.t).R s.Tables w := by obtain ⟨_, _, _, _, _, _, _, _, rfl, _, _, _, _, q, _⟩ := h; exact ⟨_, mk1 (TR.agg _ q), q⟩
theorem ab.g_States {s v} (h : ab.t.R s v) : ∃ w, fieldR 6 1 false v = some w ∧ (tSl cz.t).R s.States w := by obtain ⟨_, _, _, _, _, _, _, _, rfl, _, _, _, _, _, q, _⟩ := h; exact ⟨_, mk1 (TR.agg _ q), q⟩
theorem ab.g_Control {s v} (h : ab.t.R s v) : ∃ w, fieldR 7 1 false v = some w ∧ (tSl am.t).R s.Control w := by obtain ⟨_, _, _, _, _, _, _, _, rfl, _, _, _, _, _, _, q, _⟩ := h; exact ⟨_, mk1 (TR.agg _ q), q⟩
theorem ab.g_Deparser {s v} (h : ab.t.R s v) : ∃ w, fieldR 8 1 false v = some w ∧ (tSl tI).R s.Deparser w := by obtain ⟨_, _, _, _, _, _, _, _, rfl, _, _, _, _, _, _, _, q⟩ := h; exact ⟨_, mk1 (TR.agg _ q), q⟩
structure ba where
 Value : BitVec 32
 Mask : BitVec 32
 deriving Inhabited, DecidableEq
def ba.R : ba → PV → Prop := fun s v => v = .agg [dx s.Value, dx s.Mask]
def ba.t : TR ba := ⟨ba.R, 2, true, fun h => by have h0 : _ = _ := h; subst h0; rfl, fun h => by have h0 : _ = _ := h; subst h0; rfl, fun h => by have h0 : _ = _ := h; subst h0; simp [closed, closedL]⟩
theorem ba.g_Value {s v} (h : ba.t.R s v) : fieldR 0 1 false v = some (dx s.Value) := by cases h; rfl
theorem ba.g_Mask {s v} (h : ba.t.R s v) : fieldR 1 1 false v = some (dx s.Mask) := by cases h; rfl
structure au where
 Keys : List ba
 Priority : Int
 Call : bh
 deriving Inhabited, DecidableEq
def au.R : au → PV → Prop := fun s v => ∃ c0, ∃ c3, v = .agg [c0, vi s.Priority, vi s.Call.Action, c3] ∧ (tSl ba.t).R s.Keys c0 ∧ (tSl ru).R s.Call.Args c3
def au.t : TR au := ⟨au.R, 4, true, fun h => by obtain ⟨c0, c3, h0, hc0, hc3⟩ := h; subst h0; rfl, fun h => by obtain ⟨c0, c3, h0, hc0, hc3⟩ := h; subst h0; rfl, fun h => by obtain ⟨c0, c3, h0, hc0, hc3⟩ := h; subst h0; simp [closed, closedL, TR.clo _ hc0, TR.clo _ hc3]⟩
theorem au.g_Keys {s v} (h : au.t.R s v) : ∃ w, fieldR 0 1 false v = some w ∧ (tSl ba.t).R s.Keys w := by obtain ⟨_, _, rfl, q, _⟩ := h; exact ⟨_, mk1 (TR.agg _ q), q⟩
theorem au.g_Priority {s v} (h : au.t.R s v) : fieldR 1 1 false v = some (vi s.Priority) := by obtain ⟨_, _, rfl, _⟩ := h; rfl
theorem au.g_Call {s : au} {v : PV} (h : au.t.R s v) : ∃ w, fieldR 2 2 true v = some w ∧ bh.t.R s.Call w := by obtain ⟨c0, c3, h0, hc0, hc3⟩ := h; subst h0; exact ⟨_, rfl, ⟨c3, rfl, hc3⟩⟩
structure av where
 ID : Int
 Entry : au
 deriving Inhabited, DecidableEq
def av.R : av → PV → Prop := fun s v => ∃ c1, ∃ c4, v = .agg [vi s.ID, c1, vi s.Entry.Priority, vi s.Entry.Call.Action, c4] ∧ (tSl ba.t).R s.Entry.Keys c1 ∧ (tSl ru).R s.Entry.Call.Args c4
def av.t : TR av := ⟨av.R, 5, true, fun h => by obtain ⟨c1, c4, h0, hc1, hc4⟩ := h; subst h0; rfl, fun h => by obtain ⟨c1, c4, h0, hc1, hc4⟩ := h; subst h0; rfl, fun h => by obtain ⟨c1, c4, h0, hc1, hc4⟩ := h; subst h0; simp [closed, closedL, TR.clo _ hc1, TR.clo _ hc4]⟩
theorem av.g_ID {s v} (h : av.t.R s v) : fieldR 0 1 false v = some (vi s.ID) := by obtain ⟨_, _, rfl, _⟩ := h; rfl
theorem av.g_Entry {s : av} {v : PV} (h : av.t.R s v) : ∃ w, fieldR 1 4 true v = some w ∧ au.t.R s.Entry w := by obtain ⟨c1, c4, h0, hc1, hc4⟩ := h; subst h0; exact ⟨_, rfl, ⟨c1, c4, rfl, hc1, hc4⟩⟩
structure co where
 Program : ab
 Table : Int
 Rows : List av
 Key : List (BitVec 32)
 deriving Inhabited
def co.R : co → PV → Prop := fun s v => ∃ c1, ∃ c2, ∃ c3, ∃ c4, ∃ c5, ∃ c6, ∃ c7, ∃ c8, ∃ c10, ∃ c11, v = .agg [vs s.Program.Name, c1, c2, c3, c4, c5, c6, c7, c8, vi s.Table, c10, c11] ∧ (tSl cy.t).R s.Program.Headers c1 ∧ (tSl ck.t).R s.Program.Metadata c2 ∧ (tSl fd.t).R s.Program.Registers c3 ∧ (tSl dc.t).R s.Program.Actions c4 ∧ (tSl az.t).R s.Program.Tables c5 ∧ (tSl cz.t).R s.Program.States c6 ∧ (tSl am.t).R s.Program.Control c7 ∧ (tSl tI).R s.Program.Deparser c8 ∧ (tSl av.t).R s.Rows c10 ∧ (tSl ru).R s.Key c11
def co.t : TR co := ⟨co.R, 12, true, fun h => by obtain ⟨c1, c2, c3, c4, c5, c6, c7, c8, c10, c11, h0, hc1, hc2, hc3, hc4, hc5, hc6, hc7, hc8, hc10, hc11⟩ := h; subst h0; rfl, fun h => by obtain ⟨c1, c2, c3, c4, c5, c6, c7, c8, c10, c11, h0, hc1, hc2, hc3, hc4, hc5, hc6, hc7, hc8, hc10, hc11⟩ := h; subst h0; rfl, fun h => by obtain ⟨c1, c2, c3, c4, c5, c6, c7, c8, c10, c11, h0, hc1, hc2, hc3, hc4, hc5, hc6, hc7, hc8, hc10, hc11⟩ := h; subst h0; simp [closed, closedL, TR.clo _ hc1, TR.clo _ hc2, TR.clo _ hc3, TR.clo _ hc4, TR.clo _ hc5, TR.clo _ hc6, TR.clo _ hc7, TR.clo _ hc8, TR.clo _ hc10, TR.clo _ hc11]⟩
theorem co.g_Program {s : co} {v : PV} (h : co.t.R s v) : ∃ w, fieldR 0 9 true v = some w ∧ ab.t.R s.Program w := by obtain ⟨c1, c2, c3, c4, c5, c6, c7, c8, c10, c11, h0, hc1, hc2, hc3, hc4, hc5, hc6, hc7, hc8, hc10, hc11⟩ := h; subst h0; exact ⟨_, rfl, ⟨c1, c2, c3, c4, c5, c6, c7, c8, rfl, hc1, hc2, hc3, hc4, hc5, hc6, hc7, hc8⟩⟩
theorem co.g_Table {s v} (h : co.t.R s v) : fieldR 9 1 false v = some (vi s.Table) := by obtain ⟨_, _, _, _, _, _, _, _, _, _, rfl, _⟩ := h; rfl
theorem co.g_Rows {s v} (h : co.t.R s v) : ∃ w, fieldR 10 1 false v = some w ∧ (tSl av.t).R s.Rows w := by obtain ⟨_, _, _, _, _, _, _, _, _, _, rfl, _, _, _, _, _, _, _, _, q, _⟩ := h; exact ⟨_, mk1 (TR.agg _ q), q⟩
theorem co.g_Key {s v} (h : co.t.R s v) : ∃ w, fieldR 11 1 false v = some w ∧ (tSl ru).R s.Key w := by obtain ⟨_, _, _, _, _, _, _, _, _, _, rfl, _, _, _, _, _, _, _, _, _, q⟩ := h; exact ⟨_, mk1 (TR.agg _ q), q⟩
structure aa where
 Value : BitVec 64
 Mask : BitVec 64
 deriving Inhabited, DecidableEq
def aa.R : aa → PV → Prop := fun s v => v = .agg [bd s.Value, bd s.Mask]
def aa.t : TR aa := ⟨aa.R, 2, true, fun h => by have h0 : _ = _ := h; subst h0; rfl, fun h => by have h0 : _ = _ := h; subst h0; rfl, fun h => by have h0 : _ = _ := h; subst h0; simp [closed, closedL]⟩
theorem aa.g_Value {s v} (h : aa.t.R s v) : fieldR 0 1 false v = some (bd s.Value) := by cases h; rfl
theorem aa.g_Mask {s v} (h : aa.t.R s v) : fieldR 1 1 false v = some (bd s.Mask) := by cases h; rfl
theorem ba.neq_127 {ox oy : Operand} {a b : ba} {va vb' : PV} (ha : ba.t.R a va) (hb : ba.t.R b vb') : binF Tryz.prog .neq 127 ox oy va vb' = some (vb (!decide (a = b))) := by
 have ha : va = _ := ha; have hb : vb' = _ := hb; subst ha; subst hb
 rw [cp3 Tryz.underlying127 (by kernel_rfl) (by kernel_rfl) Tryz.underlying64 Tryz.underlying64 rfl rfl (by decide) (by decide)]
 cases a; cases b; simp only [Option.some.injEq, PV.sc.injEq, Value.bool.injEq, Bool.not_eq_not]; rw [Bool.eq_iff_iff]; simp [ba.mk.injEq, pt, BitVec.toNat_inj]
end Go.Proofs.YthdnpgpnodgicaaGreat
