/-
  The code of each function does what its plain program says.
-/
import Derived.Test.YtmonnlkagniolaaGreatL10W5
set_option linter.unusedVariables false
set_option linter.unusedSimpArgs false
set_option maxRecDepth 100000
namespace Go.Proofs.YtmonnlkagniolaaGreat
open Go Go.Pb Go.RowKit
def RF190 (res : api_Env) (r : PV) : Prop := api_Env.t.R res r
theorem f190_ok {x0 : api_Program} {x1 : api_Env} {x2 : Int} {v0 v1 : PV} (r0 : api_Program.t.R x0 v0) (r1 : api_Env.t.R x1 v1) (hE : EB x1) : ∃ r, FnR Tryz.prog 190 [v0, v1, vi x2] r ∧ api_Env.t.R (env_AddHeader x0 x1 x2) r := by
  refine fnT (R := RF190) text190 rfl fun res hres => ?_
  unfold env_AddHeader at hres
  refine sR ?_
  refine rd_op (ov_box rfl (TR.cnt api_Program.t r0)) ?_
  refine rd_op (ov_box rfl (TR.cnt api_Env.t r1)) ?_
  refine rd_allocO (x := .agg [nilS, nilS, nilS, nilS]) (Mem.nil ⟨0, []⟩) rfl rfl (fun a6 a7 b0 a8 => ?_)
  refine nR ?_
  refine lD r0 rfl rfl rfl ?_
  refine lD r1 rfl rfl rfl ?_
  refine mV rfl ?_
  obtain ⟨a9, a2, hres⟩ := let_ex hres
  obtain ⟨a3, a4, a0⟩ := f229_ok (x2 := x2) (x3 := true) (x4 := true) r0 r1 (by first | assumption | omega | (rw [wr_of (by omega) (by omega)]; omega) | (have hk := rval rfl (And.right (And.left (by assumption))); omega) | (have hk := rval (by assumption) (by assumption); omega) | (have hk := rval (by assumption) (And.left (by assumption)); omega) | (have hk := rval (by assumption) (And.left (And.left (by assumption))); have hz := rslc (by assumption); omega) | (simp; done) | (simp only [List.length_append, List.length_nil, List.length_cons]; omega) | (have hk := (chk_ok (by assumption) (by assumption)).1; omega) | (simp only [List.length_cons, List.length_nil]; omega) | (simp only [List.length_append]; have hk := (chk_ok (by assumption) (by assumption)).1; omega) | (simp only [List.length_append, List.length_nil]; have hk := (chk_ok (by assumption) (by assumption)).1; omega))
  rw [a2] at a0
  refine cL a4 rfl rfl (clL_cons (TR.clo api_Program.t r0) (clL_cons (TR.clo api_Env.t r1) (clL_cons rfl (clL_cons rfl (clL_cons rfl clL_nil))))) ?_
  refine rd_storeO (k := 0) (v := a3) a8 rfl rfl rfl (TR.cnt api_Env.t a0) (fun a5 a1 => ?_)
  replace a1 : Mem a5 [⟨.op a6 a7 0, 46, 4, [a3]⟩] := a1
  refine nS ?_
  subst hres
  exact rc_retV (.cell rfl (load_whole (k := 0) a1 rfl (TR.agg api_Env.t a0)) .nil) (deep_closed (TR.clo api_Env.t a0)) a0

def RF119 (i0_ w0_ : Nat) (R_ : List Ent) (res : action_state) (r : PV) (h : Heap) : Prop := ∃ uF0 : PV, Mem h (⟨.op i0_ w0_ 0, 171, 16, [uF0]⟩ :: R_) ∧ (action_state.t.R res uF0) ∧ r = .tup []
theorem f119_ok {x0 : action_state} {x1 : api_Statement} {v1 f7 : PV} {R_ : List Ent} {h_ : Heap} {d2 d3 : Nat} (r1 : api_Statement.t.R x1 v1) (d0 : action_state.t.R x0 f7) (M_ : Mem h_ (⟨.op d2 d3 0, 171, 16, [f7]⟩ :: R_)) (hE : EB x0.env) : ∃ r f6, FnX Tryz.prog 119 [.op d2 d3 0, v1] h_ r f6 ∧ RF119 d2 d3 R_ (m2_action_state__addHeader x0 x1) r f6 := by
  refine fnXX (R := RF119 d2 d3 R_) text119 rfl fun res hres => ?_
  unfold m2_action_state__addHeader at hres
  refine sR ?_
  refine rd_op (ov_box rfl (TR.cnt api_Statement.t r1)) ?_
  refine nS ?_
  refine rc_region ?_
  refine mV rfl ?_
  refine mV rfl ?_
  refine rd_op (ov_nilCheck rfl rfl) ?_
  refine rd_op (ov_faddrO rfl) ?_
  refine rd_op (ov_faddrO rfl) ?_
  obtain ⟨f8, f5, f4⟩ := action_state.g_scope d0
  obtain ⟨f9, f0, e6⟩ := expr_Scope.g_Program f4
  refine rd_op (ov_loadf (k := 0) M_ rfl rfl (field_field f5 f0)) ?_
  refine mV rfl ?_
  refine rd_op (ov_nilCheck rfl rfl) ?_
  refine rd_op (ov_faddrO rfl) ?_
  obtain ⟨g0, f1, d4⟩ := action_state.g_env d0
  refine rd_op (ov_loadf (k := 0) M_ rfl rfl f1) ?_
  refine fL rfl (api_Statement.g_Header r1) rfl rfl ?_
  obtain ⟨e9, d5, hres⟩ := let_ex hres
  obtain ⟨g1, f2, e1⟩ := f190_ok (x2 := x1.Header) e6 d4 (by first | assumption | omega | (rw [wr_of (by omega) (by omega)]; omega) | (have hk := rval rfl (And.right (And.left (by assumption))); omega) | (have hk := rval (by assumption) (by assumption); omega) | (have hk := rval (by assumption) (And.left (by assumption)); omega) | (have hk := rval (by assumption) (And.left (And.left (by assumption))); have hz := rslc (by assumption); omega) | (simp; done) | (simp only [List.length_append, List.length_nil, List.length_cons]; omega) | (have hk := (chk_ok (by assumption) (by assumption)).1; omega) | (simp only [List.length_cons, List.length_nil]; omega) | (simp only [List.length_append]; have hk := (chk_ok (by assumption) (by assumption)).1; omega) | (simp only [List.length_append, List.length_nil]; have hk := (chk_ok (by assumption) (by assumption)).1; omega))
  rw [d5] at e1
  refine cL f2 rfl rfl (clL_cons (TR.clo api_Program.t e6) (clL_cons (TR.clo api_Env.t d4) (clL_cons rfl clL_nil))) ?_
  refine rd_op (ov_nilCheck rfl rfl) ?_
  refine rd_op (ov_faddrO rfl) ?_
  obtain ⟨b4, b3, b0, a7, a9, b1, b2, a6, a8, a1, e4, e7, e0, d8, a0, e8, c9, c3, c7, c8, c1, b9, b8, c5, c2, b5, e2, e3, e5, d7, b6⟩ := d0
  subst e8
  obtain ⟨a5, a2, a4, a3, f3, c6, c4, c0, b7⟩ := e1
  subst f3
  refine rd_storeF (k := 0) (v := .agg [a5, a2, a4, a3]) M_ rfl rfl rfl rfl rfl (by first | decide | (simp only [List.length_cons, List.length_nil]; omega) | simp) (fun d6 d1 => ?_)
  replace d1 : Mem d6 (⟨.op d2 d3 0, 171, 16, [.agg [vs x0.scope.Program.Name, b4, b3, b0, a7, a9, b1, b2, a6, a8, a1, a5, a2, a4, a3, a0]]⟩ :: R_) := d1
  refine rd_nil ?_
  have d9 : Mem d6 (⟨.op d2 d3 0, 171, 16, [.agg [vs x0.scope.Program.Name, b4, b3, b0, a7, a9, b1, b2, a6, a8, a1, a5, a2, a4, a3, a0]]⟩ :: R_) := (Mem.front (k := 0) d1 rfl)
  subst hres
  exact pn_endX .nil ⟨(.agg [vs x0.scope.Program.Name, b4, b3, b0, a7, a9, b1, b2, a6, a8, a1, a5, a2, a4, a3, a0]), Mem.sub d9 (.cons_cons _ (List.Sublist.refl R_)), (show action_state.t.R ({ scope := x0.scope, args := x0.args, env := e9, regs := x0.regs } : action_state) (.agg [vs x0.scope.Program.Name, b4, b3, b0, a7, a9, b1, b2, a6, a8, a1, a5, a2, a4, a3, a0]) from ⟨b4, b3, b0, a7, a9, b1, b2, a6, a8, a1, a5, a2, a4, a3, a0, rfl, c9, c3, c7, c8, c1, b9, b8, c5, c2, b5, c6, c4, c0, b7, b6⟩), rfl⟩

def RF191 (res : api_Env) (r : PV) : Prop := api_Env.t.R res r
theorem f191_ok {x0 : api_Program} {x1 : api_Env} {x2 : Int} {v0 v1 : PV} (r0 : api_Program.t.R x0 v0) (r1 : api_Env.t.R x1 v1) (hE : EB x1) : ∃ r, FnR Tryz.prog 191 [v0, v1, vi x2] r ∧ api_Env.t.R (env_RemoveHeader x0 x1 x2) r := by
  refine fnT (R := RF191) text191 rfl fun res hres => ?_
  unfold env_RemoveHeader at hres
  refine sR ?_
  refine rd_op (ov_box rfl (TR.cnt api_Program.t r0)) ?_
  refine rd_op (ov_box rfl (TR.cnt api_Env.t r1)) ?_
  refine rd_allocO (x := .agg [nilS, nilS, nilS, nilS]) (Mem.nil ⟨0, []⟩) rfl rfl (fun a6 a7 b0 a8 => ?_)
  refine nR ?_
  refine lD r0 rfl rfl rfl ?_
  refine lD r1 rfl rfl rfl ?_
  refine mV rfl ?_
  obtain ⟨a9, a2, hres⟩ := let_ex hres
  obtain ⟨a3, a4, a0⟩ := f229_ok (x2 := x2) (x3 := false) (x4 := false) r0 r1 (by first | assumption | omega | (rw [wr_of (by omega) (by omega)]; omega) | (have hk := rval rfl (And.right (And.left (by assumption))); omega) | (have hk := rval (by assumption) (by assumption); omega) | (have hk := rval (by assumption) (And.left (by assumption)); omega) | (have hk := rval (by assumption) (And.left (And.left (by assumption))); have hz := rslc (by assumption); omega) | (simp; done) | (simp only [List.length_append, List.length_nil, List.length_cons]; omega) | (have hk := (chk_ok (by assumption) (by assumption)).1; omega) | (simp only [List.length_cons, List.length_nil]; omega) | (simp only [List.length_append]; have hk := (chk_ok (by assumption) (by assumption)).1; omega) | (simp only [List.length_append, List.length_nil]; have hk := (chk_ok (by assumption) (by assumption)).1; omega))
  rw [a2] at a0
  refine cL a4 rfl rfl (clL_cons (TR.clo api_Program.t r0) (clL_cons (TR.clo api_Env.t r1) (clL_cons rfl (clL_cons rfl (clL_cons rfl clL_nil))))) ?_
  refine rd_storeO (k := 0) (v := a3) a8 rfl rfl rfl (TR.cnt api_Env.t a0) (fun a5 a1 => ?_)
  replace a1 : Mem a5 [⟨.op a6 a7 0, 46, 4, [a3]⟩] := a1
  refine nS ?_
  subst hres
  exact rc_retV (.cell rfl (load_whole (k := 0) a1 rfl (TR.agg api_Env.t a0)) .nil) (deep_closed (TR.clo api_Env.t a0)) a0

def RF120 (i0_ w0_ : Nat) (R_ : List Ent) (res : action_state) (r : PV) (h : Heap) : Prop := ∃ uF0 : PV, Mem h (⟨.op i0_ w0_ 0, 171, 16, [uF0]⟩ :: R_) ∧ (action_state.t.R res uF0) ∧ r = .tup []
theorem f120_ok {x0 : action_state} {x1 : api_Statement} {v1 f7 : PV} {R_ : List Ent} {h_ : Heap} {d2 d3 : Nat} (r1 : api_Statement.t.R x1 v1) (d0 : action_state.t.R x0 f7) (M_ : Mem h_ (⟨.op d2 d3 0, 171, 16, [f7]⟩ :: R_)) (hE : EB x0.env) : ∃ r f6, FnX Tryz.prog 120 [.op d2 d3 0, v1] h_ r f6 ∧ RF120 d2 d3 R_ (m2_action_state__removeHeader x0 x1) r f6 := by
  refine fnXX (R := RF120 d2 d3 R_) text120 rfl fun res hres => ?_
  unfold m2_action_state__removeHeader at hres
  refine sR ?_
  refine rd_op (ov_box rfl (TR.cnt api_Statement.t r1)) ?_
  refine nS ?_
  refine rc_region ?_
  refine mV rfl ?_
  refine mV rfl ?_
  refine rd_op (ov_nilCheck rfl rfl) ?_
  refine rd_op (ov_faddrO rfl) ?_
  refine rd_op (ov_faddrO rfl) ?_
  obtain ⟨f8, f5, f4⟩ := action_state.g_scope d0
  obtain ⟨f9, f0, e6⟩ := expr_Scope.g_Program f4
  refine rd_op (ov_loadf (k := 0) M_ rfl rfl (field_field f5 f0)) ?_
  refine mV rfl ?_
  refine rd_op (ov_nilCheck rfl rfl) ?_
  refine rd_op (ov_faddrO rfl) ?_
  obtain ⟨g0, f1, d4⟩ := action_state.g_env d0
  refine rd_op (ov_loadf (k := 0) M_ rfl rfl f1) ?_
  refine fL rfl (api_Statement.g_Header r1) rfl rfl ?_
  obtain ⟨e9, d5, hres⟩ := let_ex hres
  obtain ⟨g1, f2, e1⟩ := f191_ok (x2 := x1.Header) e6 d4 (by first | assumption | omega | (rw [wr_of (by omega) (by omega)]; omega) | (have hk := rval rfl (And.right (And.left (by assumption))); omega) | (have hk := rval (by assumption) (by assumption); omega) | (have hk := rval (by assumption) (And.left (by assumption)); omega) | (have hk := rval (by assumption) (And.left (And.left (by assumption))); have hz := rslc (by assumption); omega) | (simp; done) | (simp only [List.length_append, List.length_nil, List.length_cons]; omega) | (have hk := (chk_ok (by assumption) (by assumption)).1; omega) | (simp only [List.length_cons, List.length_nil]; omega) | (simp only [List.length_append]; have hk := (chk_ok (by assumption) (by assumption)).1; omega) | (simp only [List.length_append, List.length_nil]; have hk := (chk_ok (by assumption) (by assumption)).1; omega))
  rw [d5] at e1
  refine cL f2 rfl rfl (clL_cons (TR.clo api_Program.t e6) (clL_cons (TR.clo api_Env.t d4) (clL_cons rfl clL_nil))) ?_
  refine rd_op (ov_nilCheck rfl rfl) ?_
  refine rd_op (ov_faddrO rfl) ?_
  obtain ⟨b4, b3, b0, a7, a9, b1, b2, a6, a8, a1, e4, e7, e0, d8, a0, e8, c9, c3, c7, c8, c1, b9, b8, c5, c2, b5, e2, e3, e5, d7, b6⟩ := d0
  subst e8
  obtain ⟨a5, a2, a4, a3, f3, c6, c4, c0, b7⟩ := e1
  subst f3
  refine rd_storeF (k := 0) (v := .agg [a5, a2, a4, a3]) M_ rfl rfl rfl rfl rfl (by first | decide | (simp only [List.length_cons, List.length_nil]; omega) | simp) (fun d6 d1 => ?_)
  replace d1 : Mem d6 (⟨.op d2 d3 0, 171, 16, [.agg [vs x0.scope.Program.Name, b4, b3, b0, a7, a9, b1, b2, a6, a8, a1, a5, a2, a4, a3, a0]]⟩ :: R_) := d1
  refine rd_nil ?_
  have d9 : Mem d6 (⟨.op d2 d3 0, 171, 16, [.agg [vs x0.scope.Program.Name, b4, b3, b0, a7, a9, b1, b2, a6, a8, a1, a5, a2, a4, a3, a0]]⟩ :: R_) := (Mem.front (k := 0) d1 rfl)
  subst hres
  exact pn_endX .nil ⟨(.agg [vs x0.scope.Program.Name, b4, b3, b0, a7, a9, b1, b2, a6, a8, a1, a5, a2, a4, a3, a0]), Mem.sub d9 (.cons_cons _ (List.Sublist.refl R_)), (show action_state.t.R ({ scope := x0.scope, args := x0.args, env := e9, regs := x0.regs } : action_state) (.agg [vs x0.scope.Program.Name, b4, b3, b0, a7, a9, b1, b2, a6, a8, a1, a5, a2, a4, a3, a0]) from ⟨b4, b3, b0, a7, a9, b1, b2, a6, a8, a1, a5, a2, a4, a3, a0, rfl, c9, c3, c7, c8, c1, b9, b8, c5, c2, b5, c6, c4, c0, b7, b6⟩), rfl⟩

def RF230 (res : Bool) (r : PV) : Prop := r = vb res
theorem f230_ok {x0 : register_file} {x1 : Int} {x2 : BitVec 32} {v0 : PV} (r0 : register_file.t.R x0 v0) : FnR Tryz.prog 230 [v0, vi x1, vu32 x2] (vb (m1_register_file__has x0 x1 x2)) := by
  refine fnS (R := RF230) text230 (fun _ h => h) rfl fun res hres => ?_
  unfold m1_register_file__has at hres
  refine sR ?_
  refine rd_op (ov_box rfl (TR.cnt register_file.t r0)) ?_
  refine mB rfl ?_
  refine nS ?_
  refine rc_seq ?_
  refine sR ?_
  refine mV rfl ?_
  refine bN i_lss rfl rfl ?_
  refine mV rfl ?_
  refine rd_cutn 7 (d := 16) (v := vb ((decide (x1 < 0)) || (decide ((x0.p.Registers.length : Int) ≤ x1)))) ?_ ?_
  · intro S Q r
    cases a9 : (decide (x1 < 0))
    · intro k
      have a1 := a9
      try simp only [qa, qaD] at a1
      refine rd_yes rfl rfl (ov_move rfl) ?_
      obtain ⟨c3, b2, c1⟩ := register_file.g_p r0
      refine rd_yes rfl rfl (ov_faddr rfl b2) ?_
      obtain ⟨c6, b6, a0⟩ := api_Program.g_Registers c1
      refine rd_yes rfl rfl (ov_faddr rfl b6) ?_
      refine rd_yes rfl rfl (ov_load rfl (TR.cnt (tSl api_Register.t) a0) (TR.agg (tSl api_Register.t) a0)) ?_
      refine rd_yes rfl rfl (ov_bi rfl (sl_len a0 Tryz.underlying24 _)) ?_
      refine rd_yes rfl rfl (ov_bin rfl rfl i_geq) ?_
      exact gK rfl rfl rfl rfl rfl k
    · exact gN 6 rfl rfl rfl rfl rfl rfl
  refine mV rfl ?_
  refine rd_cutn 6 (d := 23) (v := vb (((decide (x1 < 0)) || (decide ((x0.p.Registers.length : Int) ≤ x1))) || (decide ((x0.cells.length : Int) ≤ x1)))) ?_ ?_
  · intro S Q r
    cases b0 : ((decide (x1 < 0)) || (decide ((x0.p.Registers.length : Int) ≤ x1)))
    · intro k
      have a4 := b0
      try simp only [qa, qaD] at a4
      refine rd_yes rfl rfl (ov_move rfl) ?_
      obtain ⟨c8, c0, a3⟩ := register_file.g_cells r0
      refine rd_yes rfl rfl (ov_faddr rfl c0) ?_
      refine rd_yes rfl rfl (ov_load rfl (TR.cnt (tSl (tSl tU32)) a3) (TR.agg (tSl (tSl tU32)) a3)) ?_
      refine rd_yes rfl rfl (ov_bi rfl (sl_len a3 Tryz.underlying42 _)) ?_
      refine rd_yes rfl rfl (ov_bin rfl rfl i_geq) ?_
      exact gK rfl rfl rfl rfl rfl k
    · exact gN 5 rfl rfl rfl rfl rfl rfl
  refine nS ?_
  refine rc_br hres rfl ?_ ?_ <;> clear hres <;> intro c hres <;> try simp only [qa, qaD] at c
  · refine sR ?_
    refine mB rfl ?_
    refine nS ?_
    exact rR hres rfl rfl rfl
  · refine rc_skip ?_
    refine pn_seq ?_
    refine sR ?_
    refine mV rfl ?_
    refine rd_op (ov_conv (a := vu32 x2) rfl (c_wi Tryz.underlying89 Tryz.underlying3)) ?_
    obtain ⟨c9, b1, b5⟩ := register_file.g_p r0
    refine fA rfl b1 ?_
    obtain ⟨c7, b7, a8⟩ := api_Program.g_Registers b5
    refine fA rfl b7 ?_
    refine lD a8 rfl rfl rfl ?_
    refine mV rfl ?_
    obtain ⟨c4, b3, b8⟩ := sl_idx (i := x1) a8 (by omega) (by omega)
    refine rd_op (ov_iaddr rfl rfl b3) ?_
    refine fL rfl (api_Register.g_Size b8) rfl rfl ?_
    refine bN i_lss rfl rfl ?_
    refine mV rfl ?_
    refine rd_cutn 10 (d := 44) (v := vb ((decide ((x2.toNat : Int) < ((ix x0.p.Registers x1).Size))) && (decide ((x2.toNat : Int) < ((ix x0.cells x1).length : Int))))) ?_ ?_
    · intro S Q r
      cases a7 : (decide ((x2.toNat : Int) < ((ix x0.p.Registers x1).Size)))
      · exact gN 9 rfl rfl rfl rfl rfl rfl
      · intro k
        have a6 := a7
        try simp only [qa, qaD] at a6
        refine rd_yes rfl rfl (ov_move rfl) ?_
        refine rd_yes rfl rfl (ov_conv (a := vu32 x2) rfl (c_wi Tryz.underlying89 Tryz.underlying3)) ?_
        obtain ⟨c2, b4, a2⟩ := register_file.g_cells r0
        refine rd_yes rfl rfl (ov_faddr rfl b4) ?_
        refine rd_yes rfl rfl (ov_load rfl (TR.cnt (tSl (tSl tU32)) a2) (TR.agg (tSl (tSl tU32)) a2)) ?_
        refine rd_yes rfl rfl (ov_move rfl) ?_
        obtain ⟨c5, b9, a5⟩ := sl_idx (i := x1) a2 (by omega) (by omega)
        refine rd_yes rfl rfl (ov_iaddr rfl rfl b9) ?_
        refine rd_yes rfl rfl (ov_load rfl (TR.cnt (tSl tU32) a5) (TR.agg (tSl tU32) a5)) ?_
        refine rd_yes rfl rfl (ov_bi rfl (sl_len a5 Tryz.underlying43 _)) ?_
        refine rd_yes rfl rfl (ov_bin rfl rfl i_lss) ?_
        exact gK rfl rfl rfl rfl rfl k
    refine mV rfl ?_
    refine nS ?_
    exact rR hres rfl rfl rfl

def RF192 (res : (BitVec 32)) (r : PV) : Prop := r = vu32 res
theorem f192_ok {x0 : api_Program} {x1 : List (List (BitVec 32))} {x2 : Int} {x3 : BitVec 32} {v0 v1 : PV} (r0 : api_Program.t.R x0 v0) (r1 : (tSl (tSl tU32)).R x1 v1) : FnR Tryz.prog 192 [v0, v1, vi x2, vu32 x3] (vu32 (register_Read x0 x1 x2 x3)) := by
  refine fnS (R := RF192) text192 (fun _ h => h) rfl fun res hres => ?_
  unfold register_Read at hres
  refine sR ?_
  refine rd_op (ov_box rfl (TR.cnt api_Program.t r0)) ?_
  refine rd_op (v := vu32 0#32) (ov_move rfl) ?_
  refine nR ?_
  refine mV rfl ?_
  refine nS ?_
  refine rc_seq ?_
  refine sR ?_
  refine mV rfl ?_
  refine lD r0 rfl rfl rfl ?_
  refine mV rfl ?_
  obtain ⟨a2, a1, a0, a7, a3, a4, a6, a5, c0, b2, b1, a9, b0, a8, b5, b4, b3⟩ := r0
  subst c0
  refine rd_op (v := .agg [vs x0.Name, a2, a1, a0, a7, a3, a4, a6, a5, v1]) (ov_build (cs := [vs x0.Name, a2, a1, a0, a7, a3, a4, a6, a5, v1]) rfl (by simp only [buildV, cells_one (TR.cnt (tSl (tSl tU32)) r1) (TR.agg (tSl (tSl tU32)) r1)]; rfl)) ?_
  refine mV rfl ?_
  refine mV rfl ?_
  obtain ⟨c1, b6, hres⟩ := let_ex hres
  have b8 := f230_ok (x1 := x2) (x2 := x3) (show register_file.t.R ({ p := x0, cells := x1 } : register_file) (.agg [vs x0.Name, a2, a1, a0, a7, a3, a4, a6, a5, v1]) from ⟨a2, a1, a0, a7, a3, a4, a6, a5, v1, rfl, b2, b1, a9, b0, a8, b5, b4, b3, r1⟩) 
  rw [b6] at b8
  refine cL b8 rfl rfl (clL_cons (TR.clo register_file.t (show register_file.t.R ({ p := x0, cells := x1 } : register_file) (.agg [vs x0.Name, a2, a1, a0, a7, a3, a4, a6, a5, v1]) from ⟨a2, a1, a0, a7, a3, a4, a6, a5, v1, rfl, b2, b1, a9, b0, a8, b5, b4, b3, r1⟩)) (clL_cons rfl (clL_cons rfl clL_nil))) ?_
  refine rd_op (ov_not rfl) ?_
  refine nS ?_
  refine rc_br hres rfl ?_ ?_ <;> clear hres <;> intro c hres <;> try simp only [qa, qaD] at c
  · refine sR ?_
    refine rd_op (v := vu32 0#32) (ov_move rfl) ?_
    refine nS ?_
    exact rR hres rfl rfl rfl
  · refine rc_skip ?_
    refine pn_seq ?_
    refine sR ?_
    refine mV rfl ?_
    refine mV rfl ?_
    obtain ⟨c2, b9, b7⟩ := sl_idx (i := x2) r1 (by first | omega | (have hk := hs_ok (by assumption) (by assumption); try dsimp only at hk; omega)) (by first | omega | (have hk := hs_ok (by assumption) (by assumption); try dsimp only at hk; omega))
    refine rd_op (ov_iaddr rfl rfl b9) ?_
    refine lD b7 rfl rfl rfl ?_
    refine mV rfl ?_
    refine rd_op (ov_iaddr rfl rfl (idx_k (slU32 b7 (by first | omega | (have hk := hs_ok (by assumption) (by assumption); try dsimp only at hk; omega)) (by first | omega | (have hk := hs_ok (by assumption) (by assumption); try dsimp only at hk; omega))))) ?_
    refine lR rfl rfl rfl ?_
    refine mV rfl ?_
    refine nS ?_
    exact rR hres rfl rfl rfl

def RF121 (i0_ w0_ : Nat) (R_ : List Ent) (res : action_state) (r : PV) (h : Heap) : Prop := ∃ uF0 : PV, Mem h (⟨.op i0_ w0_ 0, 171, 16, [uF0]⟩ :: R_) ∧ (action_state.t.R res uF0) ∧ r = .tup []
theorem f121_ok {x0 : action_state} {x1 : api_Statement} {v1 h3 : PV} {R_ : List Ent} {h_ : Heap} {d3 d4 : Nat} (r1 : api_Statement.t.R x1 v1) (b5 : action_state.t.R x0 h3) (M_ : Mem h_ (⟨.op d3 d4 0, 171, 16, [h3]⟩ :: R_)) (hE : EB x0.env) : ∃ r h2, FnX Tryz.prog 121 [.op d3 d4 0, v1] h_ r h2 ∧ RF121 d3 d4 R_ (m2_action_state__read x0 x1) r h2 := by
  refine fnXX (R := RF121 d3 d4 R_) text121 rfl fun res hres => ?_
  unfold m2_action_state__read at hres
  refine sR ?_
  refine rd_op (ov_box rfl (TR.cnt api_Statement.t r1)) ?_
  refine nR ?_
  refine mV rfl ?_
  refine rd_op (ov_nilCheck rfl rfl) ?_
  refine rd_op (ov_faddrO rfl) ?_
  refine rd_op (ov_faddrO rfl) ?_
  obtain ⟨i0, h0, g8⟩ := action_state.g_scope b5
  obtain ⟨h6, g3, e1⟩ := expr_Scope.g_Program g8
  refine rd_op (ov_loadf (k := 0) M_ rfl rfl (field_field h0 g3)) ?_
  refine mV rfl ?_
  refine rd_op (ov_nilCheck rfl rfl) ?_
  refine rd_op (ov_faddrO rfl) ?_
  obtain ⟨h4, g6, e2⟩ := action_state.g_regs b5
  refine rd_op (ov_loadf (k := 0) M_ rfl rfl g6) ?_
  refine fL rfl (api_Statement.g_Register r1) rfl rfl ?_
  refine mV rfl ?_
  obtain ⟨h8, f8, d2⟩ := api_Statement.g_Index r1
  refine fA rfl f8 ?_
  refine lD d2 rfl rfl rfl ?_
  have f7 := own_ptr (P := Tryz.prog) (k := 0) M_ rfl (TR.clo action_state.t b5)
  obtain ⟨g5, e4, hres⟩ := let_ex hres
  have d9 := f189_ok  b5 d2 
  rw [e4] at d9
  refine rd_call (cv_lend rfl rfl (dl_cons f7 (dl_cons (deep_closed (TR.clo (tSl api_ExprNode.t) d2)) dl_nil)) d9 rfl) ?_
  obtain ⟨g1, e3, hres⟩ := let_ex hres
  have d6 := f192_ok (x2 := x1.Register) (x3 := g5) e1 e2 
  rw [e3] at d6
  refine cL d6 rfl rfl (clL_cons (TR.clo api_Program.t e1) (clL_cons (TR.clo (tSl (tSl tU32)) e2) (clL_cons rfl (clL_cons rfl clL_nil)))) ?_
  refine mV rfl ?_
  refine nS ?_
  refine rc_region ?_
  refine mV rfl ?_
  refine mV rfl ?_
  refine rd_op (ov_nilCheck rfl rfl) ?_
  refine rd_op (ov_faddrO rfl) ?_
  refine rd_op (ov_faddrO rfl) ?_
  obtain ⟨h5, g0, f6⟩ := action_state.g_scope b5
  obtain ⟨h7, g4, e6⟩ := expr_Scope.g_Program f6
  refine rd_op (ov_loadf (k := 0) M_ rfl rfl (field_field g0 g4)) ?_
  refine mV rfl ?_
  refine rd_op (ov_nilCheck rfl rfl) ?_
  refine rd_op (ov_faddrO rfl) ?_
  obtain ⟨i1, g9, d7⟩ := action_state.g_env b5
  refine rd_op (ov_loadf (k := 0) M_ rfl rfl g9) ?_
  refine gL (api_Statement.g_Dst r1) rfl rfl rfl fun h9 e8 => ?_
  refine mV rfl ?_
  obtain ⟨g2, e0, hres⟩ := let_ex hres
  obtain ⟨i2, g7, e9⟩ := f188_ok (x3 := g1) e6 d7 e8 (by first | assumption | omega | (rw [wr_of (by omega) (by omega)]; omega) | (have hk := rval rfl (And.right (And.left (by assumption))); omega) | (have hk := rval (by assumption) (by assumption); omega) | (have hk := rval (by assumption) (And.left (by assumption)); omega) | (have hk := rval (by assumption) (And.left (And.left (by assumption))); have hz := rslc (by assumption); omega) | (simp; done) | (simp only [List.length_append, List.length_nil, List.length_cons]; omega) | (have hk := (chk_ok (by assumption) (by assumption)).1; omega) | (simp only [List.length_cons, List.length_nil]; omega) | (simp only [List.length_append]; have hk := (chk_ok (by assumption) (by assumption)).1; omega) | (simp only [List.length_append, List.length_nil]; have hk := (chk_ok (by assumption) (by assumption)).1; omega))
  rw [e0] at e9
  refine cL g7 rfl rfl (clL_cons (TR.clo api_Program.t e6) (clL_cons (TR.clo api_Env.t d7) (clL_cons (TR.clo api_FieldRef.t e8) (clL_cons rfl clL_nil)))) ?_
  refine rd_op (ov_nilCheck rfl rfl) ?_
  refine rd_op (ov_faddrO rfl) ?_
  obtain ⟨b4, b2, b0, a9, a7, a6, a8, b1, b3, a0, f5, e7, e5, d8, a1, f9, c3, c0, c8, c4, c6, c9, c7, c1, b9, b7, f4, f1, d5, f2, b6⟩ := b5
  subst f9
  obtain ⟨a2, a5, a4, a3, h1, c5, b8, d0, c2⟩ := e9
  subst h1
  refine rd_storeF (k := 0) (v := .agg [a2, a5, a4, a3]) M_ rfl rfl rfl rfl rfl (by first | decide | (simp only [List.length_cons, List.length_nil]; omega) | simp) (fun f0 d1 => ?_)
  replace d1 : Mem f0 (⟨.op d3 d4 0, 171, 16, [.agg [vs x0.scope.Program.Name, b4, b2, b0, a9, a7, a6, a8, b1, b3, a0, a2, a5, a4, a3, a1]]⟩ :: R_) := d1
  refine rd_nil ?_
  have f3 : Mem f0 (⟨.op d3 d4 0, 171, 16, [.agg [vs x0.scope.Program.Name, b4, b2, b0, a9, a7, a6, a8, b1, b3, a0, a2, a5, a4, a3, a1]]⟩ :: R_) := (Mem.front (k := 0) d1 rfl)
  subst hres
  exact pn_endX .nil ⟨(.agg [vs x0.scope.Program.Name, b4, b2, b0, a9, a7, a6, a8, b1, b3, a0, a2, a5, a4, a3, a1]), Mem.sub f3 (.cons_cons _ (List.Sublist.refl R_)), (show action_state.t.R ({ scope := x0.scope, args := x0.args, env := g2, regs := x0.regs } : action_state) (.agg [vs x0.scope.Program.Name, b4, b2, b0, a9, a7, a6, a8, b1, b3, a0, a2, a5, a4, a3, a1]) from ⟨b4, b2, b0, a9, a7, a6, a8, b1, b3, a0, a2, a5, a4, a3, a1, rfl, c3, c0, c8, c4, c6, c9, c7, c1, b9, b7, c5, b8, d0, c2, b6⟩), rfl⟩

theorem OR.inner {h : Heap} {rs : List (List (BitVec 32))} {b : PV} {ef : List PV} {I R : List Ent} (H : OR h rs b ef I R) {i : Int} (h0 : 0 ≤ i) (h1 : i < rs.length) :
    ∃ v es, ef[i.toNat]? = some v ∧ I[i.toNat]? = some ⟨v, 89, 1, es⟩ ∧ (⟨b, 43, 1, ef⟩ :: (I ++ R))[i.toNat + 1]? = some (⟨v, 89, 1, es⟩ : Ent) ∧ All2 tU32.R (ix rs i) es ∧ isL v = true ∧ (ix rs i).length ≤ 4611686018427387904 ∧ Wri v es := by
  obtain ⟨v, es, g1, g2, g3, g4, g5, g6⟩ := ns_at H.f h0 h1
  refine ⟨v, es, g1, g2, ?_, g3, g4, g5, g6⟩
  rw [List.getElem?_cons_succ, List.getElem?_append_left (List.getElem?_eq_some_iff.1 g2).1]
  exact g2
theorem OR.setF {h : Heap} {rs : List (List (BitVec 32))} {b : PV} {ef : List PV} {I R : List Ent} (H : OR h rs b ef I R) {h' : Heap} {x : BitVec 32} {i : Int} {k : Nat} {v : PV} {es : List PV} (g1 : ef[i.toNat]? = some v) (g2 : I[i.toNat]? = some ⟨v, 89, 1, es⟩) (g3 : All2 tU32.R (ix rs i) es) (g4 : isL v = true) (g5 : (ix rs i).length ≤ 4611686018427387904)
    (M : Mem h' ((⟨b, 43, 1, ef⟩ :: (I ++ R)).set (i.toNat + 1) ⟨v, 89, 1, es.set k (vu32 x)⟩)) (hw : ∃ id ver n, v = .os id ver 0 n) : OR h' (rs.set i.toNat ((ix rs i).set k x)) b ef (I.set i.toNat ⟨v, 89, 1, es.set k (vu32 x)⟩) R := by
  refine { H with M := ?_, f := ns_put0 H.f g1 (All2.set g3 rfl) g4 (by rw [List.length_set]; exact g5) (.inr hw) }
  rw [List.set_cons_succ] at M
  rwa [List.set_append_left _ _ (List.getElem?_eq_some_iff.1 g2).1] at M
theorem ret_regs {S : List Fr} {E : TEnv} {h : Heap} {rs : List (List (BitVec 32))} {b : PV} {ef : List PV} {I R : List Ent} {d t r : Nat} (H : OR h rs b ef I R) (hE : RB rs) (hb : Pb.look t E = some b) : RC Tryz.prog (.seq (.region false [⟨some d, .move (.tmp t), none, false⟩, ⟨some r, .move (.tmp d), none, false⟩]) .ret) S (QR Tryz.prog [(r, none)] ((tSl (tSl tU32)).R rs)) E h := by
  obtain ⟨d', hd, hr⟩ := H.deep hE
  have e1 : evE ((d, b) :: E) (.tmp d) = some b := by simp [evE, Pb.look]
  exact sR (rd_op (ov_move hb) (rd_op (ov_move e1) (nS (rc_retV (.tmp (by simp [Pb.look]) .nil) hd hr))))
theorem has_ok {p : api_Program} {rs : List (List (BitVec 32))} {r : Int} {i : BitVec 32} (h : m1_register_file__has { p := p, cells := rs } r i = true) : (0 ≤ r ∧ r < p.Registers.length) ∧ r < rs.length ∧ i.toNat < (ix rs r).length := by
  unfold m1_register_file__has at h
  split at h
  · cases h
  · rename_i hc
    simp only [Bool.or_eq_true, decide_eq_true_eq, not_or] at hc
    simp only [Bool.and_eq_true, decide_eq_true_eq] at h
    omega
theorem f193_ok {x0 : api_Program} {x1 : List (List (BitVec 32))} {x2 : Int} {x3 x4 : BitVec 32} {v0 v1 : PV} (r0 : api_Program.t.R x0 v0) (r1 : (tSl (tSl tU32)).R x1 v1) (hE : RB x1) : ∃ r, FnR Tryz.prog 193 [v0, v1, vi x2, vu32 x3, vu32 x4] r ∧ (tSl (tSl tU32)).R (register_Write x0 x1 x2 x3 x4) r := by
  refine fnE text193 (by simp) ?_
  refine rc_seq (rc_region (rd_op (ov_box rfl (TR.cnt api_Program.t r0)) (rd_op (v := nilS) (ov_move rfl) (rd_nil (pn_seq (rc_seq (rc_regionS ?_)))))))
  refine rs_step (rd_op (ov_move rfl) (rs_back ?_))
  obtain ⟨b, k, X, ef, I, H⟩ := dup_own text231 r1 hE (Mem.nil ⟨0, []⟩)
  refine rs_callXc rfl rfl X ?_
  refine rs_step (rd_op (ov_move rfl) (rs_back (rs_nil ?_)))
  refine pn_seq (rc_seq (rc_region (rd_op (ov_move rfl) (rd_nil (pn_seq (rc_seq (rc_seq (rc_region ?_))))))))
  have a0 := r0
  obtain ⟨c1, c2, c3, c4, c5, c6, c7, c8, e0, p1, p2, p3, p4, p5, p6, p7, p8⟩ := a0
  have hfile : register_file.t.R ({ p := x0, cells := x1 } : register_file) (.agg [vs x0.Name, c1, c2, c3, c4, c5, c6, c7, c8, v1]) := ⟨c1, c2, c3, c4, c5, c6, c7, c8, v1, rfl, p1, p2, p3, p4, p5, p6, p7, p8, r1⟩
  refine rd_op (ov_move rfl) (lD r0 rfl rfl rfl (rd_op (ov_move rfl) ?_))
  refine rd_op (v := .agg [vs x0.Name, c1, c2, c3, c4, c5, c6, c7, c8, v1]) (ov_build (cs := [vs x0.Name, c1, c2, c3, c4, c5, c6, c7, c8, v1]) rfl (by rw [e0]; simp only [buildV, cells_one (TR.cnt _ r1) (TR.agg _ r1)]; rfl)) ?_
  refine mV rfl (mV rfl ?_)
  refine cL (f230_ok (x1 := x2) (x2 := x3) hfile) rfl rfl (clL_cons (TR.clo _ hfile) (clL_cons rfl (clL_cons rfl clL_nil))) (mV rfl ?_)
  refine rd_cutn 9 (d := 31) (v := vb (m1_register_file__has { p := x0, cells := x1 } x2 x3 && decide (0#32 < bitvec_Mask (ix x0.Registers x2).Width))) ?_ ?_
  · intro S Q r
    cases hb : m1_register_file__has { p := x0, cells := x1 } x2 x3
    · exact gN 8 rfl rfl rfl rfl rfl rfl
    · intro k
      have hh := has_ok hb
      obtain ⟨w3, g3, q3⟩ := api_Program.g_Registers r0
      refine rd_yes rfl rfl (ov_faddr rfl g3) (rd_yes rfl rfl (ov_load rfl (TR.cnt _ q3) (TR.agg _ q3)) (rd_yes rfl rfl (ov_move rfl) ?_))
      obtain ⟨w4, g4, q4⟩ := sl_idx (i := x2) q3 hh.1.1 hh.1.2
      refine rd_yes rfl rfl (ov_iaddr rfl rfl g4) (rd_yes rfl rfl (ov_faddr rfl (api_Register.g_Width q4)) (rd_yes rfl rfl (ov_load rfl rfl rfl) ?_))
      refine rd_ycall rfl rfl (cv_fn rfl rfl (clL_cons rfl clL_nil) (f182_ok (x0 := (ix x0.Registers x2).Width))) ?_
      refine rd_yes rfl rfl (ov_bin (a := vu32 (bitvec_Mask (ix x0.Registers x2).Width)) (b := vu32 0#32) rfl rfl w_gtr) ?_
      exact gK rfl rfl rfl rfl rfl k
  refine rd_nil (pn_seq (rc_cond rfl (fun hc => ?_) fun hc => ?_))
  · have hs : register_Write x0 x1 x2 x3 x4 = x1.set x2.toNat ((ix x1 x2).set x3.toNat (x4 &&& bitvec_Mask (ix x0.Registers x2).Width)) := by unfold register_Write; rw [if_pos hc]
    rw [hs]
    simp only [Bool.and_eq_true] at hc
    have hh := has_ok hc.1
    obtain ⟨id, ver, n, rfl⟩ := H.wb
    have hn := mem_osn H.M (k := 0) rfl
    have hlen := H.f.len.1
    obtain ⟨v, es, e1, e2, e3, e4, e5, e6, e7⟩ := H.inner hh.1.1 hh.2.1
    refine rc_region (rd_op (ov_move rfl) (mV rfl ?_))
    refine rd_op (ov_iaddr rfl rfl (n_idx 1 (i := x2) hh.1.1 (by omega))) ?_
    refine rd_op (ov_elem (k := 0) H.M rfl rfl e1 (mem_one H.M e3 e5).2) (mV rfl (mV rfl ?_))
    obtain ⟨w3, g3, q3⟩ := api_Program.g_Registers r0
    refine rd_op (ov_faddr rfl g3) (lD q3 rfl rfl rfl (mV rfl ?_))
    obtain ⟨w4, g4, q4⟩ := sl_idx (i := x2) q3 hh.1.1 hh.1.2
    refine rd_op (ov_iaddr rfl rfl g4) (fL rfl (api_Register.g_Width q4) rfl rfl ?_)
    refine cL (f182_ok (x0 := (ix x0.Registers x2).Width)) rfl rfl (clL_cons rfl clL_nil) (bN w_and rfl rfl ?_)
    obtain ⟨id', ver', n', rfl⟩ := wri_os e7 e4 (i := (x3.toNat : Int)) (by omega) (by omega)
    have hn' := mem_osn H.M e3
    have hl := e4.length
    refine rd_op (ov_iaddr rfl rfl (n_idx 1 (i := (x3.toNat : Int)) (by omega) (by omega))) ?_
    refine rd_setO (i := x3.toNat) H.M rfl rfl e3 (by omega) rfl (fun h' M' => rd_nil (pn_seq ?_))
    exact ret_regs (H.setF e1 e2 e4 e5 e6 M' ⟨_, _, _, rfl⟩) (hE.set (by rw [List.length_set]; exact hE.i _ (ix_mem hh.1.1 hh.2.1))) rfl
  · have hs : register_Write x0 x1 x2 x3 x4 = x1 := by unfold register_Write; rw [if_neg (by rw [hc]; simp)]
    rw [hs]
    exact rc_skip (pn_seq (ret_regs H hE rfl))

def RF122 (i0_ w0_ : Nat) (R_ : List Ent) (res : action_state) (r : PV) (h : Heap) : Prop := ∃ uF0 : PV, Mem h (⟨.op i0_ w0_ 0, 171, 16, [uF0]⟩ :: R_) ∧ (action_state.t.R res uF0) ∧ r = .tup []
theorem f122_ok {x0 : action_state} {x1 : api_Statement} {v1 g0 : PV} {R_ : List Ent} {h_ : Heap} {d3 d4 : Nat} (r1 : api_Statement.t.R x1 v1) (b4 : action_state.t.R x0 g0) (M_ : Mem h_ (⟨.op d3 d4 0, 171, 16, [g0]⟩ :: R_)) (hE : RB x0.regs) : ∃ r f9, FnX Tryz.prog 122 [.op d3 d4 0, v1] h_ r f9 ∧ RF122 d3 d4 R_ (m2_action_state__write x0 x1) r f9 := by
  refine fnXX (R := RF122 d3 d4 R_) text122 rfl fun res hres => ?_
  unfold m2_action_state__write at hres
  refine sR ?_
  refine rd_op (ov_box rfl (TR.cnt api_Statement.t r1)) ?_
  refine nS ?_
  refine rc_region ?_
  refine mV rfl ?_
  refine mV rfl ?_
  refine rd_op (ov_nilCheck rfl rfl) ?_
  refine rd_op (ov_faddrO rfl) ?_
  refine rd_op (ov_faddrO rfl) ?_
  obtain ⟨g4, f7, f6⟩ := action_state.g_scope b4
  obtain ⟨g2, e9, d8⟩ := expr_Scope.g_Program f6
  refine rd_op (ov_loadf (k := 0) M_ rfl rfl (field_field f7 e9)) ?_
  refine mV rfl ?_
  refine rd_op (ov_nilCheck rfl rfl) ?_
  refine rd_op (ov_faddrO rfl) ?_
  obtain ⟨g1, f2, d9⟩ := action_state.g_regs b4
  refine rd_op (ov_loadf (k := 0) M_ rfl rfl f2) ?_
  refine fL rfl (api_Statement.g_Register r1) rfl rfl ?_
  refine mV rfl ?_
  refine gL (api_Statement.g_Index r1) rfl rfl rfl fun g3 e4 => ?_
  have e8 := own_ptr (P := Tryz.prog) (k := 0) M_ rfl (TR.clo action_state.t b4)
  obtain ⟨f1, e1, hres⟩ := let_ex hres
  have d7 := f189_ok  b4 e4 
  rw [e1] at d7
  refine rd_call (cv_lend rfl rfl (dl_cons e8 (dl_cons (deep_closed (TR.clo (tSl api_ExprNode.t) e4)) dl_nil)) d7 rfl) ?_
  refine mV rfl ?_
  obtain ⟨g5, e7, d1⟩ := api_Statement.g_Value r1
  refine fA rfl e7 ?_
  refine lD d1 rfl rfl rfl ?_
  have f4 := own_ptr (P := Tryz.prog) (k := 0) M_ rfl (TR.clo action_state.t b4)
  obtain ⟨f5, d6, hres⟩ := let_ex hres
  have d5 := f189_ok  b4 d1 
  rw [d6] at d5
  refine rd_call (cv_lend rfl rfl (dl_cons f4 (dl_cons (deep_closed (TR.clo (tSl api_ExprNode.t) d1)) dl_nil)) d5 rfl) ?_
  obtain ⟨f0, e6, hres⟩ := let_ex hres
  obtain ⟨b5, f3, c9⟩ := f193_ok (x2 := x1.Register) (x3 := f1) (x4 := f5) d8 d9 (by first | assumption | omega | (rw [wr_of (by omega) (by omega)]; omega) | (have hk := rval rfl (And.right (And.left (by assumption))); omega) | (have hk := rval (by assumption) (by assumption); omega) | (have hk := rval (by assumption) (And.left (by assumption)); omega) | (have hk := rval (by assumption) (And.left (And.left (by assumption))); have hz := rslc (by assumption); omega) | (simp; done) | (simp only [List.length_append, List.length_nil, List.length_cons]; omega) | (have hk := (chk_ok (by assumption) (by assumption)).1; omega) | (simp only [List.length_cons, List.length_nil]; omega) | (simp only [List.length_append]; have hk := (chk_ok (by assumption) (by assumption)).1; omega) | (simp only [List.length_append, List.length_nil]; have hk := (chk_ok (by assumption) (by assumption)).1; omega))
  rw [e6] at c9
  refine cL f3 rfl rfl (clL_cons (TR.clo api_Program.t d8) (clL_cons (TR.clo (tSl (tSl tU32)) d9) (clL_cons rfl (clL_cons rfl (clL_cons rfl clL_nil))))) ?_
  refine rd_op (ov_nilCheck rfl rfl) ?_
  refine rd_op (ov_faddrO rfl) ?_
  obtain ⟨b1, b2, a9, b0, a5, a6, a8, b3, a7, a3, a1, a0, a4, a2, e2, f8, c1, c4, d0, c8, c2, c3, c7, c5, c6, b6, b9, b7, b8, c0, e3⟩ := b4
  subst f8
  refine rd_storeF (k := 0) (v := b5) M_ rfl rfl rfl (cells_one (TR.cnt (tSl (tSl tU32)) c9) (TR.agg (tSl (tSl tU32)) c9)) rfl (by first | decide | (simp only [List.length_cons, List.length_nil]; omega) | simp) (fun e0 d2 => ?_)
  replace d2 : Mem e0 (⟨.op d3 d4 0, 171, 16, [.agg [vs x0.scope.Program.Name, b1, b2, a9, b0, a5, a6, a8, b3, a7, a3, a1, a0, a4, a2, b5]]⟩ :: R_) := d2
  refine rd_nil ?_
  have e5 : Mem e0 (⟨.op d3 d4 0, 171, 16, [.agg [vs x0.scope.Program.Name, b1, b2, a9, b0, a5, a6, a8, b3, a7, a3, a1, a0, a4, a2, b5]]⟩ :: R_) := (Mem.front (k := 0) d2 rfl)
  subst hres
  exact pn_endX .nil ⟨(.agg [vs x0.scope.Program.Name, b1, b2, a9, b0, a5, a6, a8, b3, a7, a3, a1, a0, a4, a2, b5]), Mem.sub e5 (.cons_cons _ (List.Sublist.refl R_)), (show action_state.t.R ({ scope := x0.scope, args := x0.args, env := x0.env, regs := f0 } : action_state) (.agg [vs x0.scope.Program.Name, b1, b2, a9, b0, a5, a6, a8, b3, a7, a3, a1, a0, a4, a2, b5]) from ⟨b1, b2, a9, b0, a5, a6, a8, b3, a7, a3, a1, a0, a4, a2, b5, rfl, c1, c4, d0, c8, c2, c3, c7, c5, c6, b6, b9, b7, b8, c0, c9⟩), rfl⟩

def RF44 (res : api_Env × (List (List (BitVec 32)))) (r : PV) : Prop := ∃ c0, ∃ c1, r = .tup [c0, c1] ∧ api_Env.t.R res.1 c0 ∧ (tSl (tSl tU32)).R res.2 c1
theorem action_Execute_L1_ok {S : List Fr} {res : api_Env × (List (List (BitVec 32)))} {x0 : api_Program} {x1 : api_ActionCall} {x2 : api_Env} {x3 : List (List (BitVec 32))} {g1 : api_Env} {g0 : (List (List (BitVec 32)))} {d7 : Int × Int} {e0 : PV} {a9 a8 a6 a7 : Nat} (hE : EB x2) (hR : RB x3) (h8 : env_Clone x2 = g1) (h5 : action_duplicate x3 = g0) (i1 : action_Check x0 x1.Action = d7) (e3 : ((!decide (d7.2 = 0)) || (!decide ((action_CheckCall x0 x1) = 0))) = false) (b3 : (tSl api_Statement.t).R ((ix x0.Actions x1.Action).Body) e0) {K0 : action_state → (api_Env × (List (List (BitVec 32))))}
    (i7 : ∀ {a2 : action_state} {a1 : PV} (a3 : action_state.t.R a2 a1) {h : Heap} (M0 : Mem h [⟨.op a6 a7 0, 171, 16, [a1]⟩, ⟨.op a9 a8 0, 46, 4, [.agg [nilS, nilS, nilS, nilS]]⟩]), K0 a2 = res → PX Tryz.prog 0 S (QR Tryz.prog [(8, some (4, true)), (9, none)] (RF44 res)) [(8, .op a9 a8 0), (10, .op a6 a7 0)] h) :
    ∀ {m : Nat} {a0 : Int} {a2 : action_state} {a1 : PV} (a3 : action_state.t.R a2 a1) (h3 : m = Int.toNat ((((ix x0.Actions x1.Action).Body).length : Int) - a0)) (e1 : 0 ≤ a0) (c9 : SB a2) {h : Heap} (M0 : Mem h [⟨.op a6 a7 0, 171, 16, [a1]⟩, ⟨.op a9 a8 0, 46, 4, [.agg [nilS, nilS, nilS, nilS]]⟩]), action_Execute_L1 x0 x1 K0 m a0 a2 = res → RC Tryz.prog (.loop ac44_L1) S (QR Tryz.prog [(8, some (4, true)), (9, none)] (RF44 res)) [(67, vi a0), (66, vi (((ix x0.Actions x1.Action).Body).length : Int)), (65, e0), (10, .op a6 a7 0), (8, .op a9 a8 0)] h := by
  have d6 := e3
  try simp only [qa, qaD] at d6
  intro m
  induction m with
  | zero =>
    intro a0 a2 a1 a3 h3 e1 c9 h M0 hres
    rw [action_Execute_L1] at hres
    refine rc_loop ?_
    refine sR ?_
    refine bN i_lss rfl rfl ?_
    refine nS ?_
    refine rc_seq ?_
    refine rc_cond rfl ?_ ?_ <;> intro c <;> try simp only [qa, qaD] at c
    · omega
    refine rc_exit ?_
    refine px_seq ?_
    refine px_again ?_
    exact wP (i7 a3 (Mem.sub M0 (.cons_cons _ (.cons_cons _ .slnil))) hres) rfl
  | succ m ih =>
    intro a0 a2 a1 a3 h3 e1 c9 h M0 hres
    rw [action_Execute_L1] at hres
    refine rc_loop ?_
    refine sR ?_
    refine bN i_lss rfl rfl ?_
    refine nS ?_
    refine rc_seq ?_
    refine rc_cond rfl ?_ ?_ <;> intro c <;> try simp only [qa, qaD] at c
    rotate_left
    · omega
    refine rc_skip ?_
    refine pn_seq ?_
    refine rc_seq ?_
    refine rc_block ?_
    refine sR ?_
    obtain ⟨b0, g3, a5⟩ := sl_idx (i := a0) b3 (by first | omega | (have hk := ck_ix (by assumption) (And.left (by assumption : _ ∧ action_CheckCall x0 x1 = 0)); omega)) (by first | omega | (have hk := ck_ix (by assumption) (And.left (by assumption : _ ∧ action_CheckCall x0 x1 = 0)); omega))
    refine rd_op (ov_iaddr rfl rfl g3) ?_
    refine lD a5 rfl rfl rfl ?_
    refine rd_allocO (x := .agg [vi 0, vi 0, vi 0, vi 0, vi 0, nilS, nilS]) M0 rfl rfl (fun b2 b4 i8 e8 => ?_)
    refine rd_storeO (k := 0) (v := b0) e8 rfl rfl rfl (TR.cnt api_Statement.t a5) (fun b1 a4 => ?_)
    replace a4 : Mem b1 [⟨.op b2 b4 0, 135, 7, [b0]⟩, ⟨.op a6 a7 0, 171, 16, [a1]⟩, ⟨.op a9 a8 0, 46, 4, [.agg [nilS, nilS, nilS, nilS]]⟩] := a4
    refine nR ?_
    refine mV rfl ?_
    refine nS ?_
    refine rc_seq ?_
    refine sR ?_
    refine rd_op (ov_faddrO rfl) ?_
    refine rd_op (ov_loadf (k := 0) a4 rfl rfl (api_Statement.g_Kind a5)) ?_
    refine nS ?_
    refine rc_block ?_
    refine sR ?_
    refine bN i_eql rfl rfl ?_
    refine mV rfl ?_
    refine nS ?_
    refine rc_br hres rfl ?_ ?_ <;> clear hres <;> intro c hres <;> try simp only [qa, qaD] at c
    · refine rc_region ?_
      refine mV rfl ?_
      refine rd_nil ?_
      refine pn_blk ?_
      refine pn_seq ?_
      refine rc_regionS ?_
      refine rs_step ?_
      refine mV rfl ?_
      refine rs_back ?_
      refine rs_step ?_
      refine mV rfl ?_
      refine rs_back ?_
      refine rs_step ?_
      refine rd_op (ov_load0 (k := 0) a4 rfl rfl (TR.agg api_Statement.t a5)) ?_
      refine rs_back ?_
      have g7 : Mem b1 [⟨.op a6 a7 0, 171, 16, [a1]⟩, ⟨.op b2 b4 0, 135, 7, [b0]⟩, ⟨.op a9 a8 0, 46, 4, [.agg [nilS, nilS, nilS, nilS]]⟩] := (Mem.front (k := 1) a4 rfl)
      obtain ⟨f3, d3, hres⟩ := let_ex hres
      obtain ⟨h7, i5, d8, d5⟩ := f119_ok (x0 := a2) (x1 := (ix ((ix x0.Actions x1.Action).Body) a0)) a5 a3 g7 (by exact And.left (by assumption : SB _))
      rw [d3] at d5
      obtain ⟨f8, g6, c4, b7⟩ := d5
      replace b7 := b7.symm; subst b7
      refine rs_callXc rfl rfl d8 ?_
      have h2 : SB f3 := sb2 (by assumption) d3
      refine rs_nil ?_
      refine pn_blk ?_
      refine pn_seq ?_
      refine rc_region ?_
      refine bN i_add rfl rfl ?_
      refine mV rfl ?_
      refine rd_nil ?_
      refine pn_again ?_
      have hbd := sl_bound b3
      have hinc : wr (a0 + 1) = a0 + 1 := wr_of (by omega) (by omega)
      erw [hinc]
      exact wC (ih  c4 (by omega) (by omega) (by assumption) (Mem.sub g6 (.cons_cons _ (.cons _ (.cons_cons _ .slnil)))) hres) rfl
    · refine sR ?_
      refine bN i_eql rfl rfl ?_
      refine mV rfl ?_
      refine nS ?_
      refine rc_br hres rfl ?_ ?_ <;> clear hres <;> intro c hres <;> try simp only [qa, qaD] at c
      · refine rc_region ?_
        refine mV rfl ?_
        refine rd_nil ?_
        refine pn_blk ?_
        refine pn_seq ?_
        refine rc_regionS ?_
        refine rs_step ?_
        refine mV rfl ?_
        refine rs_back ?_
        refine rs_step ?_
        refine mV rfl ?_
        refine rs_back ?_
        refine rs_step ?_
        refine rd_op (ov_load0 (k := 0) a4 rfl rfl (TR.agg api_Statement.t a5)) ?_
        refine rs_back ?_
        have f4 : Mem b1 [⟨.op a6 a7 0, 171, 16, [a1]⟩, ⟨.op b2 b4 0, 135, 7, [b0]⟩, ⟨.op a9 a8 0, 46, 4, [.agg [nilS, nilS, nilS, nilS]]⟩] := (Mem.front (k := 1) a4 rfl)
        obtain ⟨f9, d2, hres⟩ := let_ex hres
        obtain ⟨i3, i6, e4, c5⟩ := f120_ok (x0 := a2) (x1 := (ix ((ix x0.Actions x1.Action).Body) a0)) a5 a3 f4 (by exact And.left (by assumption : SB _))
        rw [d2] at c5
        obtain ⟨g8, e7, c2, b9⟩ := c5
        replace b9 := b9.symm; subst b9
        refine rs_callXc rfl rfl e4 ?_
        have i2 : SB f9 := sb3 (by assumption) d2
        refine rs_nil ?_
        refine pn_blk ?_
        refine pn_seq ?_
        refine rc_region ?_
        refine bN i_add rfl rfl ?_
        refine mV rfl ?_
        refine rd_nil ?_
        refine pn_again ?_
        have hbd := sl_bound b3
        have hinc : wr (a0 + 1) = a0 + 1 := wr_of (by omega) (by omega)
        erw [hinc]
        exact wC (ih  c2 (by omega) (by omega) (by assumption) (Mem.sub e7 (.cons_cons _ (.cons _ (.cons_cons _ .slnil)))) hres) rfl
      · refine sR ?_
        refine bN i_eql rfl rfl ?_
        refine mV rfl ?_
        refine nS ?_
        refine rc_br hres rfl ?_ ?_ <;> clear hres <;> intro c hres <;> try simp only [qa, qaD] at c
        · refine rc_region ?_
          refine mV rfl ?_
          refine rd_nil ?_
          refine pn_blk ?_
          refine pn_seq ?_
          refine rc_regionS ?_
          refine rs_step ?_
          refine mV rfl ?_
          refine rs_back ?_
          refine rs_step ?_
          refine mV rfl ?_
          refine rs_back ?_
          refine rs_step ?_
          refine rd_op (ov_load0 (k := 0) a4 rfl rfl (TR.agg api_Statement.t a5)) ?_
          refine rs_back ?_
          have f6 : Mem b1 [⟨.op a6 a7 0, 171, 16, [a1]⟩, ⟨.op b2 b4 0, 135, 7, [b0]⟩, ⟨.op a9 a8 0, 46, 4, [.agg [nilS, nilS, nilS, nilS]]⟩] := (Mem.front (k := 1) a4 rfl)
          obtain ⟨g2, d1, hres⟩ := let_ex hres
          obtain ⟨h6, i9, e2, c8⟩ := f121_ok (x0 := a2) (x1 := (ix ((ix x0.Actions x1.Action).Body) a0)) a5 a3 f6 (by exact And.left (by assumption : SB _))
          rw [d1] at c8
          obtain ⟨f1, e9, c1, b8⟩ := c8
          replace b8 := b8.symm; subst b8
          refine rs_callXc rfl rfl e2 ?_
          have i0 : SB g2 := sb4 (by assumption) d1
          refine rs_nil ?_
          refine pn_blk ?_
          refine pn_seq ?_
          refine rc_region ?_
          refine bN i_add rfl rfl ?_
          refine mV rfl ?_
          refine rd_nil ?_
          refine pn_again ?_
          have hbd := sl_bound b3
          have hinc : wr (a0 + 1) = a0 + 1 := wr_of (by omega) (by omega)
          erw [hinc]
          exact wC (ih  c1 (by omega) (by omega) (by assumption) (Mem.sub e9 (.cons_cons _ (.cons _ (.cons_cons _ .slnil)))) hres) rfl
        · refine sR ?_
          refine bN i_eql rfl rfl ?_
          refine mV rfl ?_
          refine nS ?_
          refine rc_br hres rfl ?_ ?_ <;> clear hres <;> intro c hres <;> try simp only [qa, qaD] at c
          · refine rc_region ?_
            refine mV rfl ?_
            refine rd_nil ?_
            refine pn_blk ?_
            refine pn_seq ?_
            refine rc_regionS ?_
            refine rs_step ?_
            refine mV rfl ?_
            refine rs_back ?_
            refine rs_step ?_
            refine mV rfl ?_
            refine rs_back ?_
            refine rs_step ?_
            refine rd_op (ov_load0 (k := 0) a4 rfl rfl (TR.agg api_Statement.t a5)) ?_
            refine rs_back ?_
            have g4 : Mem b1 [⟨.op a6 a7 0, 171, 16, [a1]⟩, ⟨.op b2 b4 0, 135, 7, [b0]⟩, ⟨.op a9 a8 0, 46, 4, [.agg [nilS, nilS, nilS, nilS]]⟩] := (Mem.front (k := 1) a4 rfl)
            obtain ⟨f2, c6, hres⟩ := let_ex hres
            obtain ⟨h4, i4, e5, d4⟩ := f122_ok (x0 := a2) (x1 := (ix ((ix x0.Actions x1.Action).Body) a0)) a5 a3 g4 (by exact And.right (by assumption : SB _))
            rw [c6] at d4
            obtain ⟨f7, e6, c3, b6⟩ := d4
            replace b6 := b6.symm; subst b6
            refine rs_callXc rfl rfl e5 ?_
            have h0 : SB f2 := sb5 (by assumption) c6
            refine rs_nil ?_
            refine pn_blk ?_
            refine pn_seq ?_
            refine rc_region ?_
            refine bN i_add rfl rfl ?_
            refine mV rfl ?_
            refine rd_nil ?_
            refine pn_again ?_
            have hbd := sl_bound b3
            have hinc : wr (a0 + 1) = a0 + 1 := wr_of (by omega) (by omega)
            erw [hinc]
            exact wC (ih  c3 (by omega) (by omega) (by assumption) (Mem.sub e6 (.cons_cons _ (.cons _ (.cons_cons _ .slnil)))) hres) rfl
          · refine rc_skip ?_
            refine pn_blk ?_
            refine pn_seq ?_
            refine rc_regionS ?_
            refine rs_step ?_
            refine mV rfl ?_
            refine rs_back ?_
            refine rs_step ?_
            refine mV rfl ?_
            refine rs_back ?_
            refine rs_step ?_
            refine rd_op (ov_load0 (k := 0) a4 rfl rfl (TR.agg api_Statement.t a5)) ?_
            refine rs_back ?_
            have f5 : Mem b1 [⟨.op a6 a7 0, 171, 16, [a1]⟩, ⟨.op b2 b4 0, 135, 7, [b0]⟩, ⟨.op a9 a8 0, 46, 4, [.agg [nilS, nilS, nilS, nilS]]⟩] := (Mem.front (k := 1) a4 rfl)
            obtain ⟨g5, c7, hres⟩ := let_ex hres
            obtain ⟨h1, j0, d9, d0⟩ := f118_ok (x0 := a2) (x1 := (ix ((ix x0.Actions x1.Action).Body) a0)) a5 a3 f5 (by exact And.left (by assumption : SB _))
            rw [c7] at d0
            obtain ⟨f0, g9, c0, b5⟩ := d0
            replace b5 := b5.symm; subst b5
            refine rs_callXc rfl rfl d9 ?_
            have h9 : SB g5 := sb1 (by assumption) c7
            refine rs_nil ?_
            refine pn_blk ?_
            refine pn_seq ?_
            refine rc_region ?_
            refine bN i_add rfl rfl ?_
            refine mV rfl ?_
            refine rd_nil ?_
            refine pn_again ?_
            have hbd := sl_bound b3
            have hinc : wr (a0 + 1) = a0 + 1 := wr_of (by omega) (by omega)
            erw [hinc]
            exact wC (ih  c0 (by omega) (by omega) (by assumption) (Mem.sub g9 (.cons_cons _ (.cons _ (.cons_cons _ .slnil)))) hres) rfl

theorem f44_ok {x0 : api_Program} {x1 : api_ActionCall} {x2 : api_Env} {x3 : List (List (BitVec 32))} {v0 v1 v2 v3 : PV} (r0 : api_Program.t.R x0 v0) (r1 : api_ActionCall.t.R x1 v1) (r2 : api_Env.t.R x2 v2) (r3 : (tSl (tSl tU32)).R x3 v3) (hE : EB x2) (hR : RB x3) : ∃ c0, ∃ c1, FnR Tryz.prog 44 [v0, v1, v2, v3] (.tup [c0, c1]) ∧ api_Env.t.R (action_Execute x0 x1 x2 x3).1 c0 ∧ (tSl (tSl tU32)).R (action_Execute x0 x1 x2 x3).2 c1 := by
  obtain ⟨res, hres⟩ : ∃ res, action_Execute x0 x1 x2 x3 = res := ⟨_, rfl⟩
  suffices H : RC Tryz.prog ac44 [] (QR Tryz.prog [(8, some (4, true)), (9, none)] (RF44 res)) (argE 0 [v0, v1, v2, v3]) ⟨0, []⟩ by
    rw [hres]
    obtain ⟨r, h1, c0, c1, rfl, j3, j0⟩ := fnE text44 (by simp) H
    exact ⟨c0, c1, h1, j3, j0⟩
  unfold action_Execute at hres
  refine sR ?_
  refine rd_op (ov_box rfl (TR.cnt api_Program.t r0)) ?_
  refine rd_op (ov_box rfl (TR.cnt api_ActionCall.t r1)) ?_
  refine rd_op (ov_box rfl (TR.cnt api_Env.t r2)) ?_
  refine rd_allocO (x := .agg [nilS, nilS, nilS, nilS]) (Mem.nil ⟨0, []⟩) rfl rfl (fun b9 b7 j7 h6 => ?_)
  refine rd_op (v := nilS) (ov_move rfl) ?_
  refine nR ?_
  refine lD r2 rfl rfl rfl ?_
  obtain ⟨g1, e1, hres⟩ := let_ex hres
  obtain ⟨j2, i6, g2⟩ := f116_ok  r2 (by first | assumption | omega | (rw [wr_of (by omega) (by omega)]; omega) | (have hk := rval rfl (And.right (And.left (by assumption))); omega) | (have hk := rval (by assumption) (by assumption); omega) | (have hk := rval (by assumption) (And.left (by assumption)); omega) | (have hk := rval (by assumption) (And.left (And.left (by assumption))); have hz := rslc (by assumption); omega) | (simp; done) | (simp only [List.length_append, List.length_nil, List.length_cons]; omega) | (have hk := (chk_ok (by assumption) (by assumption)).1; omega) | (simp only [List.length_cons, List.length_nil]; omega) | (simp only [List.length_append]; have hk := (chk_ok (by assumption) (by assumption)).1; omega) | (simp only [List.length_append, List.length_nil]; have hk := (chk_ok (by assumption) (by assumption)).1; omega))
  rw [e1] at g2
  refine cL i6 rfl rfl (clL_cons (TR.clo api_Env.t r2) clL_nil) ?_
  refine mV rfl ?_
  obtain ⟨i1, e0, hres⟩ := let_ex hres
  obtain ⟨b3, h0, c2⟩ := f117_ok  r3 (by first | assumption | omega | (rw [wr_of (by omega) (by omega)]; omega) | (have hk := rval rfl (And.right (And.left (by assumption))); omega) | (have hk := rval (by assumption) (by assumption); omega) | (have hk := rval (by assumption) (And.left (by assumption)); omega) | (have hk := rval (by assumption) (And.left (And.left (by assumption))); have hz := rslc (by assumption); omega) | (simp; done) | (simp only [List.length_append, List.length_nil, List.length_cons]; omega) | (have hk := (chk_ok (by assumption) (by assumption)).1; omega) | (simp only [List.length_cons, List.length_nil]; omega) | (simp only [List.length_append]; have hk := (chk_ok (by assumption) (by assumption)).1; omega) | (simp only [List.length_append, List.length_nil]; have hk := (chk_ok (by assumption) (by assumption)).1; omega))
  rw [e0] at c2
  refine cL h0 rfl rfl (clL_cons (TR.clo (tSl (tSl tU32)) r3) clL_nil) ?_
  obtain ⟨a2, a0, a1, a3, g6, b6, b5, b4, b8⟩ := g2
  subst g6
  refine rd_op (v := .agg [vs [], nilS, nilS, nilS, nilS, nilS, nilS, nilS, nilS, nilS, nilS, a2, a0, a1, a3, b3]) (ov_build (cs := [vs [], nilS, nilS, nilS, nilS, nilS, nilS, nilS, nilS, nilS, nilS, a2, a0, a1, a3, b3]) rfl (by simp only [buildV, cells_one (TR.cnt (tSl (tSl tU32)) c2) (TR.agg (tSl (tSl tU32)) c2)]; rfl)) ?_
  refine rd_boxO (x := .agg [vs [], nilS, nilS, nilS, nilS, nilS, nilS, nilS, nilS, nilS, nilS, a2, a0, a1, a3, b3]) h6 rfl rfl (fun e5 e6 i9 g0 => ?_)
  refine mV rfl ?_
  refine nS ?_
  refine rc_seq ?_
  refine sR ?_
  refine lD r0 rfl rfl rfl ?_
  refine fL rfl (api_ActionCall.g_Action r1) rfl rfl ?_
  obtain ⟨b2, e2, hres⟩ := let_ex hres
  have g3 := f35_ok (x1 := x1.Action) r0 
  rw [e2] at g3
  refine cL g3 rfl rfl (clL_cons (TR.clo api_Program.t r0) (clL_cons rfl clL_nil)) ?_
  refine mV rfl ?_
  refine xT rfl rfl ?_
  refine xT rfl rfl ?_
  refine mV rfl ?_
  refine mV rfl ?_
  refine nR ?_
  refine mV rfl ?_
  refine bN i_neq rfl rfl ?_
  refine mV rfl ?_
  refine rd_cutn 5 (d := 37) (v := vb ((!decide (b2.2 = 0)) || (!decide ((action_CheckCall x0 x1) = 0)))) ?_ ?_
  · intro S Q r
    cases g5 : (!decide (b2.2 = 0))
    · intro k
      have f1 := g5
      try simp only [qa, qaD] at f1
      refine rd_yes rfl rfl (ov_load rfl (TR.cnt api_Program.t r0) (TR.agg api_Program.t r0)) ?_
      refine rd_yes rfl rfl (ov_load rfl (TR.cnt api_ActionCall.t r1) (TR.agg api_ActionCall.t r1)) ?_
      have i5 := f41_ok  r0 r1 
      refine rd_ycall rfl rfl (cv_fn rfl rfl (clL_cons (TR.clo api_Program.t r0) (clL_cons (TR.clo api_ActionCall.t r1) clL_nil)) i5) ?_
      refine rd_yes rfl rfl (ov_bin rfl rfl i_neq) ?_
      exact gK rfl rfl rfl rfl rfl k
    · exact gN 4 rfl rfl rfl rfl rfl rfl
  refine nS ?_
  refine rc_br hres rfl ?_ ?_ <;> clear hres <;> intro e3 hres <;> have f4 := e3 <;> try simp only [qa, qaD] at f4
  · refine rc_seq ?_
    refine rc_freezeP (k := 0) (E' := [(37, vb ((!decide (b2.2 = 0)) || (!decide ((action_CheckCall x0 x1) = 0)))), (32, vb (!decide (b2.2 = 0))), (31, vb (!decide (b2.2 = 0))), (30, vi b2.2), (12, vi b2.2), (11, vi b2.1), (29, vi b2.2), (28, vi b2.1), (23, .tup [vi b2.1, vi b2.2]), (27, .tup [vi b2.1, vi b2.2]), (26, vi x1.Action), (25, .fp (vi x1.Action)), (24, v0), (10, .fp (.agg [vs [], nilS, nilS, nilS, nilS, nilS, nilS, nilS, nilS, nilS, nilS, a2, a0, a1, a3, b3])), (22, .fp (.agg [vs [], nilS, nilS, nilS, nilS, nilS, nilS, nilS, nilS, nilS, nilS, a2, a0, a1, a3, b3])), (21, .agg [vs [], nilS, nilS, nilS, nilS, nilS, nilS, nilS, nilS, nilS, nilS, a2, a0, a1, a3, b3]), (20, b3), (19, v3), (18, .agg [a2, a0, a1, a3]), (17, v2), (9, nilS), (8, .op b9 b7 0), (6, .fp v2), (5, .fp v1), (4, .fp v0), (0, v0), (1, v1), (2, v2), (3, v3)]) g0 rfl (frz_keep rfl (frz_keep rfl (frz_keep rfl (frz_keep rfl (frz_keep rfl (frz_keep rfl (frz_keep rfl (frz_keep rfl (frz_keep rfl (frz_keep rfl (frz_keep rfl (frz_keep rfl (frz_keep rfl (frz_turn rfl (frz_turn rfl (frz_keep rfl (frz_keep rfl (frz_keep rfl (frz_keep rfl (frz_keep rfl (frz_keep rfl (frz_keep rfl (frz_keep rfl (frz_keep rfl (frz_keep rfl (frz_keep rfl (frz_keep rfl (frz_keep rfl (frz_keep rfl frz_nil))))))))))))))))))))))))))))) (fun i3 e9 => ?_)
    replace e9 : Mem i3 [⟨.op b9 b7 0, 46, 4, [.agg [nilS, nilS, nilS, nilS]]⟩] := e9
    refine mV rfl ?_
    refine rd_op (ov_nilCheck rfl rfl) ?_
    refine fL rfl rfl rfl rfl ?_
    refine mV rfl ?_
    refine rd_op (ov_nilCheck rfl rfl) ?_
    refine fA rfl (mk1 (TR.agg (tSl (tSl tU32)) c2)) ?_
    refine lD c2 rfl rfl rfl ?_
    refine rd_storeO (k := 0) (v := .agg [a2, a0, a1, a3]) e9 rfl rfl rfl rfl (fun i2 f3 => ?_)
    replace f3 : Mem i2 [⟨.op b9 b7 0, 46, 4, [.agg [a2, a0, a1, a3]]⟩] := f3
    refine mV rfl ?_
    refine nS ?_
    subst hres
    exact rc_retV (.cell rfl (load_whole (k := 0) f3 rfl rfl) (.tmp rfl .nil)) (deep_closed (show closed (.tup _) = true from (clL_cons (TR.clo api_Env.t (show api_Env.t.R g1 (.agg [a2, a0, a1, a3]) from ⟨a2, a0, a1, a3, rfl, b6, b5, b4, b8⟩)) (clL_cons (TR.clo (tSl (tSl tU32)) c2) clL_nil)))) ⟨.agg [a2, a0, a1, a3], b3, rfl, ⟨a2, a0, a1, a3, rfl, b6, b5, b4, b8⟩, c2⟩
  · refine rc_skip ?_
    refine pn_seq ?_
    refine sR ?_
    refine gL (api_Program.g_Actions r0) rfl rfl rfl fun i8 h8 => ?_
    refine fL rfl (api_ActionCall.g_Action r1) rfl rfl ?_
    obtain ⟨c9, h5, d9⟩ := sl_idx (i := x1.Action) h8 (by first | omega | (have hk := ck_ix (by assumption) (And.left (by assumption : _ ∧ action_CheckCall x0 x1 = 0)); omega)) (by first | omega | (have hk := ck_ix (by assumption) (And.left (by assumption : _ ∧ action_CheckCall x0 x1 = 0)); omega))
    refine rd_op (ov_iaddr rfl rfl h5) ?_
    refine lD d9 rfl rfl rfl ?_
    refine rd_allocO (x := .agg [vs [], nilS, nilS]) g0 rfl rfl (fun f7 f5 j1 i0 => ?_)
    refine rd_storeO (k := 0) (v := c9) i0 rfl rfl rfl (TR.cnt api_Action.t d9) (fun g7 d4 => ?_)
    replace d4 : Mem g7 [⟨.op f7 f5 0, 97, 3, [c9]⟩, ⟨.op e5 e6 0, 171, 16, [.agg [vs [], nilS, nilS, nilS, nilS, nilS, nilS, nilS, nilS, nilS, nilS, a2, a0, a1, a3, b3]]⟩, ⟨.op b9 b7 0, 46, 4, [.agg [nilS, nilS, nilS, nilS]]⟩] := d4
    refine nR ?_
    refine mV rfl ?_
    refine lD r0 rfl rfl rfl ?_
    refine rd_op (ov_faddrO rfl) ?_
    obtain ⟨c4, h2, e4⟩ := api_Action.g_Params d9
    refine rd_op (ov_loadf (k := 0) d4 rfl rfl h2) ?_
    obtain ⟨a8, b0, b1, a4, a6, a7, a9, a5, g9, d6, d7, d3, c7, d8, d2, d5, d1⟩ := r0
    subst g9
    refine rd_op (v := .agg [vs x0.Name, a8, b0, b1, a4, a6, a7, a9, a5, c4]) (ov_build (cs := [vs x0.Name, a8, b0, b1, a4, a6, a7, a9, a5, c4]) rfl (by simp only [buildV, cells_one (TR.cnt (tSl api_Field.t) e4) (TR.agg (tSl api_Field.t) e4)]; rfl)) ?_
    refine rd_op (ov_nilCheck rfl rfl) ?_
    refine rd_op (ov_faddrO rfl) ?_
    refine rd_storeF (k := 1) (v := .agg [vs x0.Name, a8, b0, b1, a4, a6, a7, a9, a5, c4]) d4 rfl rfl rfl rfl rfl (by first | decide | (simp only [List.length_cons, List.length_nil]; omega) | simp) (fun g8 f6 => ?_)
    replace f6 : Mem g8 [⟨.op f7 f5 0, 97, 3, [c9]⟩, ⟨.op e5 e6 0, 171, 16, [.agg [vs x0.Name, a8, b0, b1, a4, a6, a7, a9, a5, c4, nilS, a2, a0, a1, a3, b3]]⟩, ⟨.op b9 b7 0, 46, 4, [.agg [nilS, nilS, nilS, nilS]]⟩] := f6
    refine nR ?_
    refine mV rfl ?_
    refine gL (api_ActionCall.g_Args r1) rfl rfl rfl fun c8 f2 => ?_
    refine rd_op (ov_nilCheck rfl rfl) ?_
    refine rd_op (ov_faddrO rfl) ?_
    refine rd_storeF (k := 1) (v := c8) f6 rfl rfl rfl (cells_one (TR.cnt (tSl tU32) f2) (TR.agg (tSl tU32) f2)) rfl (by first | decide | (simp only [List.length_cons, List.length_nil]; omega) | simp) (fun h4 d0 => ?_)
    replace d0 : Mem h4 [⟨.op f7 f5 0, 97, 3, [c9]⟩, ⟨.op e5 e6 0, 171, 16, [.agg [vs x0.Name, a8, b0, b1, a4, a6, a7, a9, a5, c4, c8, a2, a0, a1, a3, b3]]⟩, ⟨.op b9 b7 0, 46, 4, [.agg [nilS, nilS, nilS, nilS]]⟩] := d0
    refine nS ?_
    refine rc_seq ?_
    refine sR ?_
    refine rd_op (ov_faddrO rfl) ?_
    obtain ⟨j4, i7, g4⟩ := api_Action.g_Body d9
    refine rd_op (ov_loadf (k := 0) d0 rfl rfl i7) ?_
    refine rd_op (ov_bi rfl (sl_len g4 Tryz.underlying95 _)) ?_
    refine mI rfl ?_
    refine nS ?_
    refine rc_block ?_
    have j5 : api_Env.t.R ({ Valid := ([] : List Bool), Fields := ([] : List (List (BitVec 32))), Metd := ([] : List (BitVec 32)), Payload := ([] : List UInt8) } : api_Env) (.agg [nilS, nilS, nilS, nilS]) := ⟨nilS, nilS, nilS, nilS, rfl, sl_nil, sl_nil, sl_nil, sl_nil⟩
    refine wC (action_Execute_L1_ok hE hR e1 e0 e2 e3 g4 ?_  (show action_state.t.R ({ scope := ({ Program := x0, Params := (ix x0.Actions x1.Action).Params } : expr_Scope), args := x1.Args, env := g1, regs := i1 } : action_state) (.agg [vs x0.Name, a8, b0, b1, a4, a6, a7, a9, a5, c4, c8, a2, a0, a1, a3, b3]) from ⟨a8, b0, b1, a4, a6, a7, a9, a5, c4, c8, a2, a0, a1, a3, b3, rfl, d6, d7, d3, c7, d8, d2, d5, d1, e4, f2, b6, b5, b4, b8, c2⟩) rfl (by omega) (by exact sb0 hE hR (by assumption) (by assumption)) (Mem.sub d0 (.cons _ (.cons_cons _ (.cons_cons _ .slnil)))) hres) rfl
    · intro f8 c5 c3 j6 h3 hres
      refine px_blk ?_
      refine pn_seq ?_
      refine rc_seq ?_
      refine rc_freezeP (k := 0) (E' := [(8, .op b9 b7 0), (10, .fp c5)]) h3 rfl (frz_keep rfl (frz_turn rfl frz_nil)) (fun h9 e8 => ?_)
      replace e8 : Mem h9 [⟨.op b9 b7 0, 46, 4, [.agg [nilS, nilS, nilS, nilS]]⟩] := e8
      refine mV rfl ?_
      refine rd_op (ov_nilCheck rfl rfl) ?_
      refine gL (action_state.g_env c3) rfl rfl rfl fun e7 c6 => ?_
      refine mV rfl ?_
      refine rd_op (ov_nilCheck rfl rfl) ?_
      refine gL (action_state.g_regs c3) rfl rfl rfl fun i4 f9 => ?_
      refine rd_storeO (k := 0) (v := e7) e8 rfl rfl rfl (TR.cnt api_Env.t c6) (fun h7 f0 => ?_)
      replace f0 : Mem h7 [⟨.op b9 b7 0, 46, 4, [e7]⟩] := f0
      refine mV rfl ?_
      refine nS ?_
      subst hres
      exact rc_retV (.cell rfl (load_whole (k := 0) f0 rfl (TR.agg api_Env.t c6)) (.tmp rfl .nil)) (deep_closed (show closed (.tup _) = true from (clL_cons (TR.clo api_Env.t c6) (clL_cons (TR.clo (tSl (tSl tU32)) f9) clL_nil)))) ⟨e7, i4, rfl, c6, f9⟩

def RF10 (res : Bool) (r : PV) : Prop := r = vb res
theorem f10_ok {x0 : law16_Case} {v0 : PV} (r0 : law16_Case.t.R x0 v0) (hE : EB x0.E) (hR : RB x0.Regs) : FnR Tryz.prog 10 [v0] (vb (law16_ActionKeeps x0)) := by
  refine fnS (R := RF10) text10 (fun _ h => h) rfl fun res hres => ?_
  unfold law16_ActionKeeps at hres
  refine sR ?_
  refine rd_boxO (x := v0) (Mem.nil ⟨0, []⟩) rfl (TR.cnt law16_Case.t r0) (fun f9 e5 i8 b3 => ?_)
  refine mB rfl ?_
  refine nS ?_
  refine rc_seq ?_
  refine sR ?_
  refine rd_op (ov_faddrO rfl) ?_
  obtain ⟨i3, h4, e1⟩ := law16_Case.g_P r0
  refine rd_op (ov_loadf (k := 0) b3 rfl rfl h4) ?_
  obtain ⟨d0, d7, hres⟩ := let_ex hres
  have g0 := f33_ok  e1 
  rw [d7] at g0
  refine cL g0 rfl rfl (clL_cons (TR.clo api_Program.t e1) clL_nil) ?_
  refine rd_op (ov_not rfl) ?_
  refine mV rfl ?_
  refine rd_cutn 6 (d := 13) (v := vb ((!d0) || (decide (40 < (x0.Call.Args.length : Int))))) ?_ ?_
  · intro S Q r
    cases e8 : (!d0)
    · intro k
      have d5 := e8
      try simp only [qa, qaD] at d5
      refine rd_yes rfl rfl (ov_faddrO rfl) ?_
      refine rd_yes rfl rfl (ov_faddrO rfl) ?_
      obtain ⟨i1, h7, h5⟩ := law16_Case.g_Call r0
      obtain ⟨i6, g5, h2⟩ := api_ActionCall.g_Args h5
      refine rd_yes rfl rfl (ov_loadf (k := 0) b3 rfl rfl (field_field h7 g5)) ?_
      refine rd_yes rfl rfl (ov_bi rfl (sl_len h2 Tryz.underlying43 _)) ?_
      refine rd_yes rfl rfl (ov_bin rfl rfl i_gtr) ?_
      exact gK rfl rfl rfl rfl rfl k
    · exact gN 5 rfl rfl rfl rfl rfl rfl
  refine mV rfl ?_
  refine rd_cutn 4 (d := 18) (v := vb (((!d0) || (decide (40 < (x0.Call.Args.length : Int)))) || (!(law16_right x0)))) ?_ ?_
  · intro S Q r
    cases e7 : ((!d0) || (decide (40 < (x0.Call.Args.length : Int))))
    · intro k
      have d3 := e7
      try simp only [qa, qaD] at d3
      refine rd_yes rfl rfl (ov_load0 (k := 0) b3 rfl rfl (TR.agg law16_Case.t r0)) ?_
      have g9 := f47_ok  r0 
      refine rd_ycall rfl rfl (cv_fn rfl rfl (clL_cons (TR.clo law16_Case.t r0) clL_nil) g9) ?_
      refine rd_yes rfl rfl (ov_not rfl) ?_
      exact gK rfl rfl rfl rfl rfl k
    · exact gN 3 rfl rfl rfl rfl rfl rfl
  refine nS ?_
  refine rc_br hres rfl ?_ ?_ <;> clear hres <;> intro c hres <;> try simp only [qa, qaD] at c
  · refine sR ?_
    obtain ⟨i7, f0, hres⟩ := let_ex hres
    have g4 := f34_ok   
    rw [f0] at g4
    refine cL g4 rfl rfl clL_nil ?_
    refine mV rfl ?_
    refine nS ?_
    exact rR hres rfl rfl rfl
  · refine rc_skip ?_
    refine pn_seq ?_
    refine sR ?_
    refine rd_op (ov_faddrO rfl) ?_
    obtain ⟨i2, h9, e6⟩ := law16_Case.g_P r0
    refine rd_op (ov_loadf (k := 0) b3 rfl rfl h9) ?_
    refine rd_op (ov_faddrO rfl) ?_
    obtain ⟨j0, i0, e9⟩ := law16_Case.g_Call r0
    refine rd_op (ov_loadf (k := 0) b3 rfl rfl i0) ?_
    refine rd_op (ov_faddrO rfl) ?_
    obtain ⟨i9, h6, d9⟩ := law16_Case.g_E r0
    refine rd_op (ov_loadf (k := 0) b3 rfl rfl h6) ?_
    refine rd_op (ov_faddrO rfl) ?_
    obtain ⟨i5, g6, f5⟩ := law16_Case.g_Regs r0
    refine rd_op (ov_loadf (k := 0) b3 rfl rfl g6) ?_
    obtain ⟨d1, f1, hres⟩ := let_ex hres
    obtain ⟨i4, c7, h3, g3, c9⟩ := f44_ok  e6 e9 d9 f5 (by first | assumption | omega | (rw [wr_of (by omega) (by omega)]; omega) | (have hk := rval rfl (And.right (And.left (by assumption))); omega) | (have hk := rval (by assumption) (by assumption); omega) | (have hk := rval (by assumption) (And.left (by assumption)); omega) | (have hk := rval (by assumption) (And.left (And.left (by assumption))); have hz := rslc (by assumption); omega) | (simp; done) | (simp only [List.length_append, List.length_nil, List.length_cons]; omega) | (have hk := (chk_ok (by assumption) (by assumption)).1; omega) | (simp only [List.length_cons, List.length_nil]; omega) | (simp only [List.length_append]; have hk := (chk_ok (by assumption) (by assumption)).1; omega) | (simp only [List.length_append, List.length_nil]; have hk := (chk_ok (by assumption) (by assumption)).1; omega)) (by first | assumption | omega | (rw [wr_of (by omega) (by omega)]; omega) | (have hk := rval rfl (And.right (And.left (by assumption))); omega) | (have hk := rval (by assumption) (by assumption); omega) | (have hk := rval (by assumption) (And.left (by assumption)); omega) | (have hk := rval (by assumption) (And.left (And.left (by assumption))); have hz := rslc (by assumption); omega) | (simp; done) | (simp only [List.length_append, List.length_nil, List.length_cons]; omega) | (have hk := (chk_ok (by assumption) (by assumption)).1; omega) | (simp only [List.length_cons, List.length_nil]; omega) | (simp only [List.length_append]; have hk := (chk_ok (by assumption) (by assumption)).1; omega) | (simp only [List.length_append, List.length_nil]; have hk := (chk_ok (by assumption) (by assumption)).1; omega))
    rw [f1] at g3 c9
    refine cL h3 rfl rfl (clL_cons (TR.clo api_Program.t e6) (clL_cons (TR.clo api_ActionCall.t e9) (clL_cons (TR.clo api_Env.t d9) (clL_cons (TR.clo (tSl (tSl tU32)) f5) clL_nil)))) ?_
    refine mV rfl ?_
    refine xT rfl rfl ?_
    refine xT rfl rfl ?_
    refine rd_op (ov_faddrO rfl) ?_
    obtain ⟨a9, b2, a6, a5, b0, a8, b1, a7, a0, f8, f4, f3, f6, c8, h8, b5, b7, b6, b8, c4, c0, c6, c1, b4, g2, e3, e4, g1, f7⟩ := r0
    subst h8
    obtain ⟨a3, a2, a1, a4, g7, c3, b9, c5, c2⟩ := g3
    subst g7
    refine rd_storeF (k := 0) (v := .agg [a3, a2, a1, a4]) b3 rfl rfl rfl rfl rfl (by first | decide | (simp only [List.length_cons, List.length_nil]; omega) | simp) (fun g8 d6 => ?_)
    replace d6 : Mem g8 [⟨.op f9 e5 0, 82, 16, [.agg [vs x0.P.Name, a9, b2, a6, a5, b0, a8, b1, a7, vi x0.Call.Action, a0, a3, a2, a1, a4, c8]]⟩] := d6
    refine rd_op (ov_faddrO rfl) ?_
    refine rd_storeF (k := 0) (v := c7) d6 rfl rfl rfl (cells_one (TR.cnt (tSl (tSl tU32)) c9) (TR.agg (tSl (tSl tU32)) c9)) rfl (by first | decide | (simp only [List.length_cons, List.length_nil]; omega) | simp) (fun h0 d4 => ?_)
    replace d4 : Mem h0 [⟨.op f9 e5 0, 82, 16, [.agg [vs x0.P.Name, a9, b2, a6, a5, b0, a8, b1, a7, vi x0.Call.Action, a0, a3, a2, a1, a4, c7]]⟩] := d4
    refine nR ?_
    refine rd_op (ov_load0 (k := 0) d4 rfl rfl rfl) ?_
    obtain ⟨f2, d8, hres⟩ := let_ex hres
    have e0 := f47_ok  (show law16_Case.t.R ({ P := x0.P, Call := x0.Call, E := d1.1, Regs := d1.2 } : law16_Case) (.agg [vs x0.P.Name, a9, b2, a6, a5, b0, a8, b1, a7, vi x0.Call.Action, a0, a3, a2, a1, a4, c7]) from ⟨a9, b2, a6, a5, b0, a8, b1, a7, a0, a3, a2, a1, a4, c7, rfl, b5, b7, b6, b8, c4, c0, c6, c1, b4, c3, b9, c5, c2, c9⟩) 
    rw [d8] at e0
    refine cL e0 rfl rfl (clL_cons (TR.clo law16_Case.t (show law16_Case.t.R ({ P := x0.P, Call := x0.Call, E := d1.1, Regs := d1.2 } : law16_Case) (.agg [vs x0.P.Name, a9, b2, a6, a5, b0, a8, b1, a7, vi x0.Call.Action, a0, a3, a2, a1, a4, c7]) from ⟨a9, b2, a6, a5, b0, a8, b1, a7, a0, a3, a2, a1, a4, c7, rfl, b5, b7, b6, b8, c4, c0, c6, c1, b4, c3, b9, c5, c2, c9⟩)) clL_nil) ?_
    refine mV rfl ?_
    refine rd_cutn 2 (d := 38) (v := vb (f2 && (law16_awake))) ?_ ?_
    · intro S Q r
      cases e2 : f2
      · exact gN 1 rfl rfl rfl rfl rfl rfl
      · intro k
        have d2 := e2
        try simp only [qa, qaD] at d2
        have h1 := f34_ok   
        refine rd_ycall rfl rfl (cv_fn rfl rfl clL_nil h1) ?_
        exact gK rfl rfl rfl rfl rfl k
    refine mV rfl ?_
    refine nS ?_
    exact rR hres rfl rfl rfl

end Go.Proofs.YtmonnlkagniolaaGreat
