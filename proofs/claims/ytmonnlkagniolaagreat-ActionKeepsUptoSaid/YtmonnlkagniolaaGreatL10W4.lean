/-
  The code of each function does what its plain program says.
-/
import Derived.Test.YtmonnlkagniolaaGreatL10W3
set_option linter.unusedVariables false
set_option linter.unusedSimpArgs false
set_option maxRecDepth 100000
namespace Go.Proofs.YtmonnlkagniolaaGreat
open Go Go.Pb Go.RowKit
def RF174 (res : Int × Int) (r : PV) : Prop := r = .tup [vi res.1, vi res.2]
theorem f174_ok {x0 : List api_ExprNode} {x1 : expr_Scope} {v0 v1 : PV} (r0 : (tSl api_ExprNode.t).R x0 v0) (r1 : expr_Scope.t.R x1 v1) : FnR Tryz.prog 174 [v0, v1] (.tup [vi ((expr_Check x0 x1).1), vi ((expr_Check x0 x1).2)]) := by
  refine fnS (R := RF174) text174 (fun _ h => h) rfl fun res hres => ?_
  unfold expr_Check at hres
  refine sR ?_
  refine rd_op (ov_box rfl (TR.cnt expr_Scope.t r1)) ?_
  refine mI rfl ?_
  refine mI rfl ?_
  refine nS ?_
  refine rc_seq ?_
  refine sR ?_
  refine mV rfl ?_
  refine rd_op (ov_bi rfl (sl_len r0 Tryz.underlying32 _)) ?_
  refine bN i_gtr rfl rfl ?_
  refine nS ?_
  refine rc_br hres rfl ?_ ?_ <;> clear hres <;> intro c hres <;> try simp only [qa, qaD] at c
  · refine sR ?_
    refine mI rfl ?_
    refine mI rfl ?_
    refine nS ?_
    exact rT hres rfl rfl rfl rfl rfl
  · refine rc_skip ?_
    refine pn_seq ?_
    refine sR ?_
    refine lD r1 rfl rfl rfl ?_
    refine mV rfl ?_
    obtain ⟨a2, a0, hres⟩ := let_ex hres
    have a1 := f226_ok (x2 := 0) r1 r0 (by first | assumption | omega | (rw [wr_of (by omega) (by omega)]; omega) | (have hk := rval rfl (And.right (And.left (by assumption))); omega) | (have hk := rval (by assumption) (by assumption); omega) | (have hk := rval (by assumption) (And.left (by assumption)); omega) | (have hk := rval (by assumption) (And.left (And.left (by assumption))); have hz := rslc (by assumption); omega) | (simp; done) | (simp only [List.length_append, List.length_nil, List.length_cons]; omega) | (have hk := (chk_ok (by assumption) (by assumption)).1; omega) | (simp only [List.length_cons, List.length_nil]; omega) | (simp only [List.length_append]; have hk := (chk_ok (by assumption) (by assumption)).1; omega) | (simp only [List.length_append, List.length_nil]; have hk := (chk_ok (by assumption) (by assumption)).1; omega)) (by first | assumption | omega | (rw [wr_of (by omega) (by omega)]; omega) | (have hk := rval rfl (And.right (And.left (by assumption))); omega) | (have hk := rval (by assumption) (by assumption); omega) | (have hk := rval (by assumption) (And.left (by assumption)); omega) | (have hk := rval (by assumption) (And.left (And.left (by assumption))); have hz := rslc (by assumption); omega) | (simp; done) | (simp only [List.length_append, List.length_nil, List.length_cons]; omega) | (have hk := (chk_ok (by assumption) (by assumption)).1; omega) | (simp only [List.length_cons, List.length_nil]; omega) | (simp only [List.length_append]; have hk := (chk_ok (by assumption) (by assumption)).1; omega) | (simp only [List.length_append, List.length_nil]; have hk := (chk_ok (by assumption) (by assumption)).1; omega))
    rw [a0] at a1
    refine cL a1 rfl rfl (clL_cons (TR.clo expr_Scope.t r1) (clL_cons (TR.clo (tSl api_ExprNode.t) r0) (clL_cons rfl clL_nil))) ?_
    refine mV rfl ?_
    refine xT rfl rfl ?_
    refine xT rfl rfl ?_
    refine xT rfl rfl ?_
    refine mV rfl ?_
    refine mV rfl ?_
    refine mV rfl ?_
    refine nS ?_
    refine rc_seq ?_
    refine rc_block ?_
    refine sR ?_
    refine mV rfl ?_
    refine bN i_neq rfl rfl ?_
    refine mV rfl ?_
    refine nS ?_
    refine rc_br hres rfl ?_ ?_ <;> clear hres <;> intro c hres <;> try simp only [qa, qaD] at c
    · refine sR ?_
      refine mV rfl ?_
      refine mI rfl ?_
      refine mV rfl ?_
      refine nS ?_
      exact rT hres rfl rfl rfl rfl rfl
    · refine sR ?_
      refine mV rfl ?_
      refine mV rfl ?_
      refine rd_op (ov_bi rfl (sl_len r0 Tryz.underlying32 _)) ?_
      refine bN i_lss rfl rfl ?_
      refine mV rfl ?_
      refine nS ?_
      refine rc_br hres rfl ?_ ?_ <;> clear hres <;> intro c hres <;> try simp only [qa, qaD] at c
      · refine sR ?_
        refine mI rfl ?_
        refine mI rfl ?_
        refine nS ?_
        exact rT hres rfl rfl rfl rfl rfl
      · refine rc_skip ?_
        refine pn_blk ?_
        refine pn_seq ?_
        refine sR ?_
        refine mV rfl ?_
        refine mV rfl ?_
        refine mI rfl ?_
        refine nS ?_
        exact rT hres rfl rfl rfl rfl rfl

def RF173 (res : Int) (r : PV) : Prop := r = vi res
theorem f173_ok {x0 : action_checker} {x1 : List api_ExprNode} {x2 : Int} {v0 v1 : PV} (r0 : action_checker.t.R x0 v0) (r1 : (tSl api_ExprNode.t).R x1 v1) : FnR Tryz.prog 173 [v0, v1, vi x2] (vi (m1_action_checker__value x0 x1 x2)) := by
  refine fnS (R := RF173) text173 (fun _ h => h) rfl fun res hres => ?_
  unfold m1_action_checker__value at hres
  refine sR ?_
  refine rd_op (ov_box rfl (TR.cnt action_checker.t r0)) ?_
  refine mI rfl ?_
  refine nR ?_
  refine mV rfl ?_
  obtain ⟨a7, a6, a2⟩ := action_checker.g_scope r0
  refine fA rfl a6 ?_
  refine lD a2 rfl rfl rfl ?_
  obtain ⟨a1, a3, hres⟩ := let_ex hres
  have a4 := f174_ok  r1 a2 
  rw [a3] at a4
  refine cL a4 rfl rfl (clL_cons (TR.clo (tSl api_ExprNode.t) r1) (clL_cons (TR.clo expr_Scope.t a2) clL_nil)) ?_
  refine mV rfl ?_
  refine xT rfl rfl ?_
  refine xT rfl rfl ?_
  refine mV rfl ?_
  refine mV rfl ?_
  refine nS ?_
  refine rc_seq ?_
  refine sR ?_
  refine mV rfl ?_
  refine bN i_eql rfl rfl ?_
  refine mV rfl ?_
  refine rd_cutn 4 (d := 22) (v := vb ((decide (a1.2 = 0)) && (!decide (a1.1 = x2)))) ?_ ?_
  · intro S Q r
    cases a5 : (decide (a1.2 = 0))
    · exact gN 3 rfl rfl rfl rfl rfl rfl
    · intro k
      have a0 := a5
      try simp only [qa, qaD] at a0
      refine rd_yes rfl rfl (ov_move rfl) ?_
      refine rd_yes rfl rfl (ov_move rfl) ?_
      refine rd_yes rfl rfl (ov_bin rfl rfl i_neq) ?_
      exact gK rfl rfl rfl rfl rfl k
  refine nS ?_
  refine rc_br hres rfl ?_ ?_ <;> clear hres <;> intro c hres <;> try simp only [qa, qaD] at c
  · refine sR ?_
    refine mI rfl ?_
    refine nS ?_
    exact rR hres rfl rfl rfl
  · refine rc_skip ?_
    refine pn_seq ?_
    refine sR ?_
    refine mV rfl ?_
    refine mV rfl ?_
    refine nS ?_
    exact rR hres rfl rfl rfl

def RF104 (res : Int) (r : PV) : Prop := r = vi res
theorem f104_ok {x0 : action_checker} {x1 : api_Statement} {v0 v1 : PV} (r0 : action_checker.t.R x0 v0) (r1 : api_Statement.t.R x1 v1) : FnR Tryz.prog 104 [v0, v1] (vi (m1_action_checker__statement x0 x1)) := by
  refine fnS (R := RF104) text104 (fun _ h => h) rfl fun res hres => ?_
  unfold m1_action_checker__statement at hres
  refine sR ?_
  refine rd_op (ov_box rfl (TR.cnt action_checker.t r0)) ?_
  refine rd_op (ov_box rfl (TR.cnt api_Statement.t r1)) ?_
  refine mI rfl ?_
  refine nR ?_
  obtain ⟨g1, f1, f0⟩ := action_checker.g_scope r0
  refine fA rfl f1 ?_
  refine gL (expr_Scope.g_Program f0) rfl rfl rfl fun b1 a3 => ?_
  refine rd_allocO (x := .agg [vs [], nilS, nilS, nilS, nilS, nilS, nilS, nilS, nilS]) (Mem.nil ⟨0, []⟩) rfl rfl (fun b0 a7 g2 e2 => ?_)
  refine rd_storeO (k := 0) (v := b1) e2 rfl rfl rfl (TR.cnt api_Program.t a3) (fun d5 a5 => ?_)
  replace a5 : Mem d5 [⟨.op b0 a7 0, 31, 9, [b1]⟩] := a5
  refine nR ?_
  refine rd_op (ov_load0 (k := 0) a5 rfl rfl (TR.agg api_Program.t a3)) ?_
  refine gL (api_Statement.g_Dst r1) rfl rfl rfl fun f3 c8 => ?_
  obtain ⟨a2, b9, hres⟩ := let_ex hres
  have b7 := f172_ok  a3 c8 
  rw [b9] at b7
  refine cL b7 rfl rfl (clL_cons (TR.clo api_Program.t a3) (clL_cons (TR.clo api_FieldRef.t c8) clL_nil)) ?_
  refine mV rfl ?_
  refine xT rfl rfl ?_
  refine xT rfl rfl ?_
  refine mV rfl ?_
  refine mV rfl ?_
  refine nR ?_
  refine fL rfl (api_Statement.g_Register r1) rfl rfl ?_
  refine bN i_geq rfl rfl ?_
  refine mV rfl ?_
  refine rd_cutn 7 (d := 31) (v := vb ((decide (0 ≤ x1.Register)) && (decide (x1.Register < (x0.scope.Program.Registers.length : Int))))) ?_ ?_
  · intro S Q r
    cases c5 : (decide (0 ≤ x1.Register))
    · exact gN 6 rfl rfl rfl rfl rfl rfl
    · intro k
      have b4 := c5
      try simp only [qa, qaD] at b4
      refine rd_yes rfl rfl (ov_faddr rfl (api_Statement.g_Register r1)) ?_
      refine rd_yes rfl rfl (ov_load rfl rfl rfl) ?_
      refine rd_yes rfl rfl (ov_faddrO rfl) ?_
      obtain ⟨f6, e3, e1⟩ := api_Program.g_Registers a3
      refine rd_yes rfl rfl (ov_loadf (k := 0) a5 rfl rfl e3) ?_
      refine rd_yes rfl rfl (ov_bi rfl (sl_len e1 Tryz.underlying24 _)) ?_
      refine rd_yes rfl rfl (ov_bin rfl rfl i_lss) ?_
      exact gK rfl rfl rfl rfl rfl k
  refine mV rfl ?_
  refine nS ?_
  refine rc_seq ?_
  refine sR ?_
  refine fL rfl (api_Statement.g_Kind r1) rfl rfl ?_
  refine nS ?_
  refine rc_block ?_
  refine sR ?_
  refine bN i_eql rfl rfl ?_
  refine mV rfl ?_
  refine nS ?_
  refine rc_br hres rfl ?_ ?_ <;> clear hres <;> intro c hres <;> try simp only [qa, qaD] at c
  · refine rc_seq ?_
    refine sR ?_
    refine mV rfl ?_
    refine rd_op (ov_not rfl) ?_
    refine nS ?_
    refine rc_br hres rfl ?_ ?_ <;> clear hres <;> intro c hres <;> try simp only [qa, qaD] at c
    · refine sR ?_
      refine mI rfl ?_
      refine nS ?_
      exact rR hres rfl rfl rfl
    · refine rc_skip ?_
      refine pn_seq ?_
      refine sR ?_
      refine lD r0 rfl rfl rfl ?_
      refine gL (api_Statement.g_Value r1) rfl rfl rfl fun f4 c3 => ?_
      refine mV rfl ?_
      obtain ⟨g4, b6, hres⟩ := let_ex hres
      have c4 := f173_ok (x2 := a2.1) r0 c3 
      rw [b6] at c4
      refine cL c4 rfl rfl (clL_cons (TR.clo action_checker.t r0) (clL_cons (TR.clo (tSl api_ExprNode.t) c3) (clL_cons rfl clL_nil))) ?_
      refine mV rfl ?_
      refine nS ?_
      exact rR hres rfl rfl rfl
  · refine rc_seq ?_
    refine sR ?_
    refine bN i_eql rfl rfl ?_
    refine mV rfl ?_
    refine nS ?_
    obtain ⟨d9, d2, hres⟩ := let_ex hres
    refine rc_join (F := fun b S Q => ∀ (a0 : Bool) (a9 : Heap) (a4 : Mem a9 [⟨.op b0 a7 0, 31, 9, [b1]⟩]), d9 a0 = res → RC Tryz.prog b S Q [(43, vb a0), (33, vi x1.Kind), (8, vb ((decide (0 ≤ x1.Register)) && (decide (x1.Register < (x0.scope.Program.Registers.length : Int))))), (7, vb a2.2), (6, vi a2.1), (5, .op b0 a7 0), (3, .fp v1), (2, .fp v0)] a9) ?_ ?_
    · intro a0 a9 a4 hres
      rw [← d2] at hres
      refine rc_br hres rfl ?_ ?_ <;> clear hres <;> intro c hres <;> try simp only [qa, qaD] at c
      · refine rc_seq ?_
        refine sR ?_
        refine fL rfl (api_Statement.g_Header r1) rfl rfl ?_
        refine bN i_lss rfl rfl ?_
        refine mV rfl ?_
        refine rd_cutn 7 (d := 56) (v := vb ((decide (x1.Header < 0)) || (decide ((x0.scope.Program.Headers.length : Int) ≤ x1.Header)))) ?_ ?_
        · intro S Q r
          cases d3 : (decide (x1.Header < 0))
          · intro k
            have b3 := d3
            try simp only [qa, qaD] at b3
            refine rd_yes rfl rfl (ov_faddr rfl (api_Statement.g_Header r1)) ?_
            refine rd_yes rfl rfl (ov_load rfl rfl rfl) ?_
            refine rd_yes rfl rfl (ov_faddrO rfl) ?_
            obtain ⟨g8, d7, d8⟩ := api_Program.g_Headers a3
            refine rd_yes rfl rfl (ov_loadf (k := 0) a4 rfl rfl d7) ?_
            refine rd_yes rfl rfl (ov_bi rfl (sl_len d8 Tryz.underlying22 _)) ?_
            refine rd_yes rfl rfl (ov_bin rfl rfl i_geq) ?_
            exact gK rfl rfl rfl rfl rfl k
          · exact gN 6 rfl rfl rfl rfl rfl rfl
        refine nS ?_
        refine rc_br hres rfl ?_ ?_ <;> clear hres <;> intro c hres <;> try simp only [qa, qaD] at c
        · refine sR ?_
          refine mI rfl ?_
          refine nS ?_
          exact rR hres rfl rfl rfl
        · refine rc_skip ?_
          refine pn_seq ?_
          refine sR ?_
          refine mI rfl ?_
          refine nS ?_
          exact rR hres rfl rfl rfl
      · refine rc_seq ?_
        refine sR ?_
        refine bN i_eql rfl rfl ?_
        refine mV rfl ?_
        refine nS ?_
        obtain ⟨e7, c2, hres⟩ := let_ex hres
        refine rc_join (F := fun b S Q => ∀ (a1 : Bool) (a8 : Heap) (a6 : Mem a8 [⟨.op b0 a7 0, 31, 9, [b1]⟩]), e7 a1 = res → RC Tryz.prog b S Q [(57, vb a1), (8, vb ((decide (0 ≤ x1.Register)) && (decide (x1.Register < (x0.scope.Program.Registers.length : Int))))), (7, vb a2.2), (6, vi a2.1), (5, .op b0 a7 0), (3, .fp v1), (2, .fp v0)] a8) ?_ ?_
        · intro a1 a8 a6 hres
          rw [← c2] at hres
          refine rc_br hres rfl ?_ ?_ <;> clear hres <;> intro c hres <;> try simp only [qa, qaD] at c
          · refine rc_seq ?_
            refine sR ?_
            refine mV rfl ?_
            refine rd_op (ov_not rfl) ?_
            refine mV rfl ?_
            refine rd_cutn 8 (d := 70) (v := vb ((!((decide (0 ≤ x1.Register)) && (decide (x1.Register < (x0.scope.Program.Registers.length : Int))))) || ((decide (x1.Kind = 4)) && (!a2.2)))) ?_ ?_
            · intro S Q r
              cases c1 : (!((decide (0 ≤ x1.Register)) && (decide (x1.Register < (x0.scope.Program.Registers.length : Int)))))
              · intro k
                have b5 := c1
                try simp only [qa, qaD] at b5
                refine rd_yes rfl rfl (ov_faddr rfl (api_Statement.g_Kind r1)) ?_
                refine rd_yes rfl rfl (ov_load rfl rfl rfl) ?_
                refine rd_yes rfl rfl (ov_bin rfl rfl i_eql) ?_
                refine rd_yes rfl rfl (ov_move rfl) ?_
                refine rd_cutn 3 (d := 69) (v := vb ((decide (x1.Kind = 4)) && (!a2.2))) ?_ ?_
                · intro S Q r
                  cases c0 : (decide (x1.Kind = 4))
                  · intro k
                    refine rd_skip rfl rfl ?_
                    refine rd_skip rfl rfl ?_
                    refine rd_yes (v := vb false) rfl rfl (ov_pick rfl rfl rfl rfl) ?_
                    exact wD k rfl
                  · intro k
                    have b2 := c0
                    try simp only [qa, qaD] at b2
                    refine rd_yes rfl rfl (ov_move rfl) ?_
                    refine rd_yes rfl rfl (ov_not rfl) ?_
                    refine rd_yes (v := vb (!a2.2)) rfl rfl (ov_pick rfl rfl rfl rfl) ?_
                    exact wD k rfl
                exact gK rfl rfl rfl rfl rfl k
              · exact gN 7 rfl rfl rfl rfl rfl rfl
            refine nS ?_
            refine rc_br hres rfl ?_ ?_ <;> clear hres <;> intro c hres <;> try simp only [qa, qaD] at c
            · refine sR ?_
              refine mI rfl ?_
              refine nS ?_
              exact rR hres rfl rfl rfl
            · refine rc_skip ?_
              refine pn_seq ?_
              refine rc_seq ?_
              refine sR ?_
              refine gL (api_Statement.g_Index r1) rfl rfl rfl fun f9 d0 => ?_
              refine gL (action_checker.g_scope r0) rfl rfl rfl fun g3 c6 => ?_
              obtain ⟨f8, d4, hres⟩ := let_ex hres
              have c7 := f174_ok  d0 c6 
              rw [d4] at c7
              refine cL c7 rfl rfl (clL_cons (TR.clo (tSl api_ExprNode.t) d0) (clL_cons (TR.clo expr_Scope.t c6) clL_nil)) ?_
              refine mV rfl ?_
              refine xT rfl rfl ?_
              refine xT rfl rfl ?_
              refine mV rfl ?_
              refine mV rfl ?_
              refine nR ?_
              refine mV rfl ?_
              refine bN i_neq rfl rfl ?_
              refine nS ?_
              refine rc_br hres rfl ?_ ?_ <;> clear hres <;> intro c hres <;> try simp only [qa, qaD] at c
              · refine sR ?_
                refine mV rfl ?_
                refine mV rfl ?_
                refine nS ?_
                exact rR hres rfl rfl rfl
              · refine rc_skip ?_
                refine pn_seq ?_
                refine rc_seq ?_
                refine sR ?_
                refine fL rfl (api_Statement.g_Kind r1) rfl rfl ?_
                refine bN i_eql rfl rfl ?_
                refine nS ?_
                refine rc_br hres rfl ?_ ?_ <;> clear hres <;> intro c hres <;> try simp only [qa, qaD] at c
                · refine sR ?_
                  refine lD r0 rfl rfl rfl ?_
                  refine gL (api_Statement.g_Value r1) rfl rfl rfl fun g5 d1 => ?_
                  refine rd_op (ov_faddrO rfl) ?_
                  obtain ⟨f5, e9, e6⟩ := api_Program.g_Registers a3
                  refine rd_op (ov_loadf (k := 0) a6 rfl rfl e9) ?_
                  refine fL rfl (api_Statement.g_Register r1) rfl rfl ?_
                  obtain ⟨f7, e4, e0⟩ := sl_idx (i := x1.Register) e6 (by omega) (by omega)
                  refine rd_op (ov_iaddr rfl rfl e4) ?_
                  refine fL rfl (api_Register.g_Width e0) rfl rfl ?_
                  obtain ⟨g7, b8, hres⟩ := let_ex hres
                  have c9 := f173_ok (x2 := (ix x0.scope.Program.Registers x1.Register).Width) r0 d1 
                  rw [b8] at c9
                  refine cL c9 rfl rfl (clL_cons (TR.clo action_checker.t r0) (clL_cons (TR.clo (tSl api_ExprNode.t) d1) (clL_cons rfl clL_nil))) ?_
                  refine mV rfl ?_
                  refine nS ?_
                  exact rR hres rfl rfl rfl
                · refine rc_skip ?_
                  refine pn_seq ?_
                  refine rc_seq ?_
                  refine sR ?_
                  refine mV rfl ?_
                  refine rd_op (ov_faddrO rfl) ?_
                  obtain ⟨g6, f2, e8⟩ := api_Program.g_Registers a3
                  refine rd_op (ov_loadf (k := 0) a6 rfl rfl f2) ?_
                  refine fL rfl (api_Statement.g_Register r1) rfl rfl ?_
                  obtain ⟨g0, d6, e5⟩ := sl_idx (i := x1.Register) e8 (by omega) (by omega)
                  refine rd_op (ov_iaddr rfl rfl d6) ?_
                  refine fL rfl (api_Register.g_Width e5) rfl rfl ?_
                  refine bN i_neq rfl rfl ?_
                  refine nS ?_
                  refine rc_br hres rfl ?_ ?_ <;> clear hres <;> intro c hres <;> try simp only [qa, qaD] at c
                  · refine sR ?_
                    refine mI rfl ?_
                    refine nS ?_
                    exact rR hres rfl rfl rfl
                  · refine rc_skip ?_
                    refine pn_seq ?_
                    refine sR ?_
                    refine mI rfl ?_
                    refine nS ?_
                    exact rR hres rfl rfl rfl
          · refine rc_skip ?_
            refine pn_blk ?_
            refine pn_seq ?_
            refine sR ?_
            refine mI rfl ?_
            refine nS ?_
            exact rR hres rfl rfl rfl
        · intro J
          refine rc_br hres rfl ?_ ?_ <;> clear hres <;> intro c hres <;> try simp only [qa, qaD] at c
          · refine rc_skip ?_
            refine pn_seq (wC (J _ _ (Mem.sub a4 (.cons_cons _ .slnil)) hres) rfl)
          · refine rc_region ?_
            refine bN i_eql rfl rfl ?_
            refine mV rfl ?_
            refine rd_nil ?_
            refine pn_seq (wC (J _ _ (Mem.sub a4 (.cons_cons _ .slnil)) hres) rfl)
    · intro J
      refine rc_br hres rfl ?_ ?_ <;> clear hres <;> intro c hres <;> try simp only [qa, qaD] at c
      · refine rc_skip ?_
        refine pn_seq (wC (J _ _ (Mem.sub a5 (.cons_cons _ .slnil)) hres) rfl)
      · refine rc_region ?_
        refine bN i_eql rfl rfl ?_
        refine mV rfl ?_
        refine rd_nil ?_
        refine pn_seq (wC (J _ _ (Mem.sub a5 (.cons_cons _ .slnil)) hres) rfl)

def RF35 (res : Int × Int) (r : PV) : Prop := r = .tup [vi res.1, vi res.2]
theorem action_Check_L1_ok {S : List Fr} {res : Int × Int} {x0 : api_Program} {x1 c5 : Int} {b3 a6 a1 a3 a4 a7 a5 a0 a2 b7 : PV} {b1 b2 : Nat} (c1 : ((decide (x1 < 0)) || (decide ((x0.Actions.length : Int) ≤ x1))) = false) (d2 : action_declaration (ix x0.Actions x1) = c5) (c4 : (!decide (c5 = 0)) = false) (c3 : (tSl api_Statement.t).R ((ix x0.Actions x1).Body) b7) (b6 : action_checker.t.R ({ scope := ({ Program := x0, Params := (ix x0.Actions x1).Params } : expr_Scope) } : action_checker) (.agg [vs x0.Name, a6, a1, a3, a4, a7, a5, a0, a2, b3])) {K0 : Unit → (Int × Int)}
    (d4 : ∀ {h : Heap} (M0 : Mem h [⟨.op b1 b2 0, 151, 10, [.agg [vs x0.Name, a6, a1, a3, a4, a7, a5, a0, a2, b3]]⟩]), K0 () = res → PX Tryz.prog 0 S (QR Tryz.prog [(4, none), (5, none)] (RF35 res)) [] h) :
    ∀ {m : Nat} {a8 : Int} (d1 : m = Int.toNat ((((ix x0.Actions x1).Body).length : Int) - a8)) (b8 : 0 ≤ a8) {h : Heap} (M0 : Mem h [⟨.op b1 b2 0, 151, 10, [.agg [vs x0.Name, a6, a1, a3, a4, a7, a5, a0, a2, b3]]⟩]), action_Check_L1 x0 x1 K0 m a8 = res → RC Tryz.prog (.loop ac35_L1) S (QR Tryz.prog [(4, none), (5, none)] (RF35 res)) [(37, vi a8), (36, vi (((ix x0.Actions x1).Body).length : Int)), (35, b7), (7, .op b1 b2 0)] h := by
  have b5 := c1
  try simp only [qa, qaD] at b5
  have b4 := c4
  try simp only [qa, qaD] at b4
  intro m
  induction m with
  | zero =>
    intro a8 d1 b8 h M0 hres
    rw [action_Check_L1] at hres
    refine rc_loop ?_
    refine sR ?_
    refine bN i_lss rfl rfl ?_
    refine nS ?_
    refine rc_seq ?_
    refine rc_cond rfl ?_ ?_ <;> intro c <;> try simp only [qa, qaD] at c
    · omega
    refine rc_exit ?_
    refine px_seq ?_
    refine px_again ?_
    exact wP (d4 (Mem.sub M0 (.cons_cons _ .slnil)) hres) rfl
  | succ m ih =>
    intro a8 d1 b8 h M0 hres
    rw [action_Check_L1] at hres
    refine rc_loop ?_
    refine sR ?_
    refine bN i_lss rfl rfl ?_
    refine nS ?_
    refine rc_seq ?_
    refine rc_cond rfl ?_ ?_ <;> intro c <;> try simp only [qa, qaD] at c
    rotate_left
    · omega
    refine rc_skip ?_
    refine pn_seq ?_
    refine rc_seq ?_
    refine rc_block ?_
    refine sR ?_
    refine mV rfl ?_
    obtain ⟨b9, c9, a9⟩ := sl_idx (i := a8) c3 (by omega) (by omega)
    refine rd_op (ov_iaddr rfl rfl c9) ?_
    refine lD a9 rfl rfl rfl ?_
    refine rd_allocO (x := .agg [vi 0, vi 0, vi 0, vi 0, vi 0, nilS, nilS]) M0 rfl rfl (fun c7 d0 d5 c8 => ?_)
    refine mV rfl ?_
    refine rd_storeO (k := 0) (v := b9) c8 rfl rfl rfl (TR.cnt api_Statement.t a9) (fun c6 b0 => ?_)
    replace b0 : Mem c6 [⟨.op c7 d0 0, 135, 7, [b9]⟩, ⟨.op b1 b2 0, 151, 10, [.agg [vs x0.Name, a6, a1, a3, a4, a7, a5, a0, a2, b3]]⟩] := b0
    refine nR ?_
    refine rd_op (ov_load0 (k := 1) b0 rfl rfl (TR.agg action_checker.t b6)) ?_
    refine rd_op (ov_load0 (k := 0) b0 rfl rfl (TR.agg api_Statement.t a9)) ?_
    obtain ⟨d3, c2, hres⟩ := let_ex hres
    have c0 := f104_ok  b6 a9 
    rw [c2] at c0
    refine cL c0 rfl rfl (clL_cons (TR.clo action_checker.t b6) (clL_cons (TR.clo api_Statement.t a9) clL_nil)) ?_
    refine mV rfl ?_
    refine nR ?_
    refine mV rfl ?_
    refine bN i_neq rfl rfl ?_
    refine nS ?_
    refine rc_br hres rfl ?_ ?_ <;> clear hres <;> intro c hres <;> try simp only [qa, qaD] at c
    · refine sR ?_
      refine mV rfl ?_
      refine mV rfl ?_
      refine mV rfl ?_
      refine mV rfl ?_
      refine nS ?_
      exact rT hres rfl rfl rfl rfl rfl
    · refine rc_skip ?_
      refine pn_blk ?_
      refine pn_seq ?_
      refine rc_region ?_
      refine bN i_add rfl rfl ?_
      refine mV rfl ?_
      refine rd_nil ?_
      refine pn_again ?_
      have hbd := sl_bound c3
      have hinc : wr (a8 + 1) = a8 + 1 := wr_of (by omega) (by omega)
      erw [hinc]
      exact wC (ih   (by omega) (by omega) (Mem.sub b0 (.cons _ (.cons_cons _ .slnil))) hres) rfl

theorem f35_ok {x0 : api_Program} {x1 : Int} {v0 : PV} (r0 : api_Program.t.R x0 v0) : FnR Tryz.prog 35 [v0, vi x1] (.tup [vi ((action_Check x0 x1).1), vi ((action_Check x0 x1).2)]) := by
  refine fnS (R := RF35) text35 (fun _ h => h) rfl fun res hres => ?_
  unfold action_Check at hres
  refine sR ?_
  refine rd_op (ov_box rfl (TR.cnt api_Program.t r0)) ?_
  refine mI rfl ?_
  refine mI rfl ?_
  refine nS ?_
  refine rc_seq ?_
  refine sR ?_
  refine mV rfl ?_
  refine bN i_lss rfl rfl ?_
  refine mV rfl ?_
  refine rd_cutn 6 (d := 18) (v := vb ((decide (x1 < 0)) || (decide ((x0.Actions.length : Int) ≤ x1)))) ?_ ?_
  · intro S Q r
    cases c9 : (decide (x1 < 0))
    · intro k
      have c3 := c9
      try simp only [qa, qaD] at c3
      refine rd_yes rfl rfl (ov_move rfl) ?_
      obtain ⟨f0, d8, c8⟩ := api_Program.g_Actions r0
      refine rd_yes rfl rfl (ov_faddr rfl d8) ?_
      refine rd_yes rfl rfl (ov_load rfl (TR.cnt (tSl api_Action.t) c8) (TR.agg (tSl api_Action.t) c8)) ?_
      refine rd_yes rfl rfl (ov_bi rfl (sl_len c8 Tryz.underlying25 _)) ?_
      refine rd_yes rfl rfl (ov_bin rfl rfl i_geq) ?_
      exact gK rfl rfl rfl rfl rfl k
    · exact gN 5 rfl rfl rfl rfl rfl rfl
  refine nS ?_
  refine rc_br hres rfl ?_ ?_ <;> clear hres <;> intro c0 hres <;> have c6 := c0 <;> try simp only [qa, qaD] at c6
  · refine sR ?_
    refine mI rfl ?_
    refine mI rfl ?_
    refine nS ?_
    exact rT hres rfl rfl rfl rfl rfl
  · refine rc_skip ?_
    refine pn_seq ?_
    refine sR ?_
    obtain ⟨f4, e2, d1⟩ := api_Program.g_Actions r0
    refine fA rfl e2 ?_
    refine lD d1 rfl rfl rfl ?_
    refine mV rfl ?_
    obtain ⟨c7, e6, a9⟩ := sl_idx (i := x1) d1 (by omega) (by omega)
    refine rd_op (ov_iaddr rfl rfl e6) ?_
    refine lD a9 rfl rfl rfl ?_
    refine rd_allocO (x := .agg [vs [], nilS, nilS]) (Mem.nil ⟨0, []⟩) rfl rfl (fun d0 d2 e9 d5 => ?_)
    refine rd_storeO (k := 0) (v := c7) d5 rfl rfl rfl (TR.cnt api_Action.t a9) (fun d7 b0 => ?_)
    replace b0 : Mem d7 [⟨.op d0 d2 0, 97, 3, [c7]⟩] := b0
    refine nS ?_
    refine rc_seq ?_
    refine sR ?_
    refine rd_op (ov_load0 (k := 0) b0 rfl rfl (TR.agg api_Action.t a9)) ?_
    obtain ⟨f5, c2, hres⟩ := let_ex hres
    have d4 := f103_ok  a9 
    rw [c2] at d4
    refine cL d4 rfl rfl (clL_cons (TR.clo api_Action.t a9) clL_nil) ?_
    refine mV rfl ?_
    refine nR ?_
    refine mV rfl ?_
    refine bN i_neq rfl rfl ?_
    refine nS ?_
    refine rc_br hres rfl ?_ ?_ <;> clear hres <;> intro c1 hres <;> have c4 := c1 <;> try simp only [qa, qaD] at c4
    · refine sR ?_
      refine mV rfl ?_
      refine mI rfl ?_
      refine mV rfl ?_
      refine nS ?_
      exact rT hres rfl rfl rfl rfl rfl
    · refine rc_skip ?_
      refine pn_seq ?_
      refine sR ?_
      refine lD r0 rfl rfl rfl ?_
      refine rd_op (ov_faddrO rfl) ?_
      obtain ⟨a8, e1, c5⟩ := api_Action.g_Params a9
      refine rd_op (ov_loadf (k := 0) b0 rfl rfl e1) ?_
      obtain ⟨a6, a1, a3, a4, a7, a5, a0, a2, e4, b2, b6, b9, b5, b7, b4, b3, b8⟩ := r0
      subst e4
      refine rd_op (v := .agg [vs x0.Name, a6, a1, a3, a4, a7, a5, a0, a2, a8]) (ov_build (cs := [vs x0.Name, a6, a1, a3, a4, a7, a5, a0, a2, a8]) rfl (by simp only [buildV, cells_one (TR.cnt (tSl api_Field.t) c5) (TR.agg (tSl api_Field.t) c5)]; rfl)) ?_
      refine rd_op (v := .agg [vs x0.Name, a6, a1, a3, a4, a7, a5, a0, a2, a8]) (ov_build (cs := [vs x0.Name, a6, a1, a3, a4, a7, a5, a0, a2, a8]) rfl rfl) ?_
      refine rd_allocO (x := .agg [vs [], nilS, nilS, nilS, nilS, nilS, nilS, nilS, nilS, nilS]) b0 rfl rfl (fun d6 d9 f3 e3 => ?_)
      refine rd_storeO (k := 0) (v := .agg [vs x0.Name, a6, a1, a3, a4, a7, a5, a0, a2, a8]) e3 rfl rfl rfl rfl (fun e0 b1 => ?_)
      replace b1 : Mem e0 [⟨.op d6 d9 0, 151, 10, [.agg [vs x0.Name, a6, a1, a3, a4, a7, a5, a0, a2, a8]]⟩, ⟨.op d0 d2 0, 97, 3, [c7]⟩] := b1
      refine nS ?_
      refine rc_seq ?_
      refine sR ?_
      refine rd_op (ov_faddrO rfl) ?_
      obtain ⟨e8, e5, d3⟩ := api_Action.g_Body a9
      refine rd_op (ov_loadf (k := 1) b1 rfl rfl e5) ?_
      refine rd_op (ov_bi rfl (sl_len d3 Tryz.underlying95 _)) ?_
      refine mI rfl ?_
      refine nS ?_
      refine rc_block ?_
      have e7 : action_checker.t.R ({ scope := ({ Program := x0, Params := (ix x0.Actions x1).Params } : expr_Scope) } : action_checker) (.agg [vs x0.Name, a6, a1, a3, a4, a7, a5, a0, a2, a8]) := ⟨a6, a1, a3, a4, a7, a5, a0, a2, a8, rfl, b2, b6, b9, b5, b7, b4, b3, b8, c5⟩
      refine wC (action_Check_L1_ok c0 c2 c1 d3 e7 ?_  rfl (by omega) (Mem.sub b1 (.cons_cons _ (.cons _ .slnil))) hres) rfl
      · intro f2 f1 hres
        refine px_blk ?_
        refine pn_seq ?_
        refine sR ?_
        refine mI rfl ?_
        refine mI rfl ?_
        refine nS ?_
        exact rT hres rfl rfl rfl rfl rfl

def RF114 (res : Bool) (r : PV) : Prop := r = vb res
theorem f114_ok {x0 : BitVec 32} {x1 : Int} : FnR Tryz.prog 114 [vu32 x0, vi x1] (vb (bitvec_Fits x0 x1)) := by
  refine fnS (R := RF114) text114 (fun _ h => h) rfl fun res hres => ?_
  unfold bitvec_Fits at hres
  refine sR ?_
  refine mB rfl ?_
  refine nR ?_
  refine mV rfl ?_
  refine rd_op (v := .fs true [vi x1]) (ov_bslice rfl (all_cons rfl all_nil)) ?_
  have a5 : (tSl tI).R ([x1] : List Int) (.fs true [vi x1]) := sl_fs ⟨rfl, trivial⟩ (by simp)
  obtain ⟨a2, a3, hres⟩ := let_ex hres
  have a4 := f181_ok  a5 
  rw [a3] at a4
  refine cL a4 rfl rfl (clL_cons (TR.clo (tSl tI) a5) clL_nil) ?_
  refine mV rfl ?_
  refine rd_cutn 5 (d := 13) (v := vb (a2 && (decide (x0 ≤ (bitvec_Mask x1))))) ?_ ?_
  · intro S Q r
    cases a1 : a2
    · exact gN 4 rfl rfl rfl rfl rfl rfl
    · intro k
      have a0 := a1
      try simp only [qa, qaD] at a0
      refine rd_yes rfl rfl (ov_move rfl) ?_
      refine rd_yes rfl rfl (ov_move rfl) ?_
      have a6 := f182_ok (x0 := x1)  
      refine rd_ycall rfl rfl (cv_fn rfl rfl (clL_cons rfl clL_nil) a6) ?_
      refine rd_yes rfl rfl (ov_bin (a := vu32 x0) (b := vu32 (bitvec_Mask x1)) rfl rfl w_leq) ?_
      exact gK rfl rfl rfl rfl rfl k
  refine mV rfl ?_
  refine nS ?_
  exact rR hres rfl rfl rfl

def RF41 (res : Int) (r : PV) : Prop := r = vi res
theorem action_CheckCall_L1_ok {S : List Fr} {res : Int} {x0 : api_Program} {x1 : api_ActionCall} {a3 a5 : PV} (a8 : ((decide (x1.Action < 0)) || (decide ((x0.Actions.length : Int) ≤ x1.Action))) = false) (b1 : (tSl api_Field.t).R ((ix x0.Actions x1.Action).Params) a3) (a4 : (!decide ((x1.Args.length : Int) = (((ix x0.Actions x1.Action).Params).length : Int))) = false) (a9 : (tSl tU32).R x1.Args a5) {K0 : Unit → Int}
    (b7 : K0 () = res → PX Tryz.prog 0 S (QR Tryz.prog [(4, none)] (RF41 res)) [] ⟨0, []⟩) :
    ∀ {m : Nat} {a0 : Int} (b4 : m = Int.toNat ((x1.Args.length : Int) - a0)) (a7 : 0 ≤ a0), action_CheckCall_L1 x0 x1 K0 m a0 = res → RC Tryz.prog (.loop ac41_L1) S (QR Tryz.prog [(4, none)] (RF41 res)) [(35, vi a0), (34, vi (x1.Args.length : Int)), (33, a5), (5, a3)] ⟨0, []⟩ := by
  have a1 := a8
  try simp only [qa, qaD] at a1
  have a2 := a4
  try simp only [qa, qaD] at a2
  intro m
  induction m with
  | zero =>
    intro a0 b4 a7 hres
    rw [action_CheckCall_L1] at hres
    refine rc_loop ?_
    refine sR ?_
    refine bN i_lss rfl rfl ?_
    refine nS ?_
    refine rc_seq ?_
    refine rc_cond rfl ?_ ?_ <;> intro c <;> try simp only [qa, qaD] at c
    · omega
    refine rc_exit ?_
    refine px_seq ?_
    refine px_again ?_
    exact wP (b7  hres) rfl
  | succ m ih =>
    intro a0 b4 a7 hres
    rw [action_CheckCall_L1] at hres
    refine rc_loop ?_
    refine sR ?_
    refine bN i_lss rfl rfl ?_
    refine nS ?_
    refine rc_seq ?_
    refine rc_cond rfl ?_ ?_ <;> intro c <;> try simp only [qa, qaD] at c
    rotate_left
    · omega
    refine rc_skip ?_
    refine pn_seq ?_
    refine rc_seq ?_
    refine rc_block ?_
    refine sR ?_
    refine mV rfl ?_
    refine rd_op (ov_iaddr rfl rfl (slU32 a9 (by omega) (by omega))) ?_
    refine lR rfl rfl rfl ?_
    refine mV rfl ?_
    refine mV rfl ?_
    refine nR ?_
    refine mV rfl ?_
    refine mV rfl ?_
    refine mV rfl ?_
    obtain ⟨b6, b3, b2⟩ := sl_idx (i := a0) b1 (by omega) (by omega)
    refine rd_op (ov_iaddr rfl rfl b3) ?_
    refine fL rfl (api_Field.g_Width b2) rfl rfl ?_
    obtain ⟨b5, a6, hres⟩ := let_ex hres
    have b0 := f114_ok (x0 := (ix x1.Args a0)) (x1 := (ix ((ix x0.Actions x1.Action).Params) a0).Width)  
    rw [a6] at b0
    refine cL b0 rfl rfl (clL_cons rfl (clL_cons rfl clL_nil)) ?_
    refine rd_op (ov_not rfl) ?_
    refine nS ?_
    refine rc_br hres rfl ?_ ?_ <;> clear hres <;> intro c hres <;> try simp only [qa, qaD] at c
    · refine sR ?_
      refine mI rfl ?_
      refine nS ?_
      exact rR hres rfl rfl rfl
    · refine rc_skip ?_
      refine pn_blk ?_
      refine pn_seq ?_
      refine rc_region ?_
      refine bN i_add rfl rfl ?_
      refine mV rfl ?_
      refine rd_nil ?_
      refine pn_again ?_
      have hbd := sl_bound a9
      have hinc : wr (a0 + 1) = a0 + 1 := wr_of (by omega) (by omega)
      erw [hinc]
      exact wC (ih   (by omega) (by omega) hres) rfl

theorem f41_ok {x0 : api_Program} {x1 : api_ActionCall} {v0 v1 : PV} (r0 : api_Program.t.R x0 v0) (r1 : api_ActionCall.t.R x1 v1) : FnR Tryz.prog 41 [v0, v1] (vi (action_CheckCall x0 x1)) := by
  refine fnS (R := RF41) text41 (fun _ h => h) rfl fun res hres => ?_
  unfold action_CheckCall at hres
  refine sR ?_
  refine rd_op (ov_box rfl (TR.cnt api_Program.t r0)) ?_
  refine rd_op (ov_box rfl (TR.cnt api_ActionCall.t r1)) ?_
  refine mI rfl ?_
  refine nS ?_
  refine rc_seq ?_
  refine sR ?_
  refine fL rfl (api_ActionCall.g_Action r1) rfl rfl ?_
  refine bN i_lss rfl rfl ?_
  refine mV rfl ?_
  refine rd_cutn 7 (d := 18) (v := vb ((decide (x1.Action < 0)) || (decide ((x0.Actions.length : Int) ≤ x1.Action)))) ?_ ?_
  · intro S Q r
    cases a6 : (decide (x1.Action < 0))
    · intro k
      have a2 := a6
      try simp only [qa, qaD] at a2
      refine rd_yes rfl rfl (ov_faddr rfl (api_ActionCall.g_Action r1)) ?_
      refine rd_yes rfl rfl (ov_load rfl rfl rfl) ?_
      obtain ⟨b5, a9, a3⟩ := api_Program.g_Actions r0
      refine rd_yes rfl rfl (ov_faddr rfl a9) ?_
      refine rd_yes rfl rfl (ov_load rfl (TR.cnt (tSl api_Action.t) a3) (TR.agg (tSl api_Action.t) a3)) ?_
      refine rd_yes rfl rfl (ov_bi rfl (sl_len a3 Tryz.underlying25 _)) ?_
      refine rd_yes rfl rfl (ov_bin rfl rfl i_geq) ?_
      exact gK rfl rfl rfl rfl rfl k
    · exact gN 6 rfl rfl rfl rfl rfl rfl
  refine nS ?_
  refine rc_br hres rfl ?_ ?_ <;> clear hres <;> intro a1 hres <;> have a4 := a1 <;> try simp only [qa, qaD] at a4
  · refine sR ?_
    refine mI rfl ?_
    refine nS ?_
    exact rR hres rfl rfl rfl
  · refine rc_skip ?_
    refine pn_seq ?_
    refine sR ?_
    refine gL (api_Program.g_Actions r0) rfl rfl rfl fun b7 b2 => ?_
    refine fL rfl (api_ActionCall.g_Action r1) rfl rfl ?_
    obtain ⟨b9, b3, b1⟩ := sl_idx (i := x1.Action) b2 (by omega) (by omega)
    refine rd_op (ov_iaddr rfl rfl b3) ?_
    refine gL (api_Action.g_Params b1) rfl rfl rfl fun b4 a7 => ?_
    refine mV rfl ?_
    refine nS ?_
    refine rc_seq ?_
    refine sR ?_
    refine gL (api_ActionCall.g_Args r1) rfl rfl rfl fun b8 b0 => ?_
    refine rd_op (ov_bi rfl (sl_len b0 Tryz.underlying43 _)) ?_
    refine mV rfl ?_
    refine rd_op (ov_bi rfl (sl_len a7 Tryz.underlying23 _)) ?_
    refine bN i_neq rfl rfl ?_
    refine nS ?_
    refine rc_br hres rfl ?_ ?_ <;> clear hres <;> intro a0 hres <;> have a5 := a0 <;> try simp only [qa, qaD] at a5
    · refine sR ?_
      refine mI rfl ?_
      refine nS ?_
      exact rR hres rfl rfl rfl
    · refine rc_skip ?_
      refine pn_seq ?_
      refine rc_seq ?_
      refine sR ?_
      refine gL (api_ActionCall.g_Args r1) rfl rfl rfl fun b6 a8 => ?_
      refine rd_op (ov_bi rfl (sl_len a8 Tryz.underlying43 _)) ?_
      refine mI rfl ?_
      refine nS ?_
      refine rc_block ?_
      refine wC (action_CheckCall_L1_ok a1 a7 a0 a8 ?_  rfl (by omega) hres) rfl
      · intro  hres
        refine px_blk ?_
        refine pn_seq ?_
        refine sR ?_
        refine mI rfl ?_
        refine nS ?_
        exact rR hres rfl rfl rfl

def RF294 (res : (BitVec 32)) (r : PV) : Prop := r = vu32 res
theorem f294_ok {x0 : api_Env} {x1 : api_FieldRef} {v0 v1 : PV} (r0 : api_Env.t.R x0 v0) (r1 : api_FieldRef.t.R x1 v1) : FnR Tryz.prog 294 [v0, v1] (vu32 (env_Get x0 x1)) := by
  refine fnS (R := RF294) text294 (fun _ h => h) rfl fun res hres => ?_
  unfold env_Get at hres
  refine sR ?_
  refine rd_op (ov_box rfl (TR.cnt api_Env.t r0)) ?_
  refine rd_op (ov_box rfl (TR.cnt api_FieldRef.t r1)) ?_
  refine rd_op (v := vu32 0#32) (ov_move rfl) ?_
  refine nR ?_
  refine lD r0 rfl rfl rfl ?_
  refine lD r1 rfl rfl rfl ?_
  obtain ⟨a4, a1, hres⟩ := let_ex hres
  obtain ⟨a3, a0, a2⟩ := f227_ok  r0 r1 
  rw [a1] at a0 a2
  refine cL a0 rfl rfl (clL_cons (TR.clo api_Env.t r0) (clL_cons (TR.clo api_FieldRef.t r1) clL_nil)) ?_
  refine mV rfl ?_
  refine xT rfl rfl ?_
  refine xT rfl rfl ?_
  refine mV rfl ?_
  refine mV rfl ?_
  refine nS ?_
  refine rc_seq ?_
  refine sR ?_
  refine mV rfl ?_
  refine rd_op (ov_not rfl) ?_
  refine nS ?_
  refine rc_br hres rfl ?_ ?_ <;> clear hres <;> intro c hres <;> try simp only [qa, qaD] at c
  · refine sR ?_
    refine rd_op (v := vu32 0#32) (ov_move rfl) ?_
    refine nS ?_
    exact rR hres rfl rfl rfl
  · refine rc_skip ?_
    refine pn_seq ?_
    refine sR ?_
    refine mV rfl ?_
    refine fL rfl (api_FieldRef.g_Field r1) rfl rfl ?_
    refine rd_op (ov_iaddr rfl rfl (slU32 a2 (by first | omega | exact (el_ok (by assumption) (by assumption)).1 | exact (el_ok (by assumption) (by assumption)).2) (by first | omega | exact (el_ok (by assumption) (by assumption)).1 | exact (el_ok (by assumption) (by assumption)).2))) ?_
    refine lR rfl rfl rfl ?_
    refine mV rfl ?_
    refine nS ?_
    exact rR hres rfl rfl rfl

def RF289 (i0_ w0_ : Nat) (R_ : List Ent) (res : expr_value × expr_machine) (r : PV) (h : Heap) : Prop := ∃ uF0 : PV, ∃ c0_ : PV, Mem h (⟨.op i0_ w0_ 0, 299, 17, [uF0]⟩ :: R_) ∧ (expr_machine.t.R res.2 uF0) ∧ r = c0_ ∧ expr_value.t.R res.1 c0_
theorem f289_ok {x0 : expr_machine} {x1 : api_ExprNode} {v1 a5 : PV} {R_ : List Ent} {h_ : Heap} {b4 b5 : Nat} (r1 : api_ExprNode.t.R x1 v1) (a4 : expr_machine.t.R x0 a5) (M_ : Mem h_ (⟨.op b4 b5 0, 299, 17, [a5]⟩ :: R_)) (hp : (m1_expr_Scope__primary x0.scope x1).2 = 0) : ∃ r h3, FnX Tryz.prog 289 [.op b4 b5 0, v1] h_ r h3 ∧ RF289 b4 b5 R_ (m2_expr_machine__load x0 x1) r h3 := by
  refine fnXX (R := RF289 b4 b5 R_) text289 rfl fun res hres => ?_
  unfold m2_expr_machine__load at hres
  refine sR ?_
  refine rd_op (ov_box rfl (TR.cnt api_ExprNode.t r1)) ?_
  refine rd_allocO (x := .agg [vu32 0#32, vi 0]) M_ rfl rfl (fun a2 a1 h9 a3 => ?_)
  refine nR ?_
  refine mV rfl ?_
  refine rd_op (ov_nilCheck rfl rfl) ?_
  refine rd_op (ov_faddrO rfl) ?_
  obtain ⟨h5, g4, d3⟩ := expr_machine.g_scope a4
  refine rd_op (ov_loadf (k := 1) a3 rfl rfl g4) ?_
  refine lD r1 rfl rfl rfl ?_
  obtain ⟨a0, c4, hres⟩ := let_ex hres
  have f4 := f268_ok  d3 r1 
  rw [c4] at f4
  refine cL f4 rfl rfl (clL_cons (TR.clo expr_Scope.t d3) (clL_cons (TR.clo api_ExprNode.t r1) clL_nil)) ?_
  refine mV rfl ?_
  refine xT rfl rfl ?_
  refine xT rfl rfl ?_
  refine mV rfl ?_
  refine mV rfl ?_
  refine nR ?_
  refine rd_op (v := vu32 0#32) (ov_move rfl) ?_
  refine nS ?_
  refine rc_seq ?_
  refine sR ?_
  refine fL rfl (api_ExprNode.g_Op r1) rfl rfl ?_
  refine nS ?_
  refine rc_block ?_
  refine sR ?_
  refine bN i_eql rfl rfl ?_
  refine mV rfl ?_
  refine nS ?_
  refine rc_br hres rfl ?_ ?_ <;> clear hres <;> intro c hres <;> try simp only [qa, qaD] at c
  · refine rc_region ?_
    refine fL rfl (api_ExprNode.g_N r1) rfl rfl ?_
    refine rd_op (ov_conv (a := vi x1.N) rfl (c_iw Tryz.underlying3 Tryz.underlying89)) ?_
    refine mV rfl ?_
    refine rd_nil ?_
    refine pn_blk ?_
    refine pn_seq ?_
    refine sR ?_
    refine mV rfl ?_
    refine mV rfl ?_
    obtain ⟨b1, e7, hres⟩ := let_ex hres
    have d9 := f182_ok (x0 := a0.1)  
    rw [e7] at d9
    refine cL d9 rfl rfl (clL_cons rfl clL_nil) ?_
    refine rd_op (ov_bin (a := vu32 (BitVec.ofInt 32 x1.N)) (b := vu32 b1) rfl rfl w_and) ?_
    refine mV rfl ?_
    refine rd_op (v := .agg [vu32 ((BitVec.ofInt 32 x1.N) &&& b1), vi a0.1]) (ov_build (cs := [vu32 ((BitVec.ofInt 32 x1.N) &&& b1), vi a0.1]) rfl rfl) ?_
    refine rd_storeO (k := 0) (v := .agg [vu32 ((BitVec.ofInt 32 x1.N) &&& b1), vi a0.1]) a3 rfl rfl rfl rfl (fun d7 c0 => ?_)
    replace c0 : Mem d7 (⟨.op a2 a1 0, 301, 2, [.agg [vu32 ((BitVec.ofInt 32 x1.N) &&& b1), vi a0.1]]⟩ :: ⟨.op b4 b5 0, 299, 17, [a5]⟩ :: R_) := c0
    refine nS ?_
    have e4 : Mem d7 (⟨.op b4 b5 0, 299, 17, [a5]⟩ :: ⟨.op a2 a1 0, 301, 2, [.agg [vu32 ((BitVec.ofInt 32 x1.N) &&& b1), vi a0.1]]⟩ :: R_) := (Mem.front (k := 1) c0 rfl)
    subst hres
    exact rc_retX (.cell rfl (load_whole (k := 0) c0 rfl rfl) .nil) ⟨a5, (.agg [vu32 ((BitVec.ofInt 32 x1.N) &&& b1), vi a0.1]), Mem.sub e4 (.cons_cons _ (.cons _ (List.Sublist.refl R_))), a4, rfl, (show expr_value.t.R ({ v := ((BitVec.ofInt 32 x1.N) &&& b1), w := a0.1 } : expr_value) (.agg [vu32 ((BitVec.ofInt 32 x1.N) &&& b1), vi a0.1]) from rfl)⟩
  · refine sR ?_
    refine bN i_eql rfl rfl ?_
    refine mV rfl ?_
    refine nS ?_
    refine rc_br hres rfl ?_ ?_ <;> clear hres <;> intro c hres <;> try simp only [qa, qaD] at c
    · refine rc_region ?_
      refine mV rfl ?_
      refine rd_op (ov_nilCheck rfl rfl) ?_
      refine rd_op (ov_faddrO rfl) ?_
      obtain ⟨i1, h0, c9⟩ := expr_machine.g_env a4
      refine rd_op (ov_loadf (k := 1) a3 rfl rfl h0) ?_
      refine fL rfl (api_ExprNode.g_N r1) rfl rfl ?_
      refine fL rfl (api_ExprNode.g_W r1) rfl rfl ?_
      refine rd_op (v := .agg [vi x1.N, vi x1.W]) (ov_build (cs := [vi x1.N, vi x1.W]) rfl rfl) ?_
      obtain ⟨b3, e8, hres⟩ := let_ex hres
      have f8 := f294_ok  c9 (show api_FieldRef.t.R ({ Header := x1.N, Field := x1.W } : api_FieldRef) (.agg [vi x1.N, vi x1.W]) from rfl) 
      rw [e8] at f8
      refine cL f8 rfl rfl (clL_cons (TR.clo api_Env.t c9) (clL_cons (TR.clo api_FieldRef.t (show api_FieldRef.t.R ({ Header := x1.N, Field := x1.W } : api_FieldRef) (.agg [vi x1.N, vi x1.W]) from rfl)) clL_nil)) ?_
      refine mV rfl ?_
      refine rd_nil ?_
      refine pn_blk ?_
      refine pn_seq ?_
      refine sR ?_
      refine mV rfl ?_
      refine mV rfl ?_
      obtain ⟨a9, d0, hres⟩ := let_ex hres
      have e9 := f182_ok (x0 := a0.1)  
      rw [d0] at e9
      refine cL e9 rfl rfl (clL_cons rfl clL_nil) ?_
      refine rd_op (ov_bin (a := vu32 b3) (b := vu32 a9) rfl rfl w_and) ?_
      refine mV rfl ?_
      refine rd_op (v := .agg [vu32 (b3 &&& a9), vi a0.1]) (ov_build (cs := [vu32 (b3 &&& a9), vi a0.1]) rfl rfl) ?_
      refine rd_storeO (k := 0) (v := .agg [vu32 (b3 &&& a9), vi a0.1]) a3 rfl rfl rfl rfl (fun e3 b8 => ?_)
      replace b8 : Mem e3 (⟨.op a2 a1 0, 301, 2, [.agg [vu32 (b3 &&& a9), vi a0.1]]⟩ :: ⟨.op b4 b5 0, 299, 17, [a5]⟩ :: R_) := b8
      refine nS ?_
      have e6 : Mem e3 (⟨.op b4 b5 0, 299, 17, [a5]⟩ :: ⟨.op a2 a1 0, 301, 2, [.agg [vu32 (b3 &&& a9), vi a0.1]]⟩ :: R_) := (Mem.front (k := 1) b8 rfl)
      subst hres
      exact rc_retX (.cell rfl (load_whole (k := 0) b8 rfl rfl) .nil) ⟨a5, (.agg [vu32 (b3 &&& a9), vi a0.1]), Mem.sub e6 (.cons_cons _ (.cons _ (List.Sublist.refl R_))), a4, rfl, (show expr_value.t.R ({ v := (b3 &&& a9), w := a0.1 } : expr_value) (.agg [vu32 (b3 &&& a9), vi a0.1]) from rfl)⟩
    · refine sR ?_
      refine bN i_eql rfl rfl ?_
      refine mV rfl ?_
      refine nS ?_
      refine rc_br hres rfl ?_ ?_ <;> clear hres <;> intro c hres <;> try simp only [qa, qaD] at c
      · refine sR ?_
        refine fL rfl (api_ExprNode.g_N r1) rfl rfl ?_
        refine mV rfl ?_
        refine rd_op (ov_nilCheck rfl rfl) ?_
        refine rd_op (ov_faddrO rfl) ?_
        obtain ⟨h4, h2, g1⟩ := expr_machine.g_args a4
        refine rd_op (ov_loadf (k := 1) a3 rfl rfl h2) ?_
        refine rd_op (ov_bi rfl (sl_len g1 Tryz.underlying43 _)) ?_
        refine bN i_lss rfl rfl ?_
        refine nS ?_
        refine rc_br hres rfl ?_ ?_ <;> clear hres <;> intro c hres <;> try simp only [qa, qaD] at c
        · refine rc_region ?_
          refine mV rfl ?_
          refine rd_op (ov_nilCheck rfl rfl) ?_
          refine rd_op (ov_faddrO rfl) ?_
          obtain ⟨i2, f9, g0⟩ := expr_machine.g_args a4
          refine rd_op (ov_loadf (k := 1) a3 rfl rfl f9) ?_
          refine fL rfl (api_ExprNode.g_N r1) rfl rfl ?_
          refine rd_op (ov_iaddr rfl rfl (slU32 g0 (by first | omega | (have hk := pr3 hp (by assumption); omega) | (have hk := pr4 hp (by assumption); omega)) (by first | omega | (have hk := pr3 hp (by assumption); omega) | (have hk := pr4 hp (by assumption); omega)))) ?_
          refine lR rfl rfl rfl ?_
          refine mV rfl ?_
          refine rd_nil ?_
          refine pn_blk ?_
          refine pn_seq ?_
          refine sR ?_
          refine mV rfl ?_
          refine mV rfl ?_
          obtain ⟨a8, f0, hres⟩ := let_ex hres
          have c7 := f182_ok (x0 := a0.1)  
          rw [f0] at c7
          refine cL c7 rfl rfl (clL_cons rfl clL_nil) ?_
          refine rd_op (ov_bin (a := vu32 (ix x0.args x1.N)) (b := vu32 a8) rfl rfl w_and) ?_
          refine mV rfl ?_
          refine rd_op (v := .agg [vu32 ((ix x0.args x1.N) &&& a8), vi a0.1]) (ov_build (cs := [vu32 ((ix x0.args x1.N) &&& a8), vi a0.1]) rfl rfl) ?_
          refine rd_storeO (k := 0) (v := .agg [vu32 ((ix x0.args x1.N) &&& a8), vi a0.1]) a3 rfl rfl rfl rfl (fun c5 b9 => ?_)
          replace b9 : Mem c5 (⟨.op a2 a1 0, 301, 2, [.agg [vu32 ((ix x0.args x1.N) &&& a8), vi a0.1]]⟩ :: ⟨.op b4 b5 0, 299, 17, [a5]⟩ :: R_) := b9
          refine nS ?_
          have f7 : Mem c5 (⟨.op b4 b5 0, 299, 17, [a5]⟩ :: ⟨.op a2 a1 0, 301, 2, [.agg [vu32 ((ix x0.args x1.N) &&& a8), vi a0.1]]⟩ :: R_) := (Mem.front (k := 1) b9 rfl)
          subst hres
          exact rc_retX (.cell rfl (load_whole (k := 0) b9 rfl rfl) .nil) ⟨a5, (.agg [vu32 ((ix x0.args x1.N) &&& a8), vi a0.1]), Mem.sub f7 (.cons_cons _ (.cons _ (List.Sublist.refl R_))), a4, rfl, (show expr_value.t.R ({ v := ((ix x0.args x1.N) &&& a8), w := a0.1 } : expr_value) (.agg [vu32 ((ix x0.args x1.N) &&& a8), vi a0.1]) from rfl)⟩
        · refine rc_skip ?_
          refine pn_blk ?_
          refine pn_seq ?_
          refine sR ?_
          refine mV rfl ?_
          refine mV rfl ?_
          obtain ⟨a6, f1, hres⟩ := let_ex hres
          have f5 := f182_ok (x0 := a0.1)  
          rw [f1] at f5
          refine cL f5 rfl rfl (clL_cons rfl clL_nil) ?_
          refine rd_op (ov_bin (a := vu32 0#32) (b := vu32 a6) rfl rfl w_and) ?_
          refine mV rfl ?_
          refine rd_op (v := .agg [vu32 (0#32 &&& a6), vi a0.1]) (ov_build (cs := [vu32 (0#32 &&& a6), vi a0.1]) rfl rfl) ?_
          refine rd_storeO (k := 0) (v := .agg [vu32 (0#32 &&& a6), vi a0.1]) a3 rfl rfl rfl rfl (fun c8 c2 => ?_)
          replace c2 : Mem c8 (⟨.op a2 a1 0, 301, 2, [.agg [vu32 (0#32 &&& a6), vi a0.1]]⟩ :: ⟨.op b4 b5 0, 299, 17, [a5]⟩ :: R_) := c2
          refine nS ?_
          have d2 : Mem c8 (⟨.op b4 b5 0, 299, 17, [a5]⟩ :: ⟨.op a2 a1 0, 301, 2, [.agg [vu32 (0#32 &&& a6), vi a0.1]]⟩ :: R_) := (Mem.front (k := 1) c2 rfl)
          subst hres
          exact rc_retX (.cell rfl (load_whole (k := 0) c2 rfl rfl) .nil) ⟨a5, (.agg [vu32 (0#32 &&& a6), vi a0.1]), Mem.sub d2 (.cons_cons _ (.cons _ (List.Sublist.refl R_))), a4, rfl, (show expr_value.t.R ({ v := (0#32 &&& a6), w := a0.1 } : expr_value) (.agg [vu32 (0#32 &&& a6), vi a0.1]) from rfl)⟩
      · refine sR ?_
        refine bN i_eql rfl rfl ?_
        refine mV rfl ?_
        refine nS ?_
        refine rc_br hres rfl ?_ ?_ <;> clear hres <;> intro c hres <;> try simp only [qa, qaD] at c
        · refine sR ?_
          refine fL rfl (api_ExprNode.g_N r1) rfl rfl ?_
          refine mV rfl ?_
          refine rd_op (ov_nilCheck rfl rfl) ?_
          refine rd_op (ov_faddrO rfl) ?_
          refine rd_op (ov_faddrO rfl) ?_
          obtain ⟨h6, g9, g8⟩ := expr_machine.g_env a4
          obtain ⟨h7, g5, g3⟩ := api_Env.g_Valid g8
          refine rd_op (ov_loadf (k := 1) a3 rfl rfl (field_field g9 g5)) ?_
          refine rd_op (ov_bi rfl (sl_len g3 Tryz.underlying41 _)) ?_
          refine bN i_lss rfl rfl ?_
          refine mV rfl ?_
          refine rd_cutn 10 (d := 75) (v := vb ((decide (x1.N < (x0.env.Valid.length : Int))) && (ix x0.env.Valid x1.N))) ?_ ?_
          · intro S Q r
            cases d5 : (decide (x1.N < (x0.env.Valid.length : Int)))
            · exact gN 9 rfl rfl rfl rfl rfl rfl
            · intro k
              have c3 := d5
              try simp only [qa, qaD] at c3
              refine rd_yes rfl rfl (ov_move rfl) ?_
              refine rd_yes rfl rfl (ov_nilCheck rfl rfl) ?_
              refine rd_yes rfl rfl (ov_faddrO rfl) ?_
              refine rd_yes rfl rfl (ov_faddrO rfl) ?_
              obtain ⟨h8, h1, g7⟩ := expr_machine.g_env a4
              obtain ⟨i0, g6, g2⟩ := api_Env.g_Valid g7
              refine rd_yes rfl rfl (ov_loadf (k := 1) a3 rfl rfl (field_field h1 g6)) ?_
              refine rd_yes rfl rfl (ov_faddr rfl (api_ExprNode.g_N r1)) ?_
              refine rd_yes rfl rfl (ov_load rfl rfl rfl) ?_
              refine rd_yes rfl rfl (ov_iaddr rfl rfl (slB g2 (by first | omega | (have hk := pr3 hp (by assumption); omega) | (have hk := pr4 hp (by assumption); omega)) (by first | omega | (have hk := pr3 hp (by assumption); omega) | (have hk := pr4 hp (by assumption); omega)))) ?_
              refine rd_yes rfl rfl (ov_load rfl rfl rfl) ?_
              exact gK rfl rfl rfl rfl rfl k
          refine nS ?_
          refine rc_br hres rfl ?_ ?_ <;> clear hres <;> intro c hres <;> try simp only [qa, qaD] at c
          · refine rc_region ?_
            refine rd_op (v := vu32 1#32) (ov_move rfl) ?_
            refine rd_nil ?_
            refine pn_blk ?_
            refine pn_seq ?_
            refine sR ?_
            refine mV rfl ?_
            refine mV rfl ?_
            obtain ⟨b0, f2, hres⟩ := let_ex hres
            have d4 := f182_ok (x0 := a0.1)  
            rw [f2] at d4
            refine cL d4 rfl rfl (clL_cons rfl clL_nil) ?_
            refine rd_op (ov_bin (a := vu32 1#32) (b := vu32 b0) rfl rfl w_and) ?_
            refine mV rfl ?_
            refine rd_op (v := .agg [vu32 (1#32 &&& b0), vi a0.1]) (ov_build (cs := [vu32 (1#32 &&& b0), vi a0.1]) rfl rfl) ?_
            refine rd_storeO (k := 0) (v := .agg [vu32 (1#32 &&& b0), vi a0.1]) a3 rfl rfl rfl rfl (fun c6 b7 => ?_)
            replace b7 : Mem c6 (⟨.op a2 a1 0, 301, 2, [.agg [vu32 (1#32 &&& b0), vi a0.1]]⟩ :: ⟨.op b4 b5 0, 299, 17, [a5]⟩ :: R_) := b7
            refine nS ?_
            have e5 : Mem c6 (⟨.op b4 b5 0, 299, 17, [a5]⟩ :: ⟨.op a2 a1 0, 301, 2, [.agg [vu32 (1#32 &&& b0), vi a0.1]]⟩ :: R_) := (Mem.front (k := 1) b7 rfl)
            subst hres
            exact rc_retX (.cell rfl (load_whole (k := 0) b7 rfl rfl) .nil) ⟨a5, (.agg [vu32 (1#32 &&& b0), vi a0.1]), Mem.sub e5 (.cons_cons _ (.cons _ (List.Sublist.refl R_))), a4, rfl, (show expr_value.t.R ({ v := (1#32 &&& b0), w := a0.1 } : expr_value) (.agg [vu32 (1#32 &&& b0), vi a0.1]) from rfl)⟩
          · refine rc_skip ?_
            refine pn_blk ?_
            refine pn_seq ?_
            refine sR ?_
            refine mV rfl ?_
            refine mV rfl ?_
            obtain ⟨a7, e2, hres⟩ := let_ex hres
            have d6 := f182_ok (x0 := a0.1)  
            rw [e2] at d6
            refine cL d6 rfl rfl (clL_cons rfl clL_nil) ?_
            refine rd_op (ov_bin (a := vu32 0#32) (b := vu32 a7) rfl rfl w_and) ?_
            refine mV rfl ?_
            refine rd_op (v := .agg [vu32 (0#32 &&& a7), vi a0.1]) (ov_build (cs := [vu32 (0#32 &&& a7), vi a0.1]) rfl rfl) ?_
            refine rd_storeO (k := 0) (v := .agg [vu32 (0#32 &&& a7), vi a0.1]) a3 rfl rfl rfl rfl (fun d1 c1 => ?_)
            replace c1 : Mem d1 (⟨.op a2 a1 0, 301, 2, [.agg [vu32 (0#32 &&& a7), vi a0.1]]⟩ :: ⟨.op b4 b5 0, 299, 17, [a5]⟩ :: R_) := c1
            refine nS ?_
            have e0 : Mem d1 (⟨.op b4 b5 0, 299, 17, [a5]⟩ :: ⟨.op a2 a1 0, 301, 2, [.agg [vu32 (0#32 &&& a7), vi a0.1]]⟩ :: R_) := (Mem.front (k := 1) c1 rfl)
            subst hres
            exact rc_retX (.cell rfl (load_whole (k := 0) c1 rfl rfl) .nil) ⟨a5, (.agg [vu32 (0#32 &&& a7), vi a0.1]), Mem.sub e0 (.cons_cons _ (.cons _ (List.Sublist.refl R_))), a4, rfl, (show expr_value.t.R ({ v := (0#32 &&& a7), w := a0.1 } : expr_value) (.agg [vu32 (0#32 &&& a7), vi a0.1]) from rfl)⟩
        · refine rc_skip ?_
          refine pn_blk ?_
          refine pn_seq ?_
          refine sR ?_
          refine mV rfl ?_
          refine mV rfl ?_
          obtain ⟨b2, d8, hres⟩ := let_ex hres
          have f3 := f182_ok (x0 := a0.1)  
          rw [d8] at f3
          refine cL f3 rfl rfl (clL_cons rfl clL_nil) ?_
          refine rd_op (ov_bin (a := vu32 0#32) (b := vu32 b2) rfl rfl w_and) ?_
          refine mV rfl ?_
          refine rd_op (v := .agg [vu32 (0#32 &&& b2), vi a0.1]) (ov_build (cs := [vu32 (0#32 &&& b2), vi a0.1]) rfl rfl) ?_
          refine rd_storeO (k := 0) (v := .agg [vu32 (0#32 &&& b2), vi a0.1]) a3 rfl rfl rfl rfl (fun e1 b6 => ?_)
          replace b6 : Mem e1 (⟨.op a2 a1 0, 301, 2, [.agg [vu32 (0#32 &&& b2), vi a0.1]]⟩ :: ⟨.op b4 b5 0, 299, 17, [a5]⟩ :: R_) := b6
          refine nS ?_
          have f6 : Mem e1 (⟨.op b4 b5 0, 299, 17, [a5]⟩ :: ⟨.op a2 a1 0, 301, 2, [.agg [vu32 (0#32 &&& b2), vi a0.1]]⟩ :: R_) := (Mem.front (k := 1) b6 rfl)
          subst hres
          exact rc_retX (.cell rfl (load_whole (k := 0) b6 rfl rfl) .nil) ⟨a5, (.agg [vu32 (0#32 &&& b2), vi a0.1]), Mem.sub f6 (.cons_cons _ (.cons _ (List.Sublist.refl R_))), a4, rfl, (show expr_value.t.R ({ v := (0#32 &&& b2), w := a0.1 } : expr_value) (.agg [vu32 (0#32 &&& b2), vi a0.1]) from rfl)⟩

end Go.Proofs.YtmonnlkagniolaaGreat
