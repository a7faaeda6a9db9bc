/-
  The code of each function does what its plain program says.
-/
import Derived.Test.YtmonnlkagniolaaGreatL10W2
set_option linter.unusedVariables false
set_option linter.unusedSimpArgs false
set_option maxRecDepth 100000
namespace Go.Proofs.YtmonnlkagniolaaGreat
open Go Go.Pb Go.RowKit
def RF267 (res : Int) (r : PV) : Prop := r = vi res
theorem f267_ok {x0 : Int} : FnR Tryz.prog 267 [vi x0] (vi (expr_arity x0)) := by
  refine fnS (R := RF267) text267 (fun _ h => h) rfl fun res hres => ?_
  unfold expr_arity at hres
  refine sR ?_
  refine mI rfl ?_
  refine nS ?_
  refine rc_seq ?_
  refine sR ?_
  refine mV rfl ?_
  refine nS ?_
  refine rc_block ?_
  refine rc_seq ?_
  refine sR ?_
  refine bN i_eql rfl rfl ?_
  refine mV rfl ?_
  refine nS ?_
  obtain ⟨a8, a4, hres⟩ := let_ex hres
  refine rc_join (F := fun b S Q => ∀ (a1 : Bool), a8 a1 = res → RC Tryz.prog b S Q [(4, vb a1), (3, vi x0)] ⟨0, []⟩) ?_ ?_
  · intro a1  hres
    rw [← a4] at hres
    refine rc_br hres rfl ?_ ?_ <;> clear hres <;> intro c hres <;> try simp only [qa, qaD] at c
    · refine sR ?_
      refine mI rfl ?_
      refine nS ?_
      exact rR hres rfl rfl rfl
    · refine rc_seq ?_
      refine sR ?_
      refine bN i_eql rfl rfl ?_
      refine mV rfl ?_
      refine nS ?_
      obtain ⟨a6, a3, hres⟩ := let_ex hres
      refine rc_join (F := fun b S Q => ∀ (a2 : Bool), a6 a2 = res → RC Tryz.prog b S Q [(9, vb a2), (3, vi x0)] ⟨0, []⟩) ?_ ?_
      · intro a2  hres
        rw [← a3] at hres
        refine rc_br hres rfl ?_ ?_ <;> clear hres <;> intro c hres <;> try simp only [qa, qaD] at c
        · refine sR ?_
          refine mI rfl ?_
          refine nS ?_
          exact rR hres rfl rfl rfl
        · refine rc_seq ?_
          refine sR ?_
          refine bN i_eql rfl rfl ?_
          refine mV rfl ?_
          refine nS ?_
          obtain ⟨a7, a5, hres⟩ := let_ex hres
          refine rc_join (F := fun b S Q => ∀ (a0 : Bool), a7 a0 = res → RC Tryz.prog b S Q [(14, vb a0), (3, vi x0)] ⟨0, []⟩) ?_ ?_
          · intro a0  hres
            rw [← a5] at hres
            refine rc_br hres rfl ?_ ?_ <;> clear hres <;> intro c hres <;> try simp only [qa, qaD] at c
            · refine sR ?_
              refine mI rfl ?_
              refine nS ?_
              exact rR hres rfl rfl rfl
            · refine sR ?_
              refine bN i_eql rfl rfl ?_
              refine mV rfl ?_
              refine nS ?_
              refine rc_br hres rfl ?_ ?_ <;> clear hres <;> intro c hres <;> try simp only [qa, qaD] at c
              · refine sR ?_
                refine mI rfl ?_
                refine nS ?_
                exact rR hres rfl rfl rfl
              · refine rc_skip ?_
                refine pn_blk ?_
                refine pn_seq ?_
                refine sR ?_
                refine mI rfl ?_
                refine nS ?_
                exact rR hres rfl rfl rfl
          · intro J
            refine rc_br hres rfl ?_ ?_ <;> clear hres <;> intro c hres <;> try simp only [qa, qaD] at c
            · refine rc_skip ?_
              refine pn_seq (wC (J _  hres) rfl)
            · refine sR ?_
              refine bN i_eql rfl rfl ?_
              refine mV rfl ?_
              refine nS ?_
              refine rc_br hres rfl ?_ ?_ <;> clear hres <;> intro c hres <;> try simp only [qa, qaD] at c
              · refine rc_skip ?_
                refine pn_seq (wC (J _  hres) rfl)
              · refine sR ?_
                refine bN i_eql rfl rfl ?_
                refine mV rfl ?_
                refine nS ?_
                refine rc_br hres rfl ?_ ?_ <;> clear hres <;> intro c hres <;> try simp only [qa, qaD] at c
                · refine rc_skip ?_
                  refine pn_seq (wC (J _  hres) rfl)
                · refine sR ?_
                  refine bN i_eql rfl rfl ?_
                  refine mV rfl ?_
                  refine nS ?_
                  refine rc_br hres rfl ?_ ?_ <;> clear hres <;> intro c hres <;> try simp only [qa, qaD] at c
                  · refine rc_skip ?_
                    refine pn_seq (wC (J _  hres) rfl)
                  · refine sR ?_
                    refine bN i_eql rfl rfl ?_
                    refine mV rfl ?_
                    refine nS ?_
                    refine rc_br hres rfl ?_ ?_ <;> clear hres <;> intro c hres <;> try simp only [qa, qaD] at c
                    · refine rc_skip ?_
                      refine pn_seq (wC (J _  hres) rfl)
                    · refine sR ?_
                      refine bN i_eql rfl rfl ?_
                      refine mV rfl ?_
                      refine nS ?_
                      refine rc_br hres rfl ?_ ?_ <;> clear hres <;> intro c hres <;> try simp only [qa, qaD] at c
                      · refine rc_skip ?_
                        refine pn_seq (wC (J _  hres) rfl)
                      · refine sR ?_
                        refine bN i_eql rfl rfl ?_
                        refine mV rfl ?_
                        refine nS ?_
                        refine rc_br hres rfl ?_ ?_ <;> clear hres <;> intro c hres <;> try simp only [qa, qaD] at c
                        · refine rc_skip ?_
                          refine pn_seq (wC (J _  hres) rfl)
                        · refine rc_region ?_
                          refine bN i_eql rfl rfl ?_
                          refine mV rfl ?_
                          refine rd_nil ?_
                          refine pn_seq (wC (J _  hres) rfl)
      · intro J
        refine rc_br hres rfl ?_ ?_ <;> clear hres <;> intro c hres <;> try simp only [qa, qaD] at c
        · refine rc_skip ?_
          refine pn_seq (wC (J _  hres) rfl)
        · refine sR ?_
          refine bN i_eql rfl rfl ?_
          refine mV rfl ?_
          refine nS ?_
          refine rc_br hres rfl ?_ ?_ <;> clear hres <;> intro c hres <;> try simp only [qa, qaD] at c
          · refine rc_skip ?_
            refine pn_seq (wC (J _  hres) rfl)
          · refine sR ?_
            refine bN i_eql rfl rfl ?_
            refine mV rfl ?_
            refine nS ?_
            refine rc_br hres rfl ?_ ?_ <;> clear hres <;> intro c hres <;> try simp only [qa, qaD] at c
            · refine rc_skip ?_
              refine pn_seq (wC (J _  hres) rfl)
            · refine rc_region ?_
              refine bN i_eql rfl rfl ?_
              refine mV rfl ?_
              refine rd_nil ?_
              refine pn_seq (wC (J _  hres) rfl)
  · intro J
    refine rc_br hres rfl ?_ ?_ <;> clear hres <;> intro c hres <;> try simp only [qa, qaD] at c
    · refine rc_skip ?_
      refine pn_seq (wC (J _  hres) rfl)
    · refine sR ?_
      refine bN i_eql rfl rfl ?_
      refine mV rfl ?_
      refine nS ?_
      refine rc_br hres rfl ?_ ?_ <;> clear hres <;> intro c hres <;> try simp only [qa, qaD] at c
      · refine rc_skip ?_
        refine pn_seq (wC (J _  hres) rfl)
      · refine sR ?_
        refine bN i_eql rfl rfl ?_
        refine mV rfl ?_
        refine nS ?_
        refine rc_br hres rfl ?_ ?_ <;> clear hres <;> intro c hres <;> try simp only [qa, qaD] at c
        · refine rc_skip ?_
          refine pn_seq (wC (J _  hres) rfl)
        · refine rc_region ?_
          refine bN i_eql rfl rfl ?_
          refine mV rfl ?_
          refine rd_nil ?_
          refine pn_seq (wC (J _  hres) rfl)

def RF287 (res : Int × Int) (r : PV) : Prop := r = .tup [vi res.1, vi res.2]
theorem f287_ok {x0 : Int} : FnR Tryz.prog 287 [vi x0] (.tup [vi ((expr_wide x0).1), vi ((expr_wide x0).2)]) := by
  refine fnS (R := RF287) text287 (fun _ h => h) rfl fun res hres => ?_
  unfold expr_wide at hres
  refine sR ?_
  refine mI rfl ?_
  refine mI rfl ?_
  refine nS ?_
  refine rc_seq ?_
  refine sR ?_
  refine mV rfl ?_
  refine bN i_lss rfl rfl ?_
  refine mV rfl ?_
  refine rd_cutn 3 (d := 9) (v := vb ((decide (x0 < 1)) || (decide (32 < x0)))) ?_ ?_
  · intro S Q r
    cases a1 : (decide (x0 < 1))
    · intro k
      have a0 := a1
      try simp only [qa, qaD] at a0
      refine rd_yes rfl rfl (ov_move rfl) ?_
      refine rd_yes rfl rfl (ov_bin rfl rfl i_gtr) ?_
      exact gK rfl rfl rfl rfl rfl k
    · exact gN 2 rfl rfl rfl rfl rfl rfl
  refine nS ?_
  refine rc_br hres rfl ?_ ?_ <;> clear hres <;> intro c hres <;> try simp only [qa, qaD] at c
  · refine sR ?_
    refine mI rfl ?_
    refine mI rfl ?_
    refine nS ?_
    exact rT hres rfl rfl rfl rfl rfl
  · refine rc_skip ?_
    refine pn_seq ?_
    refine sR ?_
    refine mV rfl ?_
    refine mV rfl ?_
    refine mI rfl ?_
    refine nS ?_
    exact rT hres rfl rfl rfl rfl rfl

def RF288 (res : api_Field × Bool) (r : PV) : Prop := ∃ c0, r = .tup [c0, vb res.2] ∧ api_Field.t.R res.1 c0
theorem f288_ok {x0 : expr_Scope} {x1 x2 : Int} {v0 : PV} (r0 : expr_Scope.t.R x0 v0) : ∃ c0, FnR Tryz.prog 288 [v0, vi x1, vi x2] (.tup [c0, vb ((m1_expr_Scope__field x0 x1 x2).2)]) ∧ api_Field.t.R (m1_expr_Scope__field x0 x1 x2).1 c0 := by
  obtain ⟨res, hres⟩ : ∃ res, m1_expr_Scope__field x0 x1 x2 = res := ⟨_, rfl⟩
  suffices H : RC Tryz.prog ac288 [] (QR Tryz.prog [(6, some (2, true)), (7, none)] (RF288 res)) (argE 0 [v0, vi x1, vi x2]) ⟨0, []⟩ by
    rw [hres]
    obtain ⟨r, h1, c0, rfl, e6⟩ := fnE text288 (by simp) H
    exact ⟨c0, h1, e6⟩
  unfold m1_expr_Scope__field at hres
  refine sR ?_
  refine rd_op (ov_box rfl (TR.cnt expr_Scope.t r0)) ?_
  refine rd_allocO (x := .agg [vs [], vi 0]) (Mem.nil ⟨0, []⟩) rfl rfl (fun a4 a5 e0 b3 => ?_)
  refine mB rfl ?_
  refine nR ?_
  obtain ⟨d9, c7, b9⟩ := expr_Scope.g_Program r0
  refine fA rfl c7 ?_
  refine gL (api_Program.g_Metadata b9) rfl rfl rfl fun e1 d1 => ?_
  refine mV rfl ?_
  refine nS ?_
  refine rc_seq ?_
  refine sR ?_
  refine mV rfl ?_
  refine bN (i_neq (b := -1)) rfl rfl ?_
  refine nS ?_
  obtain ⟨c1, b6, hres⟩ := let_ex hres
  refine rc_join (F := fun b S Q => ∀ (a0 : List api_Field) (a1 : PV) (a2 : (tSl api_Field.t).R a0 a1) (a3 : Heap) (a7 : Mem a3 [⟨.op a4 a5 0, 166, 2, [.agg [vs [], vi 0]]⟩]), c1 a0 = res → RC Tryz.prog b S Q [(8, a1), (6, .op a4 a5 0), (2, vi x2)] a3) ?_ ?_
  · intro a0 a1 a2 a3 a7 hres
    rw [← b6] at hres
    refine rc_seq ?_
    refine sR ?_
    refine mV rfl ?_
    refine bN i_lss rfl rfl ?_
    refine mV rfl ?_
    refine rd_cutn 5 (d := 39) (v := vb ((decide (x2 < 0)) || (decide ((a0.length : Int) ≤ x2)))) ?_ ?_
    · intro S Q r
      cases b8 : (decide (x2 < 0))
      · intro k
        have b4 := b8
        try simp only [qa, qaD] at b4
        refine rd_yes rfl rfl (ov_move rfl) ?_
        refine rd_yes rfl rfl (ov_move rfl) ?_
        refine rd_yes rfl rfl (ov_bi rfl (sl_len a2 Tryz.underlying23 _)) ?_
        refine rd_yes rfl rfl (ov_bin rfl rfl i_geq) ?_
        exact gK rfl rfl rfl rfl rfl k
      · exact gN 4 rfl rfl rfl rfl rfl rfl
    refine nS ?_
    refine rc_br hres rfl ?_ ?_ <;> clear hres <;> intro c hres <;> try simp only [qa, qaD] at c
    · refine sR ?_
      refine rd_op (v := .agg [vs [], vi 0]) (ov_build (cs := [vs [], vi 0]) rfl rfl) ?_
      refine rd_storeO (k := 0) (v := .agg [vs [], vi 0]) a7 rfl rfl rfl rfl (fun d0 a8 => ?_)
      replace a8 : Mem d0 [⟨.op a4 a5 0, 166, 2, [.agg [vs [], vi 0]]⟩] := a8
      refine mB rfl ?_
      refine nS ?_
      subst hres
      exact rc_retV (.cell rfl (load_whole (k := 0) a8 rfl rfl) (.tmp rfl .nil)) (deep_closed (show closed (.tup _) = true from (clL_cons (TR.clo api_Field.t (show api_Field.t.R ({ Name := ([] : List UInt8), Width := 0 } : api_Field) (.agg [vs [], vi 0]) from rfl)) (clL_cons rfl clL_nil)))) ⟨.agg [vs [], vi 0], rfl, rfl⟩
    · refine rc_skip ?_
      refine pn_seq ?_
      refine sR ?_
      refine mV rfl ?_
      refine mV rfl ?_
      obtain ⟨b0, d2, a6⟩ := sl_idx (i := x2) a2 (by omega) (by omega)
      refine rd_op (ov_iaddr rfl rfl d2) ?_
      refine lD a6 rfl rfl rfl ?_
      refine rd_storeO (k := 0) (v := b0) a7 rfl rfl rfl (TR.cnt api_Field.t a6) (fun c2 b2 => ?_)
      replace b2 : Mem c2 [⟨.op a4 a5 0, 166, 2, [b0]⟩] := b2
      refine mB rfl ?_
      refine nS ?_
      subst hres
      exact rc_retV (.cell rfl (load_whole (k := 0) b2 rfl (TR.agg api_Field.t a6)) (.tmp rfl .nil)) (deep_closed (show closed (.tup _) = true from (clL_cons (TR.clo api_Field.t a6) (clL_cons rfl clL_nil)))) ⟨b0, rfl, a6⟩
  · intro J
    refine rc_br hres rfl ?_ ?_ <;> clear hres <;> intro c hres <;> try simp only [qa, qaD] at c
    · refine rc_seq ?_
      refine sR ?_
      refine mV rfl ?_
      refine bN i_lss rfl rfl ?_
      refine mV rfl ?_
      refine rd_cutn 7 (d := 23) (v := vb ((decide (x1 < 0)) || (decide ((x0.Program.Headers.length : Int) ≤ x1)))) ?_ ?_
      · intro S Q r
        cases b7 : (decide (x1 < 0))
        · intro k
          have b1 := b7
          try simp only [qa, qaD] at b1
          refine rd_yes rfl rfl (ov_move rfl) ?_
          obtain ⟨e3, c4, d3⟩ := expr_Scope.g_Program r0
          refine rd_yes rfl rfl (ov_faddr rfl c4) ?_
          obtain ⟨d8, c5, b5⟩ := api_Program.g_Headers d3
          refine rd_yes rfl rfl (ov_faddr rfl c5) ?_
          refine rd_yes rfl rfl (ov_load rfl (TR.cnt (tSl api_Header.t) b5) (TR.agg (tSl api_Header.t) b5)) ?_
          refine rd_yes rfl rfl (ov_bi rfl (sl_len b5 Tryz.underlying22 _)) ?_
          refine rd_yes rfl rfl (ov_bin rfl rfl i_geq) ?_
          exact gK rfl rfl rfl rfl rfl k
        · exact gN 6 rfl rfl rfl rfl rfl rfl
      refine nS ?_
      refine rc_br hres rfl ?_ ?_ <;> clear hres <;> intro c hres <;> try simp only [qa, qaD] at c
      · refine sR ?_
        refine rd_op (v := .agg [vs [], vi 0]) (ov_build (cs := [vs [], vi 0]) rfl rfl) ?_
        refine rd_storeO (k := 0) (v := .agg [vs [], vi 0]) b3 rfl rfl rfl rfl (fun c9 a9 => ?_)
        replace a9 : Mem c9 [⟨.op a4 a5 0, 166, 2, [.agg [vs [], vi 0]]⟩] := a9
        refine mB rfl ?_
        refine nS ?_
        subst hres
        exact rc_retV (.cell rfl (load_whole (k := 0) a9 rfl rfl) (.tmp rfl .nil)) (deep_closed (show closed (.tup _) = true from (clL_cons (TR.clo api_Field.t (show api_Field.t.R ({ Name := ([] : List UInt8), Width := 0 } : api_Field) (.agg [vs [], vi 0]) from rfl)) (clL_cons rfl clL_nil)))) ⟨.agg [vs [], vi 0], rfl, rfl⟩
      · refine rc_skip ?_
        refine pn_seq ?_
        refine rc_region ?_
        obtain ⟨e5, c8, c3⟩ := expr_Scope.g_Program r0
        refine fA rfl c8 ?_
        refine gL (api_Program.g_Headers c3) rfl rfl rfl fun e2 c6 => ?_
        refine mV rfl ?_
        obtain ⟨d7, d5, d6⟩ := sl_idx (i := x1) c6 (by omega) (by omega)
        refine rd_op (ov_iaddr rfl rfl d5) ?_
        refine gL (api_Header.g_Fields d6) rfl rfl rfl fun e4 d4 => ?_
        refine mV rfl ?_
        refine rd_nil ?_
        refine pn_seq (wC (J _ _ d4 _ (Mem.sub b3 (.cons_cons _ .slnil)) hres) rfl)
    · refine rc_skip ?_
      refine pn_seq (wC (J _ _ d1 _ (Mem.sub b3 (.cons_cons _ .slnil)) hres) rfl)

def RF268 (res : Int × Int) (r : PV) : Prop := r = .tup [vi res.1, vi res.2]
theorem f268_ok {x0 : expr_Scope} {x1 : api_ExprNode} {v0 v1 : PV} (r0 : expr_Scope.t.R x0 v0) (r1 : api_ExprNode.t.R x1 v1) : FnR Tryz.prog 268 [v0, v1] (.tup [vi ((m1_expr_Scope__primary x0 x1).1), vi ((m1_expr_Scope__primary x0 x1).2)]) := by
  refine fnS (R := RF268) text268 (fun _ h => h) rfl fun res hres => ?_
  unfold m1_expr_Scope__primary at hres
  refine sR ?_
  refine rd_op (ov_box rfl (TR.cnt expr_Scope.t r0)) ?_
  refine rd_op (ov_box rfl (TR.cnt api_ExprNode.t r1)) ?_
  refine mI rfl ?_
  refine mI rfl ?_
  refine nS ?_
  refine rc_seq ?_
  refine sR ?_
  refine fL rfl (api_ExprNode.g_Op r1) rfl rfl ?_
  refine nS ?_
  refine rc_block ?_
  refine sR ?_
  refine bN i_eql rfl rfl ?_
  refine mV rfl ?_
  refine nS ?_
  refine rc_br hres rfl ?_ ?_ <;> clear hres <;> intro c hres <;> try simp only [qa, qaD] at c
  · refine sR ?_
    refine fL rfl (api_ExprNode.g_W r1) rfl rfl ?_
    obtain ⟨a0, b2, hres⟩ := let_ex hres
    have b8 := f287_ok (x0 := x1.W)  
    rw [b2] at b8
    refine cL b8 rfl rfl (clL_cons rfl clL_nil) ?_
    refine mV rfl ?_
    refine xT rfl rfl ?_
    refine xT rfl rfl ?_
    refine mV rfl ?_
    refine mV rfl ?_
    refine nS ?_
    refine rc_seq ?_
    refine sR ?_
    refine mV rfl ?_
    refine bN i_eql rfl rfl ?_
    refine mV rfl ?_
    refine rd_cutn 12 (d := 34) (v := vb ((decide (a0.2 = 0)) && ((decide (x1.N < 0)) || (decide (((bitvec_Mask a0.1).toNat : Int) < x1.N))))) ?_ ?_
    · intro S Q r
      cases b9 : (decide (a0.2 = 0))
      · exact gN 11 rfl rfl rfl rfl rfl rfl
      · intro k
        have a1 := b9
        try simp only [qa, qaD] at a1
        refine rd_yes rfl rfl (ov_faddr rfl (api_ExprNode.g_N r1)) ?_
        refine rd_yes rfl rfl (ov_load rfl rfl rfl) ?_
        refine rd_yes rfl rfl (ov_bin rfl rfl i_lss) ?_
        refine rd_yes rfl rfl (ov_move rfl) ?_
        refine rd_cutn 7 (d := 33) (v := vb ((decide (x1.N < 0)) || (decide (((bitvec_Mask a0.1).toNat : Int) < x1.N)))) ?_ ?_
        · intro S Q r
          cases b6 : (decide (x1.N < 0))
          · intro k
            have a7 := b6
            try simp only [qa, qaD] at a7
            refine rd_yes rfl rfl (ov_faddr rfl (api_ExprNode.g_N r1)) ?_
            refine rd_yes rfl rfl (ov_load rfl rfl rfl) ?_
            refine rd_yes rfl rfl (ov_move rfl) ?_
            have d3 := f182_ok (x0 := a0.1)  
            refine rd_ycall rfl rfl (cv_fn rfl rfl (clL_cons rfl clL_nil) d3) ?_
            refine rd_yes rfl rfl (ov_conv (a := vu32 (bitvec_Mask a0.1)) rfl (c_wi Tryz.underlying89 Tryz.underlying3)) ?_
            refine rd_yes rfl rfl (ov_bin rfl rfl i_gtr) ?_
            refine rd_yes (v := vb (decide (((bitvec_Mask a0.1).toNat : Int) < x1.N))) rfl rfl (ov_pick rfl rfl rfl rfl) ?_
            exact wD k rfl
          · intro k
            refine rd_skip rfl rfl ?_
            refine rd_skip rfl rfl ?_
            refine rd_skip rfl rfl ?_
            refine rd_skip rfl rfl ?_
            refine rd_skip rfl rfl ?_
            refine rd_skip rfl rfl ?_
            refine rd_yes (v := vb true) rfl rfl (ov_pick rfl rfl rfl rfl) ?_
            exact wD k rfl
        exact gK rfl rfl rfl rfl rfl k
    refine nS ?_
    refine rc_br hres rfl ?_ ?_ <;> clear hres <;> intro c hres <;> try simp only [qa, qaD] at c
    · refine sR ?_
      refine mI rfl ?_
      refine mI rfl ?_
      refine nS ?_
      exact rT hres rfl rfl rfl rfl rfl
    · refine rc_skip ?_
      refine pn_seq ?_
      refine sR ?_
      refine mV rfl ?_
      refine mV rfl ?_
      refine mV rfl ?_
      refine mV rfl ?_
      refine nS ?_
      exact rT hres rfl rfl rfl rfl rfl
  · refine sR ?_
    refine bN i_eql rfl rfl ?_
    refine mV rfl ?_
    refine nS ?_
    refine rc_br hres rfl ?_ ?_ <;> clear hres <;> intro c hres <;> try simp only [qa, qaD] at c
    · refine sR ?_
      refine lD r0 rfl rfl rfl ?_
      refine fL rfl (api_ExprNode.g_N r1) rfl rfl ?_
      refine fL rfl (api_ExprNode.g_W r1) rfl rfl ?_
      obtain ⟨c4, b7, hres⟩ := let_ex hres
      obtain ⟨b1, a9, a6⟩ := f288_ok (x1 := x1.N) (x2 := x1.W) r0 
      rw [b7] at a9 a6
      refine cL a9 rfl rfl (clL_cons (TR.clo expr_Scope.t r0) (clL_cons rfl (clL_cons rfl clL_nil))) ?_
      refine mV rfl ?_
      refine xT rfl rfl ?_
      refine xT rfl rfl ?_
      refine rd_allocO (x := .agg [vs [], vi 0]) (Mem.nil ⟨0, []⟩) rfl rfl (fun c7 d2 d7 d0 => ?_)
      refine rd_storeO (k := 0) (v := b1) d0 rfl rfl rfl (TR.cnt api_Field.t a6) (fun c2 a3 => ?_)
      replace a3 : Mem c2 [⟨.op c7 d2 0, 166, 2, [b1]⟩] := a3
      refine mV rfl ?_
      refine nS ?_
      refine rc_seq ?_
      refine sR ?_
      refine mV rfl ?_
      refine rd_op (ov_not rfl) ?_
      refine nS ?_
      refine rc_br hres rfl ?_ ?_ <;> clear hres <;> intro c hres <;> try simp only [qa, qaD] at c
      · refine sR ?_
        refine mI rfl ?_
        refine mI rfl ?_
        refine nS ?_
        exact rT hres rfl rfl rfl rfl rfl
      · refine rc_skip ?_
        refine pn_seq ?_
        refine sR ?_
        refine rd_op (ov_faddrO rfl) ?_
        refine rd_op (ov_loadf (k := 0) a3 rfl rfl (api_Field.g_Width a6)) ?_
        obtain ⟨d6, c1, hres⟩ := let_ex hres
        have b5 := f287_ok (x0 := c4.1.Width)  
        rw [c1] at b5
        refine cL b5 rfl rfl (clL_cons rfl clL_nil) ?_
        refine xT rfl rfl ?_
        refine xT rfl rfl ?_
        refine mV rfl ?_
        refine mV rfl ?_
        refine nS ?_
        exact rT hres rfl rfl rfl rfl rfl
    · refine sR ?_
      refine bN i_eql rfl rfl ?_
      refine mV rfl ?_
      refine nS ?_
      refine rc_br hres rfl ?_ ?_ <;> clear hres <;> intro c hres <;> try simp only [qa, qaD] at c
      · refine rc_seq ?_
        refine sR ?_
        refine fL rfl (api_ExprNode.g_N r1) rfl rfl ?_
        refine bN i_lss rfl rfl ?_
        refine mV rfl ?_
        refine rd_cutn 7 (d := 67) (v := vb ((decide (x1.N < 0)) || (decide ((x0.Params.length : Int) ≤ x1.N)))) ?_ ?_
        · intro S Q r
          cases c0 : (decide (x1.N < 0))
          · intro k
            have a5 := c0
            try simp only [qa, qaD] at a5
            refine rd_yes rfl rfl (ov_faddr rfl (api_ExprNode.g_N r1)) ?_
            refine rd_yes rfl rfl (ov_load rfl rfl rfl) ?_
            obtain ⟨e0, c8, a4⟩ := expr_Scope.g_Params r0
            refine rd_yes rfl rfl (ov_faddr rfl c8) ?_
            refine rd_yes rfl rfl (ov_load rfl (TR.cnt (tSl api_Field.t) a4) (TR.agg (tSl api_Field.t) a4)) ?_
            refine rd_yes rfl rfl (ov_bi rfl (sl_len a4 Tryz.underlying23 _)) ?_
            refine rd_yes rfl rfl (ov_bin rfl rfl i_geq) ?_
            exact gK rfl rfl rfl rfl rfl k
          · exact gN 6 rfl rfl rfl rfl rfl rfl
        refine nS ?_
        refine rc_br hres rfl ?_ ?_ <;> clear hres <;> intro c hres <;> try simp only [qa, qaD] at c
        · refine sR ?_
          refine mI rfl ?_
          refine mI rfl ?_
          refine nS ?_
          exact rT hres rfl rfl rfl rfl rfl
        · refine rc_skip ?_
          refine pn_seq ?_
          refine sR ?_
          refine gL (expr_Scope.g_Params r0) rfl rfl rfl fun d8 d1 => ?_
          refine fL rfl (api_ExprNode.g_N r1) rfl rfl ?_
          obtain ⟨e1, c9, c3⟩ := sl_idx (i := x1.N) d1 (by omega) (by omega)
          refine rd_op (ov_iaddr rfl rfl c9) ?_
          refine fL rfl (api_Field.g_Width c3) rfl rfl ?_
          obtain ⟨d5, b0, hres⟩ := let_ex hres
          have b4 := f287_ok (x0 := (ix x0.Params x1.N).Width)  
          rw [b0] at b4
          refine cL b4 rfl rfl (clL_cons rfl clL_nil) ?_
          refine xT rfl rfl ?_
          refine xT rfl rfl ?_
          refine mV rfl ?_
          refine mV rfl ?_
          refine nS ?_
          exact rT hres rfl rfl rfl rfl rfl
      · refine rc_skip ?_
        refine pn_blk ?_
        refine pn_seq ?_
        refine rc_seq ?_
        refine sR ?_
        refine fL rfl (api_ExprNode.g_N r1) rfl rfl ?_
        refine bN i_lss rfl rfl ?_
        refine mV rfl ?_
        refine rd_cutn 8 (d := 89) (v := vb ((decide (x1.N < 0)) || (decide ((x0.Program.Headers.length : Int) ≤ x1.N)))) ?_ ?_
        · intro S Q r
          cases b3 : (decide (x1.N < 0))
          · intro k
            have a2 := b3
            try simp only [qa, qaD] at a2
            refine rd_yes rfl rfl (ov_faddr rfl (api_ExprNode.g_N r1)) ?_
            refine rd_yes rfl rfl (ov_load rfl rfl rfl) ?_
            obtain ⟨e2, c5, d4⟩ := expr_Scope.g_Program r0
            refine rd_yes rfl rfl (ov_faddr rfl c5) ?_
            obtain ⟨d9, c6, a8⟩ := api_Program.g_Headers d4
            refine rd_yes rfl rfl (ov_faddr rfl c6) ?_
            refine rd_yes rfl rfl (ov_load rfl (TR.cnt (tSl api_Header.t) a8) (TR.agg (tSl api_Header.t) a8)) ?_
            refine rd_yes rfl rfl (ov_bi rfl (sl_len a8 Tryz.underlying22 _)) ?_
            refine rd_yes rfl rfl (ov_bin rfl rfl i_geq) ?_
            exact gK rfl rfl rfl rfl rfl k
          · exact gN 7 rfl rfl rfl rfl rfl rfl
        refine nS ?_
        refine rc_br hres rfl ?_ ?_ <;> clear hres <;> intro c hres <;> try simp only [qa, qaD] at c
        · refine sR ?_
          refine mI rfl ?_
          refine mI rfl ?_
          refine nS ?_
          exact rT hres rfl rfl rfl rfl rfl
        · refine rc_skip ?_
          refine pn_seq ?_
          refine sR ?_
          refine mI rfl ?_
          refine mI rfl ?_
          refine nS ?_
          exact rT hres rfl rfl rfl rfl rfl

def RF269 (res : Int × Int) (r : PV) : Prop := r = .tup [vi res.1, vi res.2]
theorem f269_ok {x0 : api_ExprNode} {x1 : List Int} {v0 v1 : PV} (r0 : api_ExprNode.t.R x0 v0) (r1 : (tAr 3 tI).R x1 v1) : FnR Tryz.prog 269 [v0, v1] (.tup [vi ((expr_combine x0 x1).1), vi ((expr_combine x0 x1).2)]) := by
  refine fnS (R := RF269) text269 (fun _ h => h) rfl fun res hres => ?_
  unfold expr_combine at hres
  refine sR ?_
  refine rd_op (ov_box rfl (TR.cnt api_ExprNode.t r0)) ?_
  refine rd_op (ov_box rfl (TR.cnt (tAr 3 tI) r1)) ?_
  refine mI rfl ?_
  refine mI rfl ?_
  refine nS ?_
  refine rc_seq ?_
  refine sR ?_
  refine fL rfl (api_ExprNode.g_Op r0) rfl rfl ?_
  refine nS ?_
  refine rc_block ?_
  refine rc_seq ?_
  refine sR ?_
  refine bN i_eql rfl rfl ?_
  refine mV rfl ?_
  refine nS ?_
  obtain ⟨e6, d8, hres⟩ := let_ex hres
  refine rc_join (F := fun b S Q => ∀ (a0 : Bool), e6 a0 = res → RC Tryz.prog b S Q [(10, vb a0), (9, vi x0.Op), (3, .fp v1), (2, .fp v0)] ⟨0, []⟩) ?_ ?_
  · intro a0  hres
    rw [← d8] at hres
    refine rc_br hres rfl ?_ ?_ <;> clear hres <;> intro c hres <;> try simp only [qa, qaD] at c
    · refine sR ?_
      refine fL rfl (api_ExprNode.g_N r0) rfl rfl ?_
      refine bN i_lss rfl rfl ?_
      refine mV rfl ?_
      refine rd_cutn 4 (d := 20) (v := vb ((decide (x0.N < 0)) || (decide (31 < x0.N)))) ?_ ?_
      · intro S Q r
        cases c7 : (decide (x0.N < 0))
        · intro k
          have a6 := c7
          try simp only [qa, qaD] at a6
          refine rd_yes rfl rfl (ov_faddr rfl (api_ExprNode.g_N r0)) ?_
          refine rd_yes rfl rfl (ov_load rfl rfl rfl) ?_
          refine rd_yes rfl rfl (ov_bin rfl rfl i_gtr) ?_
          exact gK rfl rfl rfl rfl rfl k
        · exact gN 3 rfl rfl rfl rfl rfl rfl
      refine nS ?_
      refine rc_br hres rfl ?_ ?_ <;> clear hres <;> intro c hres <;> try simp only [qa, qaD] at c
      · refine sR ?_
        refine mI rfl ?_
        refine mI rfl ?_
        refine nS ?_
        exact rT hres rfl rfl rfl rfl rfl
      · refine rc_skip ?_
        refine pn_blk ?_
        refine pn_seq ?_
        refine rc_seq ?_
        refine sR ?_
        refine fL rfl (api_ExprNode.g_Op r0) rfl rfl ?_
        obtain ⟨c8, d2, hres⟩ := let_ex hres
        have d0 := f267_ok (x0 := x0.Op)  
        rw [d2] at d0
        refine cL d0 rfl rfl (clL_cons rfl clL_nil) ?_
        refine bN i_eql rfl rfl ?_
        refine mV rfl ?_
        refine rd_cutn 6 (d := 80) (v := vb ((decide (c8 = 2)) && (!decide ((ix x1 0) = (ix x1 1))))) ?_ ?_
        · intro S Q r
          cases c2 : (decide (c8 = 2))
          · exact gN 5 rfl rfl rfl rfl rfl rfl
          · intro k
            have a1 := c2
            try simp only [qa, qaD] at a1
            obtain ⟨e5, e2, a5⟩ := arr_addr (t := tI) r1 (i := 0) (by omega) (by omega)
            have a5 : e5 = vi (ix x1 0) := a5; subst a5
            refine rd_yes rfl rfl (ov_iaddrA rfl rfl e2) ?_
            refine rd_yes rfl rfl (ov_load rfl rfl rfl) ?_
            obtain ⟨f0, f4, b2⟩ := arr_addr (t := tI) r1 (i := 1) (by omega) (by omega)
            have b2 : f0 = vi (ix x1 1) := b2; subst b2
            refine rd_yes rfl rfl (ov_iaddrA rfl rfl f4) ?_
            refine rd_yes rfl rfl (ov_load rfl rfl rfl) ?_
            refine rd_yes rfl rfl (ov_bin rfl rfl i_neq) ?_
            exact gK rfl rfl rfl rfl rfl k
        refine nS ?_
        refine rc_br hres rfl ?_ ?_ <;> clear hres <;> intro c hres <;> try simp only [qa, qaD] at c
        · refine sR ?_
          refine mI rfl ?_
          refine mI rfl ?_
          refine nS ?_
          exact rT hres rfl rfl rfl rfl rfl
        · refine rc_skip ?_
          refine pn_seq ?_
          refine rc_seq ?_
          refine sR ?_
          refine fL rfl (api_ExprNode.g_Op r0) rfl rfl ?_
          refine bN i_eql rfl rfl ?_
          refine mV rfl ?_
          refine rd_cutn 4 (d := 88) (v := vb ((decide (x0.Op = 15)) || (decide (x0.Op = 16)))) ?_ ?_
          · intro S Q r
            cases d6 : (decide (x0.Op = 15))
            · intro k
              have b7 := d6
              try simp only [qa, qaD] at b7
              refine rd_yes rfl rfl (ov_faddr rfl (api_ExprNode.g_Op r0)) ?_
              refine rd_yes rfl rfl (ov_load rfl rfl rfl) ?_
              refine rd_yes rfl rfl (ov_bin rfl rfl i_eql) ?_
              exact gK rfl rfl rfl rfl rfl k
            · exact gN 3 rfl rfl rfl rfl rfl rfl
          refine nS ?_
          refine rc_br hres rfl ?_ ?_ <;> clear hres <;> intro c hres <;> try simp only [qa, qaD] at c
          · refine sR ?_
            refine mI rfl ?_
            refine mI rfl ?_
            refine nS ?_
            exact rT hres rfl rfl rfl rfl rfl
          · refine rc_skip ?_
            refine pn_seq ?_
            refine sR ?_
            obtain ⟨g6, g4, b9⟩ := arr_addr (t := tI) r1 (i := 0) (by omega) (by omega)
            have b9 : g6 = vi (ix x1 0) := b9; subst b9
            refine rd_op (ov_iaddrA rfl rfl g4) ?_
            refine lR rfl rfl rfl ?_
            refine mV rfl ?_
            refine mI rfl ?_
            refine nS ?_
            exact rT hres rfl rfl rfl rfl rfl
    · refine sR ?_
      refine bN i_eql rfl rfl ?_
      refine mV rfl ?_
      refine nS ?_
      refine rc_br hres rfl ?_ ?_ <;> clear hres <;> intro c hres <;> try simp only [qa, qaD] at c
      · refine rc_seq ?_
        refine sR ?_
        refine fL rfl (api_ExprNode.g_N r0) rfl rfl ?_
        refine bN i_lss rfl rfl ?_
        refine nS ?_
        refine rc_br hres rfl ?_ ?_ <;> clear hres <;> intro c hres <;> try simp only [qa, qaD] at c
        · refine sR ?_
          refine mI rfl ?_
          refine mI rfl ?_
          refine nS ?_
          exact rT hres rfl rfl rfl rfl rfl
        · refine rc_skip ?_
          refine pn_seq ?_
          refine rc_seq ?_
          refine sR ?_
          refine fL rfl (api_ExprNode.g_W r0) rfl rfl ?_
          obtain ⟨d9, d3, hres⟩ := let_ex hres
          have d1 := f287_ok (x0 := x0.W)  
          rw [d3] at d1
          refine cL d1 rfl rfl (clL_cons rfl clL_nil) ?_
          refine mV rfl ?_
          refine xT rfl rfl ?_
          refine xT rfl rfl ?_
          refine mV rfl ?_
          refine mV rfl ?_
          refine nR ?_
          refine mV rfl ?_
          refine bN i_neq rfl rfl ?_
          refine mV rfl ?_
          refine rd_cutn 9 (d := 43) (v := vb ((!decide (d9.2 = 0)) || (decide ((wr ((ix x1 0) - x0.W)) < x0.N)))) ?_ ?_
          · intro S Q r
            cases d7 : (!decide (d9.2 = 0))
            · intro k
              have a7 := d7
              try simp only [qa, qaD] at a7
              refine rd_yes rfl rfl (ov_faddr rfl (api_ExprNode.g_N r0)) ?_
              refine rd_yes rfl rfl (ov_load rfl rfl rfl) ?_
              obtain ⟨g5, e3, a8⟩ := arr_addr (t := tI) r1 (i := 0) (by omega) (by omega)
              have a8 : g5 = vi (ix x1 0) := a8; subst a8
              refine rd_yes rfl rfl (ov_iaddrA rfl rfl e3) ?_
              refine rd_yes rfl rfl (ov_load rfl rfl rfl) ?_
              refine rd_yes rfl rfl (ov_faddr rfl (api_ExprNode.g_W r0)) ?_
              refine rd_yes rfl rfl (ov_load rfl rfl rfl) ?_
              refine rd_yes rfl rfl (ov_bin rfl rfl i_sub) ?_
              refine rd_yes rfl rfl (ov_bin rfl rfl i_gtr) ?_
              exact gK rfl rfl rfl rfl rfl k
            · exact gN 8 rfl rfl rfl rfl rfl rfl
          refine nS ?_
          refine rc_br hres rfl ?_ ?_ <;> clear hres <;> intro c hres <;> try simp only [qa, qaD] at c
          · refine sR ?_
            refine mI rfl ?_
            refine mI rfl ?_
            refine nS ?_
            exact rT hres rfl rfl rfl rfl rfl
          · refine rc_skip ?_
            refine pn_seq ?_
            refine sR ?_
            refine fL rfl (api_ExprNode.g_W r0) rfl rfl ?_
            refine mV rfl ?_
            refine mI rfl ?_
            refine nS ?_
            exact rT hres rfl rfl rfl rfl rfl
      · refine sR ?_
        refine bN i_eql rfl rfl ?_
        refine mV rfl ?_
        refine nS ?_
        refine rc_br hres rfl ?_ ?_ <;> clear hres <;> intro c hres <;> try simp only [qa, qaD] at c
        · refine sR ?_
          obtain ⟨e7, e8, a2⟩ := arr_addr (t := tI) r1 (i := 0) (by omega) (by omega)
          have a2 : e7 = vi (ix x1 0) := a2; subst a2
          refine rd_op (ov_iaddrA rfl rfl e8) ?_
          refine lR rfl rfl rfl ?_
          obtain ⟨e9, e4, a3⟩ := arr_addr (t := tI) r1 (i := 1) (by omega) (by omega)
          have a3 : e9 = vi (ix x1 1) := a3; subst a3
          refine rd_op (ov_iaddrA rfl rfl e4) ?_
          refine lR rfl rfl rfl ?_
          refine bN i_add rfl rfl ?_
          obtain ⟨g7, c4, hres⟩ := let_ex hres
          have c5 := f287_ok (x0 := (wr ((ix x1 0) + (ix x1 1))))  
          rw [c4] at c5
          refine cL c5 rfl rfl (clL_cons rfl clL_nil) ?_
          refine xT rfl rfl ?_
          refine xT rfl rfl ?_
          refine mV rfl ?_
          refine mV rfl ?_
          refine nS ?_
          exact rT hres rfl rfl rfl rfl rfl
        · refine sR ?_
          refine bN i_eql rfl rfl ?_
          refine mV rfl ?_
          refine nS ?_
          refine rc_br hres rfl ?_ ?_ <;> clear hres <;> intro c hres <;> try simp only [qa, qaD] at c
          · refine rc_seq ?_
            refine sR ?_
            obtain ⟨f1, f5, b1⟩ := arr_addr (t := tI) r1 (i := 0) (by omega) (by omega)
            have b1 : f1 = vi (ix x1 0) := b1; subst b1
            refine rd_op (ov_iaddrA rfl rfl f5) ?_
            refine lR rfl rfl rfl ?_
            refine bN i_neq rfl rfl ?_
            refine mV rfl ?_
            refine rd_cutn 6 (d := 67) (v := vb ((!decide ((ix x1 0) = 1)) || (!decide ((ix x1 1) = (ix x1 2))))) ?_ ?_
            · intro S Q r
              cases d5 : (!decide ((ix x1 0) = 1))
              · intro k
                have b4 := d5
                try simp only [qa, qaD] at b4
                obtain ⟨g1, f7, b6⟩ := arr_addr (t := tI) r1 (i := 1) (by omega) (by omega)
                have b6 : g1 = vi (ix x1 1) := b6; subst b6
                refine rd_yes rfl rfl (ov_iaddrA rfl rfl f7) ?_
                refine rd_yes rfl rfl (ov_load rfl rfl rfl) ?_
                obtain ⟨f8, e1, b8⟩ := arr_addr (t := tI) r1 (i := 2) (by omega) (by omega)
                have b8 : f8 = vi (ix x1 2) := b8; subst b8
                refine rd_yes rfl rfl (ov_iaddrA rfl rfl e1) ?_
                refine rd_yes rfl rfl (ov_load rfl rfl rfl) ?_
                refine rd_yes rfl rfl (ov_bin rfl rfl i_neq) ?_
                exact gK rfl rfl rfl rfl rfl k
              · exact gN 5 rfl rfl rfl rfl rfl rfl
            refine nS ?_
            refine rc_br hres rfl ?_ ?_ <;> clear hres <;> intro c hres <;> try simp only [qa, qaD] at c
            · refine sR ?_
              refine mI rfl ?_
              refine mI rfl ?_
              refine nS ?_
              exact rT hres rfl rfl rfl rfl rfl
            · refine rc_skip ?_
              refine pn_seq ?_
              refine sR ?_
              obtain ⟨g2, f9, b5⟩ := arr_addr (t := tI) r1 (i := 1) (by omega) (by omega)
              have b5 : g2 = vi (ix x1 1) := b5; subst b5
              refine rd_op (ov_iaddrA rfl rfl f9) ?_
              refine lR rfl rfl rfl ?_
              refine mV rfl ?_
              refine mI rfl ?_
              refine nS ?_
              exact rT hres rfl rfl rfl rfl rfl
          · refine rc_skip ?_
            refine pn_blk ?_
            refine pn_seq ?_
            refine rc_seq ?_
            refine sR ?_
            refine fL rfl (api_ExprNode.g_Op r0) rfl rfl ?_
            obtain ⟨c9, c6, hres⟩ := let_ex hres
            have d4 := f267_ok (x0 := x0.Op)  
            rw [c6] at d4
            refine cL d4 rfl rfl (clL_cons rfl clL_nil) ?_
            refine bN i_eql rfl rfl ?_
            refine mV rfl ?_
            refine rd_cutn 6 (d := 80) (v := vb ((decide (c9 = 2)) && (!decide ((ix x1 0) = (ix x1 1))))) ?_ ?_
            · intro S Q r
              cases c3 : (decide (c9 = 2))
              · exact gN 5 rfl rfl rfl rfl rfl rfl
              · intro k
                have a4 := c3
                try simp only [qa, qaD] at a4
                obtain ⟨f2, f6, b0⟩ := arr_addr (t := tI) r1 (i := 0) (by omega) (by omega)
                have b0 : f2 = vi (ix x1 0) := b0; subst b0
                refine rd_yes rfl rfl (ov_iaddrA rfl rfl f6) ?_
                refine rd_yes rfl rfl (ov_load rfl rfl rfl) ?_
                obtain ⟨g0, g3, b3⟩ := arr_addr (t := tI) r1 (i := 1) (by omega) (by omega)
                have b3 : g0 = vi (ix x1 1) := b3; subst b3
                refine rd_yes rfl rfl (ov_iaddrA rfl rfl g3) ?_
                refine rd_yes rfl rfl (ov_load rfl rfl rfl) ?_
                refine rd_yes rfl rfl (ov_bin rfl rfl i_neq) ?_
                exact gK rfl rfl rfl rfl rfl k
            refine nS ?_
            refine rc_br hres rfl ?_ ?_ <;> clear hres <;> intro c hres <;> try simp only [qa, qaD] at c
            · refine sR ?_
              refine mI rfl ?_
              refine mI rfl ?_
              refine nS ?_
              exact rT hres rfl rfl rfl rfl rfl
            · refine rc_skip ?_
              refine pn_seq ?_
              refine rc_seq ?_
              refine sR ?_
              refine fL rfl (api_ExprNode.g_Op r0) rfl rfl ?_
              refine bN i_eql rfl rfl ?_
              refine mV rfl ?_
              refine rd_cutn 4 (d := 88) (v := vb ((decide (x0.Op = 15)) || (decide (x0.Op = 16)))) ?_ ?_
              · intro S Q r
                cases c1 : (decide (x0.Op = 15))
                · intro k
                  have a9 := c1
                  try simp only [qa, qaD] at a9
                  refine rd_yes rfl rfl (ov_faddr rfl (api_ExprNode.g_Op r0)) ?_
                  refine rd_yes rfl rfl (ov_load rfl rfl rfl) ?_
                  refine rd_yes rfl rfl (ov_bin rfl rfl i_eql) ?_
                  exact gK rfl rfl rfl rfl rfl k
                · exact gN 3 rfl rfl rfl rfl rfl rfl
              refine nS ?_
              refine rc_br hres rfl ?_ ?_ <;> clear hres <;> intro c hres <;> try simp only [qa, qaD] at c
              · refine sR ?_
                refine mI rfl ?_
                refine mI rfl ?_
                refine nS ?_
                exact rT hres rfl rfl rfl rfl rfl
              · refine rc_skip ?_
                refine pn_seq ?_
                refine sR ?_
                obtain ⟨f3, e0, c0⟩ := arr_addr (t := tI) r1 (i := 0) (by omega) (by omega)
                have c0 : f3 = vi (ix x1 0) := c0; subst c0
                refine rd_op (ov_iaddrA rfl rfl e0) ?_
                refine lR rfl rfl rfl ?_
                refine mV rfl ?_
                refine mI rfl ?_
                refine nS ?_
                exact rT hres rfl rfl rfl rfl rfl
  · intro J
    refine rc_br hres rfl ?_ ?_ <;> clear hres <;> intro c hres <;> try simp only [qa, qaD] at c
    · refine rc_skip ?_
      refine pn_seq (wC (J _  hres) rfl)
    · refine rc_region ?_
      refine bN i_eql rfl rfl ?_
      refine mV rfl ?_
      refine rd_nil ?_
      refine pn_seq (wC (J _  hres) rfl)

def RF226 (res : Int × Int × Int) (r : PV) : Prop := r = .tup [vi res.1, vi res.2.1, vi res.2.2]
theorem m1_expr_Scope__check_L1_ok {S : List Fr} {res : Int × Int × Int} {x0 : expr_Scope} {x1 : List api_ExprNode} {x2 : Int} {rec_ : expr_Scope → (List api_ExprNode) → Int → (Int × Int × Int)} {mu_ : Nat} {a9 : Int} {v0 v1 : PV} {a8 a5 : Nat} (r0 : expr_Scope.t.R x0 v0) (r1 : (tSl api_ExprNode.t).R x1 v1) (h0 : 0 ≤ x2) (hb : x1.length ≤ 1000000) (ihR : ∀ {z0 : expr_Scope} {z1 : List api_ExprNode} {z2 : Int} {d1 c9 : PV} (d3 : expr_Scope.t.R z0 d1) (d4 : (tSl api_ExprNode.t).R z1 c9) (h0 : 0 ≤ z2) (hb : z1.length ≤ 1000000), (z1.length - z2.toNat) < mu_ → FnR Tryz.prog 226 [d1, c9, vi z2] (.tup [vi ((rec_ z0 z1 z2).1), vi ((rec_ z0 z1 z2).2.1), vi ((rec_ z0 z1 z2).2.2)])) (hmu : mu_ = (x1.length - x2.toNat)) (hrec : ∀ (z0 : expr_Scope) (z1 : List api_ExprNode) (z2 : Int), 0 ≤ z2 → z1.length ≤ 1000000 → (rec_ z0 z1 z2).2.2 = 0 → z2 < (rec_ z0 z1 z2).2.1) (c2 : (decide ((x1.length : Int) ≤ x2)) = false) (c8 : expr_arity ((ix x1 x2).Op) = a9) (c1 : (decide (a9 < 0)) = false) (b9 : (decide (a9 = 0)) = false) {K1 : Int → (List Int) → (Int × Int × Int)}
    (d2 : ∀ {b0 : Int} {a1 : List Int} {a2 : PV} (a3 : (tAr 3 tI).R a1 a2) {h : Heap} (M0 : Mem h [⟨.op a8 a5 0, 293, 3, [a2]⟩]), K1 b0 a1 = res → PX Tryz.prog 1 S (QR Tryz.prog [(6, none), (7, none), (8, none)] (RF226 res)) [(1, v1), (2, vi x2), (7, vi b0), (10, .op a8 a5 0)] h) :
    ∀ {m : Nat} {b0 a0 : Int} {a1 : List Int} {a2 : PV} (a3 : (tAr 3 tI).R a1 a2) (d0 : m = Int.toNat (a9 - a0)) (c3 : 0 ≤ a0) (b3 : x2 < b0) {h : Heap} (M0 : Mem h [⟨.op a8 a5 0, 293, 3, [a2]⟩]), m1_expr_Scope__check_L1 x0 x1 rec_ K1 m b0 a0 a1 = res → RC Tryz.prog (.loop ac226_L1) S (QR Tryz.prog [(6, none), (7, none), (8, none)] (RF226 res)) [(44, vi a0), (43, vi a9), (10, .op a8 a5 0), (7, vi b0), (3, .fp v0), (2, vi x2), (1, v1)] h := by
  have hb' := hb
  try simp only [qa, qaD] at hb'
  have b7 := c2
  try simp only [qa, qaD] at b7
  have b5 := c1
  try simp only [qa, qaD] at b5
  have b4 := b9
  try simp only [qa, qaD] at b4
  intro m
  induction m with
  | zero =>
    intro b0 a0 a1 a2 a3 d0 c3 b3 h M0 hres
    rw [m1_expr_Scope__check_L1] at hres
    refine rc_loop ?_
    refine sR ?_
    refine bN i_lss rfl rfl ?_
    refine nS ?_
    refine rc_seq ?_
    refine rc_cond rfl ?_ ?_ <;> intro c <;> try simp only [qa, qaD] at c
    · omega
    refine rc_exit ?_
    refine px_seq ?_
    refine px_again ?_
    exact wP (d2 a3 (Mem.sub M0 (.cons_cons _ .slnil)) hres) rfl
  | succ m ih =>
    intro b0 a0 a1 a2 a3 d0 c3 b3 h M0 hres
    rw [m1_expr_Scope__check_L1] at hres
    refine rc_loop ?_
    refine sR ?_
    refine bN i_lss rfl rfl ?_
    refine nS ?_
    refine rc_seq ?_
    refine rc_cond rfl ?_ ?_ <;> intro c <;> try simp only [qa, qaD] at c
    rotate_left
    · omega
    refine rc_skip ?_
    refine pn_seq ?_
    refine rc_seq ?_
    refine rc_block ?_
    refine sR ?_
    refine mV rfl ?_
    refine mV rfl ?_
    refine nR ?_
    refine mV rfl ?_
    refine lD r0 rfl rfl rfl ?_
    refine mV rfl ?_
    refine mV rfl ?_
    obtain ⟨a4, b2, hres⟩ := let_ex hres
    have b8 := ihR (z0 := x0) (z1 := x1) (z2 := b0) r0 r1 (by first | assumption | omega | (rw [wr_of (by omega) (by omega)]; omega) | (have hk := rval rfl (And.right (And.left (by assumption))); omega) | (have hk := rval (by assumption) (by assumption); omega) | (have hk := rval (by assumption) (And.left (by assumption)); omega) | (have hk := rval (by assumption) (And.left (And.left (by assumption))); have hz := rslc (by assumption); omega) | (simp; done) | (simp only [List.length_append, List.length_nil, List.length_cons]; omega) | (have hk := (chk_ok (by assumption) (by assumption)).1; omega) | (simp only [List.length_cons, List.length_nil]; omega) | (simp only [List.length_append]; have hk := (chk_ok (by assumption) (by assumption)).1; omega) | (simp only [List.length_append, List.length_nil]; have hk := (chk_ok (by assumption) (by assumption)).1; omega)) (by first | assumption | omega | (rw [wr_of (by omega) (by omega)]; omega) | (have hk := rval rfl (And.right (And.left (by assumption))); omega) | (have hk := rval (by assumption) (by assumption); omega) | (have hk := rval (by assumption) (And.left (by assumption)); omega) | (have hk := rval (by assumption) (And.left (And.left (by assumption))); have hz := rslc (by assumption); omega) | (simp; done) | (simp only [List.length_append, List.length_nil, List.length_cons]; omega) | (have hk := (chk_ok (by assumption) (by assumption)).1; omega) | (simp only [List.length_cons, List.length_nil]; omega) | (simp only [List.length_append]; have hk := (chk_ok (by assumption) (by assumption)).1; omega) | (simp only [List.length_append, List.length_nil]; have hk := (chk_ok (by assumption) (by assumption)).1; omega)) (by first | omega | (rw [wr_of (by omega) (by omega)]; omega))
    rw [b2] at b8
    have c7 : a4.2.2 = 0 → b0 < a4.2.1 := by rw [← b2]; exact hrec _ _ _ (by omega) (by omega)
    refine cL b8 rfl rfl (clL_cons (TR.clo expr_Scope.t r0) (clL_cons (TR.clo (tSl api_ExprNode.t) r1) (clL_cons rfl clL_nil))) ?_
    refine mV rfl ?_
    refine xT rfl rfl ?_
    refine xT rfl rfl ?_
    refine xT rfl rfl ?_
    have a7 : 0 ≤ a0 := by first | omega | (have hk := ar (by assumption); omega)
    have a6 : a0 < 3 := by first | omega | (have hk := ar (by assumption); omega)
    refine rd_op (ov_iaddrAO rfl rfl a7 a6) ?_
    obtain ⟨c4, c0, b1, c5⟩ := arr_store (t := tI) (i := a0) a3 a7 a6 (show tI.R a4.1 (vi a4.1) from rfl) rfl
    refine rd_storeFA (k := 0) (v := vi a4.1) M0 rfl rfl rfl c0 rfl b1.1 b1.2 (fun c6 b6 => ?_)
    replace b6 : Mem c6 [⟨.op a8 a5 0, 293, 3, [.agg (spl c4 (a0.toNat * 1) [vi a4.1])]⟩] := b6
    refine mV rfl ?_
    refine mV rfl ?_
    refine nR ?_
    refine mV rfl ?_
    refine bN i_neq rfl rfl ?_
    refine nS ?_
    refine rc_br hres rfl ?_ ?_ <;> clear hres <;> intro c hres <;> try simp only [qa, qaD] at c
    · refine sR ?_
      refine mV rfl ?_
      refine mI rfl ?_
      refine mI rfl ?_
      refine mV rfl ?_
      refine nS ?_
      subst hres
      exact rc_retV (.tmp rfl (.tmp rfl (.tmp rfl .nil))) (deep_closed (show closed (.tup _) = true from (clL_cons rfl (clL_cons rfl (clL_cons rfl clL_nil))))) rfl
    · refine rc_skip ?_
      refine pn_blk ?_
      refine pn_seq ?_
      refine rc_region ?_
      refine bN i_add rfl rfl ?_
      refine mV rfl ?_
      refine rd_nil ?_
      refine pn_again ?_
      have hinc : wr (a0 + 1) = a0 + 1 := wr_of (by omega) (by first | omega | (have hk := ar (by assumption); omega))
      erw [hinc]
      exact wC (ih  c5 (by omega) (by omega) (by first | omega | (simp; done) | (simp only [List.length_append, List.length_cons, List.length_nil, List.length_set]; omega)) (Mem.sub b6 (.cons_cons _ .slnil)) hres) rfl

theorem f226_okB {rec_ : expr_Scope → (List api_ExprNode) → Int → (Int × Int × Int)} {mu_ : Nat} {x0 : expr_Scope} {x1 : List api_ExprNode} {x2 : Int} {v0 v1 : PV} (r0 : expr_Scope.t.R x0 v0) (r1 : (tSl api_ExprNode.t).R x1 v1) (h0 : 0 ≤ x2) (hb : x1.length ≤ 1000000) (hmu : mu_ = (x1.length - x2.toNat)) (hrec : ∀ (z0 : expr_Scope) (z1 : List api_ExprNode) (z2 : Int), 0 ≤ z2 → z1.length ≤ 1000000 → (rec_ z0 z1 z2).2.2 = 0 → z2 < (rec_ z0 z1 z2).2.1) (ihR : ∀ {z0 : expr_Scope} {z1 : List api_ExprNode} {z2 : Int} {c5 c4 : PV} (d6 : expr_Scope.t.R z0 c5) (d7 : (tSl api_ExprNode.t).R z1 c4) (h0 : 0 ≤ z2) (hb : z1.length ≤ 1000000), (z1.length - z2.toNat) < mu_ → FnR Tryz.prog 226 [c5, c4, vi z2] (.tup [vi ((rec_ z0 z1 z2).1), vi ((rec_ z0 z1 z2).2.1), vi ((rec_ z0 z1 z2).2.2)])) : FnR Tryz.prog 226 [v0, v1, vi x2] (.tup [vi ((m1_expr_Scope__check_B rec_ x0 x1 x2).1), vi ((m1_expr_Scope__check_B rec_ x0 x1 x2).2.1), vi ((m1_expr_Scope__check_B rec_ x0 x1 x2).2.2)]) := by
  refine fnS (R := RF226) text226 (fun _ h => h) rfl fun res hres => ?_
  unfold m1_expr_Scope__check_B at hres
  refine sR ?_
  refine rd_op (ov_box rfl (TR.cnt expr_Scope.t r0)) ?_
  refine mI rfl ?_
  refine mI rfl ?_
  refine mI rfl ?_
  refine nS ?_
  refine rc_seq ?_
  refine sR ?_
  refine mV rfl ?_
  refine mV rfl ?_
  refine rd_op (ov_bi rfl (sl_len r1 Tryz.underlying32 _)) ?_
  refine bN i_geq rfl rfl ?_
  refine nS ?_
  refine rc_br hres rfl ?_ ?_ <;> clear hres <;> intro a4 hres <;> have a9 := a4 <;> try simp only [qa, qaD] at a9
  · refine sR ?_
    refine mI rfl ?_
    refine mI rfl ?_
    refine mI rfl ?_
    refine nS ?_
    subst hres
    exact rc_retV (.tmp rfl (.tmp rfl (.tmp rfl .nil))) (deep_closed (show closed (.tup _) = true from (clL_cons rfl (clL_cons rfl (clL_cons rfl clL_nil))))) rfl
  · refine rc_skip ?_
    refine pn_seq ?_
    refine sR ?_
    refine mV rfl ?_
    refine mV rfl ?_
    obtain ⟨c8, b8, c3⟩ := sl_idx (i := x2) r1 (by omega) (by omega)
    refine rd_op (ov_iaddr rfl rfl b8) ?_
    refine fL rfl (api_ExprNode.g_Op c3) rfl rfl ?_
    obtain ⟨d3, a2, hres⟩ := let_ex hres
    have b2 := f267_ok (x0 := (ix x1 x2).Op)  
    rw [a2] at b2
    refine cL b2 rfl rfl (clL_cons rfl clL_nil) ?_
    refine mV rfl ?_
    refine nS ?_
    refine rc_seq ?_
    refine rc_block ?_
    refine sR ?_
    refine mV rfl ?_
    refine bN i_lss rfl rfl ?_
    refine mV rfl ?_
    refine nS ?_
    refine rc_br hres rfl ?_ ?_ <;> clear hres <;> intro a3 hres <;> have a7 := a3 <;> try simp only [qa, qaD] at a7
    · refine sR ?_
      refine mI rfl ?_
      refine mI rfl ?_
      refine mI rfl ?_
      refine nS ?_
      subst hres
      exact rc_retV (.tmp rfl (.tmp rfl (.tmp rfl .nil))) (deep_closed (show closed (.tup _) = true from (clL_cons rfl (clL_cons rfl (clL_cons rfl clL_nil))))) rfl
    · refine sR ?_
      refine mV rfl ?_
      refine bN i_eql rfl rfl ?_
      refine mV rfl ?_
      refine nS ?_
      refine rc_br hres rfl ?_ ?_ <;> clear hres <;> intro a1 hres <;> have a5 := a1 <;> try simp only [qa, qaD] at a5
      · refine sR ?_
        refine lD r0 rfl rfl rfl ?_
        refine mV rfl ?_
        refine mV rfl ?_
        obtain ⟨c9, b7, a8⟩ := sl_idx (i := x2) r1 (by omega) (by omega)
        refine rd_op (ov_iaddr rfl rfl b7) ?_
        refine lD a8 rfl rfl rfl ?_
        obtain ⟨d5, b1, hres⟩ := let_ex hres
        have b5 := f268_ok  r0 a8 
        rw [b1] at b5
        refine cL b5 rfl rfl (clL_cons (TR.clo expr_Scope.t r0) (clL_cons (TR.clo api_ExprNode.t a8) clL_nil)) ?_
        refine mV rfl ?_
        refine xT rfl rfl ?_
        refine xT rfl rfl ?_
        refine mV rfl ?_
        refine mV rfl ?_
        refine nR ?_
        refine mV rfl ?_
        refine mV rfl ?_
        refine bN i_add rfl rfl ?_
        refine mV rfl ?_
        refine mV rfl ?_
        refine mV rfl ?_
        refine mV rfl ?_
        refine nS ?_
        subst hres
        exact rc_retV (.tmp rfl (.tmp rfl (.tmp rfl .nil))) (deep_closed (show closed (.tup _) = true from (clL_cons rfl (clL_cons rfl (clL_cons rfl clL_nil))))) rfl
      · refine rc_skip ?_
        refine pn_blk ?_
        refine pn_seq ?_
        refine sR ?_
        refine rd_allocO (x := .agg [vi 0, vi 0, vi 0]) (Mem.nil ⟨0, []⟩) rfl rfl (fun d1 c6 c7 c1 => ?_)
        refine nR ?_
        refine mV rfl ?_
        refine bN i_add rfl rfl ?_
        refine mV rfl ?_
        refine nS ?_
        refine rc_seq ?_
        refine sR ?_
        refine mV rfl ?_
        refine mI rfl ?_
        refine nS ?_
        refine rc_block ?_
        refine wC (m1_expr_Scope__check_L1_ok r0 r1 h0 hb ihR hmu hrec a4 a2 a3 a1 ?_  (show (tAr 3 tI).R ([0, 0, 0] : List Int) (.agg [vi 0, vi 0, vi 0]) from ⟨rfl, [vi 0, vi 0, vi 0], [vi 0, vi 0, vi 0], ⟨rfl, ⟨rfl, ⟨rfl, trivial⟩⟩⟩, rfl, rfl⟩) rfl (by omega) (by (rw [wr_of (by omega) (by omega)]; omega)) (Mem.sub c1 (.cons_cons _ .slnil)) hres) rfl
        · intro b9 b0 b4 a0 d4 c2 hres
          refine px_blk ?_
          refine pn_seq ?_
          refine sR ?_
          refine mV rfl ?_
          refine mV rfl ?_
          obtain ⟨d2, c0, a6⟩ := sl_idx (i := x2) r1 (by omega) (by omega)
          refine rd_op (ov_iaddr rfl rfl c0) ?_
          refine lD a6 rfl rfl rfl ?_
          refine rd_op (ov_load0 (k := 0) c2 rfl rfl (TR.agg (tAr 3 tI) a0)) ?_
          obtain ⟨d0, b6, hres⟩ := let_ex hres
          have b3 := f269_ok  a6 a0 
          rw [b6] at b3
          refine cL b3 rfl rfl (clL_cons (TR.clo api_ExprNode.t a6) (clL_cons (TR.clo (tAr 3 tI) a0) clL_nil)) ?_
          refine mV rfl ?_
          refine xT rfl rfl ?_
          refine xT rfl rfl ?_
          refine mV rfl ?_
          refine mV rfl ?_
          refine nR ?_
          refine mV rfl ?_
          refine mV rfl ?_
          refine mV rfl ?_
          refine mV rfl ?_
          refine mV rfl ?_
          refine mV rfl ?_
          refine nS ?_
          subst hres
          exact rc_retV (.tmp rfl (.tmp rfl (.tmp rfl .nil))) (deep_closed (show closed (.tup _) = true from (clL_cons rfl (clL_cons rfl (clL_cons rfl clL_nil))))) rfl
theorem f226_okR : ∀ (n_ : Nat) {x0 : expr_Scope} {x1 : List api_ExprNode} {x2 : Int} {v0 v1 : PV} (r0 : expr_Scope.t.R x0 v0) (r1 : (tSl api_ExprNode.t).R x1 v1) (h0 : 0 ≤ x2) (hb : x1.length ≤ 1000000), (x1.length - x2.toNat) < n_ → FnR Tryz.prog 226 [v0, v1, vi x2] (.tup [vi ((m1_expr_Scope__check_R n_ x0 x1 x2).1), vi ((m1_expr_Scope__check_R n_ x0 x1 x2).2.1), vi ((m1_expr_Scope__check_R n_ x0 x1 x2).2.2)]) := by
  intro n_
  induction n_ with
  | zero => intros; rename_i hlt; exact absurd hlt (Nat.not_lt_zero _)
  | succ n_ ihn =>
    intro x0 x1 x2 v0 v1 r0 r1 h0 hb hlt
    have e_ : m1_expr_Scope__check_R (n_ + 1) x0 x1 x2 = m1_expr_Scope__check_B (m1_expr_Scope__check_R n_) x0 x1 x2 := by rw [m1_expr_Scope__check_R]
    rw [e_]
    exact f226_okB r0 r1 h0 hb rfl (check_next n_) (fun {z0} {z1} {z2} {zv0} {zv1} zr0 zr1 h0 hb hz => ihn zr0 zr1 h0 hb (by omega))
theorem f226_ok {x0 : expr_Scope} {x1 : List api_ExprNode} {x2 : Int} {v0 v1 : PV} (r0 : expr_Scope.t.R x0 v0) (r1 : (tSl api_ExprNode.t).R x1 v1) (h0 : 0 ≤ x2) (hb : x1.length ≤ 1000000) : FnR Tryz.prog 226 [v0, v1, vi x2] (.tup [vi ((m1_expr_Scope__check x0 x1 x2).1), vi ((m1_expr_Scope__check x0 x1 x2).2.1), vi ((m1_expr_Scope__check x0 x1 x2).2.2)]) := f226_okR _ r0 r1 h0 hb (Nat.lt_succ_self _)

end Go.Proofs.YtmonnlkagniolaaGreat
