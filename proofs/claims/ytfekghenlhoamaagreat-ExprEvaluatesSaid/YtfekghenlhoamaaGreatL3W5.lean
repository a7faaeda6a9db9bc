/-
 The code of each function does what its plain program says.
-/
import Derived.Test.YtfekghenlhoamaaGreatL3W4
set_option linter.unusedVariables false
set_option linter.unusedSimpArgs false
set_option maxRecDepth 100000
namespace Go.Proofs.YtfekghenlhoamaaGreat
open Go Go.Pb Go.RowKit
/-- patchbay/patchbaylaw13.ExprEvaluates -/
def RF3 (res : Bool) (r : PV) : Prop := r = vb res
theorem f3_ok {x0 : law13_Args} {v0 : PV} (r0 : law13_Args.t.R x0 v0) : FnR Tryz.prog 3 [v0] (vb (law13_ExprEvaluates x0)) := by
 obtain ⟨res, hres⟩ : ∃ res, law13_ExprEvaluates x0 = res := ⟨_, rfl⟩
 suffices H : RC Tryz.prog ac3 [] (QR Tryz.prog [(2, none)] (RF3 res)) (argE 0 [v0]) ⟨0, []⟩ by
  obtain ⟨r, h1, h2⟩ := fnE text3 (by simp) H
  rw [hres]
  have h2 : r = vb res := h2
  rw [← h2]; exact h1
 unfold law13_ExprEvaluates at hres
 unfold ac3
 refine rc_seq ?_
 refine rc_region ?_
 refine rd_op (ov_box rfl (TR.cnt law13_Args.t r0)) ?_
 refine rd_op (v := vb false) (ov_move rfl) ?_
 refine rd_nil ?_
 refine pn_seq ?_
 refine rc_seq ?_
 refine rc_seq ?_
 refine rc_region ?_
 obtain ⟨v101, e101, r101⟩ := law13_Args.g_Nodes r0
 refine rd_op (ov_faddr rfl e101) ?_
 refine rd_op (ov_load rfl (TR.cnt (tSl api_ExprNode.t) r101) (TR.agg (tSl api_ExprNode.t) r101)) ?_
 refine rd_op (ov_bi rfl (sl_len r101 Tryz.underlying32 _)) ?_
 refine rd_op (ov_bin rfl rfl i_gtr) ?_
 refine rd_nil ?_
 refine pn_seq ?_
 refine rc_cond rfl (fun hc102 => ?_) (fun hc102 => ?_)
 ·replace hres := (ite_t hc102).symm.trans hres
  have hc102' := hc102
  try simp only [qa1, qa2, qa3, qa4, qa5, qa6, qa7, qa8, qa9, qaA, qaB, qaC, qaD] at hc102'
  refine rc_seq ?_
  refine rc_region ?_
  obtain ⟨y103, hw103, hres⟩ := let_ex hres
  have f103 := f4_ok   
  rw [hw103] at f103
  refine rd_call (cv_fn rfl rfl clL_nil f103) ?_
  refine rd_op (ov_move rfl) ?_
  refine rd_nil ?_
  refine pn_seq ?_
  subst hres
  exact rc_retV (.tmp rfl .nil) (deep_closed rfl) rfl
 ·replace hres := (ite_f hc102).symm.trans hres
  have hc102' := hc102
  try simp only [qa1, qa2, qa3, qa4, qa5, qa6, qa7, qa8, qa9, qaA, qaB, qaC, qaD] at hc102'
  refine rc_skip ?_
  refine pn_seq ?_
  refine rc_seq ?_
  refine rc_region ?_
  obtain ⟨v104, e104, r104⟩ := law13_Args.g_Nodes r0
  refine rd_op (ov_faddr rfl e104) ?_
  refine rd_op (ov_load rfl (TR.cnt (tSl api_ExprNode.t) r104) (TR.agg (tSl api_ExprNode.t) r104)) ?_
  refine rd_op (ov_load rfl (TR.cnt law13_Args.t r0) (TR.agg law13_Args.t r0)) ?_
  obtain ⟨y105, hw105, hres⟩ := let_ex hres
  obtain ⟨v106, f105, r106⟩ := f6_ok  r0 
  rw [hw105] at r106
  refine rd_call (cv_fn rfl rfl (clL_cons (TR.clo law13_Args.t r0) clL_nil) f105) ?_
  obtain ⟨v107, e107, r107⟩ := law13_Args.g_E r0
  refine rd_op (ov_faddr rfl e107) ?_
  refine rd_op (ov_load rfl (TR.cnt api_Env.t r107) (TR.agg api_Env.t r107)) ?_
  obtain ⟨v108, e108, r108⟩ := law13_Args.g_Args r0
  refine rd_op (ov_faddr rfl e108) ?_
  refine rd_op (ov_load rfl (TR.cnt (tSl tU32) r108) (TR.agg (tSl tU32) r108)) ?_
  obtain ⟨y109, hw109, hres⟩ := let_ex hres
  have f109 := f5_ok  r104 r106 r107 r108 
  rw [hw109] at f109
  refine rd_call (cv_fn rfl rfl (clL_cons (TR.clo (tSl api_ExprNode.t) r104) (clL_cons (TR.clo expr_Scope.t r106) (clL_cons (TR.clo api_Env.t r107) (clL_cons (TR.clo (tSl tU32) r108) clL_nil)))) f109) ?_
  obtain ⟨v110, e110, r110⟩ := law13_Args.g_Nodes r0
  refine rd_op (ov_faddr rfl e110) ?_
  refine rd_op (ov_load rfl (TR.cnt (tSl api_ExprNode.t) r110) (TR.agg (tSl api_ExprNode.t) r110)) ?_
  obtain ⟨v111, e111, r111⟩ := law13_Args.g_P r0
  refine rd_op (ov_faddr rfl e111) ?_
  refine rd_op (ov_load rfl (TR.cnt api_Program.t r111) (TR.agg api_Program.t r111)) ?_
  obtain ⟨v112, e112, r112⟩ := law13_Args.g_Params r0
  refine rd_op (ov_faddr rfl e112) ?_
  refine rd_op (ov_load rfl (TR.cnt (tSl api_Field.t) r112) (TR.agg (tSl api_Field.t) r112)) ?_
  obtain ⟨v113_c1, v113_c2, v113_c3, v113_c4, v113_c5, v113_c6, v113_c7, v113_c8, e113, r113_c1, r113_c2, r113_c3, r113_c4, r113_c5, r113_c6, r113_c7, r113_c8⟩ := r111
  subst e113
  refine rd_op (v := .agg [vs x0.P.Name, v113_c1, v113_c2, v113_c3, v113_c4, v113_c5, v113_c6, v113_c7, v113_c8, v112]) (ov_build (cs := [vs x0.P.Name, v113_c1, v113_c2, v113_c3, v113_c4, v113_c5, v113_c6, v113_c7, v113_c8, v112]) rfl (by simp only [buildV, cells_one (TR.cnt (tSl api_Field.t) r112) (TR.agg (tSl api_Field.t) r112)]; rfl)) ?_
  obtain ⟨v114, e114, r114⟩ := law13_Args.g_E r0
  refine rd_op (ov_faddr rfl e114) ?_
  refine rd_op (ov_load rfl (TR.cnt api_Env.t r114) (TR.agg api_Env.t r114)) ?_
  obtain ⟨v115, e115, r115⟩ := law13_Args.g_Args r0
  refine rd_op (ov_faddr rfl e115) ?_
  refine rd_op (ov_load rfl (TR.cnt (tSl tU32) r115) (TR.agg (tSl tU32) r115)) ?_
  obtain ⟨y116, hw116, hres⟩ := let_ex hres
  have f116 := f7_ok  r110 (show expr_Scope.t.R ({ Program := x0.P, Params := x0.Params } : expr_Scope) (.agg [vs x0.P.Name, v113_c1, v113_c2, v113_c3, v113_c4, v113_c5, v113_c6, v113_c7, v113_c8, v112]) from ⟨v113_c1, v113_c2, v113_c3, v113_c4, v113_c5, v113_c6, v113_c7, v113_c8, v112, rfl, r113_c1, r113_c2, r113_c3, r113_c4, r113_c5, r113_c6, r113_c7, r113_c8, r112⟩) r114 r115 
  rw [hw116] at f116
  refine rd_call (cv_fn rfl rfl (clL_cons (TR.clo (tSl api_ExprNode.t) r110) (clL_cons (TR.clo expr_Scope.t (show expr_Scope.t.R ({ Program := x0.P, Params := x0.Params } : expr_Scope) (.agg [vs x0.P.Name, v113_c1, v113_c2, v113_c3, v113_c4, v113_c5, v113_c6, v113_c7, v113_c8, v112]) from ⟨v113_c1, v113_c2, v113_c3, v113_c4, v113_c5, v113_c6, v113_c7, v113_c8, v112, rfl, r113_c1, r113_c2, r113_c3, r113_c4, r113_c5, r113_c6, r113_c7, r113_c8, r112⟩)) (clL_cons (TR.clo api_Env.t r114) (clL_cons (TR.clo (tSl tU32) r115) clL_nil)))) f116) ?_
  refine rd_op (ov_bin (a := vu32 y109) (b := vu32 y116) rfl rfl w_eql) ?_
  refine rd_op (ov_move rfl) ?_
  refine rd_cut (d := 32) (v := vb ((decide (y109 = y116)) && (law13_awake))) ?_ ?_
  ·intro S Q r
   simp only [ac3_G1, List.cons_append, List.nil_append, List.append_assoc]
   cases hb117 : (decide (y109 = y116))
   ·intro k
    refine rd_skip rfl rfl ?_
    refine rd_op (v := vb false) (ov_pick rfl rfl rfl rfl) ?_
    exact rd_weak (sub_cons rfl (sub_skip rfl (sub_skip rfl (sub_refl _)))) k
   ·intro k
    have hb117' := hb117
    try simp only [qa1, qa2, qa3, qa4, qa5, qa6, qa7, qa8, qa9, qaA, qaB, qaC, qaD] at hb117'
    have f118 := f4_ok   
    refine rd_ycall rfl rfl (cv_fn rfl rfl clL_nil f118) ?_
    refine rd_op (v := vb (law13_awake)) (ov_pick rfl rfl rfl rfl) ?_
    exact rd_weak (sub_cons rfl (sub_skip rfl (sub_skip rfl (sub_refl _)))) k
  refine rd_op (ov_move rfl) ?_
  refine rd_nil ?_
  refine pn_seq ?_
  subst hres
  exact rc_retV (.tmp rfl .nil) (deep_closed rfl) rfl

end Go.Proofs.YtfekghenlhoamaaGreat
