/-
 The code of each function does what its plain program says.
-/
import Derived.Test.YtnejfbehaembkaaL4W1
set_option linter.unusedVariables false
set_option linter.unusedSimpArgs false
set_option maxRecDepth 100000
namespace Go.Proofs.Ytnejfbehaembkaa
open Go Go.Pb Go.RowKit
/-- patchbay/env.in[uint32] -/
def RF97 (res : Bool) (r : PV) : Prop := r = vb res
theorem f97_ok {x0 : List (BitVec 32)} {x1 : Int} {v0 : PV} (r0 : (tSl tU32).R x0 v0) : FnR Try.prog 97 [v0, vi x1] (vb (env_in_uint32 x0 x1)) := by
 obtain ⟨res, hres⟩ : ∃ res, env_in_uint32 x0 x1 = res := ⟨_, rfl⟩
 suffices H : RC Try.prog ac97 [] (QR Try.prog [(4, none)] (RF97 res)) (argE 0 [v0, vi x1]) ⟨0, []⟩ by
  obtain ⟨r, h1, h2⟩ := fnE text97 (by simp) H
  rw [hres]
  have h2 : r = vb res := h2
  rw [← h2]; exact h1
 unfold env_in_uint32 at hres
 unfold ac97
 refine rc_seq ?_
 refine rc_region ?_
 refine rd_op (v := vb false) (ov_move rfl) ?_
 refine rd_nil ?_
 refine pn_seq ?_
 refine rc_seq ?_
 refine rc_region ?_
 refine rd_op (ov_move rfl) ?_
 refine rd_op (ov_bin rfl rfl i_geq) ?_
 refine rd_op (ov_move rfl) ?_
 refine rd_cut (d := 12) (v := vb ((decide (0 ≤ x1)) && (decide (x1 < (x0.length : Int))))) ?_ ?_
 ·intro S Q r
  simp only [ac97_G1, List.cons_append, List.nil_append, List.append_assoc]
  cases hb101 : (decide (0 ≤ x1))
  ·intro k
   refine rd_skip rfl rfl ?_
   refine rd_skip rfl rfl ?_
   refine rd_skip rfl rfl ?_
   refine rd_skip rfl rfl ?_
   refine rd_op (v := vb false) (ov_pick rfl rfl rfl rfl) ?_
   exact rd_weak (sub_cons rfl (sub_skip rfl (sub_skip rfl (sub_skip rfl (sub_skip rfl (sub_skip rfl (sub_refl _))))))) k
  ·intro k
   have hb101' := hb101
   try simp only [qa1, qa2, qa3, qa4, qa5, qa6, qa7, qa8, qa9, qaA, qaB, qaC, qaD] at hb101'
   refine rd_yes rfl rfl (ov_move rfl) ?_
   refine rd_yes rfl rfl (ov_move rfl) ?_
   refine rd_yes rfl rfl (ov_bi rfl (sl_len r0 Try.underlying35 _)) ?_
   refine rd_yes rfl rfl (ov_bin rfl rfl i_lss) ?_
   refine rd_op (v := vb (decide (x1 < (x0.length : Int)))) (ov_pick rfl rfl rfl rfl) ?_
   exact rd_weak (sub_cons rfl (sub_skip rfl (sub_skip rfl (sub_skip rfl (sub_skip rfl (sub_skip rfl (sub_refl _))))))) k
 refine rd_op (ov_move rfl) ?_
 refine rd_nil ?_
 refine pn_seq ?_
 subst hres
 exact rc_retV (.tmp rfl .nil) (deep_closed rfl) rfl

/-- patchbay/env.at[[]uint32] -/
def RF98 (res : (List (BitVec 32))) (r : PV) : Prop := (tSl tU32).R res r
theorem f98_ok {x0 : List (List (BitVec 32))} {x1 : Int} {v0 : PV} (r0 : (tSl (tSl tU32)).R x0 v0) : ∃ r, FnR Try.prog 98 [v0, vi x1] r ∧ (tSl tU32).R (env_at__uint32_ x0 x1) r := by
 obtain ⟨res, hres⟩ : ∃ res, env_at__uint32_ x0 x1 = res := ⟨_, rfl⟩
 suffices H : RC Try.prog ac98 [] (QR Try.prog [(4, none)] (RF98 res)) (argE 0 [v0, vi x1]) ⟨0, []⟩ by
  rw [hres]
  exact fnE text98 (by simp) H
 unfold env_at__uint32_ at hres
 unfold ac98
 refine rc_seq ?_
 refine rc_region ?_
 refine rd_op (v := nilS) (ov_move rfl) ?_
 refine rd_nil ?_
 refine pn_seq ?_
 refine rc_seq ?_
 refine rc_region ?_
 refine rd_op (v := nilS) (ov_move rfl) ?_
 refine rd_nil ?_
 refine pn_seq ?_
 refine rc_seq ?_
 refine rc_seq ?_
 refine rc_region ?_
 refine rd_op (ov_move rfl) ?_
 refine rd_op (ov_bin rfl rfl i_lss) ?_
 refine rd_op (ov_move rfl) ?_
 refine rd_cut (d := 13) (v := vb ((decide (x1 < 0)) || (decide ((x0.length : Int) ≤ x1)))) ?_ ?_
 ·intro S Q r
  simp only [ac98_G1, List.cons_append, List.nil_append, List.append_assoc]
  cases hb101 : (decide (x1 < 0))
  ·intro k
   have hb101' := hb101
   try simp only [qa1, qa2, qa3, qa4, qa5, qa6, qa7, qa8, qa9, qaA, qaB, qaC, qaD] at hb101'
   refine rd_yes rfl rfl (ov_move rfl) ?_
   refine rd_yes rfl rfl (ov_move rfl) ?_
   refine rd_yes rfl rfl (ov_bi rfl (sl_len r0 Try.underlying34 _)) ?_
   refine rd_yes rfl rfl (ov_bin rfl rfl i_geq) ?_
   refine rd_op (v := vb (decide ((x0.length : Int) ≤ x1))) (ov_pick rfl rfl rfl rfl) ?_
   exact rd_weak (sub_cons rfl (sub_skip rfl (sub_skip rfl (sub_skip rfl (sub_skip rfl (sub_skip rfl (sub_refl _))))))) k
  ·intro k
   refine rd_skip rfl rfl ?_
   refine rd_skip rfl rfl ?_
   refine rd_skip rfl rfl ?_
   refine rd_skip rfl rfl ?_
   refine rd_op (v := vb true) (ov_pick rfl rfl rfl rfl) ?_
   exact rd_weak (sub_cons rfl (sub_skip rfl (sub_skip rfl (sub_skip rfl (sub_skip rfl (sub_skip rfl (sub_refl _))))))) k
 refine rd_nil ?_
 refine pn_seq ?_
 refine rc_cond rfl (fun hc102 => ?_) (fun hc102 => ?_)
 ·replace hres := (ite_t hc102).symm.trans hres
  have hc102' := hc102
  try simp only [qa1, qa2, qa3, qa4, qa5, qa6, qa7, qa8, qa9, qaA, qaB, qaC, qaD] at hc102'
  refine rc_seq ?_
  refine rc_region ?_
  refine rd_op (ov_move rfl) ?_
  refine rd_op (ov_move rfl) ?_
  refine rd_nil ?_
  refine pn_seq ?_
  subst hres
  exact rc_retV (.tmp rfl .nil) (deep_closed (TR.clo (tSl tU32) sl_nil)) sl_nil
 ·replace hres := (ite_f hc102).symm.trans hres
  have hc102' := hc102
  try simp only [qa1, qa2, qa3, qa4, qa5, qa6, qa7, qa8, qa9, qaA, qaB, qaC, qaD] at hc102'
  refine rc_skip ?_
  refine pn_seq ?_
  refine rc_seq ?_
  refine rc_region ?_
  refine rd_op (ov_move rfl) ?_
  refine rd_op (ov_move rfl) ?_
  obtain ⟨v103, e103, r103⟩ := sl_idx (i := x1) r0 (by omega) (by omega)
  refine rd_op (ov_iaddr rfl rfl e103) ?_
  refine rd_op (ov_load rfl (TR.cnt (tSl tU32) r103) (TR.agg (tSl tU32) r103)) ?_
  refine rd_op (ov_move rfl) ?_
  refine rd_nil ?_
  refine pn_seq ?_
  subst hres
  exact rc_retV (.tmp rfl .nil) (deep_closed (TR.clo (tSl tU32) r103)) r103

/-- patchbay/env.at[bool] -/
def RF99 (res : Bool) (r : PV) : Prop := r = vb res
theorem f99_ok {x0 : List Bool} {x1 : Int} {v0 : PV} (r0 : (tSl tB).R x0 v0) : FnR Try.prog 99 [v0, vi x1] (vb (env_at_bool x0 x1)) := by
 obtain ⟨res, hres⟩ : ∃ res, env_at_bool x0 x1 = res := ⟨_, rfl⟩
 suffices H : RC Try.prog ac99 [] (QR Try.prog [(4, none)] (RF99 res)) (argE 0 [v0, vi x1]) ⟨0, []⟩ by
  obtain ⟨r, h1, h2⟩ := fnE text99 (by simp) H
  rw [hres]
  have h2 : r = vb res := h2
  rw [← h2]; exact h1
 unfold env_at_bool at hres
 unfold ac99
 refine rc_seq ?_
 refine rc_region ?_
 refine rd_op (v := vb false) (ov_move rfl) ?_
 refine rd_nil ?_
 refine pn_seq ?_
 refine rc_seq ?_
 refine rc_region ?_
 refine rd_op (v := vb false) (ov_move rfl) ?_
 refine rd_nil ?_
 refine pn_seq ?_
 refine rc_seq ?_
 refine rc_seq ?_
 refine rc_region ?_
 refine rd_op (ov_move rfl) ?_
 refine rd_op (ov_bin rfl rfl i_lss) ?_
 refine rd_op (ov_move rfl) ?_
 refine rd_cut (d := 13) (v := vb ((decide (x1 < 0)) || (decide ((x0.length : Int) ≤ x1)))) ?_ ?_
 ·intro S Q r
  simp only [ac99_G1, List.cons_append, List.nil_append, List.append_assoc]
  cases hb101 : (decide (x1 < 0))
  ·intro k
   have hb101' := hb101
   try simp only [qa1, qa2, qa3, qa4, qa5, qa6, qa7, qa8, qa9, qaA, qaB, qaC, qaD] at hb101'
   refine rd_yes rfl rfl (ov_move rfl) ?_
   refine rd_yes rfl rfl (ov_move rfl) ?_
   refine rd_yes rfl rfl (ov_bi rfl (sl_len r0 Try.underlying33 _)) ?_
   refine rd_yes rfl rfl (ov_bin rfl rfl i_geq) ?_
   refine rd_op (v := vb (decide ((x0.length : Int) ≤ x1))) (ov_pick rfl rfl rfl rfl) ?_
   exact rd_weak (sub_cons rfl (sub_skip rfl (sub_skip rfl (sub_skip rfl (sub_skip rfl (sub_skip rfl (sub_refl _))))))) k
  ·intro k
   refine rd_skip rfl rfl ?_
   refine rd_skip rfl rfl ?_
   refine rd_skip rfl rfl ?_
   refine rd_skip rfl rfl ?_
   refine rd_op (v := vb true) (ov_pick rfl rfl rfl rfl) ?_
   exact rd_weak (sub_cons rfl (sub_skip rfl (sub_skip rfl (sub_skip rfl (sub_skip rfl (sub_skip rfl (sub_refl _))))))) k
 refine rd_nil ?_
 refine pn_seq ?_
 refine rc_cond rfl (fun hc102 => ?_) (fun hc102 => ?_)
 ·replace hres := (ite_t hc102).symm.trans hres
  have hc102' := hc102
  try simp only [qa1, qa2, qa3, qa4, qa5, qa6, qa7, qa8, qa9, qaA, qaB, qaC, qaD] at hc102'
  refine rc_seq ?_
  refine rc_region ?_
  refine rd_op (ov_move rfl) ?_
  refine rd_op (ov_move rfl) ?_
  refine rd_nil ?_
  refine pn_seq ?_
  subst hres
  exact rc_retV (.tmp rfl .nil) (deep_closed rfl) rfl
 ·replace hres := (ite_f hc102).symm.trans hres
  have hc102' := hc102
  try simp only [qa1, qa2, qa3, qa4, qa5, qa6, qa7, qa8, qa9, qaA, qaB, qaC, qaD] at hc102'
  refine rc_skip ?_
  refine pn_seq ?_
  refine rc_seq ?_
  refine rc_region ?_
  refine rd_op (ov_move rfl) ?_
  refine rd_op (ov_move rfl) ?_
  refine rd_op (ov_iaddr rfl rfl (slB r0 (by omega) (by omega))) ?_
  refine rd_op (ov_load rfl rfl rfl) ?_
  refine rd_op (ov_move rfl) ?_
  refine rd_nil ?_
  refine pn_seq ?_
  subst hres
  exact rc_retV (.tmp rfl .nil) (deep_closed rfl) rfl

/-- patchbay/env.element -/
def RF94 (res : (List (BitVec 32)) × Bool) (r : PV) : Prop := ∃ c0, r = .tup [c0, vb res.2] ∧ (tSl tU32).R res.1 c0
theorem f94_ok {x0 : api_Env} {x1 : api_FieldRef} {v0 : PV} {v1 : PV} (r0 : api_Env.t.R x0 v0) (r1 : api_FieldRef.t.R x1 v1) : ∃ c0, FnR Try.prog 94 [v0, v1] (.tup [c0, vb ((env_element x0 x1).2)]) ∧ (tSl tU32).R (env_element x0 x1).1 c0 := by
 obtain ⟨res, hres⟩ : ∃ res, env_element x0 x1 = res := ⟨_, rfl⟩
 suffices H : RC Try.prog ac94 [] (QR Try.prog [(4, none), (5, none)] (RF94 res)) (argE 0 [v0, v1]) ⟨0, []⟩ by
  rw [hres]
  obtain ⟨r, h1, c0, rfl, qc0⟩ := fnE text94 (by simp) H
  exact ⟨c0, h1, qc0⟩
 unfold env_element at hres
 unfold ac94
 refine rc_seq ?_
 refine rc_region ?_
 refine rd_op (ov_box rfl (TR.cnt api_Env.t r0)) ?_
 refine rd_op (ov_box rfl (TR.cnt api_FieldRef.t r1)) ?_
 refine rd_op (v := nilS) (ov_move rfl) ?_
 refine rd_op (v := vb false) (ov_move rfl) ?_
 refine rd_nil ?_
 refine pn_seq ?_
 refine rc_seq ?_
 refine rc_seq ?_
 refine rc_region ?_
 refine rd_op (ov_load rfl (TR.cnt api_FieldRef.t r1) (TR.agg api_FieldRef.t r1)) ?_
 refine rd_op (ov_faddr rfl (api_FieldRef.g_Field r1)) ?_
 refine rd_op (ov_load rfl rfl rfl) ?_
 refine rd_op (v := .agg [vi (-1), vi x1.Field]) (ov_build (cs := [vi (-1), vi x1.Field]) rfl rfl) ?_
 refine rd_op (ov_bin rfl rfl (api_FieldRef.eql_60 r1 (show api_FieldRef.t.R ({ Header := (-1), Field := x1.Field } : api_FieldRef) (.agg [vi (-1), vi x1.Field]) from rfl))) ?_
 refine rd_nil ?_
 refine pn_seq ?_
 refine rc_cond rfl (fun hc101 => ?_) (fun hc101 => ?_)
 ·replace hres := (ite_t hc101).symm.trans hres
  have hc101' := hc101
  try simp only [qa1, qa2, qa3, qa4, qa5, qa6, qa7, qa8, qa9, qaA, qaB, qaC, qaD] at hc101'
  refine rc_seq ?_
  refine rc_region ?_
  obtain ⟨v102, e102, r102⟩ := api_Env.g_Meta r0
  refine rd_op (ov_faddr rfl e102) ?_
  refine rd_op (ov_load rfl (TR.cnt (tSl tU32) r102) (TR.agg (tSl tU32) r102)) ?_
  obtain ⟨v103, e103, r103⟩ := api_Env.g_Meta r0
  refine rd_op (ov_faddr rfl e103) ?_
  refine rd_op (ov_load rfl (TR.cnt (tSl tU32) r103) (TR.agg (tSl tU32) r103)) ?_
  refine rd_op (ov_faddr rfl (api_FieldRef.g_Field r1)) ?_
  refine rd_op (ov_load rfl rfl rfl) ?_
  obtain ⟨y104, hw104, hres⟩ := let_ex hres
  have f104 := f97_ok (x1 := x1.Field) r103 
  rw [hw104] at f104
  refine rd_call (cv_fn rfl rfl (clL_cons (TR.clo (tSl tU32) r103) (clL_cons rfl clL_nil)) f104) ?_
  refine rd_op (ov_move rfl) ?_
  refine rd_op (ov_move rfl) ?_
  refine rd_nil ?_
  refine pn_seq ?_
  subst hres
  exact rc_retV (.tmp rfl (.tmp rfl .nil)) (deep_closed (show closed (.tup _) = true from (clL_cons (TR.clo (tSl tU32) r102) (clL_cons rfl clL_nil)))) ⟨v102, rfl, r102⟩
 ·replace hres := (ite_f hc101).symm.trans hres
  have hc101' := hc101
  try simp only [qa1, qa2, qa3, qa4, qa5, qa6, qa7, qa8, qa9, qaA, qaB, qaC, qaD] at hc101'
  refine rc_skip ?_
  refine pn_seq ?_
  refine rc_seq ?_
  refine rc_region ?_
  obtain ⟨v105, e105, r105⟩ := api_Env.g_Fields r0
  refine rd_op (ov_faddr rfl e105) ?_
  refine rd_op (ov_load rfl (TR.cnt (tSl (tSl tU32)) r105) (TR.agg (tSl (tSl tU32)) r105)) ?_
  refine rd_op (ov_faddr rfl (api_FieldRef.g_Header r1)) ?_
  refine rd_op (ov_load rfl rfl rfl) ?_
  obtain ⟨y106, hw106, hres⟩ := let_ex hres
  obtain ⟨v107, f106, r107⟩ := f98_ok (x1 := x1.Header) r105 
  rw [hw106] at r107
  refine rd_call (cv_fn rfl rfl (clL_cons (TR.clo (tSl (tSl tU32)) r105) (clL_cons rfl clL_nil)) f106) ?_
  refine rd_op (ov_move rfl) ?_
  refine rd_nil ?_
  refine pn_seq ?_
  refine rc_seq ?_
  refine rc_region ?_
  refine rd_op (ov_move rfl) ?_
  obtain ⟨v108, e108, r108⟩ := api_Env.g_Valid r0
  refine rd_op (ov_faddr rfl e108) ?_
  refine rd_op (ov_load rfl (TR.cnt (tSl tB) r108) (TR.agg (tSl tB) r108)) ?_
  refine rd_op (ov_faddr rfl (api_FieldRef.g_Header r1)) ?_
  refine rd_op (ov_load rfl rfl rfl) ?_
  obtain ⟨y109, hw109, hres⟩ := let_ex hres
  have f109 := f99_ok (x1 := x1.Header) r108 
  rw [hw109] at f109
  refine rd_call (cv_fn rfl rfl (clL_cons (TR.clo (tSl tB) r108) (clL_cons rfl clL_nil)) f109) ?_
  refine rd_op (ov_move rfl) ?_
  refine rd_cut (d := 35) (v := vb (y109 && (env_in_uint32 y106 x1.Field))) ?_ ?_
  ·intro S Q r
   simp only [ac94_G1, List.cons_append, List.nil_append, List.append_assoc]
   cases hb110 : y109
   ·intro k
    refine rd_skip rfl rfl ?_
    refine rd_skip rfl rfl ?_
    refine rd_skip rfl rfl ?_
    refine rd_skip rfl rfl ?_
    refine rd_op (v := vb false) (ov_pick rfl rfl rfl rfl) ?_
    exact rd_weak (sub_cons rfl (sub_skip rfl (sub_skip rfl (sub_skip rfl (sub_skip rfl (sub_skip rfl (sub_refl _))))))) k
   ·intro k
    have hb110' := hb110
    try simp only [qa1, qa2, qa3, qa4, qa5, qa6, qa7, qa8, qa9, qaA, qaB, qaC, qaD] at hb110'
    refine rd_yes rfl rfl (ov_move rfl) ?_
    refine rd_yes rfl rfl (ov_faddr rfl (api_FieldRef.g_Field r1)) ?_
    refine rd_yes rfl rfl (ov_load rfl rfl rfl) ?_
    have f111 := f97_ok (x1 := x1.Field) r107 
    refine rd_ycall rfl rfl (cv_fn rfl rfl (clL_cons (TR.clo (tSl tU32) r107) (clL_cons rfl clL_nil)) f111) ?_
    refine rd_op (v := vb (env_in_uint32 y106 x1.Field)) (ov_pick rfl rfl rfl rfl) ?_
    exact rd_weak (sub_cons rfl (sub_skip rfl (sub_skip rfl (sub_skip rfl (sub_skip rfl (sub_skip rfl (sub_refl _))))))) k
  refine rd_op (ov_move rfl) ?_
  refine rd_op (ov_move rfl) ?_
  refine rd_nil ?_
  refine pn_seq ?_
  subst hres
  exact rc_retV (.tmp rfl (.tmp rfl .nil)) (deep_closed (show closed (.tup _) = true from (clL_cons (TR.clo (tSl tU32) r107) (clL_cons rfl clL_nil)))) ⟨v107, rfl, r107⟩

/-- patchbay/env.Get -/
def RF74 (res : (BitVec 32)) (r : PV) : Prop := r = vu32 res
theorem f74_ok {x0 : api_Env} {x1 : api_FieldRef} {v0 : PV} {v1 : PV} (r0 : api_Env.t.R x0 v0) (r1 : api_FieldRef.t.R x1 v1) : FnR Try.prog 74 [v0, v1] (vu32 (env_Get x0 x1)) := by
 obtain ⟨res, hres⟩ : ∃ res, env_Get x0 x1 = res := ⟨_, rfl⟩
 suffices H : RC Try.prog ac74 [] (QR Try.prog [(4, none)] (RF74 res)) (argE 0 [v0, v1]) ⟨0, []⟩ by
  obtain ⟨r, h1, h2⟩ := fnE text74 (by simp) H
  rw [hres]
  have h2 : r = vu32 res := h2
  rw [← h2]; exact h1
 unfold env_Get at hres
 unfold ac74
 refine rc_seq ?_
 refine rc_region ?_
 refine rd_op (ov_box rfl (TR.cnt api_Env.t r0)) ?_
 refine rd_op (ov_box rfl (TR.cnt api_FieldRef.t r1)) ?_
 refine rd_op (v := vu32 0#32) (ov_move rfl) ?_
 refine rd_nil ?_
 refine pn_seq ?_
 refine rc_seq ?_
 refine rc_region ?_
 refine rd_op (ov_load rfl (TR.cnt api_Env.t r0) (TR.agg api_Env.t r0)) ?_
 refine rd_op (ov_load rfl (TR.cnt api_FieldRef.t r1) (TR.agg api_FieldRef.t r1)) ?_
 obtain ⟨y101, hw101, hres⟩ := let_ex hres
 obtain ⟨v102, f101, r102⟩ := f94_ok  r0 r1 
 rw [hw101] at f101 r102
 refine rd_call (cv_fn rfl rfl (clL_cons (TR.clo api_Env.t r0) (clL_cons (TR.clo api_FieldRef.t r1) clL_nil)) f101) ?_
 refine rd_op (ov_move rfl) ?_
 refine rd_op (ov_extract rfl rfl) ?_
 refine rd_op (ov_extract rfl rfl) ?_
 refine rd_op (ov_move rfl) ?_
 refine rd_op (ov_move rfl) ?_
 refine rd_nil ?_
 refine pn_seq ?_
 refine rc_seq ?_
 refine rc_seq ?_
 refine rc_region ?_
 refine rd_op (ov_move rfl) ?_
 refine rd_op (ov_not rfl) ?_
 refine rd_nil ?_
 refine pn_seq ?_
 refine rc_cond rfl (fun hc103 => ?_) (fun hc103 => ?_)
 ·replace hres := (ite_t hc103).symm.trans hres
  have hc103' := hc103
  try simp only [qa1, qa2, qa3, qa4, qa5, qa6, qa7, qa8, qa9, qaA, qaB, qaC, qaD] at hc103'
  refine rc_seq ?_
  refine rc_region ?_
  refine rd_op (v := vu32 0#32) (ov_move rfl) ?_
  refine rd_nil ?_
  refine pn_seq ?_
  subst hres
  exact rc_retV (.tmp rfl .nil) (deep_closed rfl) rfl
 ·replace hres := (ite_f hc103).symm.trans hres
  have hc103' := hc103
  try simp only [qa1, qa2, qa3, qa4, qa5, qa6, qa7, qa8, qa9, qaA, qaB, qaC, qaD] at hc103'
  refine rc_skip ?_
  refine pn_seq ?_
  refine rc_seq ?_
  refine rc_region ?_
  refine rd_op (ov_move rfl) ?_
  refine rd_op (ov_faddr rfl (api_FieldRef.g_Field r1)) ?_
  refine rd_op (ov_load rfl rfl rfl) ?_
  refine rd_op (ov_iaddr rfl rfl (slU32 r102 (by first | omega | exact (el_ok (by assumption) (by assumption)).1 | exact (el_ok (by assumption) (by assumption)).2) (by first | omega | exact (el_ok (by assumption) (by assumption)).1 | exact (el_ok (by assumption) (by assumption)).2))) ?_
  refine rd_op (ov_load rfl rfl rfl) ?_
  refine rd_op (ov_move rfl) ?_
  refine rd_nil ?_
  refine pn_seq ?_
  subst hres
  exact rc_retV (.tmp rfl .nil) (deep_closed rfl) rfl

/-- (*patchbay/expr.machine).load -/
def RF46 (i0_ w0_ : Nat) (R_ : List Ent) (res : expr_value × expr_machine) (r : PV) (h : Heap) : Prop := ∃ uF0 : PV, ∃ c0_ : PV, Mem h (⟨.op i0_ w0_ 0, 86, 17, [uF0]⟩ :: R_) ∧ (expr_machine.t.R res.2 uF0) ∧ r = c0_ ∧ expr_value.t.R res.1 c0_
theorem f46_ok {x0 : expr_machine} {x1 : api_ExprNode} {v1 : PV} {u0_ : PV} {R_ : List Ent} {h_ : Heap} {i0_ w0_ : Nat} (r1 : api_ExprNode.t.R x1 v1) (ru0_ : expr_machine.t.R x0 u0_) (M_ : Mem h_ (⟨.op i0_ w0_ 0, 86, 17, [u0_]⟩ :: R_)) (hp : (m1_expr_Scope__primary x0.scope x1).2 = 0) : ∃ r h2_, FnX Try.prog 46 [.op i0_ w0_ 0, v1] h_ r h2_ ∧ RF46 i0_ w0_ R_ (m2_expr_machine__load x0 x1) r h2_ := by
 obtain ⟨res, hres⟩ : ∃ res, m2_expr_machine__load x0 x1 = res := ⟨_, rfl⟩
 suffices H : RC Try.prog ac46 [] (retPost Try.prog [(4, some (2, true))] (RF46 i0_ w0_ R_ res)) (argE 0 [.op i0_ w0_ 0, v1]) h_ by
  rw [hres]
  exact fnX text46 (by simp) H
 unfold m2_expr_machine__load at hres
 unfold ac46
 refine rc_seq ?_
 refine rc_region ?_
 refine rd_op (ov_box rfl (TR.cnt api_ExprNode.t r1)) ?_
 refine rd_allocO (x := .agg [vu32 0#32, vi 0]) M_ rfl rfl (fun i101 w101 h101 M101 => ?_)
 refine rd_nil ?_
 refine pn_seq ?_
 refine rc_seq ?_
 refine rc_region ?_
 refine rd_op (ov_move rfl) ?_
 refine rd_op (ov_nilCheck rfl rfl) ?_
 refine rd_op (ov_faddrO rfl) ?_
 obtain ⟨v103, e103, r103⟩ := expr_machine.g_scope ru0_
 refine rd_op (ov_loadf (k := 1) M101 rfl rfl e103) ?_
 refine rd_op (ov_load rfl (TR.cnt api_ExprNode.t r1) (TR.agg api_ExprNode.t r1)) ?_
 obtain ⟨y104, hw104, hres⟩ := let_ex hres
 have f104 := f37_ok  r103 r1 
 rw [hw104] at f104
 refine rd_call (cv_fn rfl rfl (clL_cons (TR.clo expr_Scope.t r103) (clL_cons (TR.clo api_ExprNode.t r1) clL_nil)) f104) ?_
 refine rd_op (ov_move rfl) ?_
 refine rd_op (ov_extract rfl rfl) ?_
 refine rd_op (ov_extract rfl rfl) ?_
 refine rd_op (ov_move rfl) ?_
 refine rd_op (ov_move rfl) ?_
 refine rd_nil ?_
 refine pn_seq ?_
 refine rc_seq ?_
 refine rc_region ?_
 refine rd_op (v := vu32 0#32) (ov_move rfl) ?_
 refine rd_nil ?_
 refine pn_seq ?_
 refine rc_seq ?_
 refine rc_seq ?_
 refine rc_region ?_
 refine rd_op (ov_faddr rfl (api_ExprNode.g_Op r1)) ?_
 refine rd_op (ov_load rfl rfl rfl) ?_
 refine rd_nil ?_
 refine pn_seq ?_
 refine rc_block ?_
 refine rc_seq ?_
 refine rc_region ?_
 refine rd_op (ov_bin rfl rfl i_eql) ?_
 refine rd_op (ov_move rfl) ?_
 refine rd_nil ?_
 refine pn_seq ?_
 refine rc_cond rfl (fun hc105 => ?_) (fun hc105 => ?_)
 ·replace hres := (ite_t hc105).symm.trans hres
  have hc105' := hc105
  try simp only [qa1, qa2, qa3, qa4, qa5, qa6, qa7, qa8, qa9, qaA, qaB, qaC, qaD] at hc105'
  refine rc_region ?_
  refine rd_op (ov_faddr rfl (api_ExprNode.g_N r1)) ?_
  refine rd_op (ov_load rfl rfl rfl) ?_
  refine rd_op (ov_conv (a := vi x1.N) rfl (c_iw Try.underlying3 Try.underlying57)) ?_
  refine rd_op (ov_move rfl) ?_
  refine rd_nil ?_
  refine pn_blk ?_
  refine pn_seq ?_
  refine rc_seq ?_
  refine rc_region ?_
  refine rd_op (ov_move rfl) ?_
  refine rd_op (ov_move rfl) ?_
  obtain ⟨y106, hw106, hres⟩ := let_ex hres
  have f106 := f50_ok (x0 := y104.1)  
  rw [hw106] at f106
  refine rd_call (cv_fn rfl rfl (clL_cons rfl clL_nil) f106) ?_
  refine rd_op (ov_bin (a := vu32 (BitVec.ofInt 32 x1.N)) (b := vu32 y106) rfl rfl w_and) ?_
  refine rd_op (ov_move rfl) ?_
  refine rd_op (v := .agg [vu32 ((BitVec.ofInt 32 x1.N) &&& y106), vi y104.1]) (ov_build (cs := [vu32 ((BitVec.ofInt 32 x1.N) &&& y106), vi y104.1]) rfl rfl) ?_
  refine rd_storeO (k := 0) (v := .agg [vu32 ((BitVec.ofInt 32 x1.N) &&& y106), vi y104.1]) M101 rfl rfl rfl rfl (fun h107 M107 => ?_)
  replace M107 : Mem h107 (⟨.op i101 w101 0, 88, 2, [.agg [vu32 ((BitVec.ofInt 32 x1.N) &&& y106), vi y104.1]]⟩ :: ⟨.op i0_ w0_ 0, 86, 17, [u0_]⟩ :: R_) := M107
  refine rd_nil ?_
  refine pn_seq ?_
  have MZ108 : Mem h107 (⟨.op i0_ w0_ 0, 86, 17, [u0_]⟩ :: ⟨.op i101 w101 0, 88, 2, [.agg [vu32 ((BitVec.ofInt 32 x1.N) &&& y106), vi y104.1]]⟩ :: R_) := (Mem.front (k := 1) M107 rfl)
  subst hres
  exact rc_retX (.cell rfl (load_whole (k := 0) M107 rfl rfl) .nil) ⟨u0_, (.agg [vu32 ((BitVec.ofInt 32 x1.N) &&& y106), vi y104.1]), Mem.sub MZ108 (.cons_cons _ (.cons _ (List.Sublist.refl R_))), ru0_, rfl, (show expr_value.t.R ({ v := ((BitVec.ofInt 32 x1.N) &&& y106), w := y104.1 } : expr_value) (.agg [vu32 ((BitVec.ofInt 32 x1.N) &&& y106), vi y104.1]) from rfl)⟩
 ·replace hres := (ite_f hc105).symm.trans hres
  have hc105' := hc105
  try simp only [qa1, qa2, qa3, qa4, qa5, qa6, qa7, qa8, qa9, qaA, qaB, qaC, qaD] at hc105'
  refine rc_seq ?_
  refine rc_region ?_
  refine rd_op (ov_bin rfl rfl i_eql) ?_
  refine rd_op (ov_move rfl) ?_
  refine rd_nil ?_
  refine pn_seq ?_
  refine rc_cond rfl (fun hc109 => ?_) (fun hc109 => ?_)
  ·replace hres := (ite_t hc109).symm.trans hres
   have hc109' := hc109
   try simp only [qa1, qa2, qa3, qa4, qa5, qa6, qa7, qa8, qa9, qaA, qaB, qaC, qaD] at hc109'
   refine rc_region ?_
   refine rd_op (ov_move rfl) ?_
   refine rd_op (ov_nilCheck rfl rfl) ?_
   refine rd_op (ov_faddrO rfl) ?_
   obtain ⟨v110, e110, r110⟩ := expr_machine.g_env ru0_
   refine rd_op (ov_loadf (k := 1) M101 rfl rfl e110) ?_
   refine rd_op (ov_faddr rfl (api_ExprNode.g_N r1)) ?_
   refine rd_op (ov_load rfl rfl rfl) ?_
   refine rd_op (ov_faddr rfl (api_ExprNode.g_W r1)) ?_
   refine rd_op (ov_load rfl rfl rfl) ?_
   refine rd_op (v := .agg [vi x1.N, vi x1.W]) (ov_build (cs := [vi x1.N, vi x1.W]) rfl rfl) ?_
   obtain ⟨y111, hw111, hres⟩ := let_ex hres
   have f111 := f74_ok  r110 (show api_FieldRef.t.R ({ Header := x1.N, Field := x1.W } : api_FieldRef) (.agg [vi x1.N, vi x1.W]) from rfl) 
   rw [hw111] at f111
   refine rd_call (cv_fn rfl rfl (clL_cons (TR.clo api_Env.t r110) (clL_cons (TR.clo api_FieldRef.t (show api_FieldRef.t.R ({ Header := x1.N, Field := x1.W } : api_FieldRef) (.agg [vi x1.N, vi x1.W]) from rfl)) clL_nil)) f111) ?_
   refine rd_op (ov_move rfl) ?_
   refine rd_nil ?_
   refine pn_blk ?_
   refine pn_seq ?_
   refine rc_seq ?_
   refine rc_region ?_
   refine rd_op (ov_move rfl) ?_
   refine rd_op (ov_move rfl) ?_
   obtain ⟨y112, hw112, hres⟩ := let_ex hres
   have f112 := f50_ok (x0 := y104.1)  
   rw [hw112] at f112
   refine rd_call (cv_fn rfl rfl (clL_cons rfl clL_nil) f112) ?_
   refine rd_op (ov_bin (a := vu32 y111) (b := vu32 y112) rfl rfl w_and) ?_
   refine rd_op (ov_move rfl) ?_
   refine rd_op (v := .agg [vu32 (y111 &&& y112), vi y104.1]) (ov_build (cs := [vu32 (y111 &&& y112), vi y104.1]) rfl rfl) ?_
   refine rd_storeO (k := 0) (v := .agg [vu32 (y111 &&& y112), vi y104.1]) M101 rfl rfl rfl rfl (fun h113 M113 => ?_)
   replace M113 : Mem h113 (⟨.op i101 w101 0, 88, 2, [.agg [vu32 (y111 &&& y112), vi y104.1]]⟩ :: ⟨.op i0_ w0_ 0, 86, 17, [u0_]⟩ :: R_) := M113
   refine rd_nil ?_
   refine pn_seq ?_
   have MZ114 : Mem h113 (⟨.op i0_ w0_ 0, 86, 17, [u0_]⟩ :: ⟨.op i101 w101 0, 88, 2, [.agg [vu32 (y111 &&& y112), vi y104.1]]⟩ :: R_) := (Mem.front (k := 1) M113 rfl)
   subst hres
   exact rc_retX (.cell rfl (load_whole (k := 0) M113 rfl rfl) .nil) ⟨u0_, (.agg [vu32 (y111 &&& y112), vi y104.1]), Mem.sub MZ114 (.cons_cons _ (.cons _ (List.Sublist.refl R_))), ru0_, rfl, (show expr_value.t.R ({ v := (y111 &&& y112), w := y104.1 } : expr_value) (.agg [vu32 (y111 &&& y112), vi y104.1]) from rfl)⟩
  ·replace hres := (ite_f hc109).symm.trans hres
   have hc109' := hc109
   try simp only [qa1, qa2, qa3, qa4, qa5, qa6, qa7, qa8, qa9, qaA, qaB, qaC, qaD] at hc109'
   refine rc_seq ?_
   refine rc_region ?_
   refine rd_op (ov_bin rfl rfl i_eql) ?_
   refine rd_op (ov_move rfl) ?_
   refine rd_nil ?_
   refine pn_seq ?_
   refine rc_cond rfl (fun hc115 => ?_) (fun hc115 => ?_)
   ·replace hres := (ite_t hc115).symm.trans hres
    have hc115' := hc115
    try simp only [qa1, qa2, qa3, qa4, qa5, qa6, qa7, qa8, qa9, qaA, qaB, qaC, qaD] at hc115'
    refine rc_seq ?_
    refine rc_region ?_
    refine rd_op (ov_faddr rfl (api_ExprNode.g_N r1)) ?_
    refine rd_op (ov_load rfl rfl rfl) ?_
    refine rd_op (ov_move rfl) ?_
    refine rd_op (ov_nilCheck rfl rfl) ?_
    refine rd_op (ov_faddrO rfl) ?_
    obtain ⟨v116, e116, r116⟩ := expr_machine.g_args ru0_
    refine rd_op (ov_loadf (k := 1) M101 rfl rfl e116) ?_
    refine rd_op (ov_bi rfl (sl_len r116 Try.underlying35 _)) ?_
    refine rd_op (ov_bin rfl rfl i_lss) ?_
    refine rd_nil ?_
    refine pn_seq ?_
    refine rc_cond rfl (fun hc117 => ?_) (fun hc117 => ?_)
    ·replace hres := (ite_t hc117).symm.trans hres
     have hc117' := hc117
     try simp only [qa1, qa2, qa3, qa4, qa5, qa6, qa7, qa8, qa9, qaA, qaB, qaC, qaD] at hc117'
     refine rc_region ?_
     refine rd_op (ov_move rfl) ?_
     refine rd_op (ov_nilCheck rfl rfl) ?_
     refine rd_op (ov_faddrO rfl) ?_
     obtain ⟨v118, e118, r118⟩ := expr_machine.g_args ru0_
     refine rd_op (ov_loadf (k := 1) M101 rfl rfl e118) ?_
     refine rd_op (ov_faddr rfl (api_ExprNode.g_N r1)) ?_
     refine rd_op (ov_load rfl rfl rfl) ?_
     refine rd_op (ov_iaddr rfl rfl (slU32 r118 (by first | omega | (have hk := pr3 hp (by assumption); omega) | (have hk := pr4 hp (by assumption); omega)) (by first | omega | (have hk := pr3 hp (by assumption); omega) | (have hk := pr4 hp (by assumption); omega)))) ?_
     refine rd_op (ov_load rfl rfl rfl) ?_
     refine rd_op (ov_move rfl) ?_
     refine rd_nil ?_
     refine pn_blk ?_
     refine pn_seq ?_
     refine rc_seq ?_
     refine rc_region ?_
     refine rd_op (ov_move rfl) ?_
     refine rd_op (ov_move rfl) ?_
     obtain ⟨y119, hw119, hres⟩ := let_ex hres
     have f119 := f50_ok (x0 := y104.1)  
     rw [hw119] at f119
     refine rd_call (cv_fn rfl rfl (clL_cons rfl clL_nil) f119) ?_
     refine rd_op (ov_bin (a := vu32 (ix x0.args x1.N)) (b := vu32 y119) rfl rfl w_and) ?_
     refine rd_op (ov_move rfl) ?_
     refine rd_op (v := .agg [vu32 ((ix x0.args x1.N) &&& y119), vi y104.1]) (ov_build (cs := [vu32 ((ix x0.args x1.N) &&& y119), vi y104.1]) rfl rfl) ?_
     refine rd_storeO (k := 0) (v := .agg [vu32 ((ix x0.args x1.N) &&& y119), vi y104.1]) M101 rfl rfl rfl rfl (fun h120 M120 => ?_)
     replace M120 : Mem h120 (⟨.op i101 w101 0, 88, 2, [.agg [vu32 ((ix x0.args x1.N) &&& y119), vi y104.1]]⟩ :: ⟨.op i0_ w0_ 0, 86, 17, [u0_]⟩ :: R_) := M120
     refine rd_nil ?_
     refine pn_seq ?_
     have MZ121 : Mem h120 (⟨.op i0_ w0_ 0, 86, 17, [u0_]⟩ :: ⟨.op i101 w101 0, 88, 2, [.agg [vu32 ((ix x0.args x1.N) &&& y119), vi y104.1]]⟩ :: R_) := (Mem.front (k := 1) M120 rfl)
     subst hres
     exact rc_retX (.cell rfl (load_whole (k := 0) M120 rfl rfl) .nil) ⟨u0_, (.agg [vu32 ((ix x0.args x1.N) &&& y119), vi y104.1]), Mem.sub MZ121 (.cons_cons _ (.cons _ (List.Sublist.refl R_))), ru0_, rfl, (show expr_value.t.R ({ v := ((ix x0.args x1.N) &&& y119), w := y104.1 } : expr_value) (.agg [vu32 ((ix x0.args x1.N) &&& y119), vi y104.1]) from rfl)⟩
    ·replace hres := (ite_f hc117).symm.trans hres
     have hc117' := hc117
     try simp only [qa1, qa2, qa3, qa4, qa5, qa6, qa7, qa8, qa9, qaA, qaB, qaC, qaD] at hc117'
     refine rc_skip ?_
     refine pn_blk ?_
     refine pn_seq ?_
     refine rc_seq ?_
     refine rc_region ?_
     refine rd_op (ov_move rfl) ?_
     refine rd_op (ov_move rfl) ?_
     obtain ⟨y122, hw122, hres⟩ := let_ex hres
     have f122 := f50_ok (x0 := y104.1)  
     rw [hw122] at f122
     refine rd_call (cv_fn rfl rfl (clL_cons rfl clL_nil) f122) ?_
     refine rd_op (ov_bin (a := vu32 0#32) (b := vu32 y122) rfl rfl w_and) ?_
     refine rd_op (ov_move rfl) ?_
     refine rd_op (v := .agg [vu32 (0#32 &&& y122), vi y104.1]) (ov_build (cs := [vu32 (0#32 &&& y122), vi y104.1]) rfl rfl) ?_
     refine rd_storeO (k := 0) (v := .agg [vu32 (0#32 &&& y122), vi y104.1]) M101 rfl rfl rfl rfl (fun h123 M123 => ?_)
     replace M123 : Mem h123 (⟨.op i101 w101 0, 88, 2, [.agg [vu32 (0#32 &&& y122), vi y104.1]]⟩ :: ⟨.op i0_ w0_ 0, 86, 17, [u0_]⟩ :: R_) := M123
     refine rd_nil ?_
     refine pn_seq ?_
     have MZ124 : Mem h123 (⟨.op i0_ w0_ 0, 86, 17, [u0_]⟩ :: ⟨.op i101 w101 0, 88, 2, [.agg [vu32 (0#32 &&& y122), vi y104.1]]⟩ :: R_) := (Mem.front (k := 1) M123 rfl)
     subst hres
     exact rc_retX (.cell rfl (load_whole (k := 0) M123 rfl rfl) .nil) ⟨u0_, (.agg [vu32 (0#32 &&& y122), vi y104.1]), Mem.sub MZ124 (.cons_cons _ (.cons _ (List.Sublist.refl R_))), ru0_, rfl, (show expr_value.t.R ({ v := (0#32 &&& y122), w := y104.1 } : expr_value) (.agg [vu32 (0#32 &&& y122), vi y104.1]) from rfl)⟩
   ·replace hres := (ite_f hc115).symm.trans hres
    have hc115' := hc115
    try simp only [qa1, qa2, qa3, qa4, qa5, qa6, qa7, qa8, qa9, qaA, qaB, qaC, qaD] at hc115'
    refine rc_seq ?_
    refine rc_region ?_
    refine rd_op (ov_bin rfl rfl i_eql) ?_
    refine rd_op (ov_move rfl) ?_
    refine rd_nil ?_
    refine pn_seq ?_
    refine rc_cond rfl (fun hc125 => ?_) (fun hc125 => ?_)
    ·replace hres := (ite_t hc125).symm.trans hres
     have hc125' := hc125
     try simp only [qa1, qa2, qa3, qa4, qa5, qa6, qa7, qa8, qa9, qaA, qaB, qaC, qaD] at hc125'
     refine rc_seq ?_
     refine rc_region ?_
     refine rd_op (ov_faddr rfl (api_ExprNode.g_N r1)) ?_
     refine rd_op (ov_load rfl rfl rfl) ?_
     refine rd_op (ov_move rfl) ?_
     refine rd_op (ov_nilCheck rfl rfl) ?_
     refine rd_op (ov_faddrO rfl) ?_
     refine rd_op (ov_faddrO rfl) ?_
     obtain ⟨v126, e126, r126⟩ := expr_machine.g_env ru0_
     obtain ⟨v127, e127, r127⟩ := api_Env.g_Valid r126
     refine rd_op (ov_loadf (k := 1) M101 rfl rfl (field_field e126 e127)) ?_
     refine rd_op (ov_bi rfl (sl_len r127 Try.underlying33 _)) ?_
     refine rd_op (ov_bin rfl rfl i_lss) ?_
     refine rd_op (ov_move rfl) ?_
     refine rd_cut (d := 75) (v := vb ((decide (x1.N < (x0.env.Valid.length : Int))) && (ix x0.env.Valid x1.N))) ?_ ?_
     ·intro S Q r
      simp only [ac46_G1, List.cons_append, List.nil_append, List.append_assoc]
      cases hb128 : (decide (x1.N < (x0.env.Valid.length : Int)))
      ·intro k
       refine rd_skip rfl rfl ?_
       refine rd_skip rfl rfl ?_
       refine rd_skip rfl rfl ?_
       refine rd_skip rfl rfl ?_
       refine rd_skip rfl rfl ?_
       refine rd_skip rfl rfl ?_
       refine rd_skip rfl rfl ?_
       refine rd_skip rfl rfl ?_
       refine rd_skip rfl rfl ?_
       refine rd_op (v := vb false) (ov_pick rfl rfl rfl rfl) ?_
       exact rd_weak (sub_cons rfl (sub_skip rfl (sub_skip rfl (sub_skip rfl (sub_skip rfl (sub_skip rfl (sub_skip rfl (sub_skip rfl (sub_skip rfl (sub_skip rfl (sub_skip rfl (sub_refl _)))))))))))) k
      ·intro k
       have hb128' := hb128
       try simp only [qa1, qa2, qa3, qa4, qa5, qa6, qa7, qa8, qa9, qaA, qaB, qaC, qaD] at hb128'
       refine rd_yes rfl rfl (ov_move rfl) ?_
       refine rd_yes rfl rfl (ov_nilCheck rfl rfl) ?_
       refine rd_yes rfl rfl (ov_faddrO rfl) ?_
       refine rd_yes rfl rfl (ov_faddrO rfl) ?_
       obtain ⟨v129, e129, r129⟩ := expr_machine.g_env ru0_
       obtain ⟨v130, e130, r130⟩ := api_Env.g_Valid r129
       refine rd_yes rfl rfl (ov_loadf (k := 1) M101 rfl rfl (field_field e129 e130)) ?_
       refine rd_yes rfl rfl (ov_faddr rfl (api_ExprNode.g_N r1)) ?_
       refine rd_yes rfl rfl (ov_load rfl rfl rfl) ?_
       refine rd_yes rfl rfl (ov_iaddr rfl rfl (slB r130 (by first | omega | (have hk := pr3 hp (by assumption); omega) | (have hk := pr4 hp (by assumption); omega)) (by first | omega | (have hk := pr3 hp (by assumption); omega) | (have hk := pr4 hp (by assumption); omega)))) ?_
       refine rd_yes rfl rfl (ov_load rfl rfl rfl) ?_
       refine rd_op (v := vb (ix x0.env.Valid x1.N)) (ov_pick rfl rfl rfl rfl) ?_
       exact rd_weak (sub_cons rfl (sub_skip rfl (sub_skip rfl (sub_skip rfl (sub_skip rfl (sub_skip rfl (sub_skip rfl (sub_skip rfl (sub_skip rfl (sub_skip rfl (sub_skip rfl (sub_refl _)))))))))))) k
     refine rd_nil ?_
     refine pn_seq ?_
     refine rc_cond rfl (fun hc131 => ?_) (fun hc131 => ?_)
     ·replace hres := (ite_t hc131).symm.trans hres
      have hc131' := hc131
      try simp only [qa1, qa2, qa3, qa4, qa5, qa6, qa7, qa8, qa9, qaA, qaB, qaC, qaD] at hc131'
      refine rc_region ?_
      refine rd_op (v := vu32 1#32) (ov_move rfl) ?_
      refine rd_nil ?_
      refine pn_blk ?_
      refine pn_seq ?_
      refine rc_seq ?_
      refine rc_region ?_
      refine rd_op (ov_move rfl) ?_
      refine rd_op (ov_move rfl) ?_
      obtain ⟨y132, hw132, hres⟩ := let_ex hres
      have f132 := f50_ok (x0 := y104.1)  
      rw [hw132] at f132
      refine rd_call (cv_fn rfl rfl (clL_cons rfl clL_nil) f132) ?_
      refine rd_op (ov_bin (a := vu32 1#32) (b := vu32 y132) rfl rfl w_and) ?_
      refine rd_op (ov_move rfl) ?_
      refine rd_op (v := .agg [vu32 (1#32 &&& y132), vi y104.1]) (ov_build (cs := [vu32 (1#32 &&& y132), vi y104.1]) rfl rfl) ?_
      refine rd_storeO (k := 0) (v := .agg [vu32 (1#32 &&& y132), vi y104.1]) M101 rfl rfl rfl rfl (fun h133 M133 => ?_)
      replace M133 : Mem h133 (⟨.op i101 w101 0, 88, 2, [.agg [vu32 (1#32 &&& y132), vi y104.1]]⟩ :: ⟨.op i0_ w0_ 0, 86, 17, [u0_]⟩ :: R_) := M133
      refine rd_nil ?_
      refine pn_seq ?_
      have MZ134 : Mem h133 (⟨.op i0_ w0_ 0, 86, 17, [u0_]⟩ :: ⟨.op i101 w101 0, 88, 2, [.agg [vu32 (1#32 &&& y132), vi y104.1]]⟩ :: R_) := (Mem.front (k := 1) M133 rfl)
      subst hres
      exact rc_retX (.cell rfl (load_whole (k := 0) M133 rfl rfl) .nil) ⟨u0_, (.agg [vu32 (1#32 &&& y132), vi y104.1]), Mem.sub MZ134 (.cons_cons _ (.cons _ (List.Sublist.refl R_))), ru0_, rfl, (show expr_value.t.R ({ v := (1#32 &&& y132), w := y104.1 } : expr_value) (.agg [vu32 (1#32 &&& y132), vi y104.1]) from rfl)⟩
     ·replace hres := (ite_f hc131).symm.trans hres
      have hc131' := hc131
      try simp only [qa1, qa2, qa3, qa4, qa5, qa6, qa7, qa8, qa9, qaA, qaB, qaC, qaD] at hc131'
      refine rc_skip ?_
      refine pn_blk ?_
      refine pn_seq ?_
      refine rc_seq ?_
      refine rc_region ?_
      refine rd_op (ov_move rfl) ?_
      refine rd_op (ov_move rfl) ?_
      obtain ⟨y135, hw135, hres⟩ := let_ex hres
      have f135 := f50_ok (x0 := y104.1)  
      rw [hw135] at f135
      refine rd_call (cv_fn rfl rfl (clL_cons rfl clL_nil) f135) ?_
      refine rd_op (ov_bin (a := vu32 0#32) (b := vu32 y135) rfl rfl w_and) ?_
      refine rd_op (ov_move rfl) ?_
      refine rd_op (v := .agg [vu32 (0#32 &&& y135), vi y104.1]) (ov_build (cs := [vu32 (0#32 &&& y135), vi y104.1]) rfl rfl) ?_
      refine rd_storeO (k := 0) (v := .agg [vu32 (0#32 &&& y135), vi y104.1]) M101 rfl rfl rfl rfl (fun h136 M136 => ?_)
      replace M136 : Mem h136 (⟨.op i101 w101 0, 88, 2, [.agg [vu32 (0#32 &&& y135), vi y104.1]]⟩ :: ⟨.op i0_ w0_ 0, 86, 17, [u0_]⟩ :: R_) := M136
      refine rd_nil ?_
      refine pn_seq ?_
      have MZ137 : Mem h136 (⟨.op i0_ w0_ 0, 86, 17, [u0_]⟩ :: ⟨.op i101 w101 0, 88, 2, [.agg [vu32 (0#32 &&& y135), vi y104.1]]⟩ :: R_) := (Mem.front (k := 1) M136 rfl)
      subst hres
      exact rc_retX (.cell rfl (load_whole (k := 0) M136 rfl rfl) .nil) ⟨u0_, (.agg [vu32 (0#32 &&& y135), vi y104.1]), Mem.sub MZ137 (.cons_cons _ (.cons _ (List.Sublist.refl R_))), ru0_, rfl, (show expr_value.t.R ({ v := (0#32 &&& y135), w := y104.1 } : expr_value) (.agg [vu32 (0#32 &&& y135), vi y104.1]) from rfl)⟩
    ·replace hres := (ite_f hc125).symm.trans hres
     have hc125' := hc125
     try simp only [qa1, qa2, qa3, qa4, qa5, qa6, qa7, qa8, qa9, qaA, qaB, qaC, qaD] at hc125'
     refine rc_skip ?_
     refine pn_blk ?_
     refine pn_seq ?_
     refine rc_seq ?_
     refine rc_region ?_
     refine rd_op (ov_move rfl) ?_
     refine rd_op (ov_move rfl) ?_
     obtain ⟨y138, hw138, hres⟩ := let_ex hres
     have f138 := f50_ok (x0 := y104.1)  
     rw [hw138] at f138
     refine rd_call (cv_fn rfl rfl (clL_cons rfl clL_nil) f138) ?_
     refine rd_op (ov_bin (a := vu32 0#32) (b := vu32 y138) rfl rfl w_and) ?_
     refine rd_op (ov_move rfl) ?_
     refine rd_op (v := .agg [vu32 (0#32 &&& y138), vi y104.1]) (ov_build (cs := [vu32 (0#32 &&& y138), vi y104.1]) rfl rfl) ?_
     refine rd_storeO (k := 0) (v := .agg [vu32 (0#32 &&& y138), vi y104.1]) M101 rfl rfl rfl rfl (fun h139 M139 => ?_)
     replace M139 : Mem h139 (⟨.op i101 w101 0, 88, 2, [.agg [vu32 (0#32 &&& y138), vi y104.1]]⟩ :: ⟨.op i0_ w0_ 0, 86, 17, [u0_]⟩ :: R_) := M139
     refine rd_nil ?_
     refine pn_seq ?_
     have MZ140 : Mem h139 (⟨.op i0_ w0_ 0, 86, 17, [u0_]⟩ :: ⟨.op i101 w101 0, 88, 2, [.agg [vu32 (0#32 &&& y138), vi y104.1]]⟩ :: R_) := (Mem.front (k := 1) M139 rfl)
     subst hres
     exact rc_retX (.cell rfl (load_whole (k := 0) M139 rfl rfl) .nil) ⟨u0_, (.agg [vu32 (0#32 &&& y138), vi y104.1]), Mem.sub MZ140 (.cons_cons _ (.cons _ (List.Sublist.refl R_))), ru0_, rfl, (show expr_value.t.R ({ v := (0#32 &&& y138), w := y104.1 } : expr_value) (.agg [vu32 (0#32 &&& y138), vi y104.1]) from rfl)⟩

/-- patchbay/bitvec.Not -/
def RF75 (res : (BitVec 32)) (r : PV) : Prop := r = vu32 res
theorem f75_ok {x0 : BitVec 32} {x1 : Int} : FnR Try.prog 75 [vu32 x0, vi x1] (vu32 (bitvec_Not x0 x1)) := by
 obtain ⟨res, hres⟩ : ∃ res, bitvec_Not x0 x1 = res := ⟨_, rfl⟩
 suffices H : RC Try.prog ac75 [] (QR Try.prog [(4, none)] (RF75 res)) (argE 0 [vu32 x0, vi x1]) ⟨0, []⟩ by
  obtain ⟨r, h1, h2⟩ := fnE text75 (by simp) H
  rw [hres]
  have h2 : r = vu32 res := h2
  rw [← h2]; exact h1
 unfold bitvec_Not at hres
 unfold ac75
 refine rc_seq ?_
 refine rc_region ?_
 refine rd_op (v := vu32 0#32) (ov_move rfl) ?_
 refine rd_nil ?_
 refine pn_seq ?_
 refine rc_seq ?_
 refine rc_region ?_
 refine rd_op (ov_move rfl) ?_
 refine rd_op (ov_un (a := vu32 x0) rfl w_not) ?_
 refine rd_op (ov_move rfl) ?_
 obtain ⟨y101, hw101, hres⟩ := let_ex hres
 have f101 := f50_ok (x0 := x1)  
 rw [hw101] at f101
 refine rd_call (cv_fn rfl rfl (clL_cons rfl clL_nil) f101) ?_
 refine rd_op (ov_bin (a := vu32 (~~~x0)) (b := vu32 y101) rfl rfl w_and) ?_
 refine rd_op (ov_move rfl) ?_
 refine rd_nil ?_
 refine pn_seq ?_
 subst hres
 exact rc_retV (.tmp rfl .nil) (deep_closed rfl) rfl

/-- patchbay/bitvec.Shl -/
def RF76 (res : (BitVec 32)) (r : PV) : Prop := r = vu32 res
theorem f76_ok {x0 : BitVec 32} {x1 : Int} {x2 : Int} : FnR Try.prog 76 [vu32 x0, vi x1, vi x2] (vu32 (bitvec_Shl x0 x1 x2)) := by
 obtain ⟨res, hres⟩ : ∃ res, bitvec_Shl x0 x1 x2 = res := ⟨_, rfl⟩
 suffices H : RC Try.prog ac76 [] (QR Try.prog [(6, none)] (RF76 res)) (argE 0 [vu32 x0, vi x1, vi x2]) ⟨0, []⟩ by
  obtain ⟨r, h1, h2⟩ := fnE text76 (by simp) H
  rw [hres]
  have h2 : r = vu32 res := h2
  rw [← h2]; exact h1
 unfold bitvec_Shl at hres
 unfold ac76
 refine rc_seq ?_
 refine rc_region ?_
 refine rd_op (v := vu32 0#32) (ov_move rfl) ?_
 refine rd_nil ?_
 refine pn_seq ?_
 refine rc_seq ?_
 refine rc_region ?_
 refine rd_op (ov_move rfl) ?_
 refine rd_op (ov_move rfl) ?_
 refine rd_op (ov_bi rfl (max_int _ _)) ?_
 refine rd_op (ov_bin (a := vu32 x0) (b := vi (max x1 0)) rfl rfl (w_shl (by first | omega | exact mask_sh (by assumption) (by assumption) | (rw [wr_of (by omega) (by omega)]; omega) | (have hk := two_sh (by assumption) (And.left (by assumption)); omega)))) ?_
 refine rd_op (ov_move rfl) ?_
 obtain ⟨y101, hw101, hres⟩ := let_ex hres
 have f101 := f50_ok (x0 := x2)  
 rw [hw101] at f101
 refine rd_call (cv_fn rfl rfl (clL_cons rfl clL_nil) f101) ?_
 refine rd_op (ov_bin (a := vu32 (x0 <<< (max x1 0).toNat)) (b := vu32 y101) rfl rfl w_and) ?_
 refine rd_op (ov_move rfl) ?_
 refine rd_nil ?_
 refine pn_seq ?_
 subst hres
 exact rc_retV (.tmp rfl .nil) (deep_closed rfl) rfl

/-- patchbay/bitvec.Shr -/
def RF77 (res : (BitVec 32)) (r : PV) : Prop := r = vu32 res
theorem f77_ok {x0 : BitVec 32} {x1 : Int} {x2 : Int} : FnR Try.prog 77 [vu32 x0, vi x1, vi x2] (vu32 (bitvec_Shr x0 x1 x2)) := by
 obtain ⟨res, hres⟩ : ∃ res, bitvec_Shr x0 x1 x2 = res := ⟨_, rfl⟩
 suffices H : RC Try.prog ac77 [] (QR Try.prog [(6, none)] (RF77 res)) (argE 0 [vu32 x0, vi x1, vi x2]) ⟨0, []⟩ by
  obtain ⟨r, h1, h2⟩ := fnE text77 (by simp) H
  rw [hres]
  have h2 : r = vu32 res := h2
  rw [← h2]; exact h1
 unfold bitvec_Shr at hres
 unfold ac77
 refine rc_seq ?_
 refine rc_region ?_
 refine rd_op (v := vu32 0#32) (ov_move rfl) ?_
 refine rd_nil ?_
 refine pn_seq ?_
 refine rc_seq ?_
 refine rc_region ?_
 refine rd_op (ov_move rfl) ?_
 refine rd_op (ov_move rfl) ?_
 obtain ⟨y101, hw101, hres⟩ := let_ex hres
 have f101 := f50_ok (x0 := x2)  
 rw [hw101] at f101
 refine rd_call (cv_fn rfl rfl (clL_cons rfl clL_nil) f101) ?_
 refine rd_op (ov_bin (a := vu32 x0) (b := vu32 y101) rfl rfl w_and) ?_
 refine rd_op (ov_move rfl) ?_
 refine rd_op (ov_bi rfl (max_int _ _)) ?_
 refine rd_op (ov_bin (a := vu32 (x0 &&& y101)) (b := vi (max x1 0)) rfl rfl (w_shr (by first | omega | exact mask_sh (by assumption) (by assumption) | (rw [wr_of (by omega) (by omega)]; omega) | (have hk := two_sh (by assumption) (And.left (by assumption)); omega)))) ?_
 refine rd_op (ov_move rfl) ?_
 refine rd_nil ?_
 refine pn_seq ?_
 subst hres
 exact rc_retV (.tmp rfl .nil) (deep_closed rfl) rfl

/-- patchbay/bitvec.Slice -/
def RF78 (res : (BitVec 32)) (r : PV) : Prop := r = vu32 res
theorem f78_ok {x0 : BitVec 32} {x1 : Int} {x2 : Int} : FnR Try.prog 78 [vu32 x0, vi x1, vi x2] (vu32 (bitvec_Slice x0 x1 x2)) := by
 obtain ⟨res, hres⟩ : ∃ res, bitvec_Slice x0 x1 x2 = res := ⟨_, rfl⟩
 suffices H : RC Try.prog ac78 [] (QR Try.prog [(6, none)] (RF78 res)) (argE 0 [vu32 x0, vi x1, vi x2]) ⟨0, []⟩ by
  obtain ⟨r, h1, h2⟩ := fnE text78 (by simp) H
  rw [hres]
  have h2 : r = vu32 res := h2
  rw [← h2]; exact h1
 unfold bitvec_Slice at hres
 unfold ac78
 refine rc_seq ?_
 refine rc_region ?_
 refine rd_op (v := vu32 0#32) (ov_move rfl) ?_
 refine rd_nil ?_
 refine pn_seq ?_
 refine rc_seq ?_
 refine rc_seq ?_
 refine rc_region ?_
 refine rd_op (ov_move rfl) ?_
 refine rd_op (v := .fs true [vi x2]) (ov_bslice rfl (all_cons rfl all_nil)) ?_
 have r101 : (tSl tI).R ([x2] : List Int) (.fs true [vi x2]) := sl_fs ⟨rfl, trivial⟩ (by simp)
 obtain ⟨y102, hw102, hres⟩ := let_ex hres
 have f102 := f83_ok  r101 
 rw [hw102] at f102
 refine rd_call (cv_fn rfl rfl (clL_cons (TR.clo (tSl tI) r101) clL_nil) f102) ?_
 refine rd_op (ov_not rfl) ?_
 refine rd_op (ov_move rfl) ?_
 refine rd_cut (d := 14) (v := vb ((!y102) || (decide (x1 < 0)))) ?_ ?_
 ·intro S Q r
  simp only [ac78_G1, List.cons_append, List.nil_append, List.append_assoc]
  cases hb103 : (!y102)
  ·intro k
   have hb103' := hb103
   try simp only [qa1, qa2, qa3, qa4, qa5, qa6, qa7, qa8, qa9, qaA, qaB, qaC, qaD] at hb103'
   refine rd_yes rfl rfl (ov_move rfl) ?_
   refine rd_yes rfl rfl (ov_bin rfl rfl i_lss) ?_
   refine rd_op (v := vb (decide (x1 < 0))) (ov_pick rfl rfl rfl rfl) ?_
   exact rd_weak (sub_cons rfl (sub_skip rfl (sub_skip rfl (sub_skip rfl (sub_refl _))))) k
  ·intro k
   refine rd_skip rfl rfl ?_
   refine rd_skip rfl rfl ?_
   refine rd_op (v := vb true) (ov_pick rfl rfl rfl rfl) ?_
   exact rd_weak (sub_cons rfl (sub_skip rfl (sub_skip rfl (sub_skip rfl (sub_refl _))))) k
 refine rd_op (ov_move rfl) ?_
 refine rd_cut (d := 20) (v := vb (((!y102) || (decide (x1 < 0))) || (decide ((wr (32 - x2)) < x1)))) ?_ ?_
 ·intro S Q r
  simp only [ac78_G2, List.cons_append, List.nil_append, List.append_assoc]
  cases hb104 : ((!y102) || (decide (x1 < 0)))
  ·intro k
   have hb104' := hb104
   try simp only [qa1, qa2, qa3, qa4, qa5, qa6, qa7, qa8, qa9, qaA, qaB, qaC, qaD] at hb104'
   refine rd_yes rfl rfl (ov_move rfl) ?_
   refine rd_yes rfl rfl (ov_move rfl) ?_
   refine rd_yes rfl rfl (ov_bin rfl rfl i_sub) ?_
   refine rd_yes rfl rfl (ov_bin rfl rfl i_gtr) ?_
   refine rd_op (v := vb (decide ((wr (32 - x2)) < x1))) (ov_pick rfl rfl rfl rfl) ?_
   exact rd_weak (sub_cons rfl (sub_skip rfl (sub_skip rfl (sub_skip rfl (sub_skip rfl (sub_skip rfl (sub_refl _))))))) k
  ·intro k
   refine rd_skip rfl rfl ?_
   refine rd_skip rfl rfl ?_
   refine rd_skip rfl rfl ?_
   refine rd_skip rfl rfl ?_
   refine rd_op (v := vb true) (ov_pick rfl rfl rfl rfl) ?_
   exact rd_weak (sub_cons rfl (sub_skip rfl (sub_skip rfl (sub_skip rfl (sub_skip rfl (sub_skip rfl (sub_refl _))))))) k
 refine rd_nil ?_
 refine pn_seq ?_
 refine rc_cond rfl (fun hc105 => ?_) (fun hc105 => ?_)
 ·replace hres := (ite_t hc105).symm.trans hres
  have hc105' := hc105
  try simp only [qa1, qa2, qa3, qa4, qa5, qa6, qa7, qa8, qa9, qaA, qaB, qaC, qaD] at hc105'
  refine rc_seq ?_
  refine rc_region ?_
  refine rd_op (v := vu32 0#32) (ov_move rfl) ?_
  refine rd_nil ?_
  refine pn_seq ?_
  subst hres
  exact rc_retV (.tmp rfl .nil) (deep_closed rfl) rfl
 ·replace hres := (ite_f hc105).symm.trans hres
  have hc105' := hc105
  try simp only [qa1, qa2, qa3, qa4, qa5, qa6, qa7, qa8, qa9, qaA, qaB, qaC, qaD] at hc105'
  refine rc_skip ?_
  refine pn_seq ?_
  refine rc_seq ?_
  refine rc_region ?_
  refine rd_op (ov_move rfl) ?_
  refine rd_op (ov_move rfl) ?_
  refine rd_op (ov_bin (a := vu32 x0) (b := vi x1) rfl rfl (w_shr (by first | omega | exact mask_sh (by assumption) (by assumption) | (rw [wr_of (by omega) (by omega)]; omega) | (have hk := two_sh (by assumption) (And.left (by assumption)); omega)))) ?_
  refine rd_op (ov_move rfl) ?_
  obtain ⟨y106, hw106, hres⟩ := let_ex hres
  have f106 := f50_ok (x0 := x2)  
  rw [hw106] at f106
  refine rd_call (cv_fn rfl rfl (clL_cons rfl clL_nil) f106) ?_
  refine rd_op (ov_bin (a := vu32 (x0 >>> x1.toNat)) (b := vu32 y106) rfl rfl w_and) ?_
  refine rd_op (ov_move rfl) ?_
  refine rd_nil ?_
  refine pn_seq ?_
  subst hres
  exact rc_retV (.tmp rfl .nil) (deep_closed rfl) rfl

/-- patchbay/expr.unary -/
def RF47 (res : expr_value) (r : PV) : Prop := expr_value.t.R res r
theorem f47_ok {x0 : api_ExprNode} {x1 : expr_value} {v0 : PV} {v1 : PV} (r0 : api_ExprNode.t.R x0 v0) (r1 : expr_value.t.R x1 v1) : ∃ r, FnR Try.prog 47 [v0, v1] r ∧ expr_value.t.R (expr_unary x0 x1) r := by
 obtain ⟨res, hres⟩ : ∃ res, expr_unary x0 x1 = res := ⟨_, rfl⟩
 suffices H : RC Try.prog ac47 [] (QR Try.prog [(4, some (2, true))] (RF47 res)) (argE 0 [v0, v1]) ⟨0, []⟩ by
  rw [hres]
  exact fnE text47 (by simp) H
 unfold expr_unary at hres
 unfold ac47
 refine rc_seq ?_
 refine rc_region ?_
 refine rd_op (ov_box rfl (TR.cnt api_ExprNode.t r0)) ?_
 refine rd_op (ov_box rfl (TR.cnt expr_value.t r1)) ?_
 refine rd_allocO (x := .agg [vu32 0#32, vi 0]) (Mem.nil ⟨0, []⟩) rfl rfl (fun i101 w101 h101 M101 => ?_)
 refine rd_nil ?_
 refine pn_seq ?_
 refine rc_seq ?_
 refine rc_seq ?_
 refine rc_region ?_
 refine rd_op (ov_faddr rfl (api_ExprNode.g_Op r0)) ?_
 refine rd_op (ov_load rfl rfl rfl) ?_
 refine rd_nil ?_
 refine pn_seq ?_
 refine rc_block ?_
 refine rc_seq ?_
 refine rc_region ?_
 refine rd_op (ov_bin rfl rfl i_eql) ?_
 refine rd_op (ov_move rfl) ?_
 refine rd_nil ?_
 refine pn_seq ?_
 refine rc_cond rfl (fun hc103 => ?_) (fun hc103 => ?_)
 ·replace hres := (ite_t hc103).symm.trans hres
  have hc103' := hc103
  try simp only [qa1, qa2, qa3, qa4, qa5, qa6, qa7, qa8, qa9, qaA, qaB, qaC, qaD] at hc103'
  refine rc_seq ?_
  refine rc_region ?_
  refine rd_op (ov_faddr rfl (expr_value.g_v r1)) ?_
  refine rd_op (ov_load rfl rfl rfl) ?_
  refine rd_op (ov_faddr rfl (expr_value.g_w r1)) ?_
  refine rd_op (ov_load rfl rfl rfl) ?_
  obtain ⟨y104, hw104, hres⟩ := let_ex hres
  have f104 := f75_ok (x0 := x1.v) (x1 := x1.w)  
  rw [hw104] at f104
  refine rd_call (cv_fn rfl rfl (clL_cons rfl (clL_cons rfl clL_nil)) f104) ?_
  refine rd_op (ov_faddr rfl (expr_value.g_w r1)) ?_
  refine rd_op (ov_load rfl rfl rfl) ?_
  refine rd_op (v := .agg [vu32 y104, vi x1.w]) (ov_build (cs := [vu32 y104, vi x1.w]) rfl rfl) ?_
  refine rd_storeO (k := 0) (v := .agg [vu32 y104, vi x1.w]) M101 rfl rfl rfl rfl (fun h105 M105 => ?_)
  replace M105 : Mem h105 [⟨.op i101 w101 0, 88, 2, [.agg [vu32 y104, vi x1.w]]⟩] := M105
  refine rd_nil ?_
  refine pn_seq ?_
  subst hres
  exact rc_retV (.cell rfl (load_whole (k := 0) M105 rfl rfl) .nil) (deep_closed (TR.clo expr_value.t (show expr_value.t.R ({ v := y104, w := x1.w } : expr_value) (.agg [vu32 y104, vi x1.w]) from rfl))) (show expr_value.t.R ({ v := y104, w := x1.w } : expr_value) (.agg [vu32 y104, vi x1.w]) from rfl)
 ·replace hres := (ite_f hc103).symm.trans hres
  have hc103' := hc103
  try simp only [qa1, qa2, qa3, qa4, qa5, qa6, qa7, qa8, qa9, qaA, qaB, qaC, qaD] at hc103'
  refine rc_seq ?_
  refine rc_region ?_
  refine rd_op (ov_bin rfl rfl i_eql) ?_
  refine rd_op (ov_move rfl) ?_
  refine rd_nil ?_
  refine pn_seq ?_
  refine rc_cond rfl (fun hc106 => ?_) (fun hc106 => ?_)
  ·replace hres := (ite_t hc106).symm.trans hres
   have hc106' := hc106
   try simp only [qa1, qa2, qa3, qa4, qa5, qa6, qa7, qa8, qa9, qaA, qaB, qaC, qaD] at hc106'
   refine rc_seq ?_
   refine rc_region ?_
   refine rd_op (ov_faddr rfl (expr_value.g_v r1)) ?_
   refine rd_op (ov_load rfl rfl rfl) ?_
   refine rd_op (ov_faddr rfl (api_ExprNode.g_N r0)) ?_
   refine rd_op (ov_load rfl rfl rfl) ?_
   refine rd_op (ov_faddr rfl (expr_value.g_w r1)) ?_
   refine rd_op (ov_load rfl rfl rfl) ?_
   obtain ⟨y107, hw107, hres⟩ := let_ex hres
   have f107 := f76_ok (x0 := x1.v) (x1 := x0.N) (x2 := x1.w)  
   rw [hw107] at f107
   refine rd_call (cv_fn rfl rfl (clL_cons rfl (clL_cons rfl (clL_cons rfl clL_nil))) f107) ?_
   refine rd_op (ov_faddr rfl (expr_value.g_w r1)) ?_
   refine rd_op (ov_load rfl rfl rfl) ?_
   refine rd_op (v := .agg [vu32 y107, vi x1.w]) (ov_build (cs := [vu32 y107, vi x1.w]) rfl rfl) ?_
   refine rd_storeO (k := 0) (v := .agg [vu32 y107, vi x1.w]) M101 rfl rfl rfl rfl (fun h108 M108 => ?_)
   replace M108 : Mem h108 [⟨.op i101 w101 0, 88, 2, [.agg [vu32 y107, vi x1.w]]⟩] := M108
   refine rd_nil ?_
   refine pn_seq ?_
   subst hres
   exact rc_retV (.cell rfl (load_whole (k := 0) M108 rfl rfl) .nil) (deep_closed (TR.clo expr_value.t (show expr_value.t.R ({ v := y107, w := x1.w } : expr_value) (.agg [vu32 y107, vi x1.w]) from rfl))) (show expr_value.t.R ({ v := y107, w := x1.w } : expr_value) (.agg [vu32 y107, vi x1.w]) from rfl)
  ·replace hres := (ite_f hc106).symm.trans hres
   have hc106' := hc106
   try simp only [qa1, qa2, qa3, qa4, qa5, qa6, qa7, qa8, qa9, qaA, qaB, qaC, qaD] at hc106'
   refine rc_seq ?_
   refine rc_region ?_
   refine rd_op (ov_bin rfl rfl i_eql) ?_
   refine rd_op (ov_move rfl) ?_
   refine rd_nil ?_
   refine pn_seq ?_
   refine rc_cond rfl (fun hc109 => ?_) (fun hc109 => ?_)
   ·replace hres := (ite_t hc109).symm.trans hres
    have hc109' := hc109
    try simp only [qa1, qa2, qa3, qa4, qa5, qa6, qa7, qa8, qa9, qaA, qaB, qaC, qaD] at hc109'
    refine rc_seq ?_
    refine rc_region ?_
    refine rd_op (ov_faddr rfl (expr_value.g_v r1)) ?_
    refine rd_op (ov_load rfl rfl rfl) ?_
    refine rd_op (ov_faddr rfl (api_ExprNode.g_N r0)) ?_
    refine rd_op (ov_load rfl rfl rfl) ?_
    refine rd_op (ov_faddr rfl (expr_value.g_w r1)) ?_
    refine rd_op (ov_load rfl rfl rfl) ?_
    obtain ⟨y110, hw110, hres⟩ := let_ex hres
    have f110 := f77_ok (x0 := x1.v) (x1 := x0.N) (x2 := x1.w)  
    rw [hw110] at f110
    refine rd_call (cv_fn rfl rfl (clL_cons rfl (clL_cons rfl (clL_cons rfl clL_nil))) f110) ?_
    refine rd_op (ov_faddr rfl (expr_value.g_w r1)) ?_
    refine rd_op (ov_load rfl rfl rfl) ?_
    refine rd_op (v := .agg [vu32 y110, vi x1.w]) (ov_build (cs := [vu32 y110, vi x1.w]) rfl rfl) ?_
    refine rd_storeO (k := 0) (v := .agg [vu32 y110, vi x1.w]) M101 rfl rfl rfl rfl (fun h111 M111 => ?_)
    replace M111 : Mem h111 [⟨.op i101 w101 0, 88, 2, [.agg [vu32 y110, vi x1.w]]⟩] := M111
    refine rd_nil ?_
    refine pn_seq ?_
    subst hres
    exact rc_retV (.cell rfl (load_whole (k := 0) M111 rfl rfl) .nil) (deep_closed (TR.clo expr_value.t (show expr_value.t.R ({ v := y110, w := x1.w } : expr_value) (.agg [vu32 y110, vi x1.w]) from rfl))) (show expr_value.t.R ({ v := y110, w := x1.w } : expr_value) (.agg [vu32 y110, vi x1.w]) from rfl)
   ·replace hres := (ite_f hc109).symm.trans hres
    have hc109' := hc109
    try simp only [qa1, qa2, qa3, qa4, qa5, qa6, qa7, qa8, qa9, qaA, qaB, qaC, qaD] at hc109'
    refine rc_skip ?_
    refine pn_blk ?_
    refine pn_seq ?_
    refine rc_seq ?_
    refine rc_region ?_
    refine rd_op (ov_faddr rfl (expr_value.g_v r1)) ?_
    refine rd_op (ov_load rfl rfl rfl) ?_
    refine rd_op (ov_faddr rfl (api_ExprNode.g_N r0)) ?_
    refine rd_op (ov_load rfl rfl rfl) ?_
    refine rd_op (ov_faddr rfl (api_ExprNode.g_W r0)) ?_
    refine rd_op (ov_load rfl rfl rfl) ?_
    obtain ⟨y112, hw112, hres⟩ := let_ex hres
    have f112 := f78_ok (x0 := x1.v) (x1 := x0.N) (x2 := x0.W)  
    rw [hw112] at f112
    refine rd_call (cv_fn rfl rfl (clL_cons rfl (clL_cons rfl (clL_cons rfl clL_nil))) f112) ?_
    refine rd_op (ov_faddr rfl (api_ExprNode.g_W r0)) ?_
    refine rd_op (ov_load rfl rfl rfl) ?_
    refine rd_op (v := .agg [vu32 y112, vi x0.W]) (ov_build (cs := [vu32 y112, vi x0.W]) rfl rfl) ?_
    refine rd_storeO (k := 0) (v := .agg [vu32 y112, vi x0.W]) M101 rfl rfl rfl rfl (fun h113 M113 => ?_)
    replace M113 : Mem h113 [⟨.op i101 w101 0, 88, 2, [.agg [vu32 y112, vi x0.W]]⟩] := M113
    refine rd_nil ?_
    refine pn_seq ?_
    subst hres
    exact rc_retV (.cell rfl (load_whole (k := 0) M113 rfl rfl) .nil) (deep_closed (TR.clo expr_value.t (show expr_value.t.R ({ v := y112, w := x0.W } : expr_value) (.agg [vu32 y112, vi x0.W]) from rfl))) (show expr_value.t.R ({ v := y112, w := x0.W } : expr_value) (.agg [vu32 y112, vi x0.W]) from rfl)

/-- patchbay/bitvec.Add -/
def RF79 (res : (BitVec 32)) (r : PV) : Prop := r = vu32 res
theorem f79_ok {x0 : BitVec 32} {x1 : BitVec 32} {x2 : Int} : FnR Try.prog 79 [vu32 x0, vu32 x1, vi x2] (vu32 (bitvec_Add x0 x1 x2)) := by
 obtain ⟨res, hres⟩ : ∃ res, bitvec_Add x0 x1 x2 = res := ⟨_, rfl⟩
 suffices H : RC Try.prog ac79 [] (QR Try.prog [(6, none)] (RF79 res)) (argE 0 [vu32 x0, vu32 x1, vi x2]) ⟨0, []⟩ by
  obtain ⟨r, h1, h2⟩ := fnE text79 (by simp) H
  rw [hres]
  have h2 : r = vu32 res := h2
  rw [← h2]; exact h1
 unfold bitvec_Add at hres
 unfold ac79
 refine rc_seq ?_
 refine rc_region ?_
 refine rd_op (v := vu32 0#32) (ov_move rfl) ?_
 refine rd_nil ?_
 refine pn_seq ?_
 refine rc_seq ?_
 refine rc_region ?_
 refine rd_op (ov_move rfl) ?_
 refine rd_op (ov_move rfl) ?_
 refine rd_op (ov_bin (a := vu32 x0) (b := vu32 x1) rfl rfl w_add) ?_
 refine rd_op (ov_move rfl) ?_
 obtain ⟨y101, hw101, hres⟩ := let_ex hres
 have f101 := f50_ok (x0 := x2)  
 rw [hw101] at f101
 refine rd_call (cv_fn rfl rfl (clL_cons rfl clL_nil) f101) ?_
 refine rd_op (ov_bin (a := vu32 (x0 + x1)) (b := vu32 y101) rfl rfl w_and) ?_
 refine rd_op (ov_move rfl) ?_
 refine rd_nil ?_
 refine pn_seq ?_
 subst hres
 exact rc_retV (.tmp rfl .nil) (deep_closed rfl) rfl

/-- patchbay/bitvec.Sub -/
def RF80 (res : (BitVec 32)) (r : PV) : Prop := r = vu32 res
theorem f80_ok {x0 : BitVec 32} {x1 : BitVec 32} {x2 : Int} : FnR Try.prog 80 [vu32 x0, vu32 x1, vi x2] (vu32 (bitvec_Sub x0 x1 x2)) := by
 obtain ⟨res, hres⟩ : ∃ res, bitvec_Sub x0 x1 x2 = res := ⟨_, rfl⟩
 suffices H : RC Try.prog ac80 [] (QR Try.prog [(6, none)] (RF80 res)) (argE 0 [vu32 x0, vu32 x1, vi x2]) ⟨0, []⟩ by
  obtain ⟨r, h1, h2⟩ := fnE text80 (by simp) H
  rw [hres]
  have h2 : r = vu32 res := h2
  rw [← h2]; exact h1
 unfold bitvec_Sub at hres
 unfold ac80
 refine rc_seq ?_
 refine rc_region ?_
 refine rd_op (v := vu32 0#32) (ov_move rfl) ?_
 refine rd_nil ?_
 refine pn_seq ?_
 refine rc_seq ?_
 refine rc_region ?_
 refine rd_op (ov_move rfl) ?_
 refine rd_op (ov_move rfl) ?_
 refine rd_op (ov_bin (a := vu32 x0) (b := vu32 x1) rfl rfl w_sub) ?_
 refine rd_op (ov_move rfl) ?_
 obtain ⟨y101, hw101, hres⟩ := let_ex hres
 have f101 := f50_ok (x0 := x2)  
 rw [hw101] at f101
 refine rd_call (cv_fn rfl rfl (clL_cons rfl clL_nil) f101) ?_
 refine rd_op (ov_bin (a := vu32 (x0 - x1)) (b := vu32 y101) rfl rfl w_and) ?_
 refine rd_op (ov_move rfl) ?_
 refine rd_nil ?_
 refine pn_seq ?_
 subst hres
 exact rc_retV (.tmp rfl .nil) (deep_closed rfl) rfl

/-- patchbay/bitvec.Concat -/
def RF81 (res : (BitVec 32) × Bool) (r : PV) : Prop := r = .tup [vu32 res.1, vb res.2]
theorem f81_ok {x0 : BitVec 32} {x1 : Int} {x2 : BitVec 32} {x3 : Int} : FnR Try.prog 81 [vu32 x0, vi x1, vu32 x2, vi x3] (.tup [vu32 ((bitvec_Concat x0 x1 x2 x3).1), vb ((bitvec_Concat x0 x1 x2 x3).2)]) := by
 obtain ⟨res, hres⟩ : ∃ res, bitvec_Concat x0 x1 x2 x3 = res := ⟨_, rfl⟩
 suffices H : RC Try.prog ac81 [] (QR Try.prog [(8, none), (9, none)] (RF81 res)) (argE 0 [vu32 x0, vi x1, vu32 x2, vi x3]) ⟨0, []⟩ by
  obtain ⟨r, h1, h2⟩ := fnE text81 (by simp) H
  rw [hres]
  have h2 : r = .tup [vu32 res.1, vb res.2] := h2
  rw [← h2]; exact h1
 unfold bitvec_Concat at hres
 unfold ac81
 refine rc_seq ?_
 refine rc_region ?_
 refine rd_op (v := vu32 0#32) (ov_move rfl) ?_
 refine rd_op (v := vb false) (ov_move rfl) ?_
 refine rd_nil ?_
 refine pn_seq ?_
 refine rc_seq ?_
 refine rc_seq ?_
 refine rc_region ?_
 refine rd_op (ov_move rfl) ?_
 refine rd_op (ov_move rfl) ?_
 refine rd_op (v := .fs true [vi x1, vi x3]) (ov_bslice rfl (all_cons rfl (all_cons rfl all_nil))) ?_
 have r101 : (tSl tI).R ([x1, x3] : List Int) (.fs true [vi x1, vi x3]) := sl_fs ⟨rfl, ⟨rfl, trivial⟩⟩ (by simp)
 obtain ⟨y102, hw102, hres⟩ := let_ex hres
 have f102 := f83_ok  r101 
 rw [hw102] at f102
 refine rd_call (cv_fn rfl rfl (clL_cons (TR.clo (tSl tI) r101) clL_nil) f102) ?_
 refine rd_op (ov_not rfl) ?_
 refine rd_op (ov_move rfl) ?_
 refine rd_cut (d := 20) (v := vb ((!y102) || (decide (32 < (wr (x1 + x3)))))) ?_ ?_
 ·intro S Q r
  simp only [ac81_G1, List.cons_append, List.nil_append, List.append_assoc]
  cases hb103 : (!y102)
  ·intro k
   have hb103' := hb103
   try simp only [qa1, qa2, qa3, qa4, qa5, qa6, qa7, qa8, qa9, qaA, qaB, qaC, qaD] at hb103'
   refine rd_yes rfl rfl (ov_move rfl) ?_
   refine rd_yes rfl rfl (ov_move rfl) ?_
   refine rd_yes rfl rfl (ov_bin rfl rfl i_add) ?_
   refine rd_yes rfl rfl (ov_bin rfl rfl i_gtr) ?_
   refine rd_op (v := vb (decide (32 < (wr (x1 + x3))))) (ov_pick rfl rfl rfl rfl) ?_
   exact rd_weak (sub_cons rfl (sub_skip rfl (sub_skip rfl (sub_skip rfl (sub_skip rfl (sub_skip rfl (sub_refl _))))))) k
  ·intro k
   refine rd_skip rfl rfl ?_
   refine rd_skip rfl rfl ?_
   refine rd_skip rfl rfl ?_
   refine rd_skip rfl rfl ?_
   refine rd_op (v := vb true) (ov_pick rfl rfl rfl rfl) ?_
   exact rd_weak (sub_cons rfl (sub_skip rfl (sub_skip rfl (sub_skip rfl (sub_skip rfl (sub_skip rfl (sub_refl _))))))) k
 refine rd_nil ?_
 refine pn_seq ?_
 refine rc_cond rfl (fun hc104 => ?_) (fun hc104 => ?_)
 ·replace hres := (ite_t hc104).symm.trans hres
  have hc104' := hc104
  try simp only [qa1, qa2, qa3, qa4, qa5, qa6, qa7, qa8, qa9, qaA, qaB, qaC, qaD] at hc104'
  refine rc_seq ?_
  refine rc_region ?_
  refine rd_op (v := vu32 0#32) (ov_move rfl) ?_
  refine rd_op (v := vb false) (ov_move rfl) ?_
  refine rd_nil ?_
  refine pn_seq ?_
  subst hres
  exact rc_retV (.tmp rfl (.tmp rfl .nil)) (deep_closed (show closed (.tup _) = true from (clL_cons rfl (clL_cons rfl clL_nil)))) rfl
 ·replace hres := (ite_f hc104).symm.trans hres
  have hc104' := hc104
  try simp only [qa1, qa2, qa3, qa4, qa5, qa6, qa7, qa8, qa9, qaA, qaB, qaC, qaD] at hc104'
  refine rc_skip ?_
  refine pn_seq ?_
  refine rc_seq ?_
  refine rc_region ?_
  refine rd_op (ov_move rfl) ?_
  refine rd_op (ov_move rfl) ?_
  obtain ⟨y105, hw105, hres⟩ := let_ex hres
  have f105 := f50_ok (x0 := x1)  
  rw [hw105] at f105
  refine rd_call (cv_fn rfl rfl (clL_cons rfl clL_nil) f105) ?_
  refine rd_op (ov_bin (a := vu32 x0) (b := vu32 y105) rfl rfl w_and) ?_
  refine rd_op (ov_move rfl) ?_
  refine rd_op (ov_bin (a := vu32 (x0 &&& y105)) (b := vi x3) rfl rfl (w_shl (by first | omega | exact mask_sh (by assumption) (by assumption) | (rw [wr_of (by omega) (by omega)]; omega) | (have hk := two_sh (by assumption) (And.left (by assumption)); omega)))) ?_
  refine rd_op (ov_move rfl) ?_
  refine rd_op (ov_move rfl) ?_
  obtain ⟨y106, hw106, hres⟩ := let_ex hres
  have f106 := f50_ok (x0 := x3)  
  rw [hw106] at f106
  refine rd_call (cv_fn rfl rfl (clL_cons rfl clL_nil) f106) ?_
  refine rd_op (ov_bin (a := vu32 x2) (b := vu32 y106) rfl rfl w_and) ?_
  refine rd_op (ov_bin (a := vu32 ((x0 &&& y105) <<< x3.toNat)) (b := vu32 (x2 &&& y106)) rfl rfl w_or) ?_
  refine rd_op (ov_move rfl) ?_
  refine rd_op (v := vb true) (ov_move rfl) ?_
  refine rd_nil ?_
  refine pn_seq ?_
  subst hres
  exact rc_retV (.tmp rfl (.tmp rfl .nil)) (deep_closed (show closed (.tup _) = true from (clL_cons rfl (clL_cons rfl clL_nil)))) rfl

/-- patchbay/expr.truth -/
def RF82 (res : expr_value) (r : PV) : Prop := expr_value.t.R res r
theorem f82_ok {x0 : Bool} : ∃ r, FnR Try.prog 82 [vb x0] r ∧ expr_value.t.R (expr_truth x0) r := by
 obtain ⟨res, hres⟩ : ∃ res, expr_truth x0 = res := ⟨_, rfl⟩
 suffices H : RC Try.prog ac82 [] (QR Try.prog [(2, some (2, true))] (RF82 res)) (argE 0 [vb x0]) ⟨0, []⟩ by
  rw [hres]
  exact fnE text82 (by simp) H
 unfold expr_truth at hres
 unfold ac82
 refine rc_seq ?_
 refine rc_region ?_
 refine rd_allocO (x := .agg [vu32 0#32, vi 0]) (Mem.nil ⟨0, []⟩) rfl rfl (fun i101 w101 h101 M101 => ?_)
 refine rd_nil ?_
 refine pn_seq ?_
 refine rc_seq ?_
 refine rc_seq ?_
 refine rc_region ?_
 refine rd_op (ov_move rfl) ?_
 refine rd_nil ?_
 refine pn_seq ?_
 refine rc_cond rfl (fun hc103 => ?_) (fun hc103 => ?_)
 ·replace hres := (ite_t hc103).symm.trans hres
  have hc103' := hc103
  try simp only [qa1, qa2, qa3, qa4, qa5, qa6, qa7, qa8, qa9, qaA, qaB, qaC, qaD] at hc103'
  refine rc_seq ?_
  refine rc_region ?_
  refine rd_op (v := .agg [vu32 1#32, vi 1]) (ov_build (cs := [vu32 1#32, vi 1]) rfl rfl) ?_
  refine rd_storeO (k := 0) (v := .agg [vu32 1#32, vi 1]) M101 rfl rfl rfl rfl (fun h104 M104 => ?_)
  replace M104 : Mem h104 [⟨.op i101 w101 0, 88, 2, [.agg [vu32 1#32, vi 1]]⟩] := M104
  refine rd_nil ?_
  refine pn_seq ?_
  subst hres
  exact rc_retV (.cell rfl (load_whole (k := 0) M104 rfl rfl) .nil) (deep_closed (TR.clo expr_value.t (show expr_value.t.R ({ v := 1#32, w := 1 } : expr_value) (.agg [vu32 1#32, vi 1]) from rfl))) (show expr_value.t.R ({ v := 1#32, w := 1 } : expr_value) (.agg [vu32 1#32, vi 1]) from rfl)
 ·replace hres := (ite_f hc103).symm.trans hres
  have hc103' := hc103
  try simp only [qa1, qa2, qa3, qa4, qa5, qa6, qa7, qa8, qa9, qaA, qaB, qaC, qaD] at hc103'
  refine rc_skip ?_
  refine pn_seq ?_
  refine rc_seq ?_
  refine rc_region ?_
  refine rd_op (v := .agg [vu32 0#32, vi 1]) (ov_build (cs := [vu32 0#32, vi 1]) rfl rfl) ?_
  refine rd_storeO (k := 0) (v := .agg [vu32 0#32, vi 1]) M101 rfl rfl rfl rfl (fun h105 M105 => ?_)
  replace M105 : Mem h105 [⟨.op i101 w101 0, 88, 2, [.agg [vu32 0#32, vi 1]]⟩] := M105
  refine rd_nil ?_
  refine pn_seq ?_
  subst hres
  exact rc_retV (.cell rfl (load_whole (k := 0) M105 rfl rfl) .nil) (deep_closed (TR.clo expr_value.t (show expr_value.t.R ({ v := 0#32, w := 1 } : expr_value) (.agg [vu32 0#32, vi 1]) from rfl))) (show expr_value.t.R ({ v := 0#32, w := 1 } : expr_value) (.agg [vu32 0#32, vi 1]) from rfl)

/-- patchbay/expr.binary -/
def RF48 (res : expr_value) (r : PV) : Prop := expr_value.t.R res r
theorem f48_ok {x0 : Int} {x1 : expr_value} {x2 : expr_value} {v1 : PV} {v2 : PV} (r1 : expr_value.t.R x1 v1) (r2 : expr_value.t.R x2 v2) : ∃ r, FnR Try.prog 48 [vi x0, v1, v2] r ∧ expr_value.t.R (expr_binary x0 x1 x2) r := by
 obtain ⟨res, hres⟩ : ∃ res, expr_binary x0 x1 x2 = res := ⟨_, rfl⟩
 suffices H : RC Try.prog ac48 [] (QR Try.prog [(6, some (2, true))] (RF48 res)) (argE 0 [vi x0, v1, v2]) ⟨0, []⟩ by
  rw [hres]
  exact fnE text48 (by simp) H
 unfold expr_binary at hres
 unfold ac48
 refine rc_seq ?_
 refine rc_region ?_
 refine rd_op (ov_box rfl (TR.cnt expr_value.t r1)) ?_
 refine rd_op (ov_box rfl (TR.cnt expr_value.t r2)) ?_
 refine rd_allocO (x := .agg [vu32 0#32, vi 0]) (Mem.nil ⟨0, []⟩) rfl rfl (fun i101 w101 h101 M101 => ?_)
 refine rd_nil ?_
 refine pn_seq ?_
 refine rc_seq ?_
 refine rc_seq ?_
 refine rc_region ?_
 refine rd_op (ov_move rfl) ?_
 refine rd_nil ?_
 refine pn_seq ?_
 refine rc_block ?_
 refine rc_seq ?_
 refine rc_region ?_
 refine rd_op (ov_bin rfl rfl i_eql) ?_
 refine rd_op (ov_move rfl) ?_
 refine rd_nil ?_
 refine pn_seq ?_
 refine rc_cond rfl (fun hc103 => ?_) (fun hc103 => ?_)
 ·replace hres := (ite_t hc103).symm.trans hres
  have hc103' := hc103
  try simp only [qa1, qa2, qa3, qa4, qa5, qa6, qa7, qa8, qa9, qaA, qaB, qaC, qaD] at hc103'
  refine rc_seq ?_
  refine rc_region ?_
  refine rd_op (ov_faddr rfl (expr_value.g_v r1)) ?_
  refine rd_op (ov_load rfl rfl rfl) ?_
  refine rd_op (ov_faddr rfl (expr_value.g_v r2)) ?_
  refine rd_op (ov_load rfl rfl rfl) ?_
  refine rd_op (ov_faddr rfl (expr_value.g_w r1)) ?_
  refine rd_op (ov_load rfl rfl rfl) ?_
  obtain ⟨y104, hw104, hres⟩ := let_ex hres
  have f104 := f79_ok (x0 := x1.v) (x1 := x2.v) (x2 := x1.w)  
  rw [hw104] at f104
  refine rd_call (cv_fn rfl rfl (clL_cons rfl (clL_cons rfl (clL_cons rfl clL_nil))) f104) ?_
  refine rd_op (ov_faddr rfl (expr_value.g_w r1)) ?_
  refine rd_op (ov_load rfl rfl rfl) ?_
  refine rd_op (v := .agg [vu32 y104, vi x1.w]) (ov_build (cs := [vu32 y104, vi x1.w]) rfl rfl) ?_
  refine rd_storeO (k := 0) (v := .agg [vu32 y104, vi x1.w]) M101 rfl rfl rfl rfl (fun h105 M105 => ?_)
  replace M105 : Mem h105 [⟨.op i101 w101 0, 88, 2, [.agg [vu32 y104, vi x1.w]]⟩] := M105
  refine rd_nil ?_
  refine pn_seq ?_
  subst hres
  exact rc_retV (.cell rfl (load_whole (k := 0) M105 rfl rfl) .nil) (deep_closed (TR.clo expr_value.t (show expr_value.t.R ({ v := y104, w := x1.w } : expr_value) (.agg [vu32 y104, vi x1.w]) from rfl))) (show expr_value.t.R ({ v := y104, w := x1.w } : expr_value) (.agg [vu32 y104, vi x1.w]) from rfl)
 ·replace hres := (ite_f hc103).symm.trans hres
  have hc103' := hc103
  try simp only [qa1, qa2, qa3, qa4, qa5, qa6, qa7, qa8, qa9, qaA, qaB, qaC, qaD] at hc103'
  refine rc_seq ?_
  refine rc_region ?_
  refine rd_op (ov_bin rfl rfl i_eql) ?_
  refine rd_op (ov_move rfl) ?_
  refine rd_nil ?_
  refine pn_seq ?_
  refine rc_cond rfl (fun hc106 => ?_) (fun hc106 => ?_)
  ·replace hres := (ite_t hc106).symm.trans hres
   have hc106' := hc106
   try simp only [qa1, qa2, qa3, qa4, qa5, qa6, qa7, qa8, qa9, qaA, qaB, qaC, qaD] at hc106'
   refine rc_seq ?_
   refine rc_region ?_
   refine rd_op (ov_faddr rfl (expr_value.g_v r1)) ?_
   refine rd_op (ov_load rfl rfl rfl) ?_
   refine rd_op (ov_faddr rfl (expr_value.g_v r2)) ?_
   refine rd_op (ov_load rfl rfl rfl) ?_
   refine rd_op (ov_faddr rfl (expr_value.g_w r1)) ?_
   refine rd_op (ov_load rfl rfl rfl) ?_
   obtain ⟨y107, hw107, hres⟩ := let_ex hres
   have f107 := f80_ok (x0 := x1.v) (x1 := x2.v) (x2 := x1.w)  
   rw [hw107] at f107
   refine rd_call (cv_fn rfl rfl (clL_cons rfl (clL_cons rfl (clL_cons rfl clL_nil))) f107) ?_
   refine rd_op (ov_faddr rfl (expr_value.g_w r1)) ?_
   refine rd_op (ov_load rfl rfl rfl) ?_
   refine rd_op (v := .agg [vu32 y107, vi x1.w]) (ov_build (cs := [vu32 y107, vi x1.w]) rfl rfl) ?_
   refine rd_storeO (k := 0) (v := .agg [vu32 y107, vi x1.w]) M101 rfl rfl rfl rfl (fun h108 M108 => ?_)
   replace M108 : Mem h108 [⟨.op i101 w101 0, 88, 2, [.agg [vu32 y107, vi x1.w]]⟩] := M108
   refine rd_nil ?_
   refine pn_seq ?_
   subst hres
   exact rc_retV (.cell rfl (load_whole (k := 0) M108 rfl rfl) .nil) (deep_closed (TR.clo expr_value.t (show expr_value.t.R ({ v := y107, w := x1.w } : expr_value) (.agg [vu32 y107, vi x1.w]) from rfl))) (show expr_value.t.R ({ v := y107, w := x1.w } : expr_value) (.agg [vu32 y107, vi x1.w]) from rfl)
  ·replace hres := (ite_f hc106).symm.trans hres
   have hc106' := hc106
   try simp only [qa1, qa2, qa3, qa4, qa5, qa6, qa7, qa8, qa9, qaA, qaB, qaC, qaD] at hc106'
   refine rc_seq ?_
   refine rc_region ?_
   refine rd_op (ov_bin rfl rfl i_eql) ?_
   refine rd_op (ov_move rfl) ?_
   refine rd_nil ?_
   refine pn_seq ?_
   refine rc_cond rfl (fun hc109 => ?_) (fun hc109 => ?_)
   ·replace hres := (ite_t hc109).symm.trans hres
    have hc109' := hc109
    try simp only [qa1, qa2, qa3, qa4, qa5, qa6, qa7, qa8, qa9, qaA, qaB, qaC, qaD] at hc109'
    refine rc_seq ?_
    refine rc_region ?_
    refine rd_op (ov_faddr rfl (expr_value.g_v r1)) ?_
    refine rd_op (ov_load rfl rfl rfl) ?_
    refine rd_op (ov_faddr rfl (expr_value.g_v r2)) ?_
    refine rd_op (ov_load rfl rfl rfl) ?_
    refine rd_op (ov_bin (a := vu32 x1.v) (b := vu32 x2.v) rfl rfl w_and) ?_
    refine rd_op (ov_faddr rfl (expr_value.g_w r1)) ?_
    refine rd_op (ov_load rfl rfl rfl) ?_
    refine rd_op (v := .agg [vu32 (x1.v &&& x2.v), vi x1.w]) (ov_build (cs := [vu32 (x1.v &&& x2.v), vi x1.w]) rfl rfl) ?_
    refine rd_storeO (k := 0) (v := .agg [vu32 (x1.v &&& x2.v), vi x1.w]) M101 rfl rfl rfl rfl (fun h110 M110 => ?_)
    replace M110 : Mem h110 [⟨.op i101 w101 0, 88, 2, [.agg [vu32 (x1.v &&& x2.v), vi x1.w]]⟩] := M110
    refine rd_nil ?_
    refine pn_seq ?_
    subst hres
    exact rc_retV (.cell rfl (load_whole (k := 0) M110 rfl rfl) .nil) (deep_closed (TR.clo expr_value.t (show expr_value.t.R ({ v := (x1.v &&& x2.v), w := x1.w } : expr_value) (.agg [vu32 (x1.v &&& x2.v), vi x1.w]) from rfl))) (show expr_value.t.R ({ v := (x1.v &&& x2.v), w := x1.w } : expr_value) (.agg [vu32 (x1.v &&& x2.v), vi x1.w]) from rfl)
   ·replace hres := (ite_f hc109).symm.trans hres
    have hc109' := hc109
    try simp only [qa1, qa2, qa3, qa4, qa5, qa6, qa7, qa8, qa9, qaA, qaB, qaC, qaD] at hc109'
    refine rc_seq ?_
    refine rc_region ?_
    refine rd_op (ov_bin rfl rfl i_eql) ?_
    refine rd_op (ov_move rfl) ?_
    refine rd_nil ?_
    refine pn_seq ?_
    refine rc_cond rfl (fun hc111 => ?_) (fun hc111 => ?_)
    ·replace hres := (ite_t hc111).symm.trans hres
     have hc111' := hc111
     try simp only [qa1, qa2, qa3, qa4, qa5, qa6, qa7, qa8, qa9, qaA, qaB, qaC, qaD] at hc111'
     refine rc_seq ?_
     refine rc_region ?_
     refine rd_op (ov_faddr rfl (expr_value.g_v r1)) ?_
     refine rd_op (ov_load rfl rfl rfl) ?_
     refine rd_op (ov_faddr rfl (expr_value.g_v r2)) ?_
     refine rd_op (ov_load rfl rfl rfl) ?_
     refine rd_op (ov_bin (a := vu32 x1.v) (b := vu32 x2.v) rfl rfl w_or) ?_
     refine rd_op (ov_faddr rfl (expr_value.g_w r1)) ?_
     refine rd_op (ov_load rfl rfl rfl) ?_
     refine rd_op (v := .agg [vu32 (x1.v ||| x2.v), vi x1.w]) (ov_build (cs := [vu32 (x1.v ||| x2.v), vi x1.w]) rfl rfl) ?_
     refine rd_storeO (k := 0) (v := .agg [vu32 (x1.v ||| x2.v), vi x1.w]) M101 rfl rfl rfl rfl (fun h112 M112 => ?_)
     replace M112 : Mem h112 [⟨.op i101 w101 0, 88, 2, [.agg [vu32 (x1.v ||| x2.v), vi x1.w]]⟩] := M112
     refine rd_nil ?_
     refine pn_seq ?_
     subst hres
     exact rc_retV (.cell rfl (load_whole (k := 0) M112 rfl rfl) .nil) (deep_closed (TR.clo expr_value.t (show expr_value.t.R ({ v := (x1.v ||| x2.v), w := x1.w } : expr_value) (.agg [vu32 (x1.v ||| x2.v), vi x1.w]) from rfl))) (show expr_value.t.R ({ v := (x1.v ||| x2.v), w := x1.w } : expr_value) (.agg [vu32 (x1.v ||| x2.v), vi x1.w]) from rfl)
    ·replace hres := (ite_f hc111).symm.trans hres
     have hc111' := hc111
     try simp only [qa1, qa2, qa3, qa4, qa5, qa6, qa7, qa8, qa9, qaA, qaB, qaC, qaD] at hc111'
     refine rc_seq ?_
     refine rc_region ?_
     refine rd_op (ov_bin rfl rfl i_eql) ?_
     refine rd_op (ov_move rfl) ?_
     refine rd_nil ?_
     refine pn_seq ?_
     refine rc_cond rfl (fun hc113 => ?_) (fun hc113 => ?_)
     ·replace hres := (ite_t hc113).symm.trans hres
      have hc113' := hc113
      try simp only [qa1, qa2, qa3, qa4, qa5, qa6, qa7, qa8, qa9, qaA, qaB, qaC, qaD] at hc113'
      refine rc_seq ?_
      refine rc_region ?_
      refine rd_op (ov_faddr rfl (expr_value.g_v r1)) ?_
      refine rd_op (ov_load rfl rfl rfl) ?_
      refine rd_op (ov_faddr rfl (expr_value.g_v r2)) ?_
      refine rd_op (ov_load rfl rfl rfl) ?_
      refine rd_op (ov_bin (a := vu32 x1.v) (b := vu32 x2.v) rfl rfl w_xor) ?_
      refine rd_op (ov_faddr rfl (expr_value.g_w r1)) ?_
      refine rd_op (ov_load rfl rfl rfl) ?_
      refine rd_op (v := .agg [vu32 (x1.v ^^^ x2.v), vi x1.w]) (ov_build (cs := [vu32 (x1.v ^^^ x2.v), vi x1.w]) rfl rfl) ?_
      refine rd_storeO (k := 0) (v := .agg [vu32 (x1.v ^^^ x2.v), vi x1.w]) M101 rfl rfl rfl rfl (fun h114 M114 => ?_)
      replace M114 : Mem h114 [⟨.op i101 w101 0, 88, 2, [.agg [vu32 (x1.v ^^^ x2.v), vi x1.w]]⟩] := M114
      refine rd_nil ?_
      refine pn_seq ?_
      subst hres
      exact rc_retV (.cell rfl (load_whole (k := 0) M114 rfl rfl) .nil) (deep_closed (TR.clo expr_value.t (show expr_value.t.R ({ v := (x1.v ^^^ x2.v), w := x1.w } : expr_value) (.agg [vu32 (x1.v ^^^ x2.v), vi x1.w]) from rfl))) (show expr_value.t.R ({ v := (x1.v ^^^ x2.v), w := x1.w } : expr_value) (.agg [vu32 (x1.v ^^^ x2.v), vi x1.w]) from rfl)
     ·replace hres := (ite_f hc113).symm.trans hres
      have hc113' := hc113
      try simp only [qa1, qa2, qa3, qa4, qa5, qa6, qa7, qa8, qa9, qaA, qaB, qaC, qaD] at hc113'
      refine rc_seq ?_
      refine rc_region ?_
      refine rd_op (ov_bin rfl rfl i_eql) ?_
      refine rd_op (ov_move rfl) ?_
      refine rd_nil ?_
      refine pn_seq ?_
      refine rc_cond rfl (fun hc115 => ?_) (fun hc115 => ?_)
      ·replace hres := (ite_t hc115).symm.trans hres
       have hc115' := hc115
       try simp only [qa1, qa2, qa3, qa4, qa5, qa6, qa7, qa8, qa9, qaA, qaB, qaC, qaD] at hc115'
       refine rc_seq ?_
       refine rc_region ?_
       refine rd_op (ov_faddr rfl (expr_value.g_v r1)) ?_
       refine rd_op (ov_load rfl rfl rfl) ?_
       refine rd_op (ov_faddr rfl (expr_value.g_w r1)) ?_
       refine rd_op (ov_load rfl rfl rfl) ?_
       refine rd_op (ov_faddr rfl (expr_value.g_v r2)) ?_
       refine rd_op (ov_load rfl rfl rfl) ?_
       refine rd_op (ov_faddr rfl (expr_value.g_w r2)) ?_
       refine rd_op (ov_load rfl rfl rfl) ?_
       obtain ⟨y116, hw116, hres⟩ := let_ex hres
       have f116 := f81_ok (x0 := x1.v) (x1 := x1.w) (x2 := x2.v) (x3 := x2.w)  
       rw [hw116] at f116
       refine rd_call (cv_fn rfl rfl (clL_cons rfl (clL_cons rfl (clL_cons rfl (clL_cons rfl clL_nil)))) f116) ?_
       refine rd_op (ov_move rfl) ?_
       refine rd_op (ov_extract rfl rfl) ?_
       refine rd_op (ov_extract rfl rfl) ?_
       refine rd_op (ov_move rfl) ?_
       refine rd_op (ov_move rfl) ?_
       refine rd_nil ?_
       refine pn_seq ?_
       refine rc_seq ?_
       refine rc_region ?_
       refine rd_op (ov_move rfl) ?_
       refine rd_op (ov_faddr rfl (expr_value.g_w r1)) ?_
       refine rd_op (ov_load rfl rfl rfl) ?_
       refine rd_op (ov_faddr rfl (expr_value.g_w r2)) ?_
       refine rd_op (ov_load rfl rfl rfl) ?_
       refine rd_op (ov_bin rfl rfl i_add) ?_
       refine rd_op (v := .agg [vu32 y116.1, vi (wr (x1.w + x2.w))]) (ov_build (cs := [vu32 y116.1, vi (wr (x1.w + x2.w))]) rfl rfl) ?_
       refine rd_storeO (k := 0) (v := .agg [vu32 y116.1, vi (wr (x1.w + x2.w))]) M101 rfl rfl rfl rfl (fun h117 M117 => ?_)
       replace M117 : Mem h117 [⟨.op i101 w101 0, 88, 2, [.agg [vu32 y116.1, vi (wr (x1.w + x2.w))]]⟩] := M117
       refine rd_nil ?_
       refine pn_seq ?_
       subst hres
       exact rc_retV (.cell rfl (load_whole (k := 0) M117 rfl rfl) .nil) (deep_closed (TR.clo expr_value.t (show expr_value.t.R ({ v := y116.1, w := (wr (x1.w + x2.w)) } : expr_value) (.agg [vu32 y116.1, vi (wr (x1.w + x2.w))]) from rfl))) (show expr_value.t.R ({ v := y116.1, w := (wr (x1.w + x2.w)) } : expr_value) (.agg [vu32 y116.1, vi (wr (x1.w + x2.w))]) from rfl)
      ·replace hres := (ite_f hc115).symm.trans hres
       have hc115' := hc115
       try simp only [qa1, qa2, qa3, qa4, qa5, qa6, qa7, qa8, qa9, qaA, qaB, qaC, qaD] at hc115'
       refine rc_seq ?_
       refine rc_region ?_
       refine rd_op (ov_bin rfl rfl i_eql) ?_
       refine rd_op (ov_move rfl) ?_
       refine rd_nil ?_
       refine pn_seq ?_
       refine rc_cond rfl (fun hc118 => ?_) (fun hc118 => ?_)
       ·replace hres := (ite_t hc118).symm.trans hres
        have hc118' := hc118
        try simp only [qa1, qa2, qa3, qa4, qa5, qa6, qa7, qa8, qa9, qaA, qaB, qaC, qaD] at hc118'
        refine rc_seq ?_
        refine rc_region ?_
        refine rd_op (ov_faddr rfl (expr_value.g_v r1)) ?_
        refine rd_op (ov_load rfl rfl rfl) ?_
        refine rd_op (ov_faddr rfl (expr_value.g_v r2)) ?_
        refine rd_op (ov_load rfl rfl rfl) ?_
        refine rd_op (ov_bin (a := vu32 x1.v) (b := vu32 x2.v) rfl rfl w_eql) ?_
        obtain ⟨y119, hw119, hres⟩ := let_ex hres
        obtain ⟨v120, f119, r120⟩ := f82_ok (x0 := (decide (x1.v = x2.v)))  
        rw [hw119] at r120
        refine rd_call (cv_fn rfl rfl (clL_cons rfl clL_nil) f119) ?_
        refine rd_storeO (k := 0) (v := v120) M101 rfl rfl rfl (TR.cnt expr_value.t r120) (fun h121 M121 => ?_)
        replace M121 : Mem h121 [⟨.op i101 w101 0, 88, 2, [v120]⟩] := M121
        refine rd_nil ?_
        refine pn_seq ?_
        subst hres
        exact rc_retV (.cell rfl (load_whole (k := 0) M121 rfl (TR.agg expr_value.t r120)) .nil) (deep_closed (TR.clo expr_value.t r120)) r120
       ·replace hres := (ite_f hc118).symm.trans hres
        have hc118' := hc118
        try simp only [qa1, qa2, qa3, qa4, qa5, qa6, qa7, qa8, qa9, qaA, qaB, qaC, qaD] at hc118'
        refine rc_skip ?_
        refine pn_blk ?_
        refine pn_seq ?_
        refine rc_seq ?_
        refine rc_region ?_
        refine rd_op (ov_faddr rfl (expr_value.g_v r1)) ?_
        refine rd_op (ov_load rfl rfl rfl) ?_
        refine rd_op (ov_faddr rfl (expr_value.g_v r2)) ?_
        refine rd_op (ov_load rfl rfl rfl) ?_
        refine rd_op (ov_bin (a := vu32 x1.v) (b := vu32 x2.v) rfl rfl w_lss) ?_
        obtain ⟨y122, hw122, hres⟩ := let_ex hres
        obtain ⟨v123, f122, r123⟩ := f82_ok (x0 := (decide (x1.v < x2.v)))  
        rw [hw122] at r123
        refine rd_call (cv_fn rfl rfl (clL_cons rfl clL_nil) f122) ?_
        refine rd_storeO (k := 0) (v := v123) M101 rfl rfl rfl (TR.cnt expr_value.t r123) (fun h124 M124 => ?_)
        replace M124 : Mem h124 [⟨.op i101 w101 0, 88, 2, [v123]⟩] := M124
        refine rd_nil ?_
        refine pn_seq ?_
        subst hres
        exact rc_retV (.cell rfl (load_whole (k := 0) M124 rfl (TR.agg expr_value.t r123)) .nil) (deep_closed (TR.clo expr_value.t r123)) r123

/-- (*patchbay/expr.machine).eval -/
def RF36 (i0_ w0_ : Nat) (R_ : List Ent) (res : expr_value × expr_machine) (r : PV) (h : Heap) : Prop := ∃ uF0 : PV, ∃ c0_ : PV, Mem h (⟨.op i0_ w0_ 0, 86, 17, [uF0]⟩ :: R_) ∧ (expr_machine.t.R res.2 uF0) ∧ r = c0_ ∧ expr_value.t.R res.1 c0_
theorem f36_okB {rec_ : expr_machine → (expr_value × expr_machine)} {mu_ : Nat} {x0 : expr_machine} {u0_ : PV} {R_ : List Ent} {h_ : Heap} {i0_ w0_ : Nat} (ru0_ : expr_machine.t.R x0 u0_) (M_ : Mem h_ (⟨.op i0_ w0_ 0, 86, 17, [u0_]⟩ :: R_)) (hv : VE x0) (hmu : mu_ = x0.nodes.length - x0.next.toNat) (hrec : HR rec_) (ihR : ∀ {z0 : expr_machine} {u0_ : PV} {R_ : List Ent} {h_ : Heap} {i0_ w0_ : Nat} (ru0_ : expr_machine.t.R z0 u0_) (M_ : Mem h_ (⟨.op i0_ w0_ 0, 86, 17, [u0_]⟩ :: R_)) (hv : VE z0), z0.nodes.length - z0.next.toNat < mu_ → ∃ r h2_, FnX Try.prog 36 [.op i0_ w0_ 0] h_ r h2_ ∧ RF36 i0_ w0_ R_ (rec_ z0) r h2_) : ∃ r h2_, FnX Try.prog 36 [.op i0_ w0_ 0] h_ r h2_ ∧ RF36 i0_ w0_ R_ (m2_expr_machine__eval_B rec_ x0) r h2_ := by
 obtain ⟨res, hres⟩ : ∃ res, m2_expr_machine__eval_B rec_ x0 = res := ⟨_, rfl⟩
 suffices H : RC Try.prog ac36 [] (retPost Try.prog [(2, some (2, true))] (RF36 i0_ w0_ R_ res)) (argE 0 [.op i0_ w0_ 0]) h_ by
  rw [hres]
  exact fnX text36 (by simp) H
 unfold m2_expr_machine__eval_B at hres
 unfold ac36
 refine rc_seq ?_
 refine rc_region ?_
 refine rd_allocO (x := .agg [vu32 0#32, vi 0]) M_ rfl rfl (fun i101 w101 h101 M101 => ?_)
 refine rd_nil ?_
 refine pn_seq ?_
 refine rc_seq ?_
 refine rc_region ?_
 refine rd_op (ov_move rfl) ?_
 refine rd_op (ov_nilCheck rfl rfl) ?_
 refine rd_op (ov_faddrO rfl) ?_
 obtain ⟨v103, e103, r103⟩ := expr_machine.g_nodes ru0_
 refine rd_op (ov_loadf (k := 1) M101 rfl rfl e103) ?_
 refine rd_op (ov_move rfl) ?_
 refine rd_op (ov_nilCheck rfl rfl) ?_
 refine rd_op (ov_faddrO rfl) ?_
 refine rd_op (ov_loadf (k := 1) M101 rfl rfl (expr_machine.g_next ru0_)) ?_
 obtain ⟨v104, e104, r104⟩ := sl_idx (i := x0.next) r103 (by first | omega | exact (ve_lt hv).1 | exact (ve_lt hv).2) (by first | omega | exact (ve_lt hv).1 | exact (ve_lt hv).2)
 refine rd_op (ov_iaddr rfl rfl e104) ?_
 refine rd_op (ov_load rfl (TR.cnt api_ExprNode.t r104) (TR.agg api_ExprNode.t r104)) ?_
 refine rd_allocO (x := .agg [vi 0, vi 0, vi 0]) M101 rfl rfl (fun i105 w105 h105 M105 => ?_)
 refine rd_storeO (k := 0) (v := v104) M105 rfl rfl rfl (TR.cnt api_ExprNode.t r104) (fun h107 M107 => ?_)
 replace M107 : Mem h107 (⟨.op i105 w105 0, 69, 3, [v104]⟩ :: ⟨.op i101 w101 0, 88, 2, [.agg [vu32 0#32, vi 0]]⟩ :: ⟨.op i0_ w0_ 0, 86, 17, [u0_]⟩ :: R_) := M107
 refine rd_nil ?_
 refine pn_seq ?_
 refine rc_seq ?_
 refine rc_regionS ?_
 refine rs_step ?_
 refine rd_op (ov_move rfl) ?_
 refine rs_back ?_
 refine rs_step ?_
 refine rd_op (ov_nilCheck rfl rfl) ?_
 refine rs_back ?_
 refine rs_step ?_
 refine rd_op (ov_faddrO rfl) ?_
 refine rs_back ?_
 refine rs_step ?_
 refine rd_op (ov_loadf (k := 2) M107 rfl rfl (expr_machine.g_next ru0_)) ?_
 refine rs_back ?_
 refine rs_step ?_
 refine rd_op (ov_bin rfl rfl i_add) ?_
 refine rs_back ?_
 refine rs_step ?_
 refine rd_op (ov_nilCheck rfl rfl) ?_
 refine rs_back ?_
 refine rs_step ?_
 refine rd_op (ov_faddrO rfl) ?_
 refine rs_back ?_
 refine rs_step ?_
 obtain ⟨v109_c1, v109_c2, v109_c3, v109_c4, v109_c5, v109_c6, v109_c7, v109_c8, v109_c9, v109_c10, v109_c11, v109_c12, v109_c13, v109_c14, v109_c15, e109, r109_c1, r109_c2, r109_c3, r109_c4, r109_c5, r109_c6, r109_c7, r109_c8, r109_c9, r109_c10, r109_c11, r109_c12, r109_c13, r109_c14, r109_c15⟩ := ru0_
 subst e109
 refine rd_storeF (k := 2) (v := vi (wr (x0.next + 1))) M107 rfl rfl rfl rfl rfl (by first | decide | (simp only [List.length_cons, List.length_nil]; omega) | simp) (fun h108 M108 => ?_)
 replace M108 : Mem h108 (⟨.op i105 w105 0, 69, 3, [v104]⟩ :: ⟨.op i101 w101 0, 88, 2, [.agg [vu32 0#32, vi 0]]⟩ :: ⟨.op i0_ w0_ 0, 86, 17, [.agg [vs x0.scope.Program.Name, v109_c1, v109_c2, v109_c3, v109_c4, v109_c5, v109_c6, v109_c7, v109_c8, v109_c9, v109_c10, v109_c11, v109_c12, v109_c13, v109_c14, v109_c15, vi (wr (x0.next + 1))]]⟩ :: R_) := M108
 refine rs_back ?_
 refine rs_freezeP (k := 0) (E' := [(25, .op i0_ w0_ (0 + 16)), (24, .op i0_ w0_ 0), (23, vi (wr (x0.next + 1))), (22, vi x0.next), (21, .op i0_ w0_ (0 + 16)), (20, .op i0_ w0_ 0), (19, .op i0_ w0_ 0), (3, .fp v104), (18, v104), (17, .fp v104), (16, vi x0.next), (15, .op i0_ w0_ (0 + 16)), (14, .op i0_ w0_ 0), (13, .op i0_ w0_ 0), (12, v103), (11, .op i0_ w0_ (0 + 15)), (10, .op i0_ w0_ 0), (9, .op i0_ w0_ 0), (2, .op i101 w101 0), (0, .op i0_ w0_ 0)]) M108 rfl (frz_keep rfl (frz_keep rfl (frz_keep rfl (frz_keep rfl (frz_keep rfl (frz_keep rfl (frz_keep rfl (frz_turn rfl (frz_keep rfl (frz_keep rfl (frz_keep rfl (frz_keep rfl (frz_keep rfl (frz_keep rfl (frz_keep rfl (frz_keep rfl (frz_keep rfl (frz_keep rfl (frz_keep rfl (frz_keep rfl frz_nil)))))))))))))))))))) (fun h110 M110 => ?_)
 replace M110 : Mem h110 (⟨.op i101 w101 0, 88, 2, [.agg [vu32 0#32, vi 0]]⟩ :: ⟨.op i0_ w0_ 0, 86, 17, [.agg [vs x0.scope.Program.Name, v109_c1, v109_c2, v109_c3, v109_c4, v109_c5, v109_c6, v109_c7, v109_c8, v109_c9, v109_c10, v109_c11, v109_c12, v109_c13, v109_c14, v109_c15, vi (wr (x0.next + 1))]]⟩ :: R_) := M110
 refine rs_nil ?_
 refine pn_seq ?_
 refine rc_seq ?_
 refine rc_seq ?_
 refine rc_region ?_
 refine rd_op (ov_faddr rfl (api_ExprNode.g_Op r104)) ?_
 refine rd_op (ov_load rfl rfl rfl) ?_
 obtain ⟨y111, hw111, hres⟩ := let_ex hres
 have f111 := f23_ok (x0 := (ix x0.nodes x0.next).Op)  
 rw [hw111] at f111
 refine rd_call (cv_fn rfl rfl (clL_cons rfl clL_nil) f111) ?_
 refine rd_nil ?_
 refine pn_seq ?_
 refine rc_block ?_
 refine rc_seq ?_
 refine rc_region ?_
 refine rd_op (ov_bin rfl rfl i_eql) ?_
 refine rd_op (ov_move rfl) ?_
 refine rd_nil ?_
 refine pn_seq ?_
 refine rc_cond rfl (fun hc112 => ?_) (fun hc112 => ?_)
 ·replace hres := (ite_t hc112).symm.trans hres
  have hc112' := hc112
  try simp only [qa1, qa2, qa3, qa4, qa5, qa6, qa7, qa8, qa9, qaA, qaB, qaC, qaD] at hc112'
  refine rc_seq ?_
  refine rc_regionS ?_
  refine rs_step ?_
  refine rd_op (ov_move rfl) ?_
  refine rs_back ?_
  refine rs_step ?_
  refine rd_op (ov_load rfl (TR.cnt api_ExprNode.t r104) (TR.agg api_ExprNode.t r104)) ?_
  refine rs_back ?_
  have M113 : Mem h110 (⟨.op i0_ w0_ 0, 86, 17, [.agg [vs x0.scope.Program.Name, v109_c1, v109_c2, v109_c3, v109_c4, v109_c5, v109_c6, v109_c7, v109_c8, v109_c9, v109_c10, v109_c11, v109_c12, v109_c13, v109_c14, v109_c15, vi (wr (x0.next + 1))]]⟩ :: ⟨.op i101 w101 0, 88, 2, [.agg [vu32 0#32, vi 0]]⟩ :: R_) := (Mem.front (k := 1) M110 rfl)
  obtain ⟨y113, hw113, hres⟩ := let_ex hres
  obtain ⟨vr113, h115, hX113, hZ113⟩ := f46_ok (x0 := ({ scope := x0.scope, env := x0.env, args := x0.args, nodes := x0.nodes, next := (wr (x0.next + 1)) } : expr_machine)) (x1 := (ix x0.nodes x0.next)) r104 (show expr_machine.t.R ({ scope := x0.scope, env := x0.env, args := x0.args, nodes := x0.nodes, next := (wr (x0.next + 1)) } : expr_machine) (.agg [vs x0.scope.Program.Name, v109_c1, v109_c2, v109_c3, v109_c4, v109_c5, v109_c6, v109_c7, v109_c8, v109_c9, v109_c10, v109_c11, v109_c12, v109_c13, v109_c14, v109_c15, vi (wr (x0.next + 1))]) from ⟨v109_c1, v109_c2, v109_c3, v109_c4, v109_c5, v109_c6, v109_c7, v109_c8, v109_c9, v109_c10, v109_c11, v109_c12, v109_c13, v109_c14, v109_c15, rfl, r109_c1, r109_c2, r109_c3, r109_c4, r109_c5, r109_c6, r109_c7, r109_c8, r109_c9, r109_c10, r109_c11, r109_c12, r109_c13, r109_c14, r109_c15⟩) M113 (by exact evp hv (by assumption) (by assumption))
  rw [hw113] at hZ113
  obtain ⟨u113_0, v114, M115, ru113_0, hr113, r114⟩ := hZ113
  replace hr113 := hr113.symm; subst hr113
  refine rs_callXc rfl rfl hX113 ?_
  refine rs_step ?_
  refine rd_storeO (k := 1) (v := v114) M115 rfl rfl rfl (TR.cnt expr_value.t r114) (fun h116 M116 => ?_)
  replace M116 : Mem h116 (⟨.op i0_ w0_ 0, 86, 17, [u113_0]⟩ :: ⟨.op i101 w101 0, 88, 2, [v114]⟩ :: R_) := M116
  refine rs_back ?_
  refine rs_nil ?_
  refine pn_seq ?_
  have MZ117 : Mem h116 (⟨.op i0_ w0_ 0, 86, 17, [u113_0]⟩ :: ⟨.op i101 w101 0, 88, 2, [v114]⟩ :: R_) := (Mem.front (k := 0) M116 rfl)
  subst hres
  exact rc_retX (.cell rfl (load_whole (k := 1) M116 rfl (TR.agg expr_value.t r114)) .nil) ⟨u113_0, v114, Mem.sub MZ117 (.cons_cons _ (.cons _ (List.Sublist.refl R_))), ru113_0, rfl, r114⟩
 ·replace hres := (ite_f hc112).symm.trans hres
  have hc112' := hc112
  try simp only [qa1, qa2, qa3, qa4, qa5, qa6, qa7, qa8, qa9, qaA, qaB, qaC, qaD] at hc112'
  refine rc_seq ?_
  refine rc_region ?_
  refine rd_op (ov_bin rfl rfl i_eql) ?_
  refine rd_op (ov_move rfl) ?_
  refine rd_nil ?_
  refine pn_seq ?_
  refine rc_cond rfl (fun hc118 => ?_) (fun hc118 => ?_)
  ·replace hres := (ite_t hc118).symm.trans hres
   have hc118' := hc118
   try simp only [qa1, qa2, qa3, qa4, qa5, qa6, qa7, qa8, qa9, qaA, qaB, qaC, qaD] at hc118'
   refine rc_seq ?_
   refine rc_regionU ?_
   refine rx_step ?_
   refine rd_op (ov_load rfl (TR.cnt api_ExprNode.t r104) (TR.agg api_ExprNode.t r104)) ?_
   refine rx_back ?_
   refine rx_step ?_
   refine rd_op (ov_move rfl) ?_
   refine rx_back ?_
   have M119 : Mem h110 (⟨.op i0_ w0_ 0, 86, 17, [.agg [vs x0.scope.Program.Name, v109_c1, v109_c2, v109_c3, v109_c4, v109_c5, v109_c6, v109_c7, v109_c8, v109_c9, v109_c10, v109_c11, v109_c12, v109_c13, v109_c14, v109_c15, vi (wr (x0.next + 1))]]⟩ :: ⟨.op i101 w101 0, 88, 2, [.agg [vu32 0#32, vi 0]]⟩ :: R_) := (Mem.front (k := 1) M110 rfl)
   obtain ⟨y119, hw119, hres⟩ := let_ex hres
   obtain ⟨vr119, h121, hX119, hZ119⟩ := ihR (z0 := ({ scope := x0.scope, env := x0.env, args := x0.args, nodes := x0.nodes, next := (wr (x0.next + 1)) } : expr_machine)) (show expr_machine.t.R ({ scope := x0.scope, env := x0.env, args := x0.args, nodes := x0.nodes, next := (wr (x0.next + 1)) } : expr_machine) (.agg [vs x0.scope.Program.Name, v109_c1, v109_c2, v109_c3, v109_c4, v109_c5, v109_c6, v109_c7, v109_c8, v109_c9, v109_c10, v109_c11, v109_c12, v109_c13, v109_c14, v109_c15, vi (wr (x0.next + 1))]) from ⟨v109_c1, v109_c2, v109_c3, v109_c4, v109_c5, v109_c6, v109_c7, v109_c8, v109_c9, v109_c10, v109_c11, v109_c12, v109_c13, v109_c14, v109_c15, rfl, r109_c1, r109_c2, r109_c3, r109_c4, r109_c5, r109_c6, r109_c7, r109_c8, r109_c9, r109_c10, r109_c11, r109_c12, r109_c13, r109_c14, r109_c15⟩) M119 (by first | exact ev1 hv (by assumption) (by assumption) | exact ev2 hv (by assumption) (by assumption) (by assumption) hrec (by assumption) | exact ev3 hv (by assumption) (by assumption) (by assumption) (by assumption) hrec (by assumption) (by assumption)) (by rw [hmu]; first | exact dv1 hv (by assumption) (by assumption) | exact dv2 hv (by assumption) (by assumption) (by assumption) hrec (by assumption) | exact dv3 hv (by assumption) (by assumption) (by assumption) (by assumption) hrec (by assumption) (by assumption))
   rw [hw119] at hZ119
   obtain ⟨u119_0, v120, M121, ru119_0, hr119, r120⟩ := hZ119
   replace hr119 := hr119.symm; subst hr119
   refine rx_callXc rfl rfl hX119 ?_
   refine rx_step ?_
   obtain ⟨y122, hw122, hres⟩ := let_ex hres
   obtain ⟨v123, f122, r123⟩ := f47_ok  r104 r120 
   rw [hw122] at r123
   refine rd_call (cv_fn rfl rfl (clL_cons (TR.clo api_ExprNode.t r104) (clL_cons (TR.clo expr_value.t r120) clL_nil)) f122) ?_
   refine rx_back ?_
   refine rx_step ?_
   refine rd_storeO (k := 1) (v := v123) M121 rfl rfl rfl (TR.cnt expr_value.t r123) (fun h124 M124 => ?_)
   replace M124 : Mem h124 (⟨.op i0_ w0_ 0, 86, 17, [u119_0]⟩ :: ⟨.op i101 w101 0, 88, 2, [v123]⟩ :: R_) := M124
   refine rx_back ?_
   refine rx_nil ?_
   refine pn_seq ?_
   have MZ125 : Mem h124 (⟨.op i0_ w0_ 0, 86, 17, [u119_0]⟩ :: ⟨.op i101 w101 0, 88, 2, [v123]⟩ :: R_) := (Mem.front (k := 0) M124 rfl)
   subst hres
   exact rc_retX (.cell rfl (load_whole (k := 1) M124 rfl (TR.agg expr_value.t r123)) .nil) ⟨u119_0, v123, Mem.sub MZ125 (.cons_cons _ (.cons _ (List.Sublist.refl R_))), ru119_0, rfl, r123⟩
  ·replace hres := (ite_f hc118).symm.trans hres
   have hc118' := hc118
   try simp only [qa1, qa2, qa3, qa4, qa5, qa6, qa7, qa8, qa9, qaA, qaB, qaC, qaD] at hc118'
   refine rc_seq ?_
   refine rc_region ?_
   refine rd_op (ov_bin rfl rfl i_eql) ?_
   refine rd_op (ov_move rfl) ?_
   refine rd_nil ?_
   refine pn_seq ?_
   refine rc_cond rfl (fun hc126 => ?_) (fun hc126 => ?_)
   ·replace hres := (ite_t hc126).symm.trans hres
    have hc126' := hc126
    try simp only [qa1, qa2, qa3, qa4, qa5, qa6, qa7, qa8, qa9, qaA, qaB, qaC, qaD] at hc126'
    refine rc_seq ?_
    refine rc_regionS ?_
    refine rs_step ?_
    refine rd_op (ov_move rfl) ?_
    refine rs_back ?_
    have M127 : Mem h110 (⟨.op i0_ w0_ 0, 86, 17, [.agg [vs x0.scope.Program.Name, v109_c1, v109_c2, v109_c3, v109_c4, v109_c5, v109_c6, v109_c7, v109_c8, v109_c9, v109_c10, v109_c11, v109_c12, v109_c13, v109_c14, v109_c15, vi (wr (x0.next + 1))]]⟩ :: ⟨.op i101 w101 0, 88, 2, [.agg [vu32 0#32, vi 0]]⟩ :: R_) := (Mem.front (k := 1) M110 rfl)
    obtain ⟨y127, hw127, hres⟩ := let_ex hres
    obtain ⟨vr127, h129, hX127, hZ127⟩ := ihR (z0 := ({ scope := x0.scope, env := x0.env, args := x0.args, nodes := x0.nodes, next := (wr (x0.next + 1)) } : expr_machine)) (show expr_machine.t.R ({ scope := x0.scope, env := x0.env, args := x0.args, nodes := x0.nodes, next := (wr (x0.next + 1)) } : expr_machine) (.agg [vs x0.scope.Program.Name, v109_c1, v109_c2, v109_c3, v109_c4, v109_c5, v109_c6, v109_c7, v109_c8, v109_c9, v109_c10, v109_c11, v109_c12, v109_c13, v109_c14, v109_c15, vi (wr (x0.next + 1))]) from ⟨v109_c1, v109_c2, v109_c3, v109_c4, v109_c5, v109_c6, v109_c7, v109_c8, v109_c9, v109_c10, v109_c11, v109_c12, v109_c13, v109_c14, v109_c15, rfl, r109_c1, r109_c2, r109_c3, r109_c4, r109_c5, r109_c6, r109_c7, r109_c8, r109_c9, r109_c10, r109_c11, r109_c12, r109_c13, r109_c14, r109_c15⟩) M127 (by first | exact ev1 hv (by assumption) (by assumption) | exact ev2 hv (by assumption) (by assumption) (by assumption) hrec (by assumption) | exact ev3 hv (by assumption) (by assumption) (by assumption) (by assumption) hrec (by assumption) (by assumption)) (by rw [hmu]; first | exact dv1 hv (by assumption) (by assumption) | exact dv2 hv (by assumption) (by assumption) (by assumption) hrec (by assumption) | exact dv3 hv (by assumption) (by assumption) (by assumption) (by assumption) hrec (by assumption) (by assumption))
    rw [hw127] at hZ127
    obtain ⟨u127_0, v128, M129, ru127_0, hr127, r128⟩ := hZ127
    replace hr127 := hr127.symm; subst hr127
    refine rs_callXc rfl rfl hX127 ?_
    refine rs_step ?_
    refine rd_allocO (x := .agg [vu32 0#32, vi 0]) M129 rfl rfl (fun i130 w130 h130 M130 => ?_)
    refine rs_back ?_
    refine rs_step ?_
    refine rd_storeO (k := 0) (v := v128) M130 rfl rfl rfl (TR.cnt expr_value.t r128) (fun h132 M132 => ?_)
    replace M132 : Mem h132 (⟨.op i130 w130 0, 88, 2, [v128]⟩ :: ⟨.op i0_ w0_ 0, 86, 17, [u127_0]⟩ :: ⟨.op i101 w101 0, 88, 2, [.agg [vu32 0#32, vi 0]]⟩ :: R_) := M132
    refine rs_back ?_
    refine rs_nil ?_
    refine pn_seq ?_
    refine rc_seq ?_
    refine rc_regionS ?_
    refine rs_step ?_
    refine rd_op (ov_move rfl) ?_
    refine rs_back ?_
    have M133 : Mem h132 (⟨.op i0_ w0_ 0, 86, 17, [u127_0]⟩ :: ⟨.op i130 w130 0, 88, 2, [v128]⟩ :: ⟨.op i101 w101 0, 88, 2, [.agg [vu32 0#32, vi 0]]⟩ :: R_) := (Mem.front (k := 1) M132 rfl)
    obtain ⟨y133, hw133, hres⟩ := let_ex hres
    obtain ⟨vr133, h135, hX133, hZ133⟩ := ihR (z0 := y127.2) ru127_0 M133 (by first | exact ev1 hv (by assumption) (by assumption) | exact ev2 hv (by assumption) (by assumption) (by assumption) hrec (by assumption) | exact ev3 hv (by assumption) (by assumption) (by assumption) (by assumption) hrec (by assumption) (by assumption)) (by rw [hmu]; first | exact dv1 hv (by assumption) (by assumption) | exact dv2 hv (by assumption) (by assumption) (by assumption) hrec (by assumption) | exact dv3 hv (by assumption) (by assumption) (by assumption) (by assumption) hrec (by assumption) (by assumption))
    rw [hw133] at hZ133
    obtain ⟨u133_0, v134, M135, ru133_0, hr133, r134⟩ := hZ133
    replace hr133 := hr133.symm; subst hr133
    refine rs_callXc rfl rfl hX133 ?_
    refine rs_step ?_
    refine rd_allocO (x := .agg [vu32 0#32, vi 0]) M135 rfl rfl (fun i136 w136 h136 M136 => ?_)
    refine rs_back ?_
    refine rs_step ?_
    refine rd_storeO (k := 0) (v := v134) M136 rfl rfl rfl (TR.cnt expr_value.t r134) (fun h138 M138 => ?_)
    replace M138 : Mem h138 (⟨.op i136 w136 0, 88, 2, [v134]⟩ :: ⟨.op i0_ w0_ 0, 86, 17, [u133_0]⟩ :: ⟨.op i130 w130 0, 88, 2, [v128]⟩ :: ⟨.op i101 w101 0, 88, 2, [.agg [vu32 0#32, vi 0]]⟩ :: R_) := M138
    refine rs_back ?_
    refine rs_nil ?_
    refine pn_seq ?_
    refine rc_seq ?_
    refine rc_region ?_
    refine rd_op (ov_faddr rfl (api_ExprNode.g_Op r104)) ?_
    refine rd_op (ov_load rfl rfl rfl) ?_
    refine rd_op (ov_load0 (k := 2) M138 rfl rfl (TR.agg expr_value.t r128)) ?_
    refine rd_op (ov_load0 (k := 0) M138 rfl rfl (TR.agg expr_value.t r134)) ?_
    obtain ⟨y139, hw139, hres⟩ := let_ex hres
    obtain ⟨v140, f139, r140⟩ := f48_ok (x0 := (ix x0.nodes x0.next).Op) r128 r134 
    rw [hw139] at r140
    refine rd_call (cv_fn rfl rfl (clL_cons rfl (clL_cons (TR.clo expr_value.t r128) (clL_cons (TR.clo expr_value.t r134) clL_nil))) f139) ?_
    refine rd_storeO (k := 3) (v := v140) M138 rfl rfl rfl (TR.cnt expr_value.t r140) (fun h141 M141 => ?_)
    replace M141 : Mem h141 (⟨.op i136 w136 0, 88, 2, [v134]⟩ :: ⟨.op i0_ w0_ 0, 86, 17, [u133_0]⟩ :: ⟨.op i130 w130 0, 88, 2, [v128]⟩ :: ⟨.op i101 w101 0, 88, 2, [v140]⟩ :: R_) := M141
    refine rd_nil ?_
    refine pn_seq ?_
    have MZ142 : Mem h141 (⟨.op i0_ w0_ 0, 86, 17, [u133_0]⟩ :: ⟨.op i136 w136 0, 88, 2, [v134]⟩ :: ⟨.op i130 w130 0, 88, 2, [v128]⟩ :: ⟨.op i101 w101 0, 88, 2, [v140]⟩ :: R_) := (Mem.front (k := 1) M141 rfl)
    subst hres
    exact rc_retX (.cell rfl (load_whole (k := 3) M141 rfl (TR.agg expr_value.t r140)) .nil) ⟨u133_0, v140, Mem.sub MZ142 (.cons_cons _ (.cons _ (.cons _ (.cons _ (List.Sublist.refl R_))))), ru133_0, rfl, r140⟩
   ·replace hres := (ite_f hc126).symm.trans hres
    have hc126' := hc126
    try simp only [qa1, qa2, qa3, qa4, qa5, qa6, qa7, qa8, qa9, qaA, qaB, qaC, qaD] at hc126'
    refine rc_skip ?_
    refine pn_blk ?_
    refine pn_seq ?_
    refine rc_seq ?_
    refine rc_regionS ?_
    refine rs_step ?_
    refine rd_op (ov_move rfl) ?_
    refine rs_back ?_
    have M143 : Mem h110 (⟨.op i0_ w0_ 0, 86, 17, [.agg [vs x0.scope.Program.Name, v109_c1, v109_c2, v109_c3, v109_c4, v109_c5, v109_c6, v109_c7, v109_c8, v109_c9, v109_c10, v109_c11, v109_c12, v109_c13, v109_c14, v109_c15, vi (wr (x0.next + 1))]]⟩ :: ⟨.op i101 w101 0, 88, 2, [.agg [vu32 0#32, vi 0]]⟩ :: R_) := (Mem.front (k := 1) M110 rfl)
    obtain ⟨y143, hw143, hres⟩ := let_ex hres
    obtain ⟨vr143, h145, hX143, hZ143⟩ := ihR (z0 := ({ scope := x0.scope, env := x0.env, args := x0.args, nodes := x0.nodes, next := (wr (x0.next + 1)) } : expr_machine)) (show expr_machine.t.R ({ scope := x0.scope, env := x0.env, args := x0.args, nodes := x0.nodes, next := (wr (x0.next + 1)) } : expr_machine) (.agg [vs x0.scope.Program.Name, v109_c1, v109_c2, v109_c3, v109_c4, v109_c5, v109_c6, v109_c7, v109_c8, v109_c9, v109_c10, v109_c11, v109_c12, v109_c13, v109_c14, v109_c15, vi (wr (x0.next + 1))]) from ⟨v109_c1, v109_c2, v109_c3, v109_c4, v109_c5, v109_c6, v109_c7, v109_c8, v109_c9, v109_c10, v109_c11, v109_c12, v109_c13, v109_c14, v109_c15, rfl, r109_c1, r109_c2, r109_c3, r109_c4, r109_c5, r109_c6, r109_c7, r109_c8, r109_c9, r109_c10, r109_c11, r109_c12, r109_c13, r109_c14, r109_c15⟩) M143 (by first | exact ev1 hv (by assumption) (by assumption) | exact ev2 hv (by assumption) (by assumption) (by assumption) hrec (by assumption) | exact ev3 hv (by assumption) (by assumption) (by assumption) (by assumption) hrec (by assumption) (by assumption)) (by rw [hmu]; first | exact dv1 hv (by assumption) (by assumption) | exact dv2 hv (by assumption) (by assumption) (by assumption) hrec (by assumption) | exact dv3 hv (by assumption) (by assumption) (by assumption) (by assumption) hrec (by assumption) (by assumption))
    rw [hw143] at hZ143
    obtain ⟨u143_0, v144, M145, ru143_0, hr143, r144⟩ := hZ143
    replace hr143 := hr143.symm; subst hr143
    refine rs_callXc rfl rfl hX143 ?_
    refine rs_step ?_
    refine rd_allocO (x := .agg [vu32 0#32, vi 0]) M145 rfl rfl (fun i146 w146 h146 M146 => ?_)
    refine rs_back ?_
    refine rs_step ?_
    refine rd_storeO (k := 0) (v := v144) M146 rfl rfl rfl (TR.cnt expr_value.t r144) (fun h148 M148 => ?_)
    replace M148 : Mem h148 (⟨.op i146 w146 0, 88, 2, [v144]⟩ :: ⟨.op i0_ w0_ 0, 86, 17, [u143_0]⟩ :: ⟨.op i101 w101 0, 88, 2, [.agg [vu32 0#32, vi 0]]⟩ :: R_) := M148
    refine rs_back ?_
    refine rs_nil ?_
    refine pn_seq ?_
    refine rc_seq ?_
    refine rc_regionS ?_
    refine rs_step ?_
    refine rd_op (ov_move rfl) ?_
    refine rs_back ?_
    have M149 : Mem h148 (⟨.op i0_ w0_ 0, 86, 17, [u143_0]⟩ :: ⟨.op i146 w146 0, 88, 2, [v144]⟩ :: ⟨.op i101 w101 0, 88, 2, [.agg [vu32 0#32, vi 0]]⟩ :: R_) := (Mem.front (k := 1) M148 rfl)
    obtain ⟨y149, hw149, hres⟩ := let_ex hres
    obtain ⟨vr149, h151, hX149, hZ149⟩ := ihR (z0 := y143.2) ru143_0 M149 (by first | exact ev1 hv (by assumption) (by assumption) | exact ev2 hv (by assumption) (by assumption) (by assumption) hrec (by assumption) | exact ev3 hv (by assumption) (by assumption) (by assumption) (by assumption) hrec (by assumption) (by assumption)) (by rw [hmu]; first | exact dv1 hv (by assumption) (by assumption) | exact dv2 hv (by assumption) (by assumption) (by assumption) hrec (by assumption) | exact dv3 hv (by assumption) (by assumption) (by assumption) (by assumption) hrec (by assumption) (by assumption))
    rw [hw149] at hZ149
    obtain ⟨u149_0, v150, M151, ru149_0, hr149, r150⟩ := hZ149
    replace hr149 := hr149.symm; subst hr149
    refine rs_callXc rfl rfl hX149 ?_
    refine rs_step ?_
    refine rd_allocO (x := .agg [vu32 0#32, vi 0]) M151 rfl rfl (fun i152 w152 h152 M152 => ?_)
    refine rs_back ?_
    refine rs_step ?_
    refine rd_storeO (k := 0) (v := v150) M152 rfl rfl rfl (TR.cnt expr_value.t r150) (fun h154 M154 => ?_)
    replace M154 : Mem h154 (⟨.op i152 w152 0, 88, 2, [v150]⟩ :: ⟨.op i0_ w0_ 0, 86, 17, [u149_0]⟩ :: ⟨.op i146 w146 0, 88, 2, [v144]⟩ :: ⟨.op i101 w101 0, 88, 2, [.agg [vu32 0#32, vi 0]]⟩ :: R_) := M154
    refine rs_back ?_
    refine rs_nil ?_
    refine pn_seq ?_
    refine rc_seq ?_
    refine rc_regionS ?_
    refine rs_step ?_
    refine rd_op (ov_move rfl) ?_
    refine rs_back ?_
    have M155 : Mem h154 (⟨.op i0_ w0_ 0, 86, 17, [u149_0]⟩ :: ⟨.op i152 w152 0, 88, 2, [v150]⟩ :: ⟨.op i146 w146 0, 88, 2, [v144]⟩ :: ⟨.op i101 w101 0, 88, 2, [.agg [vu32 0#32, vi 0]]⟩ :: R_) := (Mem.front (k := 1) M154 rfl)
    obtain ⟨y155, hw155, hres⟩ := let_ex hres
    obtain ⟨vr155, h157, hX155, hZ155⟩ := ihR (z0 := y149.2) ru149_0 M155 (by first | exact ev1 hv (by assumption) (by assumption) | exact ev2 hv (by assumption) (by assumption) (by assumption) hrec (by assumption) | exact ev3 hv (by assumption) (by assumption) (by assumption) (by assumption) hrec (by assumption) (by assumption)) (by rw [hmu]; first | exact dv1 hv (by assumption) (by assumption) | exact dv2 hv (by assumption) (by assumption) (by assumption) hrec (by assumption) | exact dv3 hv (by assumption) (by assumption) (by assumption) (by assumption) hrec (by assumption) (by assumption))
    rw [hw155] at hZ155
    obtain ⟨u155_0, v156, M157, ru155_0, hr155, r156⟩ := hZ155
    replace hr155 := hr155.symm; subst hr155
    refine rs_callXc rfl rfl hX155 ?_
    refine rs_step ?_
    refine rd_allocO (x := .agg [vu32 0#32, vi 0]) M157 rfl rfl (fun i158 w158 h158 M158 => ?_)
    refine rs_back ?_
    refine rs_step ?_
    refine rd_storeO (k := 0) (v := v156) M158 rfl rfl rfl (TR.cnt expr_value.t r156) (fun h160 M160 => ?_)
    replace M160 : Mem h160 (⟨.op i158 w158 0, 88, 2, [v156]⟩ :: ⟨.op i0_ w0_ 0, 86, 17, [u155_0]⟩ :: ⟨.op i152 w152 0, 88, 2, [v150]⟩ :: ⟨.op i146 w146 0, 88, 2, [v144]⟩ :: ⟨.op i101 w101 0, 88, 2, [.agg [vu32 0#32, vi 0]]⟩ :: R_) := M160
    refine rs_back ?_
    refine rs_nil ?_
    refine pn_seq ?_
    refine rc_seq ?_
    refine rc_seq ?_
    refine rc_region ?_
    refine rd_op (ov_faddrO rfl) ?_
    refine rd_op (ov_loadf (k := 3) M160 rfl rfl (expr_value.g_v r144)) ?_
    refine rd_op (ov_bin (a := vu32 y143.1.v) (b := vu32 1#32) rfl rfl w_eql) ?_
    refine rd_nil ?_
    refine pn_seq ?_
    refine rc_cond rfl (fun hc161 => ?_) (fun hc161 => ?_)
    ·replace hres := (ite_t hc161).symm.trans hres
     have hc161' := hc161
     try simp only [qa1, qa2, qa3, qa4, qa5, qa6, qa7, qa8, qa9, qaA, qaB, qaC, qaD] at hc161'
     refine rc_seq ?_
     refine rc_region ?_
     refine rd_op (ov_load0 (k := 2) M160 rfl rfl (TR.agg expr_value.t r150)) ?_
     refine rd_storeO (k := 4) (v := v150) M160 rfl rfl rfl (TR.cnt expr_value.t r150) (fun h162 M162 => ?_)
     replace M162 : Mem h162 (⟨.op i158 w158 0, 88, 2, [v156]⟩ :: ⟨.op i0_ w0_ 0, 86, 17, [u155_0]⟩ :: ⟨.op i152 w152 0, 88, 2, [v150]⟩ :: ⟨.op i146 w146 0, 88, 2, [v144]⟩ :: ⟨.op i101 w101 0, 88, 2, [v150]⟩ :: R_) := M162
     refine rd_nil ?_
     refine pn_seq ?_
     have MZ163 : Mem h162 (⟨.op i0_ w0_ 0, 86, 17, [u155_0]⟩ :: ⟨.op i158 w158 0, 88, 2, [v156]⟩ :: ⟨.op i152 w152 0, 88, 2, [v150]⟩ :: ⟨.op i146 w146 0, 88, 2, [v144]⟩ :: ⟨.op i101 w101 0, 88, 2, [v150]⟩ :: R_) := (Mem.front (k := 1) M162 rfl)
     subst hres
     exact rc_retX (.cell rfl (load_whole (k := 4) M162 rfl (TR.agg expr_value.t r150)) .nil) ⟨u155_0, v150, Mem.sub MZ163 (.cons_cons _ (.cons _ (.cons _ (.cons _ (.cons _ (List.Sublist.refl R_)))))), ru155_0, rfl, r150⟩
    ·replace hres := (ite_f hc161).symm.trans hres
     have hc161' := hc161
     try simp only [qa1, qa2, qa3, qa4, qa5, qa6, qa7, qa8, qa9, qaA, qaB, qaC, qaD] at hc161'
     refine rc_skip ?_
     refine pn_seq ?_
     refine rc_seq ?_
     refine rc_region ?_
     refine rd_op (ov_load0 (k := 0) M160 rfl rfl (TR.agg expr_value.t r156)) ?_
     refine rd_storeO (k := 4) (v := v156) M160 rfl rfl rfl (TR.cnt expr_value.t r156) (fun h164 M164 => ?_)
     replace M164 : Mem h164 (⟨.op i158 w158 0, 88, 2, [v156]⟩ :: ⟨.op i0_ w0_ 0, 86, 17, [u155_0]⟩ :: ⟨.op i152 w152 0, 88, 2, [v150]⟩ :: ⟨.op i146 w146 0, 88, 2, [v144]⟩ :: ⟨.op i101 w101 0, 88, 2, [v156]⟩ :: R_) := M164
     refine rd_nil ?_
     refine pn_seq ?_
     have MZ165 : Mem h164 (⟨.op i0_ w0_ 0, 86, 17, [u155_0]⟩ :: ⟨.op i158 w158 0, 88, 2, [v156]⟩ :: ⟨.op i152 w152 0, 88, 2, [v150]⟩ :: ⟨.op i146 w146 0, 88, 2, [v144]⟩ :: ⟨.op i101 w101 0, 88, 2, [v156]⟩ :: R_) := (Mem.front (k := 1) M164 rfl)
     subst hres
     exact rc_retX (.cell rfl (load_whole (k := 4) M164 rfl (TR.agg expr_value.t r156)) .nil) ⟨u155_0, v156, Mem.sub MZ165 (.cons_cons _ (.cons _ (.cons _ (.cons _ (.cons _ (List.Sublist.refl R_)))))), ru155_0, rfl, r156⟩
theorem f36_okR : ∀ (n_ : Nat) {x0 : expr_machine} {u0_ : PV} {R_ : List Ent} {h_ : Heap} {i0_ w0_ : Nat} (ru0_ : expr_machine.t.R x0 u0_) (M_ : Mem h_ (⟨.op i0_ w0_ 0, 86, 17, [u0_]⟩ :: R_)) (hv : VE x0), x0.nodes.length - x0.next.toNat < n_ → ∃ r h2_, FnX Try.prog 36 [.op i0_ w0_ 0] h_ r h2_ ∧ RF36 i0_ w0_ R_ (m2_expr_machine__eval_R n_ x0) r h2_ := by
 intro n_
 induction n_ with
 | zero => intros; rename_i hlt; exact absurd hlt (Nat.not_lt_zero _)
 | succ n_ ihn =>
  intro x0 u0_ R_ h_ i0_ w0_ ru0_ M_ hv hlt
  have e_ : m2_expr_machine__eval_R (n_ + 1) x0 = m2_expr_machine__eval_B (m2_expr_machine__eval_R n_) x0 := by rw [m2_expr_machine__eval_R]
  rw [e_]
  exact f36_okB ru0_ M_ hv rfl (eval_next n_) (fun {z0} {u0_} {R_} {h_} {i0_} {w0_} ru0_ M_ hv hz => ihn ru0_ M_ hv (by omega))
theorem f36_ok {x0 : expr_machine} {u0_ : PV} {R_ : List Ent} {h_ : Heap} {i0_ w0_ : Nat} (ru0_ : expr_machine.t.R x0 u0_) (M_ : Mem h_ (⟨.op i0_ w0_ 0, 86, 17, [u0_]⟩ :: R_)) (hv : VE x0) : ∃ r h2_, FnX Try.prog 36 [.op i0_ w0_ 0] h_ r h2_ ∧ RF36 i0_ w0_ R_ (m2_expr_machine__eval x0) r h2_ := f36_okR _ ru0_ M_ hv (Nat.lt_succ_self _)

end Go.Proofs.Ytnejfbehaembkaa
