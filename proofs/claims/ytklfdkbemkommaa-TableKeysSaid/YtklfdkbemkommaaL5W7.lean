/-
 The code of each function does what its plain program says.
-/
import Derived.Test.YtklfdkbemkommaaL5W6
set_option linter.unusedVariables false
set_option linter.unusedSimpArgs false
set_option maxRecDepth 100000
namespace Go.Proofs.Ytklfdkbemkommaa
open Go Go.Pb Go.RowKit
/-- patchbay/patchbayref12.element -/
def RF81 (res : Bool) (r : PV) : Prop := r = vb res
theorem f81_ok {x0 : api_Env} {x1 : api_FieldRef} {v0 v1 : PV} (r0 : api_Env.t.R x0 v0) (r1 : api_FieldRef.t.R x1 v1) : FnR Try.prog 81 [v0, v1] (vb (ref12_element x0 x1)) := by
 obtain ⟨res, hres⟩ : ∃ res, ref12_element x0 x1 = res := ⟨_, rfl⟩
 suffices H : RC Try.prog ac81 [] (QR Try.prog [(4, none)] (RF81 res)) (argE 0 [v0, v1]) ⟨0, []⟩ by
  obtain ⟨r, h1, h2⟩ := fnE text81 (by simp) H
  rw [hres]
  have h2 : r = vb res := h2
  rw [← h2]; exact h1
 unfold ref12_element at hres
 unfold ac81
 refine rc_seq ?_
 refine rc_region ?_
 refine rd_op (ov_box rfl (TR.cnt api_Env.t r0)) ?_
 refine rd_op (ov_box rfl (TR.cnt api_FieldRef.t r1)) ?_
 refine rd_op (v := vb false) (ov_move rfl) ?_
 refine rd_nil ?_
 refine pn_seq ?_
 refine rc_seq ?_
 refine rc_seq ?_
 refine rc_region ?_
 refine rd_op (ov_faddr rfl (api_FieldRef.g_Header r1)) ?_
 refine rd_op (ov_load rfl rfl rfl) ?_
 refine rd_op (ov_bin rfl rfl i_eql) ?_
 refine rd_nil ?_
 refine pn_seq ?_
 refine rc_cond rfl (fun hc101 => ?_) (fun hc101 => ?_)
 ·replace hres := (ite_t hc101).symm.trans hres
  have hc101' := hc101
  try simp only [qa1, qa2, qa3, qa4, qa5, qa6, qa7, qa8, qa9, qaA, qaB, qaC, qaD] at hc101'
  refine rc_seq ?_
  refine rc_region ?_
  refine rd_op (ov_faddr rfl (api_FieldRef.g_Field r1)) ?_
  refine rd_op (ov_load rfl rfl rfl) ?_
  refine rd_op (ov_bin rfl rfl i_geq) ?_
  refine rd_op (ov_move rfl) ?_
  refine rd_cut (d := 18) (v := vb ((decide (0 ≤ x1.Field)) && (decide (x1.Field < (x0.Metd.length : Int))))) ?_ ?_
  ·intro S Q r
   simp only [ac81_G1, List.cons_append, List.nil_append, List.append_assoc]
   cases hb102 : (decide (0 ≤ x1.Field))
   ·intro k
    refine rd_skip rfl rfl ?_
    refine rd_skip rfl rfl ?_
    refine rd_skip rfl rfl ?_
    refine rd_skip rfl rfl ?_
    refine rd_skip rfl rfl ?_
    refine rd_skip rfl rfl ?_
    refine rd_op (v := vb false) (ov_pick rfl rfl rfl rfl) ?_
    exact rd_weak (sub_cons rfl (sub_skip rfl (sub_skip rfl (sub_skip rfl (sub_skip rfl (sub_skip rfl (sub_skip rfl (sub_skip rfl (sub_refl _))))))))) k
   ·intro k
    have hb102' := hb102
    try simp only [qa1, qa2, qa3, qa4, qa5, qa6, qa7, qa8, qa9, qaA, qaB, qaC, qaD] at hb102'
    refine rd_yes rfl rfl (ov_faddr rfl (api_FieldRef.g_Field r1)) ?_
    refine rd_yes rfl rfl (ov_load rfl rfl rfl) ?_
    obtain ⟨v103, e103, r103⟩ := api_Env.g_Meta r0
    refine rd_yes rfl rfl (ov_faddr rfl e103) ?_
    refine rd_yes rfl rfl (ov_load rfl (TR.cnt (tSl tU32) r103) (TR.agg (tSl tU32) r103)) ?_
    refine rd_yes rfl rfl (ov_bi rfl (sl_len r103 Try.underlying44 _)) ?_
    refine rd_yes rfl rfl (ov_bin rfl rfl i_lss) ?_
    refine rd_op (v := vb (decide (x1.Field < (x0.Metd.length : Int)))) (ov_pick rfl rfl rfl rfl) ?_
    exact rd_weak (sub_cons rfl (sub_skip rfl (sub_skip rfl (sub_skip rfl (sub_skip rfl (sub_skip rfl (sub_skip rfl (sub_skip rfl (sub_refl _))))))))) k
  refine rd_op (ov_move rfl) ?_
  refine rd_nil ?_
  refine pn_seq ?_
  subst hres
  exact rc_retV (.tmp rfl .nil) (deep_closed rfl) rfl
 ·replace hres := (ite_f hc101).symm.trans hres
  have hc101' := hc101
  try simp only [qa1, qa2, qa3, qa4, qa5, qa6, qa7, qa8, qa9, qaA, qaB, qaC, qaD] at hc101'
  refine rc_skip ?_
  refine pn_seq ?_
  refine rc_seq ?_
  refine rc_region ?_
  refine rd_op (ov_faddr rfl (api_FieldRef.g_Header r1)) ?_
  refine rd_op (ov_load rfl rfl rfl) ?_
  refine rd_op (ov_bin rfl rfl i_geq) ?_
  refine rd_op (ov_move rfl) ?_
  refine rd_cut (d := 29) (v := vb ((decide (0 ≤ x1.Header)) && (decide (x1.Header < (x0.Fields.length : Int))))) ?_ ?_
  ·intro S Q r
   simp only [ac81_G2, List.cons_append, List.nil_append, List.append_assoc]
   cases hb104 : (decide (0 ≤ x1.Header))
   ·intro k
    refine rd_skip rfl rfl ?_
    refine rd_skip rfl rfl ?_
    refine rd_skip rfl rfl ?_
    refine rd_skip rfl rfl ?_
    refine rd_skip rfl rfl ?_
    refine rd_skip rfl rfl ?_
    refine rd_op (v := vb false) (ov_pick rfl rfl rfl rfl) ?_
    exact rd_weak (sub_cons rfl (sub_skip rfl (sub_skip rfl (sub_skip rfl (sub_skip rfl (sub_skip rfl (sub_skip rfl (sub_skip rfl (sub_refl _))))))))) k
   ·intro k
    have hb104' := hb104
    try simp only [qa1, qa2, qa3, qa4, qa5, qa6, qa7, qa8, qa9, qaA, qaB, qaC, qaD] at hb104'
    refine rd_yes rfl rfl (ov_faddr rfl (api_FieldRef.g_Header r1)) ?_
    refine rd_yes rfl rfl (ov_load rfl rfl rfl) ?_
    obtain ⟨v105, e105, r105⟩ := api_Env.g_Fields r0
    refine rd_yes rfl rfl (ov_faddr rfl e105) ?_
    refine rd_yes rfl rfl (ov_load rfl (TR.cnt (tSl (tSl tU32)) r105) (TR.agg (tSl (tSl tU32)) r105)) ?_
    refine rd_yes rfl rfl (ov_bi rfl (sl_len r105 Try.underlying43 _)) ?_
    refine rd_yes rfl rfl (ov_bin rfl rfl i_lss) ?_
    refine rd_op (v := vb (decide (x1.Header < (x0.Fields.length : Int)))) (ov_pick rfl rfl rfl rfl) ?_
    exact rd_weak (sub_cons rfl (sub_skip rfl (sub_skip rfl (sub_skip rfl (sub_skip rfl (sub_skip rfl (sub_skip rfl (sub_skip rfl (sub_refl _))))))))) k
  refine rd_op (ov_move rfl) ?_
  refine rd_cut (d := 34) (v := vb (((decide (0 ≤ x1.Header)) && (decide (x1.Header < (x0.Fields.length : Int)))) && (decide (0 ≤ x1.Field)))) ?_ ?_
  ·intro S Q r
   simp only [ac81_G3, List.cons_append, List.nil_append, List.append_assoc]
   cases hb106 : ((decide (0 ≤ x1.Header)) && (decide (x1.Header < (x0.Fields.length : Int))))
   ·intro k
    refine rd_skip rfl rfl ?_
    refine rd_skip rfl rfl ?_
    refine rd_skip rfl rfl ?_
    refine rd_op (v := vb false) (ov_pick rfl rfl rfl rfl) ?_
    exact rd_weak (sub_cons rfl (sub_skip rfl (sub_skip rfl (sub_skip rfl (sub_skip rfl (sub_refl _)))))) k
   ·intro k
    have hb106' := hb106
    try simp only [qa1, qa2, qa3, qa4, qa5, qa6, qa7, qa8, qa9, qaA, qaB, qaC, qaD] at hb106'
    refine rd_yes rfl rfl (ov_faddr rfl (api_FieldRef.g_Field r1)) ?_
    refine rd_yes rfl rfl (ov_load rfl rfl rfl) ?_
    refine rd_yes rfl rfl (ov_bin rfl rfl i_geq) ?_
    refine rd_op (v := vb (decide (0 ≤ x1.Field))) (ov_pick rfl rfl rfl rfl) ?_
    exact rd_weak (sub_cons rfl (sub_skip rfl (sub_skip rfl (sub_skip rfl (sub_skip rfl (sub_refl _)))))) k
  refine rd_op (ov_move rfl) ?_
  refine rd_cut (d := 46) (v := vb ((((decide (0 ≤ x1.Header)) && (decide (x1.Header < (x0.Fields.length : Int)))) && (decide (0 ≤ x1.Field))) && (decide (x1.Field < ((ix x0.Fields x1.Header).length : Int))))) ?_ ?_
  ·intro S Q r
   simp only [ac81_G4, List.cons_append, List.nil_append, List.append_assoc]
   cases hb107 : (((decide (0 ≤ x1.Header)) && (decide (x1.Header < (x0.Fields.length : Int)))) && (decide (0 ≤ x1.Field)))
   ·intro k
    refine rd_skip rfl rfl ?_
    refine rd_skip rfl rfl ?_
    refine rd_skip rfl rfl ?_
    refine rd_skip rfl rfl ?_
    refine rd_skip rfl rfl ?_
    refine rd_skip rfl rfl ?_
    refine rd_skip rfl rfl ?_
    refine rd_skip rfl rfl ?_
    refine rd_skip rfl rfl ?_
    refine rd_skip rfl rfl ?_
    refine rd_op (v := vb false) (ov_pick rfl rfl rfl rfl) ?_
    exact rd_weak (sub_cons rfl (sub_skip rfl (sub_skip rfl (sub_skip rfl (sub_skip rfl (sub_skip rfl (sub_skip rfl (sub_skip rfl (sub_skip rfl (sub_skip rfl (sub_skip rfl (sub_skip rfl (sub_refl _))))))))))))) k
   ·intro k
    have hb107' := hb107
    try simp only [qa1, qa2, qa3, qa4, qa5, qa6, qa7, qa8, qa9, qaA, qaB, qaC, qaD] at hb107'
    refine rd_yes rfl rfl (ov_faddr rfl (api_FieldRef.g_Field r1)) ?_
    refine rd_yes rfl rfl (ov_load rfl rfl rfl) ?_
    obtain ⟨v108, e108, r108⟩ := api_Env.g_Fields r0
    refine rd_yes rfl rfl (ov_faddr rfl e108) ?_
    refine rd_yes rfl rfl (ov_load rfl (TR.cnt (tSl (tSl tU32)) r108) (TR.agg (tSl (tSl tU32)) r108)) ?_
    refine rd_yes rfl rfl (ov_faddr rfl (api_FieldRef.g_Header r1)) ?_
    refine rd_yes rfl rfl (ov_load rfl rfl rfl) ?_
    obtain ⟨v109, e109, r109⟩ := sl_idx (i := x1.Header) r108 (by first | omega | (have hk := tck (by assumption) (by assumption); omega) | (have hk := rtck (by assumption) (by assumption); omega) | (have hk := eck (by assumption) (by assumption) (by assumption); omega) | (have hk := tv (by assumption) (by assumption); omega) | (have hk := rtv (by assumption) (by assumption); omega)) (by first | omega | (have hk := tck (by assumption) (by assumption); omega) | (have hk := rtck (by assumption) (by assumption); omega) | (have hk := eck (by assumption) (by assumption) (by assumption); omega) | (have hk := tv (by assumption) (by assumption); omega) | (have hk := rtv (by assumption) (by assumption); omega))
    refine rd_yes rfl rfl (ov_iaddr rfl rfl e109) ?_
    refine rd_yes rfl rfl (ov_load rfl (TR.cnt (tSl tU32) r109) (TR.agg (tSl tU32) r109)) ?_
    refine rd_yes rfl rfl (ov_bi rfl (sl_len r109 Try.underlying44 _)) ?_
    refine rd_yes rfl rfl (ov_bin rfl rfl i_lss) ?_
    refine rd_op (v := vb (decide (x1.Field < ((ix x0.Fields x1.Header).length : Int)))) (ov_pick rfl rfl rfl rfl) ?_
    exact rd_weak (sub_cons rfl (sub_skip rfl (sub_skip rfl (sub_skip rfl (sub_skip rfl (sub_skip rfl (sub_skip rfl (sub_skip rfl (sub_skip rfl (sub_skip rfl (sub_skip rfl (sub_skip rfl (sub_refl _))))))))))))) k
  refine rd_op (ov_move rfl) ?_
  refine rd_nil ?_
  refine pn_seq ?_
  subst hres
  exact rc_retV (.tmp rfl .nil) (deep_closed rfl) rfl

/-- patchbay/patchbayref12.Has -/
def RF82 (res : Bool) (r : PV) : Prop := r = vb res
theorem f82_ok {x0 : api_Env} {x1 : Int} {v0 : PV} (r0 : api_Env.t.R x0 v0) : FnR Try.prog 82 [v0, vi x1] (vb (ref12_Has x0 x1)) := by
 obtain ⟨res, hres⟩ : ∃ res, ref12_Has x0 x1 = res := ⟨_, rfl⟩
 suffices H : RC Try.prog ac82 [] (QR Try.prog [(4, none)] (RF82 res)) (argE 0 [v0, vi x1]) ⟨0, []⟩ by
  obtain ⟨r, h1, h2⟩ := fnE text82 (by simp) H
  rw [hres]
  have h2 : r = vb res := h2
  rw [← h2]; exact h1
 unfold ref12_Has at hres
 unfold ac82
 refine rc_seq ?_
 refine rc_region ?_
 refine rd_op (ov_box rfl (TR.cnt api_Env.t r0)) ?_
 refine rd_op (v := vb false) (ov_move rfl) ?_
 refine rd_nil ?_
 refine pn_seq ?_
 refine rc_seq ?_
 refine rc_region ?_
 refine rd_op (ov_move rfl) ?_
 refine rd_op (ov_bin rfl rfl i_geq) ?_
 refine rd_op (ov_move rfl) ?_
 refine rd_cut (d := 13) (v := vb ((decide (0 ≤ x1)) && (decide (x1 < (x0.Valid.length : Int))))) ?_ ?_
 ·intro S Q r
  simp only [ac82_G1, List.cons_append, List.nil_append, List.append_assoc]
  cases hb101 : (decide (0 ≤ x1))
  ·intro k
   refine rd_skip rfl rfl ?_
   refine rd_skip rfl rfl ?_
   refine rd_skip rfl rfl ?_
   refine rd_skip rfl rfl ?_
   refine rd_skip rfl rfl ?_
   refine rd_op (v := vb false) (ov_pick rfl rfl rfl rfl) ?_
   exact rd_weak (sub_cons rfl (sub_skip rfl (sub_skip rfl (sub_skip rfl (sub_skip rfl (sub_skip rfl (sub_skip rfl (sub_refl _)))))))) k
  ·intro k
   have hb101' := hb101
   try simp only [qa1, qa2, qa3, qa4, qa5, qa6, qa7, qa8, qa9, qaA, qaB, qaC, qaD] at hb101'
   refine rd_yes rfl rfl (ov_move rfl) ?_
   obtain ⟨v102, e102, r102⟩ := api_Env.g_Valid r0
   refine rd_yes rfl rfl (ov_faddr rfl e102) ?_
   refine rd_yes rfl rfl (ov_load rfl (TR.cnt (tSl tB) r102) (TR.agg (tSl tB) r102)) ?_
   refine rd_yes rfl rfl (ov_bi rfl (sl_len r102 Try.underlying42 _)) ?_
   refine rd_yes rfl rfl (ov_bin rfl rfl i_lss) ?_
   refine rd_op (v := vb (decide (x1 < (x0.Valid.length : Int)))) (ov_pick rfl rfl rfl rfl) ?_
   exact rd_weak (sub_cons rfl (sub_skip rfl (sub_skip rfl (sub_skip rfl (sub_skip rfl (sub_skip rfl (sub_skip rfl (sub_refl _)))))))) k
 refine rd_op (ov_move rfl) ?_
 refine rd_cut (d := 20) (v := vb (((decide (0 ≤ x1)) && (decide (x1 < (x0.Valid.length : Int)))) && (ix x0.Valid x1))) ?_ ?_
 ·intro S Q r
  simp only [ac82_G2, List.cons_append, List.nil_append, List.append_assoc]
  cases hb103 : ((decide (0 ≤ x1)) && (decide (x1 < (x0.Valid.length : Int))))
  ·intro k
   refine rd_skip rfl rfl ?_
   refine rd_skip rfl rfl ?_
   refine rd_skip rfl rfl ?_
   refine rd_skip rfl rfl ?_
   refine rd_skip rfl rfl ?_
   refine rd_op (v := vb false) (ov_pick rfl rfl rfl rfl) ?_
   exact rd_weak (sub_cons rfl (sub_skip rfl (sub_skip rfl (sub_skip rfl (sub_skip rfl (sub_skip rfl (sub_skip rfl (sub_refl _)))))))) k
  ·intro k
   have hb103' := hb103
   try simp only [qa1, qa2, qa3, qa4, qa5, qa6, qa7, qa8, qa9, qaA, qaB, qaC, qaD] at hb103'
   obtain ⟨v104, e104, r104⟩ := api_Env.g_Valid r0
   refine rd_yes rfl rfl (ov_faddr rfl e104) ?_
   refine rd_yes rfl rfl (ov_load rfl (TR.cnt (tSl tB) r104) (TR.agg (tSl tB) r104)) ?_
   refine rd_yes rfl rfl (ov_move rfl) ?_
   refine rd_yes rfl rfl (ov_iaddr rfl rfl (slB r104 (by first | omega | (have hk := tck (by assumption) (by assumption); omega) | (have hk := rtck (by assumption) (by assumption); omega) | (have hk := eck (by assumption) (by assumption) (by assumption); omega) | (have hk := tv (by assumption) (by assumption); omega) | (have hk := rtv (by assumption) (by assumption); omega)) (by first | omega | (have hk := tck (by assumption) (by assumption); omega) | (have hk := rtck (by assumption) (by assumption); omega) | (have hk := eck (by assumption) (by assumption) (by assumption); omega) | (have hk := tv (by assumption) (by assumption); omega) | (have hk := rtv (by assumption) (by assumption); omega)))) ?_
   refine rd_yes rfl rfl (ov_load rfl rfl rfl) ?_
   refine rd_op (v := vb (ix x0.Valid x1)) (ov_pick rfl rfl rfl rfl) ?_
   exact rd_weak (sub_cons rfl (sub_skip rfl (sub_skip rfl (sub_skip rfl (sub_skip rfl (sub_skip rfl (sub_skip rfl (sub_refl _)))))))) k
 refine rd_op (ov_move rfl) ?_
 refine rd_nil ?_
 refine pn_seq ?_
 subst hres
 exact rc_retV (.tmp rfl .nil) (deep_closed rfl) rfl

/-- patchbay/patchbayref12.Get -/
def RF59 (res : (BitVec 32)) (r : PV) : Prop := r = vu32 res
theorem f59_ok {x0 : api_Env} {x1 : api_FieldRef} {v0 v1 : PV} (r0 : api_Env.t.R x0 v0) (r1 : api_FieldRef.t.R x1 v1) : FnR Try.prog 59 [v0, v1] (vu32 (ref12_Get x0 x1)) := by
 obtain ⟨res, hres⟩ : ∃ res, ref12_Get x0 x1 = res := ⟨_, rfl⟩
 suffices H : RC Try.prog ac59 [] (QR Try.prog [(4, none)] (RF59 res)) (argE 0 [v0, v1]) ⟨0, []⟩ by
  obtain ⟨r, h1, h2⟩ := fnE text59 (by simp) H
  rw [hres]
  have h2 : r = vu32 res := h2
  rw [← h2]; exact h1
 unfold ref12_Get at hres
 unfold ac59
 refine rc_seq ?_
 refine rc_region ?_
 refine rd_op (ov_box rfl (TR.cnt api_Env.t r0)) ?_
 refine rd_op (ov_box rfl (TR.cnt api_FieldRef.t r1)) ?_
 refine rd_op (v := vu32 0#32) (ov_move rfl) ?_
 refine rd_nil ?_
 refine pn_seq ?_
 refine rc_seq ?_
 refine rc_seq ?_
 refine rc_region ?_
 refine rd_op (ov_load rfl (TR.cnt api_Env.t r0) (TR.agg api_Env.t r0)) ?_
 refine rd_op (ov_load rfl (TR.cnt api_FieldRef.t r1) (TR.agg api_FieldRef.t r1)) ?_
 obtain ⟨y101, hw101, hres⟩ := let_ex hres
 have f101 := f81_ok  r0 r1 
 rw [hw101] at f101
 refine rd_call (cv_fn rfl rfl (clL_cons (TR.clo api_Env.t r0) (clL_cons (TR.clo api_FieldRef.t r1) clL_nil)) f101) ?_
 refine rd_op (ov_not rfl) ?_
 refine rd_nil ?_
 refine pn_seq ?_
 refine rc_cond rfl (fun hc102 => ?_) (fun hc102 => ?_)
 ·replace hres := (ite_t hc102).symm.trans hres
  have hc102' := hc102
  try simp only [qa1, qa2, qa3, qa4, qa5, qa6, qa7, qa8, qa9, qaA, qaB, qaC, qaD] at hc102'
  refine rc_seq ?_
  refine rc_region ?_
  refine rd_op (v := vu32 0#32) (ov_move rfl) ?_
  refine rd_nil ?_
  refine pn_seq ?_
  subst hres
  exact rc_retV (.tmp rfl .nil) (deep_closed rfl) rfl
 ·replace hres := (ite_f hc102).symm.trans hres
  have hc102' := hc102
  try simp only [qa1, qa2, qa3, qa4, qa5, qa6, qa7, qa8, qa9, qaA, qaB, qaC, qaD] at hc102'
  refine rc_skip ?_
  refine pn_seq ?_
  refine rc_seq ?_
  refine rc_seq ?_
  refine rc_region ?_
  refine rd_op (ov_faddr rfl (api_FieldRef.g_Header r1)) ?_
  refine rd_op (ov_load rfl rfl rfl) ?_
  refine rd_op (ov_bin rfl rfl i_eql) ?_
  refine rd_nil ?_
  refine pn_seq ?_
  refine rc_cond rfl (fun hc103 => ?_) (fun hc103 => ?_)
  ·replace hres := (ite_t hc103).symm.trans hres
   have hc103' := hc103
   try simp only [qa1, qa2, qa3, qa4, qa5, qa6, qa7, qa8, qa9, qaA, qaB, qaC, qaD] at hc103'
   refine rc_seq ?_
   refine rc_region ?_
   obtain ⟨v104, e104, r104⟩ := api_Env.g_Meta r0
   refine rd_op (ov_faddr rfl e104) ?_
   refine rd_op (ov_load rfl (TR.cnt (tSl tU32) r104) (TR.agg (tSl tU32) r104)) ?_
   refine rd_op (ov_faddr rfl (api_FieldRef.g_Field r1)) ?_
   refine rd_op (ov_load rfl rfl rfl) ?_
   refine rd_op (ov_iaddr rfl rfl (slU32 r104 (by first | omega | (have hk := rel_ok (by assumption) (by assumption); omega)) (by first | omega | (have hk := rel_ok (by assumption) (by assumption); omega)))) ?_
   refine rd_op (ov_load rfl rfl rfl) ?_
   refine rd_op (ov_move rfl) ?_
   refine rd_nil ?_
   refine pn_seq ?_
   subst hres
   exact rc_retV (.tmp rfl .nil) (deep_closed rfl) rfl
  ·replace hres := (ite_f hc103).symm.trans hres
   have hc103' := hc103
   try simp only [qa1, qa2, qa3, qa4, qa5, qa6, qa7, qa8, qa9, qaA, qaB, qaC, qaD] at hc103'
   refine rc_skip ?_
   refine pn_seq ?_
   refine rc_seq ?_
   refine rc_seq ?_
   refine rc_region ?_
   refine rd_op (ov_load rfl (TR.cnt api_Env.t r0) (TR.agg api_Env.t r0)) ?_
   refine rd_op (ov_faddr rfl (api_FieldRef.g_Header r1)) ?_
   refine rd_op (ov_load rfl rfl rfl) ?_
   obtain ⟨y105, hw105, hres⟩ := let_ex hres
   have f105 := f82_ok (x1 := x1.Header) r0 
   rw [hw105] at f105
   refine rd_call (cv_fn rfl rfl (clL_cons (TR.clo api_Env.t r0) (clL_cons rfl clL_nil)) f105) ?_
   refine rd_op (ov_not rfl) ?_
   refine rd_nil ?_
   refine pn_seq ?_
   refine rc_cond rfl (fun hc106 => ?_) (fun hc106 => ?_)
   ·replace hres := (ite_t hc106).symm.trans hres
    have hc106' := hc106
    try simp only [qa1, qa2, qa3, qa4, qa5, qa6, qa7, qa8, qa9, qaA, qaB, qaC, qaD] at hc106'
    refine rc_seq ?_
    refine rc_region ?_
    refine rd_op (v := vu32 0#32) (ov_move rfl) ?_
    refine rd_nil ?_
    refine pn_seq ?_
    subst hres
    exact rc_retV (.tmp rfl .nil) (deep_closed rfl) rfl
   ·replace hres := (ite_f hc106).symm.trans hres
    have hc106' := hc106
    try simp only [qa1, qa2, qa3, qa4, qa5, qa6, qa7, qa8, qa9, qaA, qaB, qaC, qaD] at hc106'
    refine rc_skip ?_
    refine pn_seq ?_
    refine rc_seq ?_
    refine rc_region ?_
    obtain ⟨v107, e107, r107⟩ := api_Env.g_Fields r0
    refine rd_op (ov_faddr rfl e107) ?_
    refine rd_op (ov_load rfl (TR.cnt (tSl (tSl tU32)) r107) (TR.agg (tSl (tSl tU32)) r107)) ?_
    refine rd_op (ov_faddr rfl (api_FieldRef.g_Header r1)) ?_
    refine rd_op (ov_load rfl rfl rfl) ?_
    obtain ⟨v108, e108, r108⟩ := sl_idx (i := x1.Header) r107 (by first | omega | (have hk := rel_ok (by assumption) (by assumption); omega)) (by first | omega | (have hk := rel_ok (by assumption) (by assumption); omega))
    refine rd_op (ov_iaddr rfl rfl e108) ?_
    refine rd_op (ov_load rfl (TR.cnt (tSl tU32) r108) (TR.agg (tSl tU32) r108)) ?_
    refine rd_op (ov_faddr rfl (api_FieldRef.g_Field r1)) ?_
    refine rd_op (ov_load rfl rfl rfl) ?_
    refine rd_op (ov_iaddr rfl rfl (slU32 r108 (by first | omega | (have hk := rel_ok (by assumption) (by assumption); omega)) (by first | omega | (have hk := rel_ok (by assumption) (by assumption); omega)))) ?_
    refine rd_op (ov_load rfl rfl rfl) ?_
    refine rd_op (ov_move rfl) ?_
    refine rd_nil ?_
    refine pn_seq ?_
    subst hres
    exact rc_retV (.tmp rfl .nil) (deep_closed rfl) rfl

/-- patchbay/patchbayref01.Mask -/
def RF31 (res : (BitVec 32)) (r : PV) : Prop := r = vu32 res
theorem f31_ok {x0 : Int} : FnR Try.prog 31 [vi x0] (vu32 (ref01_Mask x0)) := by
 obtain ⟨res, hres⟩ : ∃ res, ref01_Mask x0 = res := ⟨_, rfl⟩
 suffices H : RC Try.prog ac31 [] (QR Try.prog [(2, none)] (RF31 res)) (argE 0 [vi x0]) ⟨0, []⟩ by
  obtain ⟨r, h1, h2⟩ := fnE text31 (by simp) H
  rw [hres]
  have h2 : r = vu32 res := h2
  rw [← h2]; exact h1
 unfold ref01_Mask at hres
 unfold ac31
 refine rc_seq ?_
 refine rc_region ?_
 refine rd_op (v := vu32 0#32) (ov_move rfl) ?_
 refine rd_nil ?_
 refine pn_seq ?_
 refine rc_seq ?_
 refine rc_seq ?_
 refine rc_region ?_
 refine rd_op (ov_move rfl) ?_
 obtain ⟨y101, hw101, hres⟩ := let_ex hres
 have f101 := f60_ok (x0 := x0)  
 rw [hw101] at f101
 refine rd_call (cv_fn rfl rfl (clL_cons rfl clL_nil) f101) ?_
 refine rd_op (ov_not rfl) ?_
 refine rd_nil ?_
 refine pn_seq ?_
 refine rc_cond rfl (fun hc102 => ?_) (fun hc102 => ?_)
 ·replace hres := (ite_t hc102).symm.trans hres
  have hc102' := hc102
  try simp only [qa1, qa2, qa3, qa4, qa5, qa6, qa7, qa8, qa9, qaA, qaB, qaC, qaD] at hc102'
  refine rc_seq ?_
  refine rc_region ?_
  refine rd_op (v := vu32 0#32) (ov_move rfl) ?_
  refine rd_nil ?_
  refine pn_seq ?_
  subst hres
  exact rc_retV (.tmp rfl .nil) (deep_closed rfl) rfl
 ·replace hres := (ite_f hc102).symm.trans hres
  have hc102' := hc102
  try simp only [qa1, qa2, qa3, qa4, qa5, qa6, qa7, qa8, qa9, qaA, qaB, qaC, qaD] at hc102'
  refine rc_skip ?_
  refine pn_seq ?_
  refine rc_seq ?_
  refine rc_region ?_
  refine rd_op (ov_move rfl) ?_
  obtain ⟨y103, hw103, hres⟩ := let_ex hres
  have f103 := f61_ok (x0 := x0)  (by first | assumption | omega | (have := rv (by assumption) (by assumption); omega))
  rw [hw103] at f103
  refine rd_call (cv_fn rfl rfl (clL_cons rfl clL_nil) f103) ?_
  refine rd_op (ov_bin (a := vu64 y103) (b := vu64 1#64) rfl rfl d_sub) ?_
  refine rd_op (ov_conv (a := vu64 (y103 - 1#64)) rfl (c_dw Try.underlying106 Try.underlying57)) ?_
  refine rd_op (ov_move rfl) ?_
  refine rd_nil ?_
  refine pn_seq ?_
  subst hres
  exact rc_retV (.tmp rfl .nil) (deep_closed rfl) rfl

/-- patchbay/patchbayref17.Key -/
def RF30 (res : (List (BitVec 32))) (r : PV) : Prop := (tSl tU32).R res r
theorem ref17_Key_L1_ok {S : List Fr} {res : (List (BitVec 32))} {x0 : api_Program} {x1 : Int} {x2 : api_Env} {y101 : (List Int)} {v0 : PV} {v2 : PV} {v102 : PV} (r0 : api_Program.t.R x0 v0) (r2 : api_Env.t.R x2 v2) (hw101 : ref17_Widths x0 x1 = y101) (r102 : (tSl tI).R y101 v102) {K0 : (List (BitVec 32)) → (List (BitVec 32))}
  (hK0 : ∀ (zE104 : List (BitVec 32)) (esE104 : List PV) (aE104 : PV) (qE104 : All2 tU32.R zE104 esE104) (nE104 : isL aE104 = true) (wrE104 : Wri aE104 esE104) (hlE104 : zE104.length ≤ 4611686018427387904) (h : Heap) (M0 : Mem h [⟨aE104, 57, 1, esE104⟩]), K0 zE104 = res → PX Try.prog 0 S (QR Try.prog [(6, none)] (RF30 res)) [(8, aE104)] h) :
  ∀ (m : Nat) (x9_ : Int) (zE104 : List (BitVec 32)) (esE104 : List PV) (aE104 : PV) (qE104 : All2 tU32.R zE104 esE104) (nE104 : isL aE104 = true) (wrE104 : Wri aE104 esE104) (hlE104 : zE104.length ≤ 4611686018427387904) (hm1 : m = Int.toNat ((y101.length : Int) - x9_)) (hlo1 : 0 ≤ x9_) (iv1_0 : (zE104.length : Int) ≤ x9_) (h : Heap) (M0 : Mem h [⟨aE104, 57, 1, esE104⟩]), ref17_Key_L1 x0 x1 x2 y101 K0 m x9_ zE104 = res → RC Try.prog (.loop ac30_L1) S (QR Try.prog [(6, none)] (RF30 res)) [(9, vi x9_), (8, aE104), (7, v102), (5, .fp v2), (3, .fp v0), (1, vi x1)] h := by
 intro m
 induction m with
 | zero =>
  intro x9_ zE104 esE104 aE104 qE104 nE104 wrE104 hlE104 hm1 hlo1 iv1_0 h M0 hres
  rw [ref17_Key_L1] at hres
  refine rc_loop ?_
  unfold ac30_L1
  refine rc_seq ?_
  refine rc_seq ?_
  refine rc_region ?_
  refine rd_op (ov_move rfl) ?_
  refine rd_op (ov_move rfl) ?_
  refine rd_op (ov_bi rfl (sl_len r102 Try.underlying29 _)) ?_
  refine rd_op (ov_bin rfl rfl i_lss) ?_
  refine rd_nil ?_
  refine pn_seq ?_
  refine rc_cond rfl (fun hc105 => ?_) (fun hc105 => ?_)
  ·exfalso
   try simp only [qa1, qa2, qa3, qa4, qa5, qa6, qa7, qa8, qa9, qaA, qaB, qaC, qaD] at hc105
   omega
  ·have hend := hres
   have hc105' := hc105
   try simp only [qa1, qa2, qa3, qa4, qa5, qa6, qa7, qa8, qa9, qaA, qaB, qaC, qaD] at hc105'
   refine rc_exit ?_
   refine px_seq ?_
   refine px_again ?_
   exact px_weak ((sub_cons rfl (sub_nil _))) (hK0 zE104 esE104 aE104 qE104 nE104 wrE104 hlE104 _ (Mem.sub M0 (.cons_cons _ .slnil)) hres)
 | succ m ih =>
  intro x9_ zE104 esE104 aE104 qE104 nE104 wrE104 hlE104 hm1 hlo1 iv1_0 h M0 hres
  rw [ref17_Key_L1] at hres
  refine rc_loop ?_
  unfold ac30_L1
  refine rc_seq ?_
  refine rc_seq ?_
  refine rc_region ?_
  refine rd_op (ov_move rfl) ?_
  refine rd_op (ov_move rfl) ?_
  refine rd_op (ov_bi rfl (sl_len r102 Try.underlying29 _)) ?_
  refine rd_op (ov_bin rfl rfl i_lss) ?_
  refine rd_nil ?_
  refine pn_seq ?_
  refine rc_cond rfl (fun hc106 => ?_) (fun hc106 => ?_)
  ·have hgo := hres
   have hc106' := hc106
   try simp only [qa1, qa2, qa3, qa4, qa5, qa6, qa7, qa8, qa9, qaA, qaB, qaC, qaD] at hc106'
   refine rc_skip ?_
   refine pn_seq ?_
   refine rc_seq ?_
   refine rc_block ?_
   refine rc_region ?_
   refine rd_op (ov_move rfl) ?_
   refine rd_op (ov_load rfl (TR.cnt api_Env.t r2) (TR.agg api_Env.t r2)) ?_
   obtain ⟨v107, e107, r107⟩ := api_Program.g_Tables r0
   refine rd_op (ov_faddr rfl e107) ?_
   refine rd_op (ov_load rfl (TR.cnt (tSl api_Table.t) r107) (TR.agg (tSl api_Table.t) r107)) ?_
   refine rd_op (ov_move rfl) ?_
   obtain ⟨v108, e108, r108⟩ := sl_idx (i := x1) r107 (by first | omega | (have hk := rwd (by assumption) hlo1 (by omega); omega)) (by first | omega | (have hk := rwd (by assumption) hlo1 (by omega); omega))
   refine rd_op (ov_iaddr rfl rfl e108) ?_
   obtain ⟨v109, e109, r109⟩ := api_Table.g_Keys r108
   refine rd_op (ov_faddr rfl e109) ?_
   refine rd_op (ov_load rfl (TR.cnt (tSl api_TableKey.t) r109) (TR.agg (tSl api_TableKey.t) r109)) ?_
   refine rd_op (ov_move rfl) ?_
   obtain ⟨v110, e110, r110⟩ := sl_idx (i := x9_) r109 (by first | omega | (have hk := rwd (by assumption) hlo1 (by omega); omega)) (by first | omega | (have hk := rwd (by assumption) hlo1 (by omega); omega))
   refine rd_op (ov_iaddr rfl rfl e110) ?_
   obtain ⟨v111, e111, r111⟩ := api_TableKey.g_Field r110
   refine rd_op (ov_faddr rfl e111) ?_
   refine rd_op (ov_load rfl (TR.cnt api_FieldRef.t r111) (TR.agg api_FieldRef.t r111)) ?_
   obtain ⟨y112, hw112, hres⟩ := let_ex hres
   have f112 := f59_ok  r2 r111 
   rw [hw112] at f112
   refine rd_call (cv_fn rfl rfl (clL_cons (TR.clo api_Env.t r2) (clL_cons (TR.clo api_FieldRef.t r111) clL_nil)) f112) ?_
   refine rd_op (ov_move rfl) ?_
   refine rd_op (ov_move rfl) ?_
   refine rd_op (ov_iaddr rfl rfl (slI r102 (by first | omega | (have hk := rwd (by assumption) hlo1 (by omega); omega)) (by first | omega | (have hk := rwd (by assumption) hlo1 (by omega); omega)))) ?_
   refine rd_op (ov_load rfl rfl rfl) ?_
   obtain ⟨y113, hw113, hres⟩ := let_ex hres
   have f113 := f31_ok (x0 := (ix y101 x9_))  
   rw [hw113] at f113
   refine rd_call (cv_fn rfl rfl (clL_cons rfl clL_nil) f113) ?_
   refine rd_op (ov_bin (a := vu32 y112) (b := vu32 y113) rfl rfl w_and) ?_
   refine rd_op (v := .fs true [vu32 (y112 &&& y113)]) (ov_bslice rfl (all_cons rfl all_nil)) ?_
   have r114 : (tSl tU32).R ([(y112 &&& y113)] : List (BitVec 32)) (.fs true [vu32 (y112 &&& y113)]) := sl_fs ⟨rfl, trivial⟩ (by simp)
   obtain ⟨nw115, sr115, ar115⟩ := src_of (t := tU32) (h := h) r114
   have f115 : fits (esE104.length + nw115.length) 4 = true := by rw [All2.length_eq qE104, All2.length_eq ar115]; (try simp only [List.length_cons, List.length_nil]); exact fits_of (by have hk := rwd (by assumption) hlo1 (by omega); omega) (by have hk := rwd (by assumption) hlo1 (by omega); omega)
   refine rd_appW (k := 0) (es := esE104) (news := nw115) M0 rfl rfl rfl nE104 wrE104 sr115 f115 (fun a115 h115 n115 wr115 M115 => ?_)
   have q115 : All2 tU32.R (zE104 ++ ([(y112 &&& y113)] : List (BitVec 32))) (esE104 ++ nw115) := All2.app qE104 ar115
   have hl115 : (zE104 ++ ([(y112 &&& y113)] : List (BitVec 32))).length ≤ 4611686018427387904 := by rw [← All2.length_eq q115, List.length_append]; exact fits_len f115
   refine rd_op (ov_move rfl) ?_
   refine rd_nil ?_
   refine pn_blk ?_
   refine pn_seq ?_
   refine rc_region ?_
   refine rd_op (ov_move rfl) ?_
   refine rd_op (ov_bin rfl rfl i_add) ?_
   refine rd_op (ov_move rfl) ?_
   refine rd_nil ?_
   refine pn_again ?_
   have hbd := sl_bound r102
   have hinc : wr (x9_ + 1) = x9_ + 1 := wr_of (by omega) (by omega)
   rw [hinc]
   refine rc_weak ?_ (ih (x9_ + 1) (zE104 ++ ([(y112 &&& y113)] : List (BitVec 32))) (esE104 ++ nw115) a115 q115 n115 wr115 hl115 (by omega) (by omega) (by first | omega | (simp; done) | (simp only [List.length_append, List.length_cons, List.length_nil, List.length_set]; omega)) _ (Mem.sub M115 (.cons_cons _ .slnil)) hres)
   exact ((sub_cons rfl (sub_cons rfl (sub_cons rfl (sub_cons rfl (sub_cons rfl (sub_cons rfl (sub_nil _))))))))
  ·exfalso
   try simp only [qa1, qa2, qa3, qa4, qa5, qa6, qa7, qa8, qa9, qaA, qaB, qaC, qaD] at hc106
   omega

theorem f30_ok {x0 : api_Program} {x1 : Int} {x2 : api_Env} {v0 v2 : PV} (r0 : api_Program.t.R x0 v0) (r2 : api_Env.t.R x2 v2) : ∃ r, FnR Try.prog 30 [v0, vi x1, v2] r ∧ (tSl tU32).R (ref17_Key x0 x1 x2) r := by
 obtain ⟨res, hres⟩ : ∃ res, ref17_Key x0 x1 x2 = res := ⟨_, rfl⟩
 suffices H : RC Try.prog ac30 [] (QR Try.prog [(6, none)] (RF30 res)) (argE 0 [v0, vi x1, v2]) ⟨0, []⟩ by
  rw [hres]
  exact fnE text30 (by simp) H
 unfold ref17_Key at hres
 unfold ac30
 refine rc_seq ?_
 refine rc_region ?_
 refine rd_op (ov_box rfl (TR.cnt api_Program.t r0)) ?_
 refine rd_op (ov_box rfl (TR.cnt api_Env.t r2)) ?_
 refine rd_op (v := nilS) (ov_move rfl) ?_
 refine rd_nil ?_
 refine pn_seq ?_
 refine rc_seq ?_
 refine rc_region ?_
 refine rd_op (ov_load rfl (TR.cnt api_Program.t r0) (TR.agg api_Program.t r0)) ?_
 refine rd_op (ov_move rfl) ?_
 obtain ⟨y101, hw101, hres⟩ := let_ex hres
 obtain ⟨v102, f101, r102⟩ := f22_ok (x1 := x1) r0 
 rw [hw101] at r102
 refine rd_call (cv_fn rfl rfl (clL_cons (TR.clo api_Program.t r0) (clL_cons rfl clL_nil)) f101) ?_
 refine rd_op (ov_move rfl) ?_
 refine rd_nil ?_
 refine pn_seq ?_
 refine rc_seq ?_
 refine rc_region ?_
 refine rd_op (v := nilS) (ov_move rfl) ?_
 refine rd_nil ?_
 refine pn_seq ?_
 refine rc_seq ?_
 refine rc_seq ?_
 refine rc_region ?_
 refine rd_op (v := vi 0) (ov_move rfl) ?_
 refine rd_nil ?_
 refine pn_seq ?_
 refine rc_block ?_
 have M103 := mem_acc (sz := 1) (es := []) (Mem.nil ⟨0, []⟩) 57 (.inl ⟨none, rfl, rfl⟩) (by simp)
 refine rc_weak ?_ (ref17_Key_L1_ok (x0 := x0) (x1 := x1) (x2 := x2) (y101 := y101) (v0 := v0) (v2 := v2) (v102 := v102)  (r0 := r0) (r2 := r2) (hw101 := hw101) (r102 := r102) ?_ (Int.toNat ((y101.length : Int) - 0)) 0 ([] : List (BitVec 32)) ([] : List PV) nilS (show All2 tU32.R ([] : List (BitVec 32)) [] from trivial) rfl (.inl rfl) (by decide) rfl (by omega) (by first | omega | (simp; done) | (simp only [List.length_append, List.length_cons, List.length_nil, List.length_set]; omega)) _ (Mem.sub M103 (.cons_cons _ .slnil)) hres)
 ·exact ((sub_cons rfl (sub_cons rfl (sub_cons rfl (sub_cons rfl (sub_cons rfl (sub_cons rfl (sub_nil _))))))))
 ·intro zE104_116 es116E104 a116E104 q116E104 n116E104 wr116E104 hl116E104 h116 M116 hres
  refine px_blk ?_
  refine pn_seq ?_
  refine rc_seq ?_
  refine rc_region ?_
  refine rd_op (ov_move rfl) ?_
  refine rd_op (ov_move rfl) ?_
  refine rd_nil ?_
  refine pn_seq ?_
  obtain ⟨v117, d117, r117⟩ := own_sl (P := Try.prog) (k := 0) (t := tU32) M116 rfl n116E104 q116E104 (Nat.le_trans hl116E104 (by decide))
  subst hres
  exact rc_retV (.tmp rfl .nil) d117 r117

/-- patchbay/patchbaylaw17.TableKeys -/
def RF5 (res : Bool) (r : PV) : Prop := r = vb res
theorem f5_ok {x0 : api_Program} {x1 : Int} {x2 : api_Env} {v0 v2 : PV} (r0 : api_Program.t.R x0 v0) (r2 : api_Env.t.R x2 v2) : FnR Try.prog 5 [v0, vi x1, v2] (vb (law17_TableKeys x0 x1 x2)) := by
 obtain ⟨res, hres⟩ : ∃ res, law17_TableKeys x0 x1 x2 = res := ⟨_, rfl⟩
 suffices H : RC Try.prog ac5 [] (QR Try.prog [(6, none)] (RF5 res)) (argE 0 [v0, vi x1, v2]) ⟨0, []⟩ by
  obtain ⟨r, h1, h2⟩ := fnE text5 (by simp) H
  rw [hres]
  have h2 : r = vb res := h2
  rw [← h2]; exact h1
 unfold law17_TableKeys at hres
 unfold ac5
 refine rc_seq ?_
 refine rc_region ?_
 refine rd_op (ov_box rfl (TR.cnt api_Program.t r0)) ?_
 refine rd_op (ov_box rfl (TR.cnt api_Env.t r2)) ?_
 refine rd_op (v := vb false) (ov_move rfl) ?_
 refine rd_nil ?_
 refine pn_seq ?_
 refine rc_seq ?_
 refine rc_seq ?_
 refine rc_region ?_
 refine rd_op (ov_load rfl (TR.cnt api_Program.t r0) (TR.agg api_Program.t r0)) ?_
 obtain ⟨y101, hw101, hres⟩ := let_ex hres
 have f101 := f14_ok  r0 
 rw [hw101] at f101
 refine rd_call (cv_fn rfl rfl (clL_cons (TR.clo api_Program.t r0) clL_nil) f101) ?_
 refine rd_op (ov_not rfl) ?_
 refine rd_op (ov_move rfl) ?_
 refine rd_cut (d := 14) (v := vb ((!y101) || (!(law17_SmallEnv x2)))) ?_ ?_
 ·intro S Q r
  simp only [ac5_G1, List.cons_append, List.nil_append, List.append_assoc]
  cases hb102 : (!y101)
  ·intro k
   have hb102' := hb102
   try simp only [qa1, qa2, qa3, qa4, qa5, qa6, qa7, qa8, qa9, qaA, qaB, qaC, qaD] at hb102'
   refine rd_yes rfl rfl (ov_load rfl (TR.cnt api_Env.t r2) (TR.agg api_Env.t r2)) ?_
   have f103 := f27_ok  r2 
   refine rd_ycall rfl rfl (cv_fn rfl rfl (clL_cons (TR.clo api_Env.t r2) clL_nil) f103) ?_
   refine rd_yes rfl rfl (ov_not rfl) ?_
   refine rd_op (v := vb (!(law17_SmallEnv x2))) (ov_pick rfl rfl rfl rfl) ?_
   exact rd_weak (sub_cons rfl (sub_skip rfl (sub_skip rfl (sub_skip rfl (sub_skip rfl (sub_refl _)))))) k
  ·intro k
   refine rd_skip rfl rfl ?_
   refine rd_skip rfl rfl ?_
   refine rd_skip rfl rfl ?_
   refine rd_op (v := vb true) (ov_pick rfl rfl rfl rfl) ?_
   exact rd_weak (sub_cons rfl (sub_skip rfl (sub_skip rfl (sub_skip rfl (sub_skip rfl (sub_refl _)))))) k
 refine rd_nil ?_
 refine pn_seq ?_
 refine rc_cond rfl (fun hc104 => ?_) (fun hc104 => ?_)
 ·replace hres := (ite_t hc104).symm.trans hres
  have hc104' := hc104
  try simp only [qa1, qa2, qa3, qa4, qa5, qa6, qa7, qa8, qa9, qaA, qaB, qaC, qaD] at hc104'
  refine rc_seq ?_
  refine rc_region ?_
  obtain ⟨y105, hw105, hres⟩ := let_ex hres
  have f105 := f15_ok   
  rw [hw105] at f105
  refine rd_call (cv_fn rfl rfl clL_nil f105) ?_
  refine rd_op (ov_move rfl) ?_
  refine rd_nil ?_
  refine pn_seq ?_
  subst hres
  exact rc_retV (.tmp rfl .nil) (deep_closed rfl) rfl
 ·replace hres := (ite_f hc104).symm.trans hres
  have hc104' := hc104
  try simp only [qa1, qa2, qa3, qa4, qa5, qa6, qa7, qa8, qa9, qaA, qaB, qaC, qaD] at hc104'
  refine rc_skip ?_
  refine pn_seq ?_
  refine rc_seq ?_
  refine rc_region ?_
  refine rd_op (ov_load rfl (TR.cnt api_Program.t r0) (TR.agg api_Program.t r0)) ?_
  refine rd_op (ov_move rfl) ?_
  refine rd_op (ov_load rfl (TR.cnt api_Env.t r2) (TR.agg api_Env.t r2)) ?_
  obtain ⟨y106, hw106, hres⟩ := let_ex hres
  obtain ⟨v107, f106, r107⟩ := f29_ok (x1 := x1) r0 r2 
  rw [hw106] at r107
  refine rd_call (cv_fn rfl rfl (clL_cons (TR.clo api_Program.t r0) (clL_cons rfl (clL_cons (TR.clo api_Env.t r2) clL_nil))) f106) ?_
  refine rd_op (ov_load rfl (TR.cnt api_Program.t r0) (TR.agg api_Program.t r0)) ?_
  refine rd_op (ov_move rfl) ?_
  refine rd_op (ov_load rfl (TR.cnt api_Env.t r2) (TR.agg api_Env.t r2)) ?_
  obtain ⟨y108, hw108, hres⟩ := let_ex hres
  obtain ⟨v109, f108, r109⟩ := f30_ok (x1 := x1) r0 r2 
  rw [hw108] at r109
  refine rd_call (cv_fn rfl rfl (clL_cons (TR.clo api_Program.t r0) (clL_cons rfl (clL_cons (TR.clo api_Env.t r2) clL_nil))) f108) ?_
  obtain ⟨y110, hw110, hres⟩ := let_ex hres
  have f110 := f28_ok  r107 r109 
  rw [hw110] at f110
  refine rd_call (cv_fn rfl rfl (clL_cons (TR.clo (tSl tU32) r107) (clL_cons (TR.clo (tSl tU32) r109) clL_nil)) f110) ?_
  refine rd_op (ov_move rfl) ?_
  refine rd_cut (d := 27) (v := vb (y110 && (law17_works))) ?_ ?_
  ·intro S Q r
   simp only [ac5_G2, List.cons_append, List.nil_append, List.append_assoc]
   cases hb111 : y110
   ·intro k
    refine rd_skip rfl rfl ?_
    refine rd_op (v := vb false) (ov_pick rfl rfl rfl rfl) ?_
    exact rd_weak (sub_cons rfl (sub_skip rfl (sub_skip rfl (sub_refl _)))) k
   ·intro k
    have hb111' := hb111
    try simp only [qa1, qa2, qa3, qa4, qa5, qa6, qa7, qa8, qa9, qaA, qaB, qaC, qaD] at hb111'
    have f112 := f15_ok   
    refine rd_ycall rfl rfl (cv_fn rfl rfl clL_nil f112) ?_
    refine rd_op (v := vb (law17_works)) (ov_pick rfl rfl rfl rfl) ?_
    exact rd_weak (sub_cons rfl (sub_skip rfl (sub_skip rfl (sub_refl _)))) k
  refine rd_op (ov_move rfl) ?_
  refine rd_nil ?_
  refine pn_seq ?_
  subst hres
  exact rc_retV (.tmp rfl .nil) (deep_closed rfl) rfl

end Go.Proofs.Ytklfdkbemkommaa
