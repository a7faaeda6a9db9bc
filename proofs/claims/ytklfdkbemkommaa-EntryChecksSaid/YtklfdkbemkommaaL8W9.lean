/-
 The code of each function does what its plain program says.
-/
import Derived.Test.YtklfdkbemkommaaL8W8
set_option linter.unusedVariables false
set_option linter.unusedSimpArgs false
set_option maxRecDepth 100000
namespace Go.Proofs.Ytklfdkbemkommaa
open Go Go.Pb Go.RowKit
/-- patchbay/patchbaylaw23.EntryChecks -/
def RF8 (res : Bool) (r : PV) : Prop := r = vb res
theorem f8_ok {x0 : api_Program} {x1 : Int} {x2 : api_Entry} {v0 v2 : PV} (r0 : api_Program.t.R x0 v0) (r2 : api_Entry.t.R x2 v2) : FnR Try.prog 8 [v0, vi x1, v2] (vb (law23_EntryChecks x0 x1 x2)) := by
 obtain ⟨res, hres⟩ : ∃ res, law23_EntryChecks x0 x1 x2 = res := ⟨_, rfl⟩
 suffices H : RC Try.prog ac8 [] (QR Try.prog [(6, none)] (RF8 res)) (argE 0 [v0, vi x1, v2]) ⟨0, []⟩ by
  obtain ⟨r, h1, h2⟩ := fnE text8 (by simp) H
  rw [hres]
  have h2 : r = vb res := h2
  rw [← h2]; exact h1
 unfold law23_EntryChecks at hres
 unfold ac8
 refine rc_seq ?_
 refine rc_region ?_
 refine rd_op (ov_box rfl (TR.cnt api_Program.t r0)) ?_
 refine rd_op (ov_box rfl (TR.cnt api_Entry.t r2)) ?_
 refine rd_op (v := vb false) (ov_move rfl) ?_
 refine rd_nil ?_
 refine pn_seq ?_
 refine rc_seq ?_
 refine rc_seq ?_
 refine rc_region ?_
 refine rd_op (ov_load rfl (TR.cnt api_Program.t r0) (TR.agg api_Program.t r0)) ?_
 obtain ⟨y101, hw101, hres⟩ := let_ex hres
 have f101 := f14_ok  r0 
 rw [hw101] at f101
 refine rd_call (cv_fn rfl rfl (clL_cons (TR.clo api_Program.t r0) clL_nil) f101) ?_
 refine rd_op (ov_not rfl) ?_
 refine rd_op (ov_move rfl) ?_
 refine rd_cut (d := 14) (v := vb ((!y101) || (!(law23_Small x2)))) ?_ ?_
 ·intro S Q r
  simp only [ac8_G1, List.cons_append, List.nil_append, List.append_assoc]
  cases hb102 : (!y101)
  ·intro k
   have hb102' := hb102
   try simp only [qa1, qa2, qa3, qa4, qa5, qa6, qa7, qa8, qa9, qaA, qaB, qaC, qaD] at hb102'
   refine rd_yes rfl rfl (ov_load rfl (TR.cnt api_Entry.t r2) (TR.agg api_Entry.t r2)) ?_
   have f103 := f32_ok  r2 
   refine rd_ycall rfl rfl (cv_fn rfl rfl (clL_cons (TR.clo api_Entry.t r2) clL_nil) f103) ?_
   refine rd_yes rfl rfl (ov_not rfl) ?_
   refine rd_op (v := vb (!(law23_Small x2))) (ov_pick rfl rfl rfl rfl) ?_
   exact rd_weak (sub_cons rfl (sub_skip rfl (sub_skip rfl (sub_skip rfl (sub_skip rfl (sub_refl _)))))) k
  ·intro k
   refine rd_skip rfl rfl ?_
   refine rd_skip rfl rfl ?_
   refine rd_skip rfl rfl ?_
   refine rd_op (v := vb true) (ov_pick rfl rfl rfl rfl) ?_
   exact rd_weak (sub_cons rfl (sub_skip rfl (sub_skip rfl (sub_skip rfl (sub_skip rfl (sub_refl _)))))) k
 refine rd_nil ?_
 refine pn_seq ?_
 refine rc_cond rfl (fun hc104 => ?_) (fun hc104 => ?_)
 ·replace hres := (ite_t hc104).symm.trans hres
  have hc104' := hc104
  try simp only [qa1, qa2, qa3, qa4, qa5, qa6, qa7, qa8, qa9, qaA, qaB, qaC, qaD] at hc104'
  refine rc_seq ?_
  refine rc_region ?_
  obtain ⟨y105, hw105, hres⟩ := let_ex hres
  have f105 := f33_ok   
  rw [hw105] at f105
  refine rd_call (cv_fn rfl rfl clL_nil f105) ?_
  refine rd_op (ov_move rfl) ?_
  refine rd_nil ?_
  refine pn_seq ?_
  subst hres
  exact rc_retV (.tmp rfl .nil) (deep_closed rfl) rfl
 ·replace hres := (ite_f hc104).symm.trans hres
  have hc104' := hc104
  try simp only [qa1, qa2, qa3, qa4, qa5, qa6, qa7, qa8, qa9, qaA, qaB, qaC, qaD] at hc104'
  refine rc_skip ?_
  refine pn_seq ?_
  refine rc_seq ?_
  refine rc_region ?_
  refine rd_op (ov_load rfl (TR.cnt api_Program.t r0) (TR.agg api_Program.t r0)) ?_
  refine rd_op (ov_move rfl) ?_
  refine rd_op (ov_load rfl (TR.cnt api_Entry.t r2) (TR.agg api_Entry.t r2)) ?_
  obtain ⟨y106, hw106, hres⟩ := let_ex hres
  have f106 := f34_ok (x1 := x1) r0 r2 
  rw [hw106] at f106
  refine rd_call (cv_fn rfl rfl (clL_cons (TR.clo api_Program.t r0) (clL_cons rfl (clL_cons (TR.clo api_Entry.t r2) clL_nil))) f106) ?_
  refine rd_op (ov_load rfl (TR.cnt api_Program.t r0) (TR.agg api_Program.t r0)) ?_
  refine rd_op (ov_move rfl) ?_
  refine rd_op (ov_load rfl (TR.cnt api_Entry.t r2) (TR.agg api_Entry.t r2)) ?_
  obtain ⟨y107, hw107, hres⟩ := let_ex hres
  have f107 := f35_ok (x1 := x1) r0 r2 
  rw [hw107] at f107
  refine rd_call (cv_fn rfl rfl (clL_cons (TR.clo api_Program.t r0) (clL_cons rfl (clL_cons (TR.clo api_Entry.t r2) clL_nil))) f107) ?_
  refine rd_op (ov_bin rfl rfl i_eql) ?_
  refine rd_op (ov_move rfl) ?_
  refine rd_cut (d := 27) (v := vb ((decide (y106 = y107)) && (law23_works))) ?_ ?_
  ·intro S Q r
   simp only [ac8_G2, List.cons_append, List.nil_append, List.append_assoc]
   cases hb108 : (decide (y106 = y107))
   ·intro k
    refine rd_skip rfl rfl ?_
    refine rd_op (v := vb false) (ov_pick rfl rfl rfl rfl) ?_
    exact rd_weak (sub_cons rfl (sub_skip rfl (sub_skip rfl (sub_refl _)))) k
   ·intro k
    have hb108' := hb108
    try simp only [qa1, qa2, qa3, qa4, qa5, qa6, qa7, qa8, qa9, qaA, qaB, qaC, qaD] at hb108'
    have f109 := f33_ok   
    refine rd_ycall rfl rfl (cv_fn rfl rfl clL_nil f109) ?_
    refine rd_op (v := vb (law23_works)) (ov_pick rfl rfl rfl rfl) ?_
    exact rd_weak (sub_cons rfl (sub_skip rfl (sub_skip rfl (sub_refl _)))) k
  refine rd_op (ov_move rfl) ?_
  refine rd_nil ?_
  refine pn_seq ?_
  subst hres
  exact rc_retV (.tmp rfl .nil) (deep_closed rfl) rfl

end Go.Proofs.Ytklfdkbemkommaa
