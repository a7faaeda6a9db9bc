/-
 The code of each function does what its plain program says.
-/
import Derived.Test.YtklfdkbemkommaaL8W3
set_option linter.unusedVariables false
set_option linter.unusedSimpArgs false
set_option maxRecDepth 100000
namespace Go.Proofs.Ytklfdkbemkommaa
open Go Go.Pb Go.RowKit
/-- patchbay/entry.Check -/
def RF34 (res : Int) (r : PV) : Prop := r = vi res
theorem entry_Check_L1_ok {S : List Fr} {res : Int} {x0 : api_Program} {x1 : Int} {x2 : api_Entry} {y101 : Int × Int} {y106 : (List Int)} {v0 : PV} {v2 : PV} {v105 : PV} {v107 : PV} {v110 : PV} (hw101 : table_Check x0 x1 = y101) (hc102 : (!decide (y101.2 = 0)) = false) (r105 : (tSl api_TableKey.t).R ((ix x0.Tables x1).Keys) v105) (hw106 : table_Widths x0 x1 = y106) (r107 : (tSl tI).R y106 v107) (ek106 : (0 ≤ x1 ∧ x1 < x0.Tables.length) ∧ y106.length = (ix x0.Tables x1).Keys.length ∧ y106.length ≤ 6) (hc109 : (!decide ((x2.Keys.length : Int) = (((ix x0.Tables x1).Keys).length : Int))) = false) (r110 : (tSl api_KeyMatch.t).R x2.Keys v110) {K0 : Unit → Int}
  (hK0 : ∀ (h : Heap) (M0 : Mem h []), K0 () = res → PX Try.prog 0 S (QR Try.prog [(6, none)] (RF34 res)) [(1, vi x1), (3, .fp v0), (5, .fp v2)] h) :
  ∀ (m : Nat) (x41_ : Int) (hm1 : m = Int.toNat ((x2.Keys.length : Int) - x41_)) (hlo1 : 0 ≤ x41_) (h : Heap) (M0 : Mem h []), entry_Check_L1 x0 x1 x2 y106 K0 m x41_ = res → RC Try.prog (.loop ac34_L1) S (QR Try.prog [(6, none)] (RF34 res)) [(41, vi x41_), (40, vi (x2.Keys.length : Int)), (39, v110), (10, v107), (9, v105), (5, .fp v2), (3, .fp v0), (1, vi x1)] h := by
 have hc102' := hc102
 try simp only [qa1, qa2, qa3, qa4, qa5, qa6, qa7, qa8, qa9, qaA, qaB, qaC, qaD] at hc102'
 have hc109' := hc109
 try simp only [qa1, qa2, qa3, qa4, qa5, qa6, qa7, qa8, qa9, qaA, qaB, qaC, qaD] at hc109'
 intro m
 induction m with
 | zero =>
  intro x41_ hm1 hlo1 h M0 hres
  rw [entry_Check_L1] at hres
  refine rc_loop ?_
  unfold ac34_L1
  refine rc_seq ?_
  refine rc_region ?_
  refine rd_op (ov_bin rfl rfl i_lss) ?_
  refine rd_nil ?_
  refine pn_seq ?_
  refine rc_seq ?_
  refine rc_cond rfl (fun hc111 => ?_) (fun hc111 => ?_)
  ·exfalso
   try simp only [qa1, qa2, qa3, qa4, qa5, qa6, qa7, qa8, qa9, qaA, qaB, qaC, qaD] at hc111
   omega
  ·have hend := hres
   have hc111' := hc111
   try simp only [qa1, qa2, qa3, qa4, qa5, qa6, qa7, qa8, qa9, qaA, qaB, qaC, qaD] at hc111'
   refine rc_exit ?_
   refine px_seq ?_
   refine px_again ?_
   exact px_weak ((sub_cons rfl (sub_cons rfl (sub_cons rfl (sub_nil _))))) (hK0 _ (Mem.sub M0 .slnil) hres)
 | succ m ih =>
  intro x41_ hm1 hlo1 h M0 hres
  rw [entry_Check_L1] at hres
  refine rc_loop ?_
  unfold ac34_L1
  refine rc_seq ?_
  refine rc_region ?_
  refine rd_op (ov_bin rfl rfl i_lss) ?_
  refine rd_nil ?_
  refine pn_seq ?_
  refine rc_seq ?_
  refine rc_cond rfl (fun hc112 => ?_) (fun hc112 => ?_)
  ·have hgo := hres
   have hc112' := hc112
   try simp only [qa1, qa2, qa3, qa4, qa5, qa6, qa7, qa8, qa9, qaA, qaB, qaC, qaD] at hc112'
   refine rc_skip ?_
   refine pn_seq ?_
   refine rc_seq ?_
   refine rc_block ?_
   refine rc_seq ?_
   refine rc_region ?_
   refine rd_op (ov_move rfl) ?_
   obtain ⟨v113, e113, r113⟩ := sl_idx (i := x41_) r110 (by first | omega | (have hk := tck (by assumption) (by assumption); omega) | (have hk := rtck (by assumption) (by assumption); omega) | (have hk := eck (by assumption) (by assumption) (by assumption); omega) | (have hk := tv (by assumption) (by assumption); omega) | (have hk := rtv (by assumption) (by assumption); omega)) (by first | omega | (have hk := tck (by assumption) (by assumption); omega) | (have hk := rtck (by assumption) (by assumption); omega) | (have hk := eck (by assumption) (by assumption) (by assumption); omega) | (have hk := tv (by assumption) (by assumption); omega) | (have hk := rtv (by assumption) (by assumption); omega))
   refine rd_op (ov_iaddr rfl rfl e113) ?_
   refine rd_op (ov_load rfl (TR.cnt api_KeyMatch.t r113) (TR.agg api_KeyMatch.t r113)) ?_
   refine rd_allocO (x := .agg [vu32 0#32, vu32 0#32]) M0 rfl rfl (fun i114 w114 h114 M114 => ?_)
   refine rd_op (ov_move rfl) ?_
   refine rd_storeO (k := 0) (v := v113) M114 rfl rfl rfl (TR.cnt api_KeyMatch.t r113) (fun h116 M116 => ?_)
   replace M116 : Mem h116 [⟨.op i114 w114 0, 85, 2, [v113]⟩] := M116
   refine rd_nil ?_
   refine pn_seq ?_
   refine rc_seq ?_
   refine rc_region ?_
   refine rd_op (ov_load0 (k := 0) M116 rfl rfl (TR.agg api_KeyMatch.t r113)) ?_
   refine rd_op (ov_move rfl) ?_
   refine rd_op (ov_move rfl) ?_
   obtain ⟨v117, e117, r117⟩ := sl_idx (i := x41_) r105 (by first | omega | (have hk := tck (by assumption) (by assumption); omega) | (have hk := rtck (by assumption) (by assumption); omega) | (have hk := eck (by assumption) (by assumption) (by assumption); omega) | (have hk := tv (by assumption) (by assumption); omega) | (have hk := rtv (by assumption) (by assumption); omega)) (by first | omega | (have hk := tck (by assumption) (by assumption); omega) | (have hk := rtck (by assumption) (by assumption); omega) | (have hk := eck (by assumption) (by assumption) (by assumption); omega) | (have hk := tv (by assumption) (by assumption); omega) | (have hk := rtv (by assumption) (by assumption); omega))
   refine rd_op (ov_iaddr rfl rfl e117) ?_
   refine rd_op (ov_faddr rfl (api_TableKey.g_Kind r117)) ?_
   refine rd_op (ov_load rfl rfl rfl) ?_
   refine rd_op (ov_move rfl) ?_
   refine rd_op (ov_move rfl) ?_
   refine rd_op (ov_iaddr rfl rfl (slI r107 (by first | omega | (have hk := tck (by assumption) (by assumption); omega) | (have hk := rtck (by assumption) (by assumption); omega) | (have hk := eck (by assumption) (by assumption) (by assumption); omega) | (have hk := tv (by assumption) (by assumption); omega) | (have hk := rtv (by assumption) (by assumption); omega)) (by first | omega | (have hk := tck (by assumption) (by assumption); omega) | (have hk := rtck (by assumption) (by assumption); omega) | (have hk := eck (by assumption) (by assumption) (by assumption); omega) | (have hk := tv (by assumption) (by assumption); omega) | (have hk := rtv (by assumption) (by assumption); omega)))) ?_
   refine rd_op (ov_load rfl rfl rfl) ?_
   obtain ⟨y118, hw118, hres⟩ := let_ex hres
   have f118 := f63_ok (x1 := (ix ((ix x0.Tables x1).Keys) x41_).Kind) (x2 := (ix y106 x41_)) r113 
   rw [hw118] at f118
   refine rd_call (cv_fn rfl rfl (clL_cons (TR.clo api_KeyMatch.t r113) (clL_cons rfl (clL_cons rfl clL_nil))) f118) ?_
   refine rd_op (ov_move rfl) ?_
   refine rd_nil ?_
   refine pn_seq ?_
   refine rc_seq ?_
   refine rc_region ?_
   refine rd_op (ov_move rfl) ?_
   refine rd_op (ov_bin rfl rfl i_neq) ?_
   refine rd_nil ?_
   refine pn_seq ?_
   refine rc_cond rfl (fun hc119 => ?_) (fun hc119 => ?_)
   ·replace hres := (ite_t hc119).symm.trans hres
    have hc119' := hc119
    try simp only [qa1, qa2, qa3, qa4, qa5, qa6, qa7, qa8, qa9, qaA, qaB, qaC, qaD] at hc119'
    refine rc_seq ?_
    refine rc_region ?_
    refine rd_op (ov_move rfl) ?_
    refine rd_op (ov_move rfl) ?_
    refine rd_nil ?_
    refine pn_seq ?_
    subst hres
    exact rc_retV (.tmp rfl .nil) (deep_closed rfl) rfl
   ·replace hres := (ite_f hc119).symm.trans hres
    have hc119' := hc119
    try simp only [qa1, qa2, qa3, qa4, qa5, qa6, qa7, qa8, qa9, qaA, qaB, qaC, qaD] at hc119'
    refine rc_skip ?_
    refine pn_blk ?_
    refine pn_seq ?_
    refine rc_region ?_
    refine rd_op (ov_bin rfl rfl i_add) ?_
    refine rd_op (ov_move rfl) ?_
    refine rd_nil ?_
    refine pn_again ?_
    have hbd := sl_bound r110
    have hinc : wr (x41_ + 1) = x41_ + 1 := wr_of (by omega) (by omega)
    rw [hinc]
    refine rc_weak ?_ (ih (x41_ + 1)  (by omega) (by omega) _ (Mem.sub M116 (.cons _ .slnil)) hres)
    exact ((sub_cons rfl (sub_cons rfl (sub_cons rfl (sub_cons rfl (sub_cons rfl (sub_cons rfl (sub_cons rfl (sub_cons rfl (sub_nil _))))))))))
  ·exfalso
   try simp only [qa1, qa2, qa3, qa4, qa5, qa6, qa7, qa8, qa9, qaA, qaB, qaC, qaD] at hc112
   omega

theorem f34_ok {x0 : api_Program} {x1 : Int} {x2 : api_Entry} {v0 v2 : PV} (r0 : api_Program.t.R x0 v0) (r2 : api_Entry.t.R x2 v2) : FnR Try.prog 34 [v0, vi x1, v2] (vi (entry_Check x0 x1 x2)) := by
 obtain ⟨res, hres⟩ : ∃ res, entry_Check x0 x1 x2 = res := ⟨_, rfl⟩
 suffices H : RC Try.prog ac34 [] (QR Try.prog [(6, none)] (RF34 res)) (argE 0 [v0, vi x1, v2]) ⟨0, []⟩ by
  obtain ⟨r, h1, h2⟩ := fnE text34 (by simp) H
  rw [hres]
  have h2 : r = vi res := h2
  rw [← h2]; exact h1
 unfold entry_Check at hres
 unfold ac34
 refine rc_seq ?_
 refine rc_region ?_
 refine rd_op (ov_box rfl (TR.cnt api_Program.t r0)) ?_
 refine rd_op (ov_box rfl (TR.cnt api_Entry.t r2)) ?_
 refine rd_op (v := vi 0) (ov_move rfl) ?_
 refine rd_nil ?_
 refine pn_seq ?_
 refine rc_seq ?_
 refine rc_seq ?_
 refine rc_region ?_
 refine rd_op (ov_load rfl (TR.cnt api_Program.t r0) (TR.agg api_Program.t r0)) ?_
 refine rd_op (ov_move rfl) ?_
 obtain ⟨y101, hw101, hres⟩ := let_ex hres
 have f101 := f16_ok (x1 := x1) r0 
 rw [hw101] at f101
 refine rd_call (cv_fn rfl rfl (clL_cons (TR.clo api_Program.t r0) (clL_cons rfl clL_nil)) f101) ?_
 refine rd_op (ov_move rfl) ?_
 refine rd_op (ov_extract rfl rfl) ?_
 refine rd_op (ov_extract rfl rfl) ?_
 refine rd_op (ov_move rfl) ?_
 refine rd_op (ov_move rfl) ?_
 refine rd_nil ?_
 refine pn_seq ?_
 refine rc_seq ?_
 refine rc_region ?_
 refine rd_op (ov_move rfl) ?_
 refine rd_op (ov_bin rfl rfl i_neq) ?_
 refine rd_nil ?_
 refine pn_seq ?_
 refine rc_cond rfl (fun hc102 => ?_) (fun hc102 => ?_)
 ·replace hres := (ite_t hc102).symm.trans hres
  have hc102' := hc102
  try simp only [qa1, qa2, qa3, qa4, qa5, qa6, qa7, qa8, qa9, qaA, qaB, qaC, qaD] at hc102'
  refine rc_seq ?_
  refine rc_region ?_
  refine rd_op (ov_move rfl) ?_
  refine rd_op (ov_move rfl) ?_
  refine rd_nil ?_
  refine pn_seq ?_
  subst hres
  exact rc_retV (.tmp rfl .nil) (deep_closed rfl) rfl
 ·replace hres := (ite_f hc102).symm.trans hres
  have hc102' := hc102
  try simp only [qa1, qa2, qa3, qa4, qa5, qa6, qa7, qa8, qa9, qaA, qaB, qaC, qaD] at hc102'
  refine rc_skip ?_
  refine pn_seq ?_
  refine rc_seq ?_
  refine rc_region ?_
  obtain ⟨v103, e103, r103⟩ := api_Program.g_Tables r0
  refine rd_op (ov_faddr rfl e103) ?_
  refine rd_op (ov_load rfl (TR.cnt (tSl api_Table.t) r103) (TR.agg (tSl api_Table.t) r103)) ?_
  refine rd_op (ov_move rfl) ?_
  obtain ⟨v104, e104, r104⟩ := sl_idx (i := x1) r103 (by first | omega | (have hk := tck (by assumption) (by assumption); omega) | (have hk := rtck (by assumption) (by assumption); omega) | (have hk := eck (by assumption) (by assumption) (by assumption); omega) | (have hk := tv (by assumption) (by assumption); omega) | (have hk := rtv (by assumption) (by assumption); omega)) (by first | omega | (have hk := tck (by assumption) (by assumption); omega) | (have hk := rtck (by assumption) (by assumption); omega) | (have hk := eck (by assumption) (by assumption) (by assumption); omega) | (have hk := tv (by assumption) (by assumption); omega) | (have hk := rtv (by assumption) (by assumption); omega))
  refine rd_op (ov_iaddr rfl rfl e104) ?_
  obtain ⟨v105, e105, r105⟩ := api_Table.g_Keys r104
  refine rd_op (ov_faddr rfl e105) ?_
  refine rd_op (ov_load rfl (TR.cnt (tSl api_TableKey.t) r105) (TR.agg (tSl api_TableKey.t) r105)) ?_
  refine rd_op (ov_load rfl (TR.cnt api_Program.t r0) (TR.agg api_Program.t r0)) ?_
  refine rd_op (ov_move rfl) ?_
  obtain ⟨y106, hw106, hres⟩ := let_ex hres
  obtain ⟨v107, f106, r107⟩ := f21_ok (x1 := x1) r0 
  rw [hw106] at r107
  have ek106 : (0 ≤ x1 ∧ x1 < x0.Tables.length) ∧ y106.length = (ix x0.Tables x1).Keys.length ∧ y106.length ≤ 6 := eck (by assumption) (by assumption) hw106
  refine rd_call (cv_fn rfl rfl (clL_cons (TR.clo api_Program.t r0) (clL_cons rfl clL_nil)) f106) ?_
  refine rd_op (ov_move rfl) ?_
  refine rd_op (ov_move rfl) ?_
  refine rd_nil ?_
  refine pn_seq ?_
  refine rc_seq ?_
  refine rc_seq ?_
  refine rc_region ?_
  obtain ⟨v108, e108, r108⟩ := api_Entry.g_Keys r2
  refine rd_op (ov_faddr rfl e108) ?_
  refine rd_op (ov_load rfl (TR.cnt (tSl api_KeyMatch.t) r108) (TR.agg (tSl api_KeyMatch.t) r108)) ?_
  refine rd_op (ov_bi rfl (sl_len r108 Try.underlying67 _)) ?_
  refine rd_op (ov_move rfl) ?_
  refine rd_op (ov_bi rfl (sl_len r105 Try.underlying52 _)) ?_
  refine rd_op (ov_bin rfl rfl i_neq) ?_
  refine rd_nil ?_
  refine pn_seq ?_
  refine rc_cond rfl (fun hc109 => ?_) (fun hc109 => ?_)
  ·replace hres := (ite_t hc109).symm.trans hres
   have hc109' := hc109
   try simp only [qa1, qa2, qa3, qa4, qa5, qa6, qa7, qa8, qa9, qaA, qaB, qaC, qaD] at hc109'
   refine rc_seq ?_
   refine rc_region ?_
   refine rd_op (v := vi 2) (ov_move rfl) ?_
   refine rd_nil ?_
   refine pn_seq ?_
   subst hres
   exact rc_retV (.tmp rfl .nil) (deep_closed rfl) rfl
  ·replace hres := (ite_f hc109).symm.trans hres
   have hc109' := hc109
   try simp only [qa1, qa2, qa3, qa4, qa5, qa6, qa7, qa8, qa9, qaA, qaB, qaC, qaD] at hc109'
   refine rc_skip ?_
   refine pn_seq ?_
   refine rc_seq ?_
   refine rc_seq ?_
   refine rc_region ?_
   obtain ⟨v110, e110, r110⟩ := api_Entry.g_Keys r2
   refine rd_op (ov_faddr rfl e110) ?_
   refine rd_op (ov_load rfl (TR.cnt (tSl api_KeyMatch.t) r110) (TR.agg (tSl api_KeyMatch.t) r110)) ?_
   refine rd_op (ov_bi rfl (sl_len r110 Try.underlying67 _)) ?_
   refine rd_op (v := vi 0) (ov_move rfl) ?_
   refine rd_nil ?_
   refine pn_seq ?_
   refine rc_block ?_
   refine rc_weak ?_ (entry_Check_L1_ok (x0 := x0) (x1 := x1) (x2 := x2) (y101 := y101) (y106 := y106) (v0 := v0) (v2 := v2) (v105 := v105) (v107 := v107) (v110 := v110)  (hw101 := hw101) (hc102 := hc102) (r105 := r105) (hw106 := hw106) (r107 := r107) (ek106 := ek106) (hc109 := hc109) (r110 := r110) ?_ (Int.toNat ((x2.Keys.length : Int) - 0)) 0 rfl (by omega) _ (Mem.sub (Mem.nil ⟨0, []⟩) .slnil) hres)
   ·exact ((sub_cons rfl (sub_cons rfl (sub_cons rfl (sub_cons rfl (sub_cons rfl (sub_cons rfl (sub_cons rfl (sub_cons rfl (sub_nil _))))))))))
   ·intro h120 M120 hres
    refine px_blk ?_
    refine pn_seq ?_
    refine rc_seq ?_
    refine rc_block ?_
    refine rc_seq ?_
    refine rc_region ?_
    refine rd_op (ov_faddr rfl (api_Entry.g_Priority r2)) ?_
    refine rd_op (ov_load rfl rfl rfl) ?_
    refine rd_op (ov_bin rfl rfl i_lss) ?_
    refine rd_op (ov_move rfl) ?_
    refine rd_cut (d := 69) (v := vb ((decide (x2.Priority < 0)) || (decide (255 < x2.Priority)))) ?_ ?_
    ·intro S Q r
     simp only [ac34_G1, List.cons_append, List.nil_append, List.append_assoc]
     cases hb121 : (decide (x2.Priority < 0))
     ·intro k
      have hb121' := hb121
      try simp only [qa1, qa2, qa3, qa4, qa5, qa6, qa7, qa8, qa9, qaA, qaB, qaC, qaD] at hb121'
      refine rd_yes rfl rfl (ov_faddr rfl (api_Entry.g_Priority r2)) ?_
      refine rd_yes rfl rfl (ov_load rfl rfl rfl) ?_
      refine rd_yes rfl rfl (ov_bin rfl rfl i_gtr) ?_
      refine rd_op (v := vb (decide (255 < x2.Priority))) (ov_pick rfl rfl rfl rfl) ?_
      exact rd_weak (sub_cons rfl (sub_skip rfl (sub_skip rfl (sub_skip rfl (sub_skip rfl (sub_refl _)))))) k
     ·intro k
      refine rd_skip rfl rfl ?_
      refine rd_skip rfl rfl ?_
      refine rd_skip rfl rfl ?_
      refine rd_op (v := vb true) (ov_pick rfl rfl rfl rfl) ?_
      exact rd_weak (sub_cons rfl (sub_skip rfl (sub_skip rfl (sub_skip rfl (sub_skip rfl (sub_refl _)))))) k
    refine rd_op (ov_move rfl) ?_
    refine rd_nil ?_
    refine pn_seq ?_
    refine rc_cond rfl (fun hc122 => ?_) (fun hc122 => ?_)
    ·replace hres := (ite_t hc122).symm.trans hres
     have hc122' := hc122
     try simp only [qa1, qa2, qa3, qa4, qa5, qa6, qa7, qa8, qa9, qaA, qaB, qaC, qaD] at hc122'
     refine rc_seq ?_
     refine rc_region ?_
     refine rd_op (v := vi 9) (ov_move rfl) ?_
     refine rd_nil ?_
     refine pn_seq ?_
     subst hres
     exact rc_retV (.tmp rfl .nil) (deep_closed rfl) rfl
    ·replace hres := (ite_f hc122).symm.trans hres
     have hc122' := hc122
     try simp only [qa1, qa2, qa3, qa4, qa5, qa6, qa7, qa8, qa9, qaA, qaB, qaC, qaD] at hc122'
     refine rc_seq ?_
     refine rc_region ?_
     refine rd_op (ov_faddr rfl (api_Entry.g_Priority r2)) ?_
     refine rd_op (ov_load rfl rfl rfl) ?_
     refine rd_op (ov_bin rfl rfl i_neq) ?_
     refine rd_op (ov_move rfl) ?_
     refine rd_cut (d := 79) (v := vb ((!decide (x2.Priority = 0)) && (!decide ((table_Kind x0 x1) = 3)))) ?_ ?_
     ·intro S Q r
      simp only [ac34_G2, List.cons_append, List.nil_append, List.append_assoc]
      cases hb123 : (!decide (x2.Priority = 0))
      ·intro k
       refine rd_skip rfl rfl ?_
       refine rd_skip rfl rfl ?_
       refine rd_skip rfl rfl ?_
       refine rd_skip rfl rfl ?_
       refine rd_op (v := vb false) (ov_pick rfl rfl rfl rfl) ?_
       exact rd_weak (sub_cons rfl (sub_skip rfl (sub_skip rfl (sub_skip rfl (sub_skip rfl (sub_skip rfl (sub_refl _))))))) k
      ·intro k
       have hb123' := hb123
       try simp only [qa1, qa2, qa3, qa4, qa5, qa6, qa7, qa8, qa9, qaA, qaB, qaC, qaD] at hb123'
       refine rd_yes rfl rfl (ov_load rfl (TR.cnt api_Program.t r0) (TR.agg api_Program.t r0)) ?_
       refine rd_yes rfl rfl (ov_move rfl) ?_
       have f124 := f18_ok (x1 := x1) r0 
       refine rd_ycall rfl rfl (cv_fn rfl rfl (clL_cons (TR.clo api_Program.t r0) (clL_cons rfl clL_nil)) f124) ?_
       refine rd_yes rfl rfl (ov_bin rfl rfl i_neq) ?_
       refine rd_op (v := vb (!decide ((table_Kind x0 x1) = 3))) (ov_pick rfl rfl rfl rfl) ?_
       exact rd_weak (sub_cons rfl (sub_skip rfl (sub_skip rfl (sub_skip rfl (sub_skip rfl (sub_skip rfl (sub_refl _))))))) k
     refine rd_op (ov_move rfl) ?_
     refine rd_nil ?_
     refine pn_seq ?_
     refine rc_cond rfl (fun hc125 => ?_) (fun hc125 => ?_)
     ·replace hres := (ite_t hc125).symm.trans hres
      have hc125' := hc125
      try simp only [qa1, qa2, qa3, qa4, qa5, qa6, qa7, qa8, qa9, qaA, qaB, qaC, qaD] at hc125'
      refine rc_seq ?_
      refine rc_region ?_
      refine rd_op (v := vi 11) (ov_move rfl) ?_
      refine rd_nil ?_
      refine pn_seq ?_
      subst hres
      exact rc_retV (.tmp rfl .nil) (deep_closed rfl) rfl
     ·replace hres := (ite_f hc125).symm.trans hres
      have hc125' := hc125
      try simp only [qa1, qa2, qa3, qa4, qa5, qa6, qa7, qa8, qa9, qaA, qaB, qaC, qaD] at hc125'
      refine rc_seq ?_
      refine rc_region ?_
      refine rd_op (ov_load rfl (TR.cnt api_Program.t r0) (TR.agg api_Program.t r0)) ?_
      refine rd_op (ov_move rfl) ?_
      obtain ⟨v126, e126, r126⟩ := api_Entry.g_Call r2
      refine rd_op (ov_faddr rfl e126) ?_
      refine rd_op (ov_faddr rfl (api_ActionCall.g_Action r126)) ?_
      refine rd_op (ov_load rfl rfl rfl) ?_
      obtain ⟨y127, hw127, hres⟩ := let_ex hres
      have f127 := f25_ok (x1 := x1) (x2 := x2.Call.Action) r0 
      rw [hw127] at f127
      refine rd_call (cv_fn rfl rfl (clL_cons (TR.clo api_Program.t r0) (clL_cons rfl (clL_cons rfl clL_nil))) f127) ?_
      refine rd_op (ov_not rfl) ?_
      refine rd_op (ov_move rfl) ?_
      refine rd_nil ?_
      refine pn_seq ?_
      refine rc_cond rfl (fun hc128 => ?_) (fun hc128 => ?_)
      ·replace hres := (ite_t hc128).symm.trans hres
       have hc128' := hc128
       try simp only [qa1, qa2, qa3, qa4, qa5, qa6, qa7, qa8, qa9, qaA, qaB, qaC, qaD] at hc128'
       refine rc_seq ?_
       refine rc_region ?_
       refine rd_op (v := vi 8) (ov_move rfl) ?_
       refine rd_nil ?_
       refine pn_seq ?_
       subst hres
       exact rc_retV (.tmp rfl .nil) (deep_closed rfl) rfl
      ·replace hres := (ite_f hc128).symm.trans hres
       have hc128' := hc128
       try simp only [qa1, qa2, qa3, qa4, qa5, qa6, qa7, qa8, qa9, qaA, qaB, qaC, qaD] at hc128'
       refine rc_skip ?_
       refine pn_blk ?_
       refine pn_seq ?_
       refine rc_seq ?_
       refine rc_region ?_
       refine rd_op (ov_load rfl (TR.cnt api_Program.t r0) (TR.agg api_Program.t r0)) ?_
       obtain ⟨v129, e129, r129⟩ := api_Entry.g_Call r2
       refine rd_op (ov_faddr rfl e129) ?_
       refine rd_op (ov_load rfl (TR.cnt api_ActionCall.t r129) (TR.agg api_ActionCall.t r129)) ?_
       obtain ⟨y130, hw130, hres⟩ := let_ex hres
       have f130 := f64_ok  r0 r129 
       rw [hw130] at f130
       refine rd_call (cv_fn rfl rfl (clL_cons (TR.clo api_Program.t r0) (clL_cons (TR.clo api_ActionCall.t r129) clL_nil)) f130) ?_
       refine rd_op (ov_move rfl) ?_
       refine rd_nil ?_
       refine pn_seq ?_
       subst hres
       exact rc_retV (.tmp rfl .nil) (deep_closed rfl) rfl

/-- patchbay/entry.Matches -/
def RF36 (res : Bool) (r : PV) : Prop := r = vb res
theorem entry_Matches_L1_ok {S : List Fr} {res : Bool} {x0 : api_Entry} {x1 : List (BitVec 32)} {v1 : PV} {v103 : PV} (r1 : (tSl tU32).R x1 v1) (hc102 : (!decide ((x1.length : Int) = (x0.Keys.length : Int))) = false) (r103 : (tSl api_KeyMatch.t).R x0.Keys v103) {K0 : Unit → Bool}
  (hK0 : ∀ (h : Heap) (M0 : Mem h []), K0 () = res → PX Try.prog 0 S (QR Try.prog [(4, none)] (RF36 res)) [] h) :
  ∀ (m : Nat) (x16_ : Int) (hm1 : m = Int.toNat ((x0.Keys.length : Int) - x16_)) (hlo1 : 0 ≤ x16_) (h : Heap) (M0 : Mem h []), entry_Matches_L1 x0 x1 K0 m x16_ = res → RC Try.prog (.loop ac36_L1) S (QR Try.prog [(4, none)] (RF36 res)) [(16, vi x16_), (15, vi (x0.Keys.length : Int)), (14, v103), (1, v1)] h := by
 have hc102' := hc102
 try simp only [qa1, qa2, qa3, qa4, qa5, qa6, qa7, qa8, qa9, qaA, qaB, qaC, qaD] at hc102'
 intro m
 induction m with
 | zero =>
  intro x16_ hm1 hlo1 h M0 hres
  rw [entry_Matches_L1] at hres
  refine rc_loop ?_
  unfold ac36_L1
  refine rc_seq ?_
  refine rc_region ?_
  refine rd_op (ov_bin rfl rfl i_lss) ?_
  refine rd_nil ?_
  refine pn_seq ?_
  refine rc_seq ?_
  refine rc_cond rfl (fun hc104 => ?_) (fun hc104 => ?_)
  ·exfalso
   try simp only [qa1, qa2, qa3, qa4, qa5, qa6, qa7, qa8, qa9, qaA, qaB, qaC, qaD] at hc104
   omega
  ·have hend := hres
   have hc104' := hc104
   try simp only [qa1, qa2, qa3, qa4, qa5, qa6, qa7, qa8, qa9, qaA, qaB, qaC, qaD] at hc104'
   refine rc_exit ?_
   refine px_seq ?_
   refine px_again ?_
   exact px_weak ((sub_nil _)) (hK0 _ (Mem.sub M0 .slnil) hres)
 | succ m ih =>
  intro x16_ hm1 hlo1 h M0 hres
  rw [entry_Matches_L1] at hres
  refine rc_loop ?_
  unfold ac36_L1
  refine rc_seq ?_
  refine rc_region ?_
  refine rd_op (ov_bin rfl rfl i_lss) ?_
  refine rd_nil ?_
  refine pn_seq ?_
  refine rc_seq ?_
  refine rc_cond rfl (fun hc105 => ?_) (fun hc105 => ?_)
  ·have hgo := hres
   have hc105' := hc105
   try simp only [qa1, qa2, qa3, qa4, qa5, qa6, qa7, qa8, qa9, qaA, qaB, qaC, qaD] at hc105'
   refine rc_skip ?_
   refine pn_seq ?_
   refine rc_seq ?_
   refine rc_block ?_
   refine rc_seq ?_
   refine rc_region ?_
   refine rd_op (ov_move rfl) ?_
   obtain ⟨v106, e106, r106⟩ := sl_idx (i := x16_) r103 (by first | omega | (have hk := tck (by assumption) (by assumption); omega) | (have hk := rtck (by assumption) (by assumption); omega) | (have hk := eck (by assumption) (by assumption) (by assumption); omega) | (have hk := tv (by assumption) (by assumption); omega) | (have hk := rtv (by assumption) (by assumption); omega)) (by first | omega | (have hk := tck (by assumption) (by assumption); omega) | (have hk := rtck (by assumption) (by assumption); omega) | (have hk := eck (by assumption) (by assumption) (by assumption); omega) | (have hk := tv (by assumption) (by assumption); omega) | (have hk := rtv (by assumption) (by assumption); omega))
   refine rd_op (ov_iaddr rfl rfl e106) ?_
   refine rd_op (ov_load rfl (TR.cnt api_KeyMatch.t r106) (TR.agg api_KeyMatch.t r106)) ?_
   refine rd_allocO (x := .agg [vu32 0#32, vu32 0#32]) M0 rfl rfl (fun i107 w107 h107 M107 => ?_)
   refine rd_op (ov_move rfl) ?_
   refine rd_storeO (k := 0) (v := v106) M107 rfl rfl rfl (TR.cnt api_KeyMatch.t r106) (fun h109 M109 => ?_)
   replace M109 : Mem h109 [⟨.op i107 w107 0, 85, 2, [v106]⟩] := M109
   refine rd_nil ?_
   refine pn_seq ?_
   refine rc_seq ?_
   refine rc_region ?_
   refine rd_op (ov_move rfl) ?_
   refine rd_op (ov_move rfl) ?_
   refine rd_op (ov_iaddr rfl rfl (slU32 r1 (by first | omega | (have hk := tck (by assumption) (by assumption); omega) | (have hk := rtck (by assumption) (by assumption); omega) | (have hk := eck (by assumption) (by assumption) (by assumption); omega) | (have hk := tv (by assumption) (by assumption); omega) | (have hk := rtv (by assumption) (by assumption); omega)) (by first | omega | (have hk := tck (by assumption) (by assumption); omega) | (have hk := rtck (by assumption) (by assumption); omega) | (have hk := eck (by assumption) (by assumption) (by assumption); omega) | (have hk := tv (by assumption) (by assumption); omega) | (have hk := rtv (by assumption) (by assumption); omega)))) ?_
   refine rd_op (ov_load rfl rfl rfl) ?_
   refine rd_op (ov_faddrO rfl) ?_
   refine rd_op (ov_loadf (k := 0) M109 rfl rfl (api_KeyMatch.g_Value r106)) ?_
   refine rd_op (ov_bin (a := vu32 (ix x1 x16_)) (b := vu32 ((ix x0.Keys x16_).Value)) rfl rfl w_xor) ?_
   refine rd_op (ov_faddrO rfl) ?_
   refine rd_op (ov_loadf (k := 0) M109 rfl rfl (api_KeyMatch.g_Mask r106)) ?_
   refine rd_op (ov_bin (a := vu32 ((ix x1 x16_) ^^^ ((ix x0.Keys x16_).Value))) (b := vu32 ((ix x0.Keys x16_).Mask)) rfl rfl w_and) ?_
   refine rd_op (ov_bin (a := vu32 (((ix x1 x16_) ^^^ ((ix x0.Keys x16_).Value)) &&& ((ix x0.Keys x16_).Mask))) (b := vu32 0#32) rfl rfl w_neq) ?_
   refine rd_nil ?_
   refine pn_seq ?_
   refine rc_cond rfl (fun hc110 => ?_) (fun hc110 => ?_)
   ·replace hres := (ite_t hc110).symm.trans hres
    have hc110' := hc110
    try simp only [qa1, qa2, qa3, qa4, qa5, qa6, qa7, qa8, qa9, qaA, qaB, qaC, qaD] at hc110'
    refine rc_seq ?_
    refine rc_region ?_
    refine rd_op (v := vb false) (ov_move rfl) ?_
    refine rd_nil ?_
    refine pn_seq ?_
    subst hres
    exact rc_retV (.tmp rfl .nil) (deep_closed rfl) rfl
   ·replace hres := (ite_f hc110).symm.trans hres
    have hc110' := hc110
    try simp only [qa1, qa2, qa3, qa4, qa5, qa6, qa7, qa8, qa9, qaA, qaB, qaC, qaD] at hc110'
    refine rc_skip ?_
    refine pn_blk ?_
    refine pn_seq ?_
    refine rc_region ?_
    refine rd_op (ov_bin rfl rfl i_add) ?_
    refine rd_op (ov_move rfl) ?_
    refine rd_nil ?_
    refine pn_again ?_
    have hbd := sl_bound r103
    have hinc : wr (x16_ + 1) = x16_ + 1 := wr_of (by omega) (by omega)
    rw [hinc]
    refine rc_weak ?_ (ih (x16_ + 1)  (by omega) (by omega) _ (Mem.sub M109 (.cons _ .slnil)) hres)
    exact ((sub_cons rfl (sub_cons rfl (sub_cons rfl (sub_cons rfl (sub_nil _))))))
  ·exfalso
   try simp only [qa1, qa2, qa3, qa4, qa5, qa6, qa7, qa8, qa9, qaA, qaB, qaC, qaD] at hc105
   omega

theorem f36_ok {x0 : api_Entry} {x1 : List (BitVec 32)} {v0 v1 : PV} (r0 : api_Entry.t.R x0 v0) (r1 : (tSl tU32).R x1 v1) : FnR Try.prog 36 [v0, v1] (vb (entry_Matches x0 x1)) := by
 obtain ⟨res, hres⟩ : ∃ res, entry_Matches x0 x1 = res := ⟨_, rfl⟩
 suffices H : RC Try.prog ac36 [] (QR Try.prog [(4, none)] (RF36 res)) (argE 0 [v0, v1]) ⟨0, []⟩ by
  obtain ⟨r, h1, h2⟩ := fnE text36 (by simp) H
  rw [hres]
  have h2 : r = vb res := h2
  rw [← h2]; exact h1
 unfold entry_Matches at hres
 unfold ac36
 refine rc_seq ?_
 refine rc_region ?_
 refine rd_op (ov_box rfl (TR.cnt api_Entry.t r0)) ?_
 refine rd_op (v := vb false) (ov_move rfl) ?_
 refine rd_nil ?_
 refine pn_seq ?_
 refine rc_seq ?_
 refine rc_seq ?_
 refine rc_region ?_
 refine rd_op (ov_move rfl) ?_
 refine rd_op (ov_bi rfl (sl_len r1 Try.underlying44 _)) ?_
 obtain ⟨v101, e101, r101⟩ := api_Entry.g_Keys r0
 refine rd_op (ov_faddr rfl e101) ?_
 refine rd_op (ov_load rfl (TR.cnt (tSl api_KeyMatch.t) r101) (TR.agg (tSl api_KeyMatch.t) r101)) ?_
 refine rd_op (ov_bi rfl (sl_len r101 Try.underlying67 _)) ?_
 refine rd_op (ov_bin rfl rfl i_neq) ?_
 refine rd_nil ?_
 refine pn_seq ?_
 refine rc_cond rfl (fun hc102 => ?_) (fun hc102 => ?_)
 ·replace hres := (ite_t hc102).symm.trans hres
  have hc102' := hc102
  try simp only [qa1, qa2, qa3, qa4, qa5, qa6, qa7, qa8, qa9, qaA, qaB, qaC, qaD] at hc102'
  refine rc_seq ?_
  refine rc_region ?_
  refine rd_op (v := vb false) (ov_move rfl) ?_
  refine rd_nil ?_
  refine pn_seq ?_
  subst hres
  exact rc_retV (.tmp rfl .nil) (deep_closed rfl) rfl
 ·replace hres := (ite_f hc102).symm.trans hres
  have hc102' := hc102
  try simp only [qa1, qa2, qa3, qa4, qa5, qa6, qa7, qa8, qa9, qaA, qaB, qaC, qaD] at hc102'
  refine rc_skip ?_
  refine pn_seq ?_
  refine rc_seq ?_
  refine rc_seq ?_
  refine rc_region ?_
  obtain ⟨v103, e103, r103⟩ := api_Entry.g_Keys r0
  refine rd_op (ov_faddr rfl e103) ?_
  refine rd_op (ov_load rfl (TR.cnt (tSl api_KeyMatch.t) r103) (TR.agg (tSl api_KeyMatch.t) r103)) ?_
  refine rd_op (ov_bi rfl (sl_len r103 Try.underlying67 _)) ?_
  refine rd_op (v := vi 0) (ov_move rfl) ?_
  refine rd_nil ?_
  refine pn_seq ?_
  refine rc_block ?_
  refine rc_weak ?_ (entry_Matches_L1_ok (x0 := x0) (x1 := x1) (v1 := v1) (v103 := v103)  (r1 := r1) (hc102 := hc102) (r103 := r103) ?_ (Int.toNat ((x0.Keys.length : Int) - 0)) 0 rfl (by omega) _ (Mem.sub (Mem.nil ⟨0, []⟩) .slnil) hres)
  ·exact ((sub_cons rfl (sub_cons rfl (sub_cons rfl (sub_cons rfl (sub_nil _))))))
  ·intro h111 M111 hres
   refine px_blk ?_
   refine pn_seq ?_
   refine rc_seq ?_
   refine rc_region ?_
   refine rd_op (v := vb true) (ov_move rfl) ?_
   refine rd_nil ?_
   refine pn_seq ?_
   subst hres
   exact rc_retV (.tmp rfl .nil) (deep_closed rfl) rfl

/-- patchbay/bitvec.OnesCount -/
def RF87 (res : Int) (r : PV) : Prop := r = vi res
theorem bitvec_OnesCount_L1_ok {S : List Fr} {res : Int} {x0 : BitVec 32} {K0 : Int → Int}
  (hK0 : ∀ (x3_ : Int), K0 x3_ = res → PX Try.prog 0 S (QR Try.prog [(2, none)] (RF87 res)) [(3, vi x3_)] ⟨0, []⟩) :
  ∀ (m : Nat) (x3_ : Int) (x5_ : Int) (hm1 : m = Int.toNat (32 - x5_)) (hlo1 : 0 ≤ x5_), bitvec_OnesCount_L1 x0 K0 m x3_ x5_ = res → RC Try.prog (.loop ac87_L1) S (QR Try.prog [(2, none)] (RF87 res)) [(5, vi x5_), (3, vi x3_), (0, vu32 x0)] ⟨0, []⟩ := by
 intro m
 induction m with
 | zero =>
  intro x3_ x5_ hm1 hlo1 hres
  rw [bitvec_OnesCount_L1] at hres
  refine rc_loop ?_
  unfold ac87_L1
  refine rc_seq ?_
  refine rc_region ?_
  refine rd_op (ov_bin rfl rfl i_lss) ?_
  refine rd_nil ?_
  refine pn_seq ?_
  refine rc_seq ?_
  refine rc_cond rfl (fun hc101 => ?_) (fun hc101 => ?_)
  ·exfalso
   try simp only [qa1, qa2, qa3, qa4, qa5, qa6, qa7, qa8, qa9, qaA, qaB, qaC, qaD] at hc101
   omega
  ·have hend := hres
   have hc101' := hc101
   try simp only [qa1, qa2, qa3, qa4, qa5, qa6, qa7, qa8, qa9, qaA, qaB, qaC, qaD] at hc101'
   refine rc_exit ?_
   refine px_seq ?_
   refine px_again ?_
   exact px_weak ((sub_cons rfl (sub_nil _))) (hK0 x3_ hres)
 | succ m ih =>
  intro x3_ x5_ hm1 hlo1 hres
  rw [bitvec_OnesCount_L1] at hres
  refine rc_loop ?_
  unfold ac87_L1
  refine rc_seq ?_
  refine rc_region ?_
  refine rd_op (ov_bin rfl rfl i_lss) ?_
  refine rd_nil ?_
  refine pn_seq ?_
  refine rc_seq ?_
  refine rc_cond rfl (fun hc102 => ?_) (fun hc102 => ?_)
  ·have hgo := hres
   have hc102' := hc102
   try simp only [qa1, qa2, qa3, qa4, qa5, qa6, qa7, qa8, qa9, qaA, qaB, qaC, qaD] at hc102'
   refine rc_skip ?_
   refine pn_seq ?_
   refine rc_seq ?_
   refine rc_block ?_
   refine rc_seq ?_
   refine rc_region ?_
   refine rd_op (ov_move rfl) ?_
   refine rd_op (ov_move rfl) ?_
   refine rd_nil ?_
   refine pn_seq ?_
   refine rc_region ?_
   refine rd_op (ov_move rfl) ?_
   refine rd_op (ov_move rfl) ?_
   refine rd_op (ov_move rfl) ?_
   refine rd_op (ov_bin (a := vu32 x0) (b := vi x5_) rfl rfl (w_shr (by first | omega | (rw [wr_of (by omega) (by omega)]; omega)))) ?_
   refine rd_op (ov_bin (a := vu32 (x0 >>> x5_.toNat)) (b := vu32 1#32) rfl rfl w_and) ?_
   refine rd_op (ov_conv (a := vu32 ((x0 >>> x5_.toNat) &&& 1#32)) rfl (c_wi Try.underlying57 Try.underlying3)) ?_
   refine rd_op (ov_bin rfl rfl i_add) ?_
   refine rd_op (ov_move rfl) ?_
   refine rd_nil ?_
   refine pn_blk ?_
   refine pn_seq ?_
   refine rc_region ?_
   refine rd_op (ov_bin rfl rfl i_add) ?_
   refine rd_op (ov_move rfl) ?_
   refine rd_nil ?_
   refine pn_again ?_
   have hinc : wr (x5_ + 1) = x5_ + 1 := wr_of (by omega) (by omega)
   rw [hinc]
   refine rc_weak ?_ (ih (wr (x3_ + (((x0 >>> x5_.toNat) &&& 1#32).toNat : Int))) (x5_ + 1)  (by omega) (by omega) hres)
   exact ((sub_cons rfl (sub_cons rfl (sub_cons rfl (sub_nil _)))))
  ·exfalso
   try simp only [qa1, qa2, qa3, qa4, qa5, qa6, qa7, qa8, qa9, qaA, qaB, qaC, qaD] at hc102
   omega

theorem f87_ok {x0 : BitVec 32} : FnR Try.prog 87 [vu32 x0] (vi (bitvec_OnesCount x0)) := by
 obtain ⟨res, hres⟩ : ∃ res, bitvec_OnesCount x0 = res := ⟨_, rfl⟩
 suffices H : RC Try.prog ac87 [] (QR Try.prog [(2, none)] (RF87 res)) (argE 0 [vu32 x0]) ⟨0, []⟩ by
  obtain ⟨r, h1, h2⟩ := fnE text87 (by simp) H
  rw [hres]
  have h2 : r = vi res := h2
  rw [← h2]; exact h1
 unfold bitvec_OnesCount at hres
 unfold ac87
 refine rc_seq ?_
 refine rc_region ?_
 refine rd_op (v := vi 0) (ov_move rfl) ?_
 refine rd_nil ?_
 refine pn_seq ?_
 refine rc_seq ?_
 refine rc_region ?_
 refine rd_op (v := vi 0) (ov_move rfl) ?_
 refine rd_nil ?_
 refine pn_seq ?_
 refine rc_seq ?_
 refine rc_seq ?_
 refine rc_region ?_
 refine rd_op (v := vi 0) (ov_move rfl) ?_
 refine rd_nil ?_
 refine pn_seq ?_
 refine rc_block ?_
 refine rc_weak ?_ (bitvec_OnesCount_L1_ok (x0 := x0)    ?_ (Int.toNat (32 - 0)) 0 0 rfl (by omega) hres)
 ·exact ((sub_cons rfl (sub_cons rfl (sub_cons rfl (sub_nil _)))))
 ·intro x3_103 hres
  refine px_blk ?_
  refine pn_seq ?_
  refine rc_seq ?_
  refine rc_region ?_
  refine rd_op (ov_move rfl) ?_
  refine rd_op (ov_move rfl) ?_
  refine rd_nil ?_
  refine pn_seq ?_
  subst hres
  exact rc_retV (.tmp rfl .nil) (deep_closed rfl) rfl

/-- patchbay/entry.prefix -/
def RF67 (res : Int) (r : PV) : Prop := r = vi res
theorem entry_prefix_L1_ok {S : List Fr} {res : Int} {x0 : api_Program} {x1 : Int} {x2 : api_Entry} {v2 : PV} {v106 : PV} (r2 : api_Entry.t.R x2 v2) (hc103 : ((decide (x1 < 0)) || (decide ((x0.Tables.length : Int) ≤ x1))) = false) (r106 : (tSl api_TableKey.t).R ((ix x0.Tables x1).Keys) v106) {K0 : Unit → Int}
  (hK0 : ∀ (h : Heap) (M0 : Mem h []), K0 () = res → PX Try.prog 0 S (QR Try.prog [(6, none)] (RF67 res)) [] h) :
  ∀ (m : Nat) (x25_ : Int) (hm1 : m = Int.toNat ((((ix x0.Tables x1).Keys).length : Int) - x25_)) (hlo1 : 0 ≤ x25_) (h : Heap) (M0 : Mem h []), entry_prefix_L1 x0 x1 x2 K0 m x25_ = res → RC Try.prog (.loop ac67_L1) S (QR Try.prog [(6, none)] (RF67 res)) [(25, vi x25_), (24, vi (((ix x0.Tables x1).Keys).length : Int)), (23, v106), (5, .fp v2)] h := by
 have hc103' := hc103
 try simp only [qa1, qa2, qa3, qa4, qa5, qa6, qa7, qa8, qa9, qaA, qaB, qaC, qaD] at hc103'
 intro m
 induction m with
 | zero =>
  intro x25_ hm1 hlo1 h M0 hres
  rw [entry_prefix_L1] at hres
  refine rc_loop ?_
  unfold ac67_L1
  refine rc_seq ?_
  refine rc_region ?_
  refine rd_op (ov_bin rfl rfl i_lss) ?_
  refine rd_nil ?_
  refine pn_seq ?_
  refine rc_seq ?_
  refine rc_cond rfl (fun hc107 => ?_) (fun hc107 => ?_)
  ·exfalso
   try simp only [qa1, qa2, qa3, qa4, qa5, qa6, qa7, qa8, qa9, qaA, qaB, qaC, qaD] at hc107
   omega
  ·have hend := hres
   have hc107' := hc107
   try simp only [qa1, qa2, qa3, qa4, qa5, qa6, qa7, qa8, qa9, qaA, qaB, qaC, qaD] at hc107'
   refine rc_exit ?_
   refine px_seq ?_
   refine px_again ?_
   exact px_weak ((sub_nil _)) (hK0 _ (Mem.sub M0 .slnil) hres)
 | succ m ih =>
  intro x25_ hm1 hlo1 h M0 hres
  rw [entry_prefix_L1] at hres
  refine rc_loop ?_
  unfold ac67_L1
  refine rc_seq ?_
  refine rc_region ?_
  refine rd_op (ov_bin rfl rfl i_lss) ?_
  refine rd_nil ?_
  refine pn_seq ?_
  refine rc_seq ?_
  refine rc_cond rfl (fun hc108 => ?_) (fun hc108 => ?_)
  ·have hgo := hres
   have hc108' := hc108
   try simp only [qa1, qa2, qa3, qa4, qa5, qa6, qa7, qa8, qa9, qaA, qaB, qaC, qaD] at hc108'
   refine rc_skip ?_
   refine pn_seq ?_
   refine rc_seq ?_
   refine rc_block ?_
   refine rc_seq ?_
   refine rc_region ?_
   refine rd_op (ov_move rfl) ?_
   obtain ⟨v109, e109, r109⟩ := sl_idx (i := x25_) r106 (by first | omega | (have hk := tck (by assumption) (by assumption); omega) | (have hk := rtck (by assumption) (by assumption); omega) | (have hk := eck (by assumption) (by assumption) (by assumption); omega) | (have hk := tv (by assumption) (by assumption); omega) | (have hk := rtv (by assumption) (by assumption); omega)) (by first | omega | (have hk := tck (by assumption) (by assumption); omega) | (have hk := rtck (by assumption) (by assumption); omega) | (have hk := eck (by assumption) (by assumption) (by assumption); omega) | (have hk := tv (by assumption) (by assumption); omega) | (have hk := rtv (by assumption) (by assumption); omega))
   refine rd_op (ov_iaddr rfl rfl e109) ?_
   refine rd_op (ov_load rfl (TR.cnt api_TableKey.t r109) (TR.agg api_TableKey.t r109)) ?_
   refine rd_allocO (x := .agg [vi 0, vi 0, vi 0]) M0 rfl rfl (fun i110 w110 h110 M110 => ?_)
   refine rd_op (ov_move rfl) ?_
   refine rd_storeO (k := 0) (v := v109) M110 rfl rfl rfl (TR.cnt api_TableKey.t r109) (fun h112 M112 => ?_)
   replace M112 : Mem h112 [⟨.op i110 w110 0, 62, 3, [v109]⟩] := M112
   refine rd_nil ?_
   refine pn_seq ?_
   refine rc_seq ?_
   refine rc_region ?_
   refine rd_op (ov_faddrO rfl) ?_
   refine rd_op (ov_loadf (k := 0) M112 rfl rfl (api_TableKey.g_Kind r109)) ?_
   refine rd_op (ov_bin rfl rfl i_eql) ?_
   refine rd_nil ?_
   refine pn_seq ?_
   refine rc_cond rfl (fun hc113 => ?_) (fun hc113 => ?_)
   ·replace hres := (ite_t hc113).symm.trans hres
    have hc113' := hc113
    try simp only [qa1, qa2, qa3, qa4, qa5, qa6, qa7, qa8, qa9, qaA, qaB, qaC, qaD] at hc113'
    refine rc_seq ?_
    refine rc_seq ?_
    refine rc_region ?_
    refine rd_op (ov_move rfl) ?_
    obtain ⟨v114, e114, r114⟩ := api_Entry.g_Keys r2
    refine rd_op (ov_faddr rfl e114) ?_
    refine rd_op (ov_load rfl (TR.cnt (tSl api_KeyMatch.t) r114) (TR.agg (tSl api_KeyMatch.t) r114)) ?_
    refine rd_op (ov_bi rfl (sl_len r114 Try.underlying67 _)) ?_
    refine rd_op (ov_bin rfl rfl i_lss) ?_
    refine rd_nil ?_
    refine pn_seq ?_
    refine rc_cond rfl (fun hc115 => ?_) (fun hc115 => ?_)
    ·replace hres := (ite_t hc115).symm.trans hres
     have hc115' := hc115
     try simp only [qa1, qa2, qa3, qa4, qa5, qa6, qa7, qa8, qa9, qaA, qaB, qaC, qaD] at hc115'
     refine rc_seq ?_
     refine rc_region ?_
     obtain ⟨v116, e116, r116⟩ := api_Entry.g_Keys r2
     refine rd_op (ov_faddr rfl e116) ?_
     refine rd_op (ov_load rfl (TR.cnt (tSl api_KeyMatch.t) r116) (TR.agg (tSl api_KeyMatch.t) r116)) ?_
     refine rd_op (ov_move rfl) ?_
     obtain ⟨v117, e117, r117⟩ := sl_idx (i := x25_) r116 (by first | omega | (have hk := tck (by assumption) (by assumption); omega) | (have hk := rtck (by assumption) (by assumption); omega) | (have hk := eck (by assumption) (by assumption) (by assumption); omega) | (have hk := tv (by assumption) (by assumption); omega) | (have hk := rtv (by assumption) (by assumption); omega)) (by first | omega | (have hk := tck (by assumption) (by assumption); omega) | (have hk := rtck (by assumption) (by assumption); omega) | (have hk := eck (by assumption) (by assumption) (by assumption); omega) | (have hk := tv (by assumption) (by assumption); omega) | (have hk := rtv (by assumption) (by assumption); omega))
     refine rd_op (ov_iaddr rfl rfl e117) ?_
     refine rd_op (ov_faddr rfl (api_KeyMatch.g_Mask r117)) ?_
     refine rd_op (ov_load rfl rfl rfl) ?_
     obtain ⟨y118, hw118, hres⟩ := let_ex hres
     have f118 := f87_ok (x0 := (ix x2.Keys x25_).Mask)  
     rw [hw118] at f118
     refine rd_call (cv_fn rfl rfl (clL_cons rfl clL_nil) f118) ?_
     refine rd_op (ov_move rfl) ?_
     refine rd_nil ?_
     refine pn_seq ?_
     subst hres
     exact rc_retV (.tmp rfl .nil) (deep_closed rfl) rfl
    ·replace hres := (ite_f hc115).symm.trans hres
     have hc115' := hc115
     try simp only [qa1, qa2, qa3, qa4, qa5, qa6, qa7, qa8, qa9, qaA, qaB, qaC, qaD] at hc115'
     refine rc_skip ?_
     refine pn_seq ?_
     refine rc_seq ?_
     refine rc_region ?_
     refine rd_op (v := vi 0) (ov_move rfl) ?_
     refine rd_nil ?_
     refine pn_seq ?_
     subst hres
     exact rc_retV (.tmp rfl .nil) (deep_closed rfl) rfl
   ·replace hres := (ite_f hc113).symm.trans hres
    have hc113' := hc113
    try simp only [qa1, qa2, qa3, qa4, qa5, qa6, qa7, qa8, qa9, qaA, qaB, qaC, qaD] at hc113'
    refine rc_skip ?_
    refine pn_blk ?_
    refine pn_seq ?_
    refine rc_region ?_
    refine rd_op (ov_bin rfl rfl i_add) ?_
    refine rd_op (ov_move rfl) ?_
    refine rd_nil ?_
    refine pn_again ?_
    have hbd := sl_bound r106
    have hinc : wr (x25_ + 1) = x25_ + 1 := wr_of (by omega) (by omega)
    rw [hinc]
    refine rc_weak ?_ (ih (x25_ + 1)  (by omega) (by omega) _ (Mem.sub M112 (.cons _ .slnil)) hres)
    exact ((sub_cons rfl (sub_cons rfl (sub_cons rfl (sub_cons rfl (sub_nil _))))))
  ·exfalso
   try simp only [qa1, qa2, qa3, qa4, qa5, qa6, qa7, qa8, qa9, qaA, qaB, qaC, qaD] at hc108
   omega

theorem f67_ok {x0 : api_Program} {x1 : Int} {x2 : api_Entry} {v0 v2 : PV} (r0 : api_Program.t.R x0 v0) (r2 : api_Entry.t.R x2 v2) : FnR Try.prog 67 [v0, vi x1, v2] (vi (entry_prefix x0 x1 x2)) := by
 obtain ⟨res, hres⟩ : ∃ res, entry_prefix x0 x1 x2 = res := ⟨_, rfl⟩
 suffices H : RC Try.prog ac67 [] (QR Try.prog [(6, none)] (RF67 res)) (argE 0 [v0, vi x1, v2]) ⟨0, []⟩ by
  obtain ⟨r, h1, h2⟩ := fnE text67 (by simp) H
  rw [hres]
  have h2 : r = vi res := h2
  rw [← h2]; exact h1
 unfold entry_prefix at hres
 unfold ac67
 refine rc_seq ?_
 refine rc_region ?_
 refine rd_op (ov_box rfl (TR.cnt api_Program.t r0)) ?_
 refine rd_op (ov_box rfl (TR.cnt api_Entry.t r2)) ?_
 refine rd_op (v := vi 0) (ov_move rfl) ?_
 refine rd_nil ?_
 refine pn_seq ?_
 refine rc_seq ?_
 refine rc_seq ?_
 refine rc_region ?_
 refine rd_op (ov_move rfl) ?_
 refine rd_op (ov_bin rfl rfl i_lss) ?_
 refine rd_op (ov_move rfl) ?_
 refine rd_cut (d := 17) (v := vb ((decide (x1 < 0)) || (decide ((x0.Tables.length : Int) ≤ x1)))) ?_ ?_
 ·intro S Q r
  simp only [ac67_G1, List.cons_append, List.nil_append, List.append_assoc]
  cases hb101 : (decide (x1 < 0))
  ·intro k
   have hb101' := hb101
   try simp only [qa1, qa2, qa3, qa4, qa5, qa6, qa7, qa8, qa9, qaA, qaB, qaC, qaD] at hb101'
   refine rd_yes rfl rfl (ov_move rfl) ?_
   obtain ⟨v102, e102, r102⟩ := api_Program.g_Tables r0
   refine rd_yes rfl rfl (ov_faddr rfl e102) ?_
   refine rd_yes rfl rfl (ov_load rfl (TR.cnt (tSl api_Table.t) r102) (TR.agg (tSl api_Table.t) r102)) ?_
   refine rd_yes rfl rfl (ov_bi rfl (sl_len r102 Try.underlying26 _)) ?_
   refine rd_yes rfl rfl (ov_bin rfl rfl i_geq) ?_
   refine rd_op (v := vb (decide ((x0.Tables.length : Int) ≤ x1))) (ov_pick rfl rfl rfl rfl) ?_
   exact rd_weak (sub_cons rfl (sub_skip rfl (sub_skip rfl (sub_skip rfl (sub_skip rfl (sub_skip rfl (sub_skip rfl (sub_refl _)))))))) k
  ·intro k
   refine rd_skip rfl rfl ?_
   refine rd_skip rfl rfl ?_
   refine rd_skip rfl rfl ?_
   refine rd_skip rfl rfl ?_
   refine rd_skip rfl rfl ?_
   refine rd_op (v := vb true) (ov_pick rfl rfl rfl rfl) ?_
   exact rd_weak (sub_cons rfl (sub_skip rfl (sub_skip rfl (sub_skip rfl (sub_skip rfl (sub_skip rfl (sub_skip rfl (sub_refl _)))))))) k
 refine rd_nil ?_
 refine pn_seq ?_
 refine rc_cond rfl (fun hc103 => ?_) (fun hc103 => ?_)
 ·replace hres := (ite_t hc103).symm.trans hres
  have hc103' := hc103
  try simp only [qa1, qa2, qa3, qa4, qa5, qa6, qa7, qa8, qa9, qaA, qaB, qaC, qaD] at hc103'
  refine rc_seq ?_
  refine rc_region ?_
  refine rd_op (v := vi 0) (ov_move rfl) ?_
  refine rd_nil ?_
  refine pn_seq ?_
  subst hres
  exact rc_retV (.tmp rfl .nil) (deep_closed rfl) rfl
 ·replace hres := (ite_f hc103).symm.trans hres
  have hc103' := hc103
  try simp only [qa1, qa2, qa3, qa4, qa5, qa6, qa7, qa8, qa9, qaA, qaB, qaC, qaD] at hc103'
  refine rc_skip ?_
  refine pn_seq ?_
  refine rc_seq ?_
  refine rc_seq ?_
  refine rc_region ?_
  obtain ⟨v104, e104, r104⟩ := api_Program.g_Tables r0
  refine rd_op (ov_faddr rfl e104) ?_
  refine rd_op (ov_load rfl (TR.cnt (tSl api_Table.t) r104) (TR.agg (tSl api_Table.t) r104)) ?_
  refine rd_op (ov_move rfl) ?_
  obtain ⟨v105, e105, r105⟩ := sl_idx (i := x1) r104 (by first | omega | (have hk := tck (by assumption) (by assumption); omega) | (have hk := rtck (by assumption) (by assumption); omega) | (have hk := eck (by assumption) (by assumption) (by assumption); omega) | (have hk := tv (by assumption) (by assumption); omega) | (have hk := rtv (by assumption) (by assumption); omega)) (by first | omega | (have hk := tck (by assumption) (by assumption); omega) | (have hk := rtck (by assumption) (by assumption); omega) | (have hk := eck (by assumption) (by assumption) (by assumption); omega) | (have hk := tv (by assumption) (by assumption); omega) | (have hk := rtv (by assumption) (by assumption); omega))
  refine rd_op (ov_iaddr rfl rfl e105) ?_
  obtain ⟨v106, e106, r106⟩ := api_Table.g_Keys r105
  refine rd_op (ov_faddr rfl e106) ?_
  refine rd_op (ov_load rfl (TR.cnt (tSl api_TableKey.t) r106) (TR.agg (tSl api_TableKey.t) r106)) ?_
  refine rd_op (ov_bi rfl (sl_len r106 Try.underlying52 _)) ?_
  refine rd_op (v := vi 0) (ov_move rfl) ?_
  refine rd_nil ?_
  refine pn_seq ?_
  refine rc_block ?_
  refine rc_weak ?_ (entry_prefix_L1_ok (x0 := x0) (x1 := x1) (x2 := x2) (v2 := v2) (v106 := v106)  (r2 := r2) (hc103 := hc103) (r106 := r106) ?_ (Int.toNat ((((ix x0.Tables x1).Keys).length : Int) - 0)) 0 rfl (by omega) _ (Mem.sub (Mem.nil ⟨0, []⟩) .slnil) hres)
  ·exact ((sub_cons rfl (sub_cons rfl (sub_cons rfl (sub_cons rfl (sub_nil _))))))
  ·intro h119 M119 hres
   refine px_blk ?_
   refine pn_seq ?_
   refine rc_seq ?_
   refine rc_region ?_
   refine rd_op (v := vi 0) (ov_move rfl) ?_
   refine rd_nil ?_
   refine pn_seq ?_
   subst hres
   exact rc_retV (.tmp rfl .nil) (deep_closed rfl) rfl

/-- patchbay/entry.Precedes -/
def RF38 (res : Bool) (r : PV) : Prop := r = vb res
theorem f38_ok {x0 : api_Program} {x1 : Int} {x2 : api_Row} {x3 : api_Row} {v0 v2 v3 : PV} (r0 : api_Program.t.R x0 v0) (r2 : api_Row.t.R x2 v2) (r3 : api_Row.t.R x3 v3) : FnR Try.prog 38 [v0, vi x1, v2, v3] (vb (entry_Precedes x0 x1 x2 x3)) := by
 obtain ⟨res, hres⟩ : ∃ res, entry_Precedes x0 x1 x2 x3 = res := ⟨_, rfl⟩
 suffices H : RC Try.prog ac38 [] (QR Try.prog [(8, none)] (RF38 res)) (argE 0 [v0, vi x1, v2, v3]) ⟨0, []⟩ by
  obtain ⟨r, h1, h2⟩ := fnE text38 (by simp) H
  rw [hres]
  have h2 : r = vb res := h2
  rw [← h2]; exact h1
 unfold entry_Precedes at hres
 unfold ac38
 refine rc_seq ?_
 refine rc_region ?_
 refine rd_op (ov_box rfl (TR.cnt api_Program.t r0)) ?_
 refine rd_op (ov_box rfl (TR.cnt api_Row.t r2)) ?_
 refine rd_op (ov_box rfl (TR.cnt api_Row.t r3)) ?_
 refine rd_op (v := vb false) (ov_move rfl) ?_
 refine rd_nil ?_
 refine pn_seq ?_
 refine rc_seq ?_
 refine rc_seq ?_
 refine rc_region ?_
 obtain ⟨v101, e101, r101⟩ := api_Row.g_Entry r2
 refine rd_op (ov_faddr rfl e101) ?_
 refine rd_op (ov_faddr rfl (api_Entry.g_Priority r101)) ?_
 refine rd_op (ov_load rfl rfl rfl) ?_
 obtain ⟨v102, e102, r102⟩ := api_Row.g_Entry r3
 refine rd_op (ov_faddr rfl e102) ?_
 refine rd_op (ov_faddr rfl (api_Entry.g_Priority r102)) ?_
 refine rd_op (ov_load rfl rfl rfl) ?_
 refine rd_op (ov_bin rfl rfl i_neq) ?_
 refine rd_nil ?_
 refine pn_seq ?_
 refine rc_cond rfl (fun hc103 => ?_) (fun hc103 => ?_)
 ·replace hres := (ite_t hc103).symm.trans hres
  have hc103' := hc103
  try simp only [qa1, qa2, qa3, qa4, qa5, qa6, qa7, qa8, qa9, qaA, qaB, qaC, qaD] at hc103'
  refine rc_seq ?_
  refine rc_region ?_
  obtain ⟨v104, e104, r104⟩ := api_Row.g_Entry r2
  refine rd_op (ov_faddr rfl e104) ?_
  refine rd_op (ov_faddr rfl (api_Entry.g_Priority r104)) ?_
  refine rd_op (ov_load rfl rfl rfl) ?_
  obtain ⟨v105, e105, r105⟩ := api_Row.g_Entry r3
  refine rd_op (ov_faddr rfl e105) ?_
  refine rd_op (ov_faddr rfl (api_Entry.g_Priority r105)) ?_
  refine rd_op (ov_load rfl rfl rfl) ?_
  refine rd_op (ov_bin rfl rfl i_gtr) ?_
  refine rd_op (ov_move rfl) ?_
  refine rd_nil ?_
  refine pn_seq ?_
  subst hres
  exact rc_retV (.tmp rfl .nil) (deep_closed rfl) rfl
 ·replace hres := (ite_f hc103).symm.trans hres
  have hc103' := hc103
  try simp only [qa1, qa2, qa3, qa4, qa5, qa6, qa7, qa8, qa9, qaA, qaB, qaC, qaD] at hc103'
  refine rc_skip ?_
  refine pn_seq ?_
  refine rc_seq ?_
  refine rc_seq ?_
  refine rc_region ?_
  refine rd_op (ov_load rfl (TR.cnt api_Program.t r0) (TR.agg api_Program.t r0)) ?_
  refine rd_op (ov_move rfl) ?_
  obtain ⟨v106, e106, r106⟩ := api_Row.g_Entry r2
  refine rd_op (ov_faddr rfl e106) ?_
  refine rd_op (ov_load rfl (TR.cnt api_Entry.t r106) (TR.agg api_Entry.t r106)) ?_
  obtain ⟨y107, hw107, hres⟩ := let_ex hres
  have f107 := f67_ok (x1 := x1) r0 r106 
  rw [hw107] at f107
  refine rd_call (cv_fn rfl rfl (clL_cons (TR.clo api_Program.t r0) (clL_cons rfl (clL_cons (TR.clo api_Entry.t r106) clL_nil))) f107) ?_
  refine rd_op (ov_load rfl (TR.cnt api_Program.t r0) (TR.agg api_Program.t r0)) ?_
  refine rd_op (ov_move rfl) ?_
  obtain ⟨v108, e108, r108⟩ := api_Row.g_Entry r3
  refine rd_op (ov_faddr rfl e108) ?_
  refine rd_op (ov_load rfl (TR.cnt api_Entry.t r108) (TR.agg api_Entry.t r108)) ?_
  obtain ⟨y109, hw109, hres⟩ := let_ex hres
  have f109 := f67_ok (x1 := x1) r0 r108 
  rw [hw109] at f109
  refine rd_call (cv_fn rfl rfl (clL_cons (TR.clo api_Program.t r0) (clL_cons rfl (clL_cons (TR.clo api_Entry.t r108) clL_nil))) f109) ?_
  refine rd_op (ov_move rfl) ?_
  refine rd_op (ov_move rfl) ?_
  refine rd_nil ?_
  refine pn_seq ?_
  refine rc_seq ?_
  refine rc_region ?_
  refine rd_op (ov_move rfl) ?_
  refine rd_op (ov_move rfl) ?_
  refine rd_op (ov_bin rfl rfl i_neq) ?_
  refine rd_nil ?_
  refine pn_seq ?_
  refine rc_cond rfl (fun hc110 => ?_) (fun hc110 => ?_)
  ·replace hres := (ite_t hc110).symm.trans hres
   have hc110' := hc110
   try simp only [qa1, qa2, qa3, qa4, qa5, qa6, qa7, qa8, qa9, qaA, qaB, qaC, qaD] at hc110'
   refine rc_seq ?_
   refine rc_region ?_
   refine rd_op (ov_move rfl) ?_
   refine rd_op (ov_move rfl) ?_
   refine rd_op (ov_bin rfl rfl i_gtr) ?_
   refine rd_op (ov_move rfl) ?_
   refine rd_nil ?_
   refine pn_seq ?_
   subst hres
   exact rc_retV (.tmp rfl .nil) (deep_closed rfl) rfl
  ·replace hres := (ite_f hc110).symm.trans hres
   have hc110' := hc110
   try simp only [qa1, qa2, qa3, qa4, qa5, qa6, qa7, qa8, qa9, qaA, qaB, qaC, qaD] at hc110'
   refine rc_skip ?_
   refine pn_seq ?_
   refine rc_seq ?_
   refine rc_region ?_
   refine rd_op (ov_faddr rfl (api_Row.g_ID r2)) ?_
   refine rd_op (ov_load rfl rfl rfl) ?_
   refine rd_op (ov_faddr rfl (api_Row.g_ID r3)) ?_
   refine rd_op (ov_load rfl rfl rfl) ?_
   refine rd_op (ov_bin rfl rfl i_lss) ?_
   refine rd_op (ov_move rfl) ?_
   refine rd_nil ?_
   refine pn_seq ?_
   subst hres
   exact rc_retV (.tmp rfl .nil) (deep_closed rfl) rfl

end Go.Proofs.Ytklfdkbemkommaa
