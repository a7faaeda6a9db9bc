/-
 The code of each function does what its plain program says.
-/
import Derived.Test.YtepkgeppmjmkjaaGreatL3W2
set_option linter.unusedVariables false
set_option linter.unusedSimpArgs false
set_option maxRecDepth 100000
namespace Go.Proofs.YtepkgeppmjmkjaaGreat
open Go Go.Pb Go.RowKit
/-- patchbay/patchbayref31.CellWidth -/
def RF15 (res : Int) (r : PV) : Prop := r = vi res
theorem ref31_CellWidth_L2_ok {S : List Fr} {res : Int} {x0 : api_Program} {x1 : Int} {x5_ : Int} {y105 : Int} {v0 : PV} (r0 : api_Program.t.R x0 v0) (hs : x0.Headers.length ≤ 1000) (hlo1 : 0 ≤ x5_) (hc104 : (decide (x5_ < (x0.Headers.length : Int))) = true) (hw105 : ref31_ValidCell x0 x5_ = y105) (hc106 : (decide (x1 = y105)) = false) {K2 : Unit → Int}
  (hK2 : ∀ (h : Heap) (M0 : Mem h []), K2 () = res → PX Tryz.prog 2 S (QR Tryz.prog [(4, none)] (RF15 res)) [(1, vi x1), (2, .fp v0), (5, vi x5_)] h) :
  ∀ (m : Nat) (x6_ : Int) (hm2 : m = Int.toNat ((((ix x0.Headers x5_).Fields).length : Int) - x6_)) (hlo2 : 0 ≤ x6_) (h : Heap) (M0 : Mem h []), ref31_CellWidth_L2 x0 x1 x5_ K2 m x6_ = res → RC Tryz.prog (.loop ac15_L2) S (QR Tryz.prog [(4, none)] (RF15 res)) [(6, vi x6_), (5, vi x5_), (2, .fp v0), (1, vi x1)] h := by
 have hc104' := hc104
 try simp only [Bool.or_eq_true, Bool.or_eq_false_iff, Bool.and_eq_true, Bool.and_eq_false_imp, decide_eq_true_eq, decide_eq_false_iff_not, Bool.not_eq_true', Bool.not_eq_false', Bool.not_eq_true, Bool.not_eq_false, Bool.not_true, Bool.not_false, ne_eq] at hc104'
 have hc106' := hc106
 try simp only [Bool.or_eq_true, Bool.or_eq_false_iff, Bool.and_eq_true, Bool.and_eq_false_imp, decide_eq_true_eq, decide_eq_false_iff_not, Bool.not_eq_true', Bool.not_eq_false', Bool.not_eq_true, Bool.not_eq_false, Bool.not_true, Bool.not_false, ne_eq] at hc106'
 intro m
 induction m with
 | zero =>
  intro x6_ hm2 hlo2 h M0 hres
  rw [ref31_CellWidth_L2] at hres
  refine rc_loop ?_
  unfold ac15_L2
  refine rc_seq ?_
  refine rc_seq ?_
  refine rc_region ?_
  refine rd_op (ov_move rfl) ?_
  obtain ⟨v107, e107, r107⟩ := api_Program.g_Headers r0
  refine rd_op (ov_faddr rfl e107) ?_
  refine rd_op (ov_load rfl (TR.cnt (tSl api_Header.t) r107) (TR.agg (tSl api_Header.t) r107)) ?_
  refine rd_op (ov_move rfl) ?_
  obtain ⟨v108, e108, r108⟩ := sl_idx (i := x5_) r107 (by omega) (by omega)
  refine rd_op (ov_iaddr rfl rfl e108) ?_
  obtain ⟨v109, e109, r109⟩ := api_Header.g_Fields r108
  refine rd_op (ov_faddr rfl e109) ?_
  refine rd_op (ov_load rfl (TR.cnt (tSl api_Field.t) r109) (TR.agg (tSl api_Field.t) r109)) ?_
  refine rd_op (ov_bi rfl (sl_len r109 Tryz.underlying23 _)) ?_
  refine rd_op (ov_bin rfl rfl i_lss) ?_
  refine rd_nil ?_
  refine pn_seq ?_
  refine rc_cond rfl (fun hc110 => ?_) (fun hc110 => ?_)
  ·exfalso
   try simp only [Bool.or_eq_true, Bool.or_eq_false_iff, Bool.and_eq_true, Bool.and_eq_false_imp, decide_eq_true_eq, decide_eq_false_iff_not, Bool.not_eq_true', Bool.not_eq_false', Bool.not_eq_true, Bool.not_eq_false, Bool.not_true, Bool.not_false, ne_eq] at hc110
   omega
  ·have hend := hres
   have hc110' := hc110
   try simp only [Bool.or_eq_true, Bool.or_eq_false_iff, Bool.and_eq_true, Bool.and_eq_false_imp, decide_eq_true_eq, decide_eq_false_iff_not, Bool.not_eq_true', Bool.not_eq_false', Bool.not_eq_true, Bool.not_eq_false, Bool.not_true, Bool.not_false, ne_eq] at hc110'
   refine rc_exit ?_
   refine px_seq ?_
   refine px_again ?_
   exact px_weak ((sub_cons rfl (sub_cons rfl (sub_cons rfl (sub_nil _))))) (hK2 _ (Mem.sub M0 .slnil) hres)
 | succ m ih =>
  intro x6_ hm2 hlo2 h M0 hres
  rw [ref31_CellWidth_L2] at hres
  refine rc_loop ?_
  unfold ac15_L2
  refine rc_seq ?_
  refine rc_seq ?_
  refine rc_region ?_
  refine rd_op (ov_move rfl) ?_
  obtain ⟨v111, e111, r111⟩ := api_Program.g_Headers r0
  refine rd_op (ov_faddr rfl e111) ?_
  refine rd_op (ov_load rfl (TR.cnt (tSl api_Header.t) r111) (TR.agg (tSl api_Header.t) r111)) ?_
  refine rd_op (ov_move rfl) ?_
  obtain ⟨v112, e112, r112⟩ := sl_idx (i := x5_) r111 (by omega) (by omega)
  refine rd_op (ov_iaddr rfl rfl e112) ?_
  obtain ⟨v113, e113, r113⟩ := api_Header.g_Fields r112
  refine rd_op (ov_faddr rfl e113) ?_
  refine rd_op (ov_load rfl (TR.cnt (tSl api_Field.t) r113) (TR.agg (tSl api_Field.t) r113)) ?_
  refine rd_op (ov_bi rfl (sl_len r113 Tryz.underlying23 _)) ?_
  refine rd_op (ov_bin rfl rfl i_lss) ?_
  refine rd_nil ?_
  refine pn_seq ?_
  refine rc_cond rfl (fun hc114 => ?_) (fun hc114 => ?_)
  ·have hgo := hres
   have hc114' := hc114
   try simp only [Bool.or_eq_true, Bool.or_eq_false_iff, Bool.and_eq_true, Bool.and_eq_false_imp, decide_eq_true_eq, decide_eq_false_iff_not, Bool.not_eq_true', Bool.not_eq_false', Bool.not_eq_true, Bool.not_eq_false, Bool.not_true, Bool.not_false, ne_eq] at hc114'
   refine rc_skip ?_
   refine pn_seq ?_
   refine rc_seq ?_
   refine rc_block ?_
   refine rc_seq ?_
   refine rc_region ?_
   refine rd_op (ov_move rfl) ?_
   refine rd_op (ov_move rfl) ?_
   refine rd_op (v := .agg [vi x5_, vi x6_]) (ov_build (cs := [vi x5_, vi x6_]) rfl rfl) ?_
   refine rd_allocO (x := .agg [vi 0, vi 0]) M0 rfl rfl (fun i115 w115 h115 M115 => ?_)
   refine rd_storeO (k := 0) (v := .agg [vi x5_, vi x6_]) M115 rfl rfl rfl rfl (fun h117 M117 => ?_)
   replace M117 : Mem h117 [⟨.op i115 w115 0, 33, 2, [.agg [vi x5_, vi x6_]]⟩] := M117
   refine rd_nil ?_
   refine pn_seq ?_
   refine rc_seq ?_
   refine rc_region ?_
   refine rd_op (ov_move rfl) ?_
   refine rd_op (ov_load rfl (TR.cnt api_Program.t r0) (TR.agg api_Program.t r0)) ?_
   refine rd_op (ov_load0 (k := 0) M117 rfl rfl rfl) ?_
   obtain ⟨y118, hw118, hres⟩ := let_ex hres
   have f118 := f9_ok  r0 (show api_FieldRef.t.R ({ Header := x5_, Field := x6_ } : api_FieldRef) (.agg [vi x5_, vi x6_]) from rfl) (by first | assumption | omega | (rw [wr_of (by omega) (by omega)]; omega) | (have hk := tl (by assumption) (by assumption); omega))
   rw [hw118] at f118
   refine rd_call (cv_fn rfl rfl (clL_cons (TR.clo api_Program.t r0) (clL_cons (TR.clo api_FieldRef.t (show api_FieldRef.t.R ({ Header := x5_, Field := x6_ } : api_FieldRef) (.agg [vi x5_, vi x6_]) from rfl)) clL_nil)) f118) ?_
   refine rd_op (ov_bin rfl rfl i_eql) ?_
   refine rd_nil ?_
   refine pn_seq ?_
   refine rc_cond rfl (fun hc119 => ?_) (fun hc119 => ?_)
   ·replace hres := (ite_t hc119).symm.trans hres
    have hc119' := hc119
    try simp only [Bool.or_eq_true, Bool.or_eq_false_iff, Bool.and_eq_true, Bool.and_eq_false_imp, decide_eq_true_eq, decide_eq_false_iff_not, Bool.not_eq_true', Bool.not_eq_false', Bool.not_eq_true, Bool.not_eq_false, Bool.not_true, Bool.not_false, ne_eq] at hc119'
    refine rc_seq ?_
    refine rc_region ?_
    refine rd_op (ov_load rfl (TR.cnt api_Program.t r0) (TR.agg api_Program.t r0)) ?_
    refine rd_op (ov_load0 (k := 0) M117 rfl rfl rfl) ?_
    obtain ⟨y120, hw120, hres⟩ := let_ex hres
    have f120 := f28_ok  r0 (show api_FieldRef.t.R ({ Header := x5_, Field := x6_ } : api_FieldRef) (.agg [vi x5_, vi x6_]) from rfl) 
    rw [hw120] at f120
    refine rd_call (cv_fn rfl rfl (clL_cons (TR.clo api_Program.t r0) (clL_cons (TR.clo api_FieldRef.t (show api_FieldRef.t.R ({ Header := x5_, Field := x6_ } : api_FieldRef) (.agg [vi x5_, vi x6_]) from rfl)) clL_nil)) f120) ?_
    refine rd_op (ov_move rfl) ?_
    refine rd_nil ?_
    refine pn_seq ?_
    subst hres
    exact rc_retV (.tmp rfl .nil) (deep_closed rfl) rfl
   ·replace hres := (ite_f hc119).symm.trans hres
    have hc119' := hc119
    try simp only [Bool.or_eq_true, Bool.or_eq_false_iff, Bool.and_eq_true, Bool.and_eq_false_imp, decide_eq_true_eq, decide_eq_false_iff_not, Bool.not_eq_true', Bool.not_eq_false', Bool.not_eq_true, Bool.not_eq_false, Bool.not_true, Bool.not_false, ne_eq] at hc119'
    refine rc_skip ?_
    refine pn_blk ?_
    refine pn_seq ?_
    refine rc_region ?_
    refine rd_op (ov_move rfl) ?_
    refine rd_op (ov_bin rfl rfl i_add) ?_
    refine rd_op (ov_move rfl) ?_
    refine rd_nil ?_
    refine pn_again ?_
    have hbd := sl_bound r113
    have hinc : wr (x6_ + 1) = x6_ + 1 := wr_of (by omega) (by omega)
    rw [hinc]
    refine rc_weak ?_ (ih (x6_ + 1)  (by omega) (by omega) _ (Mem.sub M117 (.cons _ .slnil)) hres)
    exact ((sub_cons rfl (sub_cons rfl (sub_cons rfl (sub_cons rfl (sub_nil _))))))
  ·exfalso
   try simp only [Bool.or_eq_true, Bool.or_eq_false_iff, Bool.and_eq_true, Bool.and_eq_false_imp, decide_eq_true_eq, decide_eq_false_iff_not, Bool.not_eq_true', Bool.not_eq_false', Bool.not_eq_true, Bool.not_eq_false, Bool.not_true, Bool.not_false, ne_eq] at hc114
   omega

theorem ref31_CellWidth_L1_ok {S : List Fr} {res : Int} {x0 : api_Program} {x1 : Int} {v0 : PV} (r0 : api_Program.t.R x0 v0) (hs : x0.Headers.length ≤ 1000) {K0 : Unit → Int}
  (hK0 : ∀ (h : Heap) (M0 : Mem h []), K0 () = res → PX Tryz.prog 0 S (QR Tryz.prog [(4, none)] (RF15 res)) [(1, vi x1), (2, .fp v0)] h) :
  ∀ (m : Nat) (x5_ : Int) (hm1 : m = Int.toNat ((x0.Headers.length : Int) - x5_)) (hlo1 : 0 ≤ x5_) (h : Heap) (M0 : Mem h []), ref31_CellWidth_L1 x0 x1 K0 m x5_ = res → RC Tryz.prog (.loop ac15_L1) S (QR Tryz.prog [(4, none)] (RF15 res)) [(5, vi x5_), (2, .fp v0), (1, vi x1)] h := by
 intro m
 induction m with
 | zero =>
  intro x5_ hm1 hlo1 h M0 hres
  rw [ref31_CellWidth_L1] at hres
  refine rc_loop ?_
  unfold ac15_L1
  refine rc_seq ?_
  refine rc_seq ?_
  refine rc_region ?_
  refine rd_op (ov_move rfl) ?_
  obtain ⟨v101, e101, r101⟩ := api_Program.g_Headers r0
  refine rd_op (ov_faddr rfl e101) ?_
  refine rd_op (ov_load rfl (TR.cnt (tSl api_Header.t) r101) (TR.agg (tSl api_Header.t) r101)) ?_
  refine rd_op (ov_bi rfl (sl_len r101 Tryz.underlying22 _)) ?_
  refine rd_op (ov_bin rfl rfl i_lss) ?_
  refine rd_nil ?_
  refine pn_seq ?_
  refine rc_cond rfl (fun hc102 => ?_) (fun hc102 => ?_)
  ·exfalso
   try simp only [Bool.or_eq_true, Bool.or_eq_false_iff, Bool.and_eq_true, Bool.and_eq_false_imp, decide_eq_true_eq, decide_eq_false_iff_not, Bool.not_eq_true', Bool.not_eq_false', Bool.not_eq_true, Bool.not_eq_false, Bool.not_true, Bool.not_false, ne_eq] at hc102
   omega
  ·have hend := hres
   have hc102' := hc102
   try simp only [Bool.or_eq_true, Bool.or_eq_false_iff, Bool.and_eq_true, Bool.and_eq_false_imp, decide_eq_true_eq, decide_eq_false_iff_not, Bool.not_eq_true', Bool.not_eq_false', Bool.not_eq_true, Bool.not_eq_false, Bool.not_true, Bool.not_false, ne_eq] at hc102'
   refine rc_exit ?_
   refine px_seq ?_
   refine px_again ?_
   exact px_weak ((sub_cons rfl (sub_cons rfl (sub_nil _)))) (hK0 _ (Mem.sub M0 .slnil) hres)
 | succ m ih =>
  intro x5_ hm1 hlo1 h M0 hres
  rw [ref31_CellWidth_L1] at hres
  refine rc_loop ?_
  unfold ac15_L1
  refine rc_seq ?_
  refine rc_seq ?_
  refine rc_region ?_
  refine rd_op (ov_move rfl) ?_
  obtain ⟨v103, e103, r103⟩ := api_Program.g_Headers r0
  refine rd_op (ov_faddr rfl e103) ?_
  refine rd_op (ov_load rfl (TR.cnt (tSl api_Header.t) r103) (TR.agg (tSl api_Header.t) r103)) ?_
  refine rd_op (ov_bi rfl (sl_len r103 Tryz.underlying22 _)) ?_
  refine rd_op (ov_bin rfl rfl i_lss) ?_
  refine rd_nil ?_
  refine pn_seq ?_
  refine rc_cond rfl (fun hc104 => ?_) (fun hc104 => ?_)
  ·have hgo := hres
   have hc104' := hc104
   try simp only [Bool.or_eq_true, Bool.or_eq_false_iff, Bool.and_eq_true, Bool.and_eq_false_imp, decide_eq_true_eq, decide_eq_false_iff_not, Bool.not_eq_true', Bool.not_eq_false', Bool.not_eq_true, Bool.not_eq_false, Bool.not_true, Bool.not_false, ne_eq] at hc104'
   refine rc_skip ?_
   refine pn_seq ?_
   refine rc_seq ?_
   refine rc_block ?_
   refine rc_seq ?_
   refine rc_seq ?_
   refine rc_region ?_
   refine rd_op (ov_move rfl) ?_
   refine rd_op (ov_load rfl (TR.cnt api_Program.t r0) (TR.agg api_Program.t r0)) ?_
   refine rd_op (ov_move rfl) ?_
   obtain ⟨y105, hw105, hres⟩ := let_ex hres
   have f105 := f11_ok (x1 := x5_) r0 (by first | assumption | omega | (rw [wr_of (by omega) (by omega)]; omega) | (have hk := tl (by assumption) (by assumption); omega))
   rw [hw105] at f105
   refine rd_call (cv_fn rfl rfl (clL_cons (TR.clo api_Program.t r0) (clL_cons rfl clL_nil)) f105) ?_
   refine rd_op (ov_bin rfl rfl i_eql) ?_
   refine rd_nil ?_
   refine pn_seq ?_
   refine rc_cond rfl (fun hc106 => ?_) (fun hc106 => ?_)
   ·replace hres := (ite_t hc106).symm.trans hres
    have hc106' := hc106
    try simp only [Bool.or_eq_true, Bool.or_eq_false_iff, Bool.and_eq_true, Bool.and_eq_false_imp, decide_eq_true_eq, decide_eq_false_iff_not, Bool.not_eq_true', Bool.not_eq_false', Bool.not_eq_true, Bool.not_eq_false, Bool.not_true, Bool.not_false, ne_eq] at hc106'
    refine rc_seq ?_
    refine rc_region ?_
    refine rd_op (v := vi 1) (ov_move rfl) ?_
    refine rd_nil ?_
    refine pn_seq ?_
    subst hres
    exact rc_retV (.tmp rfl .nil) (deep_closed rfl) rfl
   ·replace hres := (ite_f hc106).symm.trans hres
    have hc106' := hc106
    try simp only [Bool.or_eq_true, Bool.or_eq_false_iff, Bool.and_eq_true, Bool.and_eq_false_imp, decide_eq_true_eq, decide_eq_false_iff_not, Bool.not_eq_true', Bool.not_eq_false', Bool.not_eq_true, Bool.not_eq_false, Bool.not_true, Bool.not_false, ne_eq] at hc106'
    refine rc_skip ?_
    refine pn_seq ?_
    refine rc_seq ?_
    refine rc_region ?_
    refine rd_op (v := vi 0) (ov_move rfl) ?_
    refine rd_nil ?_
    refine pn_seq ?_
    refine rc_block ?_
    refine rc_weak ?_ (ref31_CellWidth_L2_ok (x0 := x0) (x1 := x1) (x5_ := x5_) (y105 := y105) (v0 := v0)  (r0 := r0) (hs := hs) (hlo1 := hlo1) (hc104 := hc104) (hw105 := hw105) (hc106 := hc106) ?_ (Int.toNat ((((ix x0.Headers x5_).Fields).length : Int) - 0)) 0 rfl (by omega) _ (Mem.sub M0 .slnil) hres)
    ·exact ((sub_cons rfl (sub_cons rfl (sub_cons rfl (sub_cons rfl (sub_nil _))))))
    ·intro h121 M121 hres
     refine px_blk ?_
     refine pn_blk ?_
     refine pn_seq ?_
     refine rc_region ?_
     refine rd_op (ov_move rfl) ?_
     refine rd_op (ov_bin rfl rfl i_add) ?_
     refine rd_op (ov_move rfl) ?_
     refine rd_nil ?_
     refine pn_again ?_
     have hbd := sl_bound r103
     have hinc : wr (x5_ + 1) = x5_ + 1 := wr_of (by omega) (by omega)
     rw [hinc]
     refine rc_weak ?_ (ih (x5_ + 1)  (by omega) (by omega) _ (Mem.sub M121 .slnil) hres)
     exact ((sub_cons rfl (sub_cons rfl (sub_cons rfl (sub_nil _)))))
  ·exfalso
   try simp only [Bool.or_eq_true, Bool.or_eq_false_iff, Bool.and_eq_true, Bool.and_eq_false_imp, decide_eq_true_eq, decide_eq_false_iff_not, Bool.not_eq_true', Bool.not_eq_false', Bool.not_eq_true, Bool.not_eq_false, Bool.not_true, Bool.not_false, ne_eq] at hc104
   omega

theorem ref31_CellWidth_L3_ok {S : List Fr} {res : Int} {x0 : api_Program} {x1 : Int} {v0 : PV} (r0 : api_Program.t.R x0 v0) (hs : x0.Headers.length ≤ 1000) {K4 : Unit → Int}
  (hK4 : ∀ (h : Heap) (M0 : Mem h []), K4 () = res → PX Tryz.prog 4 S (QR Tryz.prog [(4, none)] (RF15 res)) [] h) :
  ∀ (m : Nat) (x8_ : Int) (hm3 : m = Int.toNat ((x0.Metadata.length : Int) - x8_)) (hlo3 : 0 ≤ x8_) (h : Heap) (M0 : Mem h []), ref31_CellWidth_L3 x0 x1 K4 m x8_ = res → RC Tryz.prog (.loop ac15_L3) S (QR Tryz.prog [(4, none)] (RF15 res)) [(8, vi x8_), (2, .fp v0), (1, vi x1)] h := by
 intro m
 induction m with
 | zero =>
  intro x8_ hm3 hlo3 h M0 hres
  rw [ref31_CellWidth_L3] at hres
  refine rc_loop ?_
  unfold ac15_L3
  refine rc_seq ?_
  refine rc_seq ?_
  refine rc_region ?_
  refine rd_op (ov_move rfl) ?_
  obtain ⟨v123, e123, r123⟩ := api_Program.g_Metadata r0
  refine rd_op (ov_faddr rfl e123) ?_
  refine rd_op (ov_load rfl (TR.cnt (tSl api_Field.t) r123) (TR.agg (tSl api_Field.t) r123)) ?_
  refine rd_op (ov_bi rfl (sl_len r123 Tryz.underlying23 _)) ?_
  refine rd_op (ov_bin rfl rfl i_lss) ?_
  refine rd_nil ?_
  refine pn_seq ?_
  refine rc_cond rfl (fun hc124 => ?_) (fun hc124 => ?_)
  ·exfalso
   try simp only [Bool.or_eq_true, Bool.or_eq_false_iff, Bool.and_eq_true, Bool.and_eq_false_imp, decide_eq_true_eq, decide_eq_false_iff_not, Bool.not_eq_true', Bool.not_eq_false', Bool.not_eq_true, Bool.not_eq_false, Bool.not_true, Bool.not_false, ne_eq] at hc124
   omega
  ·have hend := hres
   have hc124' := hc124
   try simp only [Bool.or_eq_true, Bool.or_eq_false_iff, Bool.and_eq_true, Bool.and_eq_false_imp, decide_eq_true_eq, decide_eq_false_iff_not, Bool.not_eq_true', Bool.not_eq_false', Bool.not_eq_true, Bool.not_eq_false, Bool.not_true, Bool.not_false, ne_eq] at hc124'
   refine rc_exit ?_
   refine px_seq ?_
   refine px_again ?_
   exact px_weak ((sub_nil _)) (hK4 _ (Mem.sub M0 .slnil) hres)
 | succ m ih =>
  intro x8_ hm3 hlo3 h M0 hres
  rw [ref31_CellWidth_L3] at hres
  refine rc_loop ?_
  unfold ac15_L3
  refine rc_seq ?_
  refine rc_seq ?_
  refine rc_region ?_
  refine rd_op (ov_move rfl) ?_
  obtain ⟨v125, e125, r125⟩ := api_Program.g_Metadata r0
  refine rd_op (ov_faddr rfl e125) ?_
  refine rd_op (ov_load rfl (TR.cnt (tSl api_Field.t) r125) (TR.agg (tSl api_Field.t) r125)) ?_
  refine rd_op (ov_bi rfl (sl_len r125 Tryz.underlying23 _)) ?_
  refine rd_op (ov_bin rfl rfl i_lss) ?_
  refine rd_nil ?_
  refine pn_seq ?_
  refine rc_cond rfl (fun hc126 => ?_) (fun hc126 => ?_)
  ·have hgo := hres
   have hc126' := hc126
   try simp only [Bool.or_eq_true, Bool.or_eq_false_iff, Bool.and_eq_true, Bool.and_eq_false_imp, decide_eq_true_eq, decide_eq_false_iff_not, Bool.not_eq_true', Bool.not_eq_false', Bool.not_eq_true, Bool.not_eq_false, Bool.not_true, Bool.not_false, ne_eq] at hc126'
   refine rc_skip ?_
   refine pn_seq ?_
   refine rc_seq ?_
   refine rc_block ?_
   refine rc_seq ?_
   refine rc_region ?_
   refine rd_op (ov_move rfl) ?_
   refine rd_op (v := .agg [vi (-1), vi x8_]) (ov_build (cs := [vi (-1), vi x8_]) rfl rfl) ?_
   refine rd_allocO (x := .agg [vi 0, vi 0]) M0 rfl rfl (fun i127 w127 h127 M127 => ?_)
   refine rd_storeO (k := 0) (v := .agg [vi (-1), vi x8_]) M127 rfl rfl rfl rfl (fun h129 M129 => ?_)
   replace M129 : Mem h129 [⟨.op i127 w127 0, 33, 2, [.agg [vi (-1), vi x8_]]⟩] := M129
   refine rd_nil ?_
   refine pn_seq ?_
   refine rc_seq ?_
   refine rc_region ?_
   refine rd_op (ov_move rfl) ?_
   refine rd_op (ov_load rfl (TR.cnt api_Program.t r0) (TR.agg api_Program.t r0)) ?_
   refine rd_op (ov_load0 (k := 0) M129 rfl rfl rfl) ?_
   obtain ⟨y130, hw130, hres⟩ := let_ex hres
   have f130 := f9_ok  r0 (show api_FieldRef.t.R ({ Header := (-1), Field := x8_ } : api_FieldRef) (.agg [vi (-1), vi x8_]) from rfl) (by first | assumption | omega | (rw [wr_of (by omega) (by omega)]; omega) | (have hk := tl (by assumption) (by assumption); omega))
   rw [hw130] at f130
   refine rd_call (cv_fn rfl rfl (clL_cons (TR.clo api_Program.t r0) (clL_cons (TR.clo api_FieldRef.t (show api_FieldRef.t.R ({ Header := (-1), Field := x8_ } : api_FieldRef) (.agg [vi (-1), vi x8_]) from rfl)) clL_nil)) f130) ?_
   refine rd_op (ov_bin rfl rfl i_eql) ?_
   refine rd_nil ?_
   refine pn_seq ?_
   refine rc_cond rfl (fun hc131 => ?_) (fun hc131 => ?_)
   ·replace hres := (ite_t hc131).symm.trans hres
    have hc131' := hc131
    try simp only [Bool.or_eq_true, Bool.or_eq_false_iff, Bool.and_eq_true, Bool.and_eq_false_imp, decide_eq_true_eq, decide_eq_false_iff_not, Bool.not_eq_true', Bool.not_eq_false', Bool.not_eq_true, Bool.not_eq_false, Bool.not_true, Bool.not_false, ne_eq] at hc131'
    refine rc_seq ?_
    refine rc_region ?_
    refine rd_op (ov_load rfl (TR.cnt api_Program.t r0) (TR.agg api_Program.t r0)) ?_
    refine rd_op (ov_load0 (k := 0) M129 rfl rfl rfl) ?_
    obtain ⟨y132, hw132, hres⟩ := let_ex hres
    have f132 := f28_ok  r0 (show api_FieldRef.t.R ({ Header := (-1), Field := x8_ } : api_FieldRef) (.agg [vi (-1), vi x8_]) from rfl) 
    rw [hw132] at f132
    refine rd_call (cv_fn rfl rfl (clL_cons (TR.clo api_Program.t r0) (clL_cons (TR.clo api_FieldRef.t (show api_FieldRef.t.R ({ Header := (-1), Field := x8_ } : api_FieldRef) (.agg [vi (-1), vi x8_]) from rfl)) clL_nil)) f132) ?_
    refine rd_op (ov_move rfl) ?_
    refine rd_nil ?_
    refine pn_seq ?_
    subst hres
    exact rc_retV (.tmp rfl .nil) (deep_closed rfl) rfl
   ·replace hres := (ite_f hc131).symm.trans hres
    have hc131' := hc131
    try simp only [Bool.or_eq_true, Bool.or_eq_false_iff, Bool.and_eq_true, Bool.and_eq_false_imp, decide_eq_true_eq, decide_eq_false_iff_not, Bool.not_eq_true', Bool.not_eq_false', Bool.not_eq_true, Bool.not_eq_false, Bool.not_true, Bool.not_false, ne_eq] at hc131'
    refine rc_skip ?_
    refine pn_blk ?_
    refine pn_seq ?_
    refine rc_region ?_
    refine rd_op (ov_move rfl) ?_
    refine rd_op (ov_bin rfl rfl i_add) ?_
    refine rd_op (ov_move rfl) ?_
    refine rd_nil ?_
    refine pn_again ?_
    have hbd := sl_bound r125
    have hinc : wr (x8_ + 1) = x8_ + 1 := wr_of (by omega) (by omega)
    rw [hinc]
    refine rc_weak ?_ (ih (x8_ + 1)  (by omega) (by omega) _ (Mem.sub M129 (.cons _ .slnil)) hres)
    exact ((sub_cons rfl (sub_cons rfl (sub_cons rfl (sub_nil _)))))
  ·exfalso
   try simp only [Bool.or_eq_true, Bool.or_eq_false_iff, Bool.and_eq_true, Bool.and_eq_false_imp, decide_eq_true_eq, decide_eq_false_iff_not, Bool.not_eq_true', Bool.not_eq_false', Bool.not_eq_true, Bool.not_eq_false, Bool.not_true, Bool.not_false, ne_eq] at hc126
   omega

theorem f15_ok {x0 : api_Program} {x1 : Int} {v0 : PV} (r0 : api_Program.t.R x0 v0) (hs : x0.Headers.length ≤ 1000) : FnR Tryz.prog 15 [v0, vi x1] (vi (ref31_CellWidth x0 x1)) := by
 obtain ⟨res, hres⟩ : ∃ res, ref31_CellWidth x0 x1 = res := ⟨_, rfl⟩
 suffices H : RC Tryz.prog ac15 [] (QR Tryz.prog [(4, none)] (RF15 res)) (argE 0 [v0, vi x1]) ⟨0, []⟩ by
  obtain ⟨r, h1, h2⟩ := fnE text15 (by simp) H
  rw [hres]
  have h2 : r = vi res := h2
  rw [← h2]; exact h1
 unfold ref31_CellWidth at hres
 unfold ac15
 refine rc_seq ?_
 refine rc_region ?_
 refine rd_op (ov_box rfl (TR.cnt api_Program.t r0)) ?_
 refine rd_op (v := vi 0) (ov_move rfl) ?_
 refine rd_nil ?_
 refine pn_seq ?_
 refine rc_seq ?_
 refine rc_seq ?_
 refine rc_region ?_
 refine rd_op (v := vi 0) (ov_move rfl) ?_
 refine rd_nil ?_
 refine pn_seq ?_
 refine rc_block ?_
 refine rc_weak ?_ (ref31_CellWidth_L1_ok (x0 := x0) (x1 := x1) (v0 := v0)  (r0 := r0) (hs := hs) ?_ (Int.toNat ((x0.Headers.length : Int) - 0)) 0 rfl (by omega) _ (Mem.sub (Mem.nil ⟨0, []⟩) .slnil) hres)
 ·exact ((sub_cons rfl (sub_cons rfl (sub_cons rfl (sub_nil _)))))
 ·intro h122 M122 hres
  refine px_blk ?_
  refine pn_seq ?_
  refine rc_seq ?_
  refine rc_seq ?_
  refine rc_region ?_
  refine rd_op (v := vi 0) (ov_move rfl) ?_
  refine rd_nil ?_
  refine pn_seq ?_
  refine rc_block ?_
  refine rc_weak ?_ (ref31_CellWidth_L3_ok (x0 := x0) (x1 := x1) (v0 := v0)  (r0 := r0) (hs := hs) ?_ (Int.toNat ((x0.Metadata.length : Int) - 0)) 0 rfl (by omega) _ (Mem.sub M122 .slnil) hres)
  ·exact ((sub_cons rfl (sub_cons rfl (sub_cons rfl (sub_nil _)))))
  ·intro h133 M133 hres
   refine px_blk ?_
   refine pn_seq ?_
   refine rc_seq ?_
   refine rc_region ?_
   refine rd_op (v := vi 0) (ov_move rfl) ?_
   refine rd_nil ?_
   refine pn_seq ?_
   subst hres
   exact rc_retV (.tmp rfl .nil) (deep_closed rfl) rfl

/-- patchbay/patchbaylaw31.AccessCells -/
def RF3 (res : Bool) (r : PV) : Prop := r = vb res
theorem f3_ok {x0 : api_Program} {x1 : law31_Query} {v0 : PV} {v1 : PV} (r0 : api_Program.t.R x0 v0) (r1 : law31_Query.t.R x1 v1) : FnR Tryz.prog 3 [v0, v1] (vb (law31_AccessCells x0 x1)) := by
 obtain ⟨res, hres⟩ : ∃ res, law31_AccessCells x0 x1 = res := ⟨_, rfl⟩
 suffices H : RC Tryz.prog ac3 [] (QR Tryz.prog [(4, none)] (RF3 res)) (argE 0 [v0, v1]) ⟨0, []⟩ by
  obtain ⟨r, h1, h2⟩ := fnE text3 (by simp) H
  rw [hres]
  have h2 : r = vb res := h2
  rw [← h2]; exact h1
 unfold law31_AccessCells at hres
 unfold ac3
 refine rc_seq ?_
 refine rc_region ?_
 refine rd_op (ov_box rfl (TR.cnt api_Program.t r0)) ?_
 refine rd_op (ov_box rfl (TR.cnt law31_Query.t r1)) ?_
 refine rd_op (v := vb false) (ov_move rfl) ?_
 refine rd_nil ?_
 refine pn_seq ?_
 refine rc_seq ?_
 refine rc_seq ?_
 refine rc_region ?_
 refine rd_op (ov_load rfl (TR.cnt api_Program.t r0) (TR.agg api_Program.t r0)) ?_
 obtain ⟨y101, hw101, hres⟩ := let_ex hres
 have f101 := f4_ok  r0 
 rw [hw101] at f101
 refine rd_call (cv_fn rfl rfl (clL_cons (TR.clo api_Program.t r0) clL_nil) f101) ?_
 refine rd_nil ?_
 refine pn_seq ?_
 refine rc_cond rfl (fun hc102 => ?_) (fun hc102 => ?_)
 ·replace hres := (ite_t hc102).symm.trans hres
  have hc102' := hc102
  try simp only [Bool.or_eq_true, Bool.or_eq_false_iff, Bool.and_eq_true, Bool.and_eq_false_imp, decide_eq_true_eq, decide_eq_false_iff_not, Bool.not_eq_true', Bool.not_eq_false', Bool.not_eq_true, Bool.not_eq_false, Bool.not_true, Bool.not_false, ne_eq] at hc102'
  refine rc_seq ?_
  refine rc_region ?_
  obtain ⟨y103, hw103, hres⟩ := let_ex hres
  have f103 := f5_ok   
  rw [hw103] at f103
  refine rd_call (cv_fn rfl rfl clL_nil f103) ?_
  refine rd_op (ov_move rfl) ?_
  refine rd_nil ?_
  refine pn_seq ?_
  subst hres
  exact rc_retV (.tmp rfl .nil) (deep_closed rfl) rfl
 ·replace hres := (ite_f hc102).symm.trans hres
  have hc102' := hc102
  try simp only [Bool.or_eq_true, Bool.or_eq_false_iff, Bool.and_eq_true, Bool.and_eq_false_imp, decide_eq_true_eq, decide_eq_false_iff_not, Bool.not_eq_true', Bool.not_eq_false', Bool.not_eq_true, Bool.not_eq_false, Bool.not_true, Bool.not_false, ne_eq] at hc102'
  refine rc_skip ?_
  refine pn_seq ?_
  refine rc_seq ?_
  refine rc_region ?_
  refine rd_op (ov_load rfl (TR.cnt api_Program.t r0) (TR.agg api_Program.t r0)) ?_
  obtain ⟨y104, hw104, hres⟩ := let_ex hres
  have f104 := f6_ok  r0 
  rw [hw104] at f104
  refine rd_call (cv_fn rfl rfl (clL_cons (TR.clo api_Program.t r0) clL_nil) f104) ?_
  refine rd_op (ov_load rfl (TR.cnt api_Program.t r0) (TR.agg api_Program.t r0)) ?_
  obtain ⟨y105, hw105, hres⟩ := let_ex hres
  have f105 := f7_ok  r0 (by first | assumption | omega | (rw [wr_of (by omega) (by omega)]; omega) | (have hk := tl (by assumption) (by assumption); omega))
  rw [hw105] at f105
  refine rd_call (cv_fn rfl rfl (clL_cons (TR.clo api_Program.t r0) clL_nil) f105) ?_
  refine rd_op (ov_bin rfl rfl i_eql) ?_
  refine rd_op (ov_move rfl) ?_
  refine rd_cut (d := 23) (v := vb ((decide (y104 = y105)) && (decide ((access_FieldCell x0 x1.Ref) = (ref31_FieldCell x0 x1.Ref))))) ?_ ?_
  ·intro S Q r
   simp only [ac3_G1, List.cons_append, List.nil_append, List.append_assoc]
   cases hb106 : (decide (y104 = y105))
   ·intro k
    refine rd_skip rfl rfl ?_
    refine rd_skip rfl rfl ?_
    refine rd_skip rfl rfl ?_
    refine rd_skip rfl rfl ?_
    refine rd_skip rfl rfl ?_
    refine rd_skip rfl rfl ?_
    refine rd_skip rfl rfl ?_
    refine rd_skip rfl rfl ?_
    refine rd_skip rfl rfl ?_
    refine rd_op (v := vb false) (ov_pick rfl rfl rfl rfl) ?_
    exact rd_weak (sub_cons rfl (sub_skip rfl (sub_skip rfl (sub_skip rfl (sub_skip rfl (sub_skip rfl (sub_skip rfl (sub_skip rfl (sub_skip rfl (sub_skip rfl (sub_skip rfl (sub_refl _)))))))))))) k
   ·intro k
    have hb106' := hb106
    try simp only [Bool.or_eq_true, Bool.or_eq_false_iff, Bool.and_eq_true, Bool.and_eq_false_imp, decide_eq_true_eq, decide_eq_false_iff_not, Bool.not_eq_true', Bool.not_eq_false', Bool.not_eq_true, Bool.not_eq_false, Bool.not_true, Bool.not_false, ne_eq] at hb106'
    refine rd_yes rfl rfl (ov_load rfl (TR.cnt api_Program.t r0) (TR.agg api_Program.t r0)) ?_
    obtain ⟨v107, e107, r107⟩ := law31_Query.g_Ref r1
    refine rd_yes rfl rfl (ov_faddr rfl e107) ?_
    refine rd_yes rfl rfl (ov_load rfl (TR.cnt api_FieldRef.t r107) (TR.agg api_FieldRef.t r107)) ?_
    have f108 := f8_ok  r0 r107 
    refine rd_ycall rfl rfl (cv_fn rfl rfl (clL_cons (TR.clo api_Program.t r0) (clL_cons (TR.clo api_FieldRef.t r107) clL_nil)) f108) ?_
    refine rd_yes rfl rfl (ov_load rfl (TR.cnt api_Program.t r0) (TR.agg api_Program.t r0)) ?_
    obtain ⟨v109, e109, r109⟩ := law31_Query.g_Ref r1
    refine rd_yes rfl rfl (ov_faddr rfl e109) ?_
    refine rd_yes rfl rfl (ov_load rfl (TR.cnt api_FieldRef.t r109) (TR.agg api_FieldRef.t r109)) ?_
    have f110 := f9_ok  r0 r109 (by first | assumption | omega | (rw [wr_of (by omega) (by omega)]; omega) | (have hk := tl (by assumption) (by assumption); omega))
    refine rd_ycall rfl rfl (cv_fn rfl rfl (clL_cons (TR.clo api_Program.t r0) (clL_cons (TR.clo api_FieldRef.t r109) clL_nil)) f110) ?_
    refine rd_yes rfl rfl (ov_bin rfl rfl i_eql) ?_
    refine rd_op (v := vb (decide ((access_FieldCell x0 x1.Ref) = (ref31_FieldCell x0 x1.Ref)))) (ov_pick rfl rfl rfl rfl) ?_
    exact rd_weak (sub_cons rfl (sub_skip rfl (sub_skip rfl (sub_skip rfl (sub_skip rfl (sub_skip rfl (sub_skip rfl (sub_skip rfl (sub_skip rfl (sub_skip rfl (sub_skip rfl (sub_refl _)))))))))))) k
  refine rd_op (ov_move rfl) ?_
  refine rd_cut (d := 34) (v := vb (((decide (y104 = y105)) && (decide ((access_FieldCell x0 x1.Ref) = (ref31_FieldCell x0 x1.Ref)))) && (decide ((access_ValidCell x0 x1.N) = (ref31_ValidCell x0 x1.N))))) ?_ ?_
  ·intro S Q r
   simp only [ac3_G2, List.cons_append, List.nil_append, List.append_assoc]
   cases hb111 : ((decide (y104 = y105)) && (decide ((access_FieldCell x0 x1.Ref) = (ref31_FieldCell x0 x1.Ref))))
   ·intro k
    refine rd_skip rfl rfl ?_
    refine rd_skip rfl rfl ?_
    refine rd_skip rfl rfl ?_
    refine rd_skip rfl rfl ?_
    refine rd_skip rfl rfl ?_
    refine rd_skip rfl rfl ?_
    refine rd_skip rfl rfl ?_
    refine rd_skip rfl rfl ?_
    refine rd_skip rfl rfl ?_
    refine rd_op (v := vb false) (ov_pick rfl rfl rfl rfl) ?_
    exact rd_weak (sub_cons rfl (sub_skip rfl (sub_skip rfl (sub_skip rfl (sub_skip rfl (sub_skip rfl (sub_skip rfl (sub_skip rfl (sub_skip rfl (sub_skip rfl (sub_skip rfl (sub_refl _)))))))))))) k
   ·intro k
    have hb111' := hb111
    try simp only [Bool.or_eq_true, Bool.or_eq_false_iff, Bool.and_eq_true, Bool.and_eq_false_imp, decide_eq_true_eq, decide_eq_false_iff_not, Bool.not_eq_true', Bool.not_eq_false', Bool.not_eq_true, Bool.not_eq_false, Bool.not_true, Bool.not_false, ne_eq] at hb111'
    refine rd_yes rfl rfl (ov_load rfl (TR.cnt api_Program.t r0) (TR.agg api_Program.t r0)) ?_
    refine rd_yes rfl rfl (ov_faddr rfl (law31_Query.g_N r1)) ?_
    refine rd_yes rfl rfl (ov_load rfl rfl rfl) ?_
    have f112 := f10_ok (x1 := x1.N) r0 
    refine rd_ycall rfl rfl (cv_fn rfl rfl (clL_cons (TR.clo api_Program.t r0) (clL_cons rfl clL_nil)) f112) ?_
    refine rd_yes rfl rfl (ov_load rfl (TR.cnt api_Program.t r0) (TR.agg api_Program.t r0)) ?_
    refine rd_yes rfl rfl (ov_faddr rfl (law31_Query.g_N r1)) ?_
    refine rd_yes rfl rfl (ov_load rfl rfl rfl) ?_
    have f113 := f11_ok (x1 := x1.N) r0 (by first | assumption | omega | (rw [wr_of (by omega) (by omega)]; omega) | (have hk := tl (by assumption) (by assumption); omega))
    refine rd_ycall rfl rfl (cv_fn rfl rfl (clL_cons (TR.clo api_Program.t r0) (clL_cons rfl clL_nil)) f113) ?_
    refine rd_yes rfl rfl (ov_bin rfl rfl i_eql) ?_
    refine rd_op (v := vb (decide ((access_ValidCell x0 x1.N) = (ref31_ValidCell x0 x1.N)))) (ov_pick rfl rfl rfl rfl) ?_
    exact rd_weak (sub_cons rfl (sub_skip rfl (sub_skip rfl (sub_skip rfl (sub_skip rfl (sub_skip rfl (sub_skip rfl (sub_skip rfl (sub_skip rfl (sub_skip rfl (sub_skip rfl (sub_refl _)))))))))))) k
  refine rd_op (ov_move rfl) ?_
  refine rd_cut (d := 45) (v := vb ((((decide (y104 = y105)) && (decide ((access_FieldCell x0 x1.Ref) = (ref31_FieldCell x0 x1.Ref)))) && (decide ((access_ValidCell x0 x1.N) = (ref31_ValidCell x0 x1.N)))) && (decide ((access_RegisterCell x0 x1.N) = (ref31_RegisterCell x0 x1.N))))) ?_ ?_
  ·intro S Q r
   simp only [ac3_G3, List.cons_append, List.nil_append, List.append_assoc]
   cases hb114 : (((decide (y104 = y105)) && (decide ((access_FieldCell x0 x1.Ref) = (ref31_FieldCell x0 x1.Ref)))) && (decide ((access_ValidCell x0 x1.N) = (ref31_ValidCell x0 x1.N))))
   ·intro k
    refine rd_skip rfl rfl ?_
    refine rd_skip rfl rfl ?_
    refine rd_skip rfl rfl ?_
    refine rd_skip rfl rfl ?_
    refine rd_skip rfl rfl ?_
    refine rd_skip rfl rfl ?_
    refine rd_skip rfl rfl ?_
    refine rd_skip rfl rfl ?_
    refine rd_skip rfl rfl ?_
    refine rd_op (v := vb false) (ov_pick rfl rfl rfl rfl) ?_
    exact rd_weak (sub_cons rfl (sub_skip rfl (sub_skip rfl (sub_skip rfl (sub_skip rfl (sub_skip rfl (sub_skip rfl (sub_skip rfl (sub_skip rfl (sub_skip rfl (sub_skip rfl (sub_refl _)))))))))))) k
   ·intro k
    have hb114' := hb114
    try simp only [Bool.or_eq_true, Bool.or_eq_false_iff, Bool.and_eq_true, Bool.and_eq_false_imp, decide_eq_true_eq, decide_eq_false_iff_not, Bool.not_eq_true', Bool.not_eq_false', Bool.not_eq_true, Bool.not_eq_false, Bool.not_true, Bool.not_false, ne_eq] at hb114'
    refine rd_yes rfl rfl (ov_load rfl (TR.cnt api_Program.t r0) (TR.agg api_Program.t r0)) ?_
    refine rd_yes rfl rfl (ov_faddr rfl (law31_Query.g_N r1)) ?_
    refine rd_yes rfl rfl (ov_load rfl rfl rfl) ?_
    have f115 := f12_ok (x1 := x1.N) r0 
    refine rd_ycall rfl rfl (cv_fn rfl rfl (clL_cons (TR.clo api_Program.t r0) (clL_cons rfl clL_nil)) f115) ?_
    refine rd_yes rfl rfl (ov_load rfl (TR.cnt api_Program.t r0) (TR.agg api_Program.t r0)) ?_
    refine rd_yes rfl rfl (ov_faddr rfl (law31_Query.g_N r1)) ?_
    refine rd_yes rfl rfl (ov_load rfl rfl rfl) ?_
    have f116 := f13_ok (x1 := x1.N) r0 (by first | assumption | omega | (rw [wr_of (by omega) (by omega)]; omega) | (have hk := tl (by assumption) (by assumption); omega))
    refine rd_ycall rfl rfl (cv_fn rfl rfl (clL_cons (TR.clo api_Program.t r0) (clL_cons rfl clL_nil)) f116) ?_
    refine rd_yes rfl rfl (ov_bin rfl rfl i_eql) ?_
    refine rd_op (v := vb (decide ((access_RegisterCell x0 x1.N) = (ref31_RegisterCell x0 x1.N)))) (ov_pick rfl rfl rfl rfl) ?_
    exact rd_weak (sub_cons rfl (sub_skip rfl (sub_skip rfl (sub_skip rfl (sub_skip rfl (sub_skip rfl (sub_skip rfl (sub_skip rfl (sub_skip rfl (sub_skip rfl (sub_skip rfl (sub_refl _)))))))))))) k
  refine rd_op (ov_move rfl) ?_
  refine rd_cut (d := 56) (v := vb (((((decide (y104 = y105)) && (decide ((access_FieldCell x0 x1.Ref) = (ref31_FieldCell x0 x1.Ref)))) && (decide ((access_ValidCell x0 x1.N) = (ref31_ValidCell x0 x1.N)))) && (decide ((access_RegisterCell x0 x1.N) = (ref31_RegisterCell x0 x1.N)))) && (decide ((access_CellWidth x0 x1.N) = (ref31_CellWidth x0 x1.N))))) ?_ ?_
  ·intro S Q r
   simp only [ac3_G4, List.cons_append, List.nil_append, List.append_assoc]
   cases hb117 : ((((decide (y104 = y105)) && (decide ((access_FieldCell x0 x1.Ref) = (ref31_FieldCell x0 x1.Ref)))) && (decide ((access_ValidCell x0 x1.N) = (ref31_ValidCell x0 x1.N)))) && (decide ((access_RegisterCell x0 x1.N) = (ref31_RegisterCell x0 x1.N))))
   ·intro k
    refine rd_skip rfl rfl ?_
    refine rd_skip rfl rfl ?_
    refine rd_skip rfl rfl ?_
    refine rd_skip rfl rfl ?_
    refine rd_skip rfl rfl ?_
    refine rd_skip rfl rfl ?_
    refine rd_skip rfl rfl ?_
    refine rd_skip rfl rfl ?_
    refine rd_skip rfl rfl ?_
    refine rd_op (v := vb false) (ov_pick rfl rfl rfl rfl) ?_
    exact rd_weak (sub_cons rfl (sub_skip rfl (sub_skip rfl (sub_skip rfl (sub_skip rfl (sub_skip rfl (sub_skip rfl (sub_skip rfl (sub_skip rfl (sub_skip rfl (sub_skip rfl (sub_refl _)))))))))))) k
   ·intro k
    have hb117' := hb117
    try simp only [Bool.or_eq_true, Bool.or_eq_false_iff, Bool.and_eq_true, Bool.and_eq_false_imp, decide_eq_true_eq, decide_eq_false_iff_not, Bool.not_eq_true', Bool.not_eq_false', Bool.not_eq_true, Bool.not_eq_false, Bool.not_true, Bool.not_false, ne_eq] at hb117'
    refine rd_yes rfl rfl (ov_load rfl (TR.cnt api_Program.t r0) (TR.agg api_Program.t r0)) ?_
    refine rd_yes rfl rfl (ov_faddr rfl (law31_Query.g_N r1)) ?_
    refine rd_yes rfl rfl (ov_load rfl rfl rfl) ?_
    have f118 := f14_ok (x1 := x1.N) r0 
    refine rd_ycall rfl rfl (cv_fn rfl rfl (clL_cons (TR.clo api_Program.t r0) (clL_cons rfl clL_nil)) f118) ?_
    refine rd_yes rfl rfl (ov_load rfl (TR.cnt api_Program.t r0) (TR.agg api_Program.t r0)) ?_
    refine rd_yes rfl rfl (ov_faddr rfl (law31_Query.g_N r1)) ?_
    refine rd_yes rfl rfl (ov_load rfl rfl rfl) ?_
    have f119 := f15_ok (x1 := x1.N) r0 (by first | assumption | omega | (rw [wr_of (by omega) (by omega)]; omega) | (have hk := tl (by assumption) (by assumption); omega))
    refine rd_ycall rfl rfl (cv_fn rfl rfl (clL_cons (TR.clo api_Program.t r0) (clL_cons rfl clL_nil)) f119) ?_
    refine rd_yes rfl rfl (ov_bin rfl rfl i_eql) ?_
    refine rd_op (v := vb (decide ((access_CellWidth x0 x1.N) = (ref31_CellWidth x0 x1.N)))) (ov_pick rfl rfl rfl rfl) ?_
    exact rd_weak (sub_cons rfl (sub_skip rfl (sub_skip rfl (sub_skip rfl (sub_skip rfl (sub_skip rfl (sub_skip rfl (sub_skip rfl (sub_skip rfl (sub_skip rfl (sub_skip rfl (sub_refl _)))))))))))) k
  refine rd_op (ov_move rfl) ?_
  refine rd_cut (d := 59) (v := vb ((((((decide (y104 = y105)) && (decide ((access_FieldCell x0 x1.Ref) = (ref31_FieldCell x0 x1.Ref)))) && (decide ((access_ValidCell x0 x1.N) = (ref31_ValidCell x0 x1.N)))) && (decide ((access_RegisterCell x0 x1.N) = (ref31_RegisterCell x0 x1.N)))) && (decide ((access_CellWidth x0 x1.N) = (ref31_CellWidth x0 x1.N)))) && (law31_works))) ?_ ?_
  ·intro S Q r
   simp only [ac3_G5, List.cons_append, List.nil_append, List.append_assoc]
   cases hb120 : (((((decide (y104 = y105)) && (decide ((access_FieldCell x0 x1.Ref) = (ref31_FieldCell x0 x1.Ref)))) && (decide ((access_ValidCell x0 x1.N) = (ref31_ValidCell x0 x1.N)))) && (decide ((access_RegisterCell x0 x1.N) = (ref31_RegisterCell x0 x1.N)))) && (decide ((access_CellWidth x0 x1.N) = (ref31_CellWidth x0 x1.N))))
   ·intro k
    refine rd_skip rfl rfl ?_
    refine rd_op (v := vb false) (ov_pick rfl rfl rfl rfl) ?_
    exact rd_weak (sub_cons rfl (sub_skip rfl (sub_skip rfl (sub_refl _)))) k
   ·intro k
    have hb120' := hb120
    try simp only [Bool.or_eq_true, Bool.or_eq_false_iff, Bool.and_eq_true, Bool.and_eq_false_imp, decide_eq_true_eq, decide_eq_false_iff_not, Bool.not_eq_true', Bool.not_eq_false', Bool.not_eq_true, Bool.not_eq_false, Bool.not_true, Bool.not_false, ne_eq] at hb120'
    have f121 := f5_ok   
    refine rd_ycall rfl rfl (cv_fn rfl rfl clL_nil f121) ?_
    refine rd_op (v := vb (law31_works)) (ov_pick rfl rfl rfl rfl) ?_
    exact rd_weak (sub_cons rfl (sub_skip rfl (sub_skip rfl (sub_refl _)))) k
  refine rd_op (ov_move rfl) ?_
  refine rd_nil ?_
  refine pn_seq ?_
  subst hres
  exact rc_retV (.tmp rfl .nil) (deep_closed rfl) rfl

end Go.Proofs.YtepkgeppmjmkjaaGreat
