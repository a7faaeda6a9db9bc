/-
 The code of each function does what its plain program says.
-/
import Derived.Test.YtfekghenlhoamaaL3W1
set_option linter.unusedVariables false
set_option linter.unusedSimpArgs false
set_option maxRecDepth 100000
namespace Go.Proofs.Ytfekghenlhoamaa
open Go Go.Pb Go.RowKit
/-- patchbay/expr.unary -/
def RF34 (res : expr_value) (r : PV) : Prop := expr_value.t.R res r
theorem f34_ok {x0 : api_ExprNode} {x1 : expr_value} {v0 : PV} {v1 : PV} (r0 : api_ExprNode.t.R x0 v0) (r1 : expr_value.t.R x1 v1) : ∃ r, FnR Try.prog 34 [v0, v1] r ∧ expr_value.t.R (expr_unary x0 x1) r := by
 obtain ⟨res, hres⟩ : ∃ res, expr_unary x0 x1 = res := ⟨_, rfl⟩
 suffices H : RC Try.prog ac34 [] (QR Try.prog [(4, some (2, true))] (RF34 res)) (argE 0 [v0, v1]) ⟨0, []⟩ by
  rw [hres]
  exact fnE text34 (by simp) H
 unfold expr_unary at hres
 unfold ac34
 refine rc_seq ?_
 refine rc_region ?_
 refine rd_op (ov_box rfl (TR.cnt api_ExprNode.t r0)) ?_
 refine rd_op (ov_box rfl (TR.cnt expr_value.t r1)) ?_
 refine rd_allocO (x := .agg [vu32 0#32, vi 0]) (Mem.nil ⟨0, []⟩) rfl rfl (fun i101 w101 h101 M101 => ?_)
 refine rd_nil ?_
 refine pn_seq ?_
 refine rc_seq ?_
 refine rc_seq ?_
 refine rc_region ?_
 refine rd_op (ov_faddr rfl (api_ExprNode.g_Op r0)) ?_
 refine rd_op (ov_load rfl rfl rfl) ?_
 refine rd_nil ?_
 refine pn_seq ?_
 refine rc_block ?_
 refine rc_seq ?_
 refine rc_region ?_
 refine rd_op (ov_bin rfl rfl i_eql) ?_
 refine rd_op (ov_move rfl) ?_
 refine rd_nil ?_
 refine pn_seq ?_
 refine rc_cond rfl (fun hc103 => ?_) (fun hc103 => ?_)
 ·replace hres := (ite_t hc103).symm.trans hres
  have hc103' := hc103
  try simp only [qa1, qa2, qa3, qa4, qa5, qa6, qa7, qa8, qa9, qaA, qaB, qaC, qaD] at hc103'
  refine rc_seq ?_
  refine rc_region ?_
  refine rd_op (ov_faddr rfl (expr_value.g_v r1)) ?_
  refine rd_op (ov_load rfl rfl rfl) ?_
  refine rd_op (ov_faddr rfl (expr_value.g_w r1)) ?_
  refine rd_op (ov_load rfl rfl rfl) ?_
  obtain ⟨y104, hw104, hres⟩ := let_ex hres
  have f104 := f43_ok (x0 := x1.v) (x1 := x1.w)  
  rw [hw104] at f104
  refine rd_call (cv_fn rfl rfl (clL_cons rfl (clL_cons rfl clL_nil)) f104) ?_
  refine rd_op (ov_faddr rfl (expr_value.g_w r1)) ?_
  refine rd_op (ov_load rfl rfl rfl) ?_
  refine rd_op (v := .agg [vu32 y104, vi x1.w]) (ov_build (cs := [vu32 y104, vi x1.w]) rfl rfl) ?_
  refine rd_storeO (k := 0) (v := .agg [vu32 y104, vi x1.w]) M101 rfl rfl rfl rfl (fun h105 M105 => ?_)
  replace M105 : Mem h105 [⟨.op i101 w101 0, 77, 2, [.agg [vu32 y104, vi x1.w]]⟩] := M105
  refine rd_nil ?_
  refine pn_seq ?_
  subst hres
  exact rc_retV (.cell rfl (load_whole (k := 0) M105 rfl rfl) .nil) (deep_closed (TR.clo expr_value.t (show expr_value.t.R ({ v := y104, w := x1.w } : expr_value) (.agg [vu32 y104, vi x1.w]) from rfl))) (show expr_value.t.R ({ v := y104, w := x1.w } : expr_value) (.agg [vu32 y104, vi x1.w]) from rfl)
 ·replace hres := (ite_f hc103).symm.trans hres
  have hc103' := hc103
  try simp only [qa1, qa2, qa3, qa4, qa5, qa6, qa7, qa8, qa9, qaA, qaB, qaC, qaD] at hc103'
  refine rc_seq ?_
  refine rc_region ?_
  refine rd_op (ov_bin rfl rfl i_eql) ?_
  refine rd_op (ov_move rfl) ?_
  refine rd_nil ?_
  refine pn_seq ?_
  refine rc_cond rfl (fun hc106 => ?_) (fun hc106 => ?_)
  ·replace hres := (ite_t hc106).symm.trans hres
   have hc106' := hc106
   try simp only [qa1, qa2, qa3, qa4, qa5, qa6, qa7, qa8, qa9, qaA, qaB, qaC, qaD] at hc106'
   refine rc_seq ?_
   refine rc_region ?_
   refine rd_op (ov_faddr rfl (expr_value.g_v r1)) ?_
   refine rd_op (ov_load rfl rfl rfl) ?_
   refine rd_op (ov_faddr rfl (api_ExprNode.g_N r0)) ?_
   refine rd_op (ov_load rfl rfl rfl) ?_
   refine rd_op (ov_faddr rfl (expr_value.g_w r1)) ?_
   refine rd_op (ov_load rfl rfl rfl) ?_
   obtain ⟨y107, hw107, hres⟩ := let_ex hres
   have f107 := f44_ok (x0 := x1.v) (x1 := x0.N) (x2 := x1.w)  
   rw [hw107] at f107
   refine rd_call (cv_fn rfl rfl (clL_cons rfl (clL_cons rfl (clL_cons rfl clL_nil))) f107) ?_
   refine rd_op (ov_faddr rfl (expr_value.g_w r1)) ?_
   refine rd_op (ov_load rfl rfl rfl) ?_
   refine rd_op (v := .agg [vu32 y107, vi x1.w]) (ov_build (cs := [vu32 y107, vi x1.w]) rfl rfl) ?_
   refine rd_storeO (k := 0) (v := .agg [vu32 y107, vi x1.w]) M101 rfl rfl rfl rfl (fun h108 M108 => ?_)
   replace M108 : Mem h108 [⟨.op i101 w101 0, 77, 2, [.agg [vu32 y107, vi x1.w]]⟩] := M108
   refine rd_nil ?_
   refine pn_seq ?_
   subst hres
   exact rc_retV (.cell rfl (load_whole (k := 0) M108 rfl rfl) .nil) (deep_closed (TR.clo expr_value.t (show expr_value.t.R ({ v := y107, w := x1.w } : expr_value) (.agg [vu32 y107, vi x1.w]) from rfl))) (show expr_value.t.R ({ v := y107, w := x1.w } : expr_value) (.agg [vu32 y107, vi x1.w]) from rfl)
  ·replace hres := (ite_f hc106).symm.trans hres
   have hc106' := hc106
   try simp only [qa1, qa2, qa3, qa4, qa5, qa6, qa7, qa8, qa9, qaA, qaB, qaC, qaD] at hc106'
   refine rc_seq ?_
   refine rc_region ?_
   refine rd_op (ov_bin rfl rfl i_eql) ?_
   refine rd_op (ov_move rfl) ?_
   refine rd_nil ?_
   refine pn_seq ?_
   refine rc_cond rfl (fun hc109 => ?_) (fun hc109 => ?_)
   ·replace hres := (ite_t hc109).symm.trans hres
    have hc109' := hc109
    try simp only [qa1, qa2, qa3, qa4, qa5, qa6, qa7, qa8, qa9, qaA, qaB, qaC, qaD] at hc109'
    refine rc_seq ?_
    refine rc_region ?_
    refine rd_op (ov_faddr rfl (expr_value.g_v r1)) ?_
    refine rd_op (ov_load rfl rfl rfl) ?_
    refine rd_op (ov_faddr rfl (api_ExprNode.g_N r0)) ?_
    refine rd_op (ov_load rfl rfl rfl) ?_
    refine rd_op (ov_faddr rfl (expr_value.g_w r1)) ?_
    refine rd_op (ov_load rfl rfl rfl) ?_
    obtain ⟨y110, hw110, hres⟩ := let_ex hres
    have f110 := f45_ok (x0 := x1.v) (x1 := x0.N) (x2 := x1.w)  
    rw [hw110] at f110
    refine rd_call (cv_fn rfl rfl (clL_cons rfl (clL_cons rfl (clL_cons rfl clL_nil))) f110) ?_
    refine rd_op (ov_faddr rfl (expr_value.g_w r1)) ?_
    refine rd_op (ov_load rfl rfl rfl) ?_
    refine rd_op (v := .agg [vu32 y110, vi x1.w]) (ov_build (cs := [vu32 y110, vi x1.w]) rfl rfl) ?_
    refine rd_storeO (k := 0) (v := .agg [vu32 y110, vi x1.w]) M101 rfl rfl rfl rfl (fun h111 M111 => ?_)
    replace M111 : Mem h111 [⟨.op i101 w101 0, 77, 2, [.agg [vu32 y110, vi x1.w]]⟩] := M111
    refine rd_nil ?_
    refine pn_seq ?_
    subst hres
    exact rc_retV (.cell rfl (load_whole (k := 0) M111 rfl rfl) .nil) (deep_closed (TR.clo expr_value.t (show expr_value.t.R ({ v := y110, w := x1.w } : expr_value) (.agg [vu32 y110, vi x1.w]) from rfl))) (show expr_value.t.R ({ v := y110, w := x1.w } : expr_value) (.agg [vu32 y110, vi x1.w]) from rfl)
   ·replace hres := (ite_f hc109).symm.trans hres
    have hc109' := hc109
    try simp only [qa1, qa2, qa3, qa4, qa5, qa6, qa7, qa8, qa9, qaA, qaB, qaC, qaD] at hc109'
    refine rc_skip ?_
    refine pn_blk ?_
    refine pn_seq ?_
    refine rc_seq ?_
    refine rc_region ?_
    refine rd_op (ov_faddr rfl (expr_value.g_v r1)) ?_
    refine rd_op (ov_load rfl rfl rfl) ?_
    refine rd_op (ov_faddr rfl (api_ExprNode.g_N r0)) ?_
    refine rd_op (ov_load rfl rfl rfl) ?_
    refine rd_op (ov_faddr rfl (api_ExprNode.g_W r0)) ?_
    refine rd_op (ov_load rfl rfl rfl) ?_
    obtain ⟨y112, hw112, hres⟩ := let_ex hres
    have f112 := f46_ok (x0 := x1.v) (x1 := x0.N) (x2 := x0.W)  
    rw [hw112] at f112
    refine rd_call (cv_fn rfl rfl (clL_cons rfl (clL_cons rfl (clL_cons rfl clL_nil))) f112) ?_
    refine rd_op (ov_faddr rfl (api_ExprNode.g_W r0)) ?_
    refine rd_op (ov_load rfl rfl rfl) ?_
    refine rd_op (v := .agg [vu32 y112, vi x0.W]) (ov_build (cs := [vu32 y112, vi x0.W]) rfl rfl) ?_
    refine rd_storeO (k := 0) (v := .agg [vu32 y112, vi x0.W]) M101 rfl rfl rfl rfl (fun h113 M113 => ?_)
    replace M113 : Mem h113 [⟨.op i101 w101 0, 77, 2, [.agg [vu32 y112, vi x0.W]]⟩] := M113
    refine rd_nil ?_
    refine pn_seq ?_
    subst hres
    exact rc_retV (.cell rfl (load_whole (k := 0) M113 rfl rfl) .nil) (deep_closed (TR.clo expr_value.t (show expr_value.t.R ({ v := y112, w := x0.W } : expr_value) (.agg [vu32 y112, vi x0.W]) from rfl))) (show expr_value.t.R ({ v := y112, w := x0.W } : expr_value) (.agg [vu32 y112, vi x0.W]) from rfl)

/-- patchbay/bitvec.Add -/
def RF47 (res : (BitVec 32)) (r : PV) : Prop := r = vu32 res
theorem f47_ok {x0 : BitVec 32} {x1 : BitVec 32} {x2 : Int} : FnR Try.prog 47 [vu32 x0, vu32 x1, vi x2] (vu32 (bitvec_Add x0 x1 x2)) := by
 obtain ⟨res, hres⟩ : ∃ res, bitvec_Add x0 x1 x2 = res := ⟨_, rfl⟩
 suffices H : RC Try.prog ac47 [] (QR Try.prog [(6, none)] (RF47 res)) (argE 0 [vu32 x0, vu32 x1, vi x2]) ⟨0, []⟩ by
  obtain ⟨r, h1, h2⟩ := fnE text47 (by simp) H
  rw [hres]
  have h2 : r = vu32 res := h2
  rw [← h2]; exact h1
 unfold bitvec_Add at hres
 unfold ac47
 refine rc_seq ?_
 refine rc_region ?_
 refine rd_op (v := vu32 0#32) (ov_move rfl) ?_
 refine rd_nil ?_
 refine pn_seq ?_
 refine rc_seq ?_
 refine rc_region ?_
 refine rd_op (ov_move rfl) ?_
 refine rd_op (ov_move rfl) ?_
 refine rd_op (ov_bin (a := vu32 x0) (b := vu32 x1) rfl rfl w_add) ?_
 refine rd_op (ov_move rfl) ?_
 obtain ⟨y101, hw101, hres⟩ := let_ex hres
 have f101 := f23_ok (x0 := x2)  
 rw [hw101] at f101
 refine rd_call (cv_fn rfl rfl (clL_cons rfl clL_nil) f101) ?_
 refine rd_op (ov_bin (a := vu32 (x0 + x1)) (b := vu32 y101) rfl rfl w_and) ?_
 refine rd_op (ov_move rfl) ?_
 refine rd_nil ?_
 refine pn_seq ?_
 subst hres
 exact rc_retV (.tmp rfl .nil) (deep_closed rfl) rfl

/-- patchbay/bitvec.Sub -/
def RF48 (res : (BitVec 32)) (r : PV) : Prop := r = vu32 res
theorem f48_ok {x0 : BitVec 32} {x1 : BitVec 32} {x2 : Int} : FnR Try.prog 48 [vu32 x0, vu32 x1, vi x2] (vu32 (bitvec_Sub x0 x1 x2)) := by
 obtain ⟨res, hres⟩ : ∃ res, bitvec_Sub x0 x1 x2 = res := ⟨_, rfl⟩
 suffices H : RC Try.prog ac48 [] (QR Try.prog [(6, none)] (RF48 res)) (argE 0 [vu32 x0, vu32 x1, vi x2]) ⟨0, []⟩ by
  obtain ⟨r, h1, h2⟩ := fnE text48 (by simp) H
  rw [hres]
  have h2 : r = vu32 res := h2
  rw [← h2]; exact h1
 unfold bitvec_Sub at hres
 unfold ac48
 refine rc_seq ?_
 refine rc_region ?_
 refine rd_op (v := vu32 0#32) (ov_move rfl) ?_
 refine rd_nil ?_
 refine pn_seq ?_
 refine rc_seq ?_
 refine rc_region ?_
 refine rd_op (ov_move rfl) ?_
 refine rd_op (ov_move rfl) ?_
 refine rd_op (ov_bin (a := vu32 x0) (b := vu32 x1) rfl rfl w_sub) ?_
 refine rd_op (ov_move rfl) ?_
 obtain ⟨y101, hw101, hres⟩ := let_ex hres
 have f101 := f23_ok (x0 := x2)  
 rw [hw101] at f101
 refine rd_call (cv_fn rfl rfl (clL_cons rfl clL_nil) f101) ?_
 refine rd_op (ov_bin (a := vu32 (x0 - x1)) (b := vu32 y101) rfl rfl w_and) ?_
 refine rd_op (ov_move rfl) ?_
 refine rd_nil ?_
 refine pn_seq ?_
 subst hres
 exact rc_retV (.tmp rfl .nil) (deep_closed rfl) rfl

/-- patchbay/bitvec.Concat -/
def RF49 (res : (BitVec 32) × Bool) (r : PV) : Prop := r = .tup [vu32 res.1, vb res.2]
theorem f49_ok {x0 : BitVec 32} {x1 : Int} {x2 : BitVec 32} {x3 : Int} : FnR Try.prog 49 [vu32 x0, vi x1, vu32 x2, vi x3] (.tup [vu32 ((bitvec_Concat x0 x1 x2 x3).1), vb ((bitvec_Concat x0 x1 x2 x3).2)]) := by
 obtain ⟨res, hres⟩ : ∃ res, bitvec_Concat x0 x1 x2 x3 = res := ⟨_, rfl⟩
 suffices H : RC Try.prog ac49 [] (QR Try.prog [(8, none), (9, none)] (RF49 res)) (argE 0 [vu32 x0, vi x1, vu32 x2, vi x3]) ⟨0, []⟩ by
  obtain ⟨r, h1, h2⟩ := fnE text49 (by simp) H
  rw [hres]
  have h2 : r = .tup [vu32 res.1, vb res.2] := h2
  rw [← h2]; exact h1
 unfold bitvec_Concat at hres
 unfold ac49
 refine rc_seq ?_
 refine rc_region ?_
 refine rd_op (v := vu32 0#32) (ov_move rfl) ?_
 refine rd_op (v := vb false) (ov_move rfl) ?_
 refine rd_nil ?_
 refine pn_seq ?_
 refine rc_seq ?_
 refine rc_seq ?_
 refine rc_region ?_
 refine rd_op (ov_move rfl) ?_
 refine rd_op (ov_move rfl) ?_
 refine rd_op (v := .fs true [vi x1, vi x3]) (ov_bslice rfl (all_cons rfl (all_cons rfl all_nil))) ?_
 have r101 : (tSl tI).R ([x1, x3] : List Int) (.fs true [vi x1, vi x3]) := sl_fs ⟨rfl, ⟨rfl, trivial⟩⟩ (by simp)
 obtain ⟨y102, hw102, hres⟩ := let_ex hres
 have f102 := f22_ok  r101 
 rw [hw102] at f102
 refine rd_call (cv_fn rfl rfl (clL_cons (TR.clo (tSl tI) r101) clL_nil) f102) ?_
 refine rd_op (ov_not rfl) ?_
 refine rd_op (ov_move rfl) ?_
 refine rd_cut (d := 20) (v := vb ((!y102) || (decide (32 < (wr (x1 + x3)))))) ?_ ?_
 ·intro S Q r
  simp only [ac49_G1, List.cons_append, List.nil_append, List.append_assoc]
  cases hb103 : (!y102)
  ·intro k
   have hb103' := hb103
   try simp only [qa1, qa2, qa3, qa4, qa5, qa6, qa7, qa8, qa9, qaA, qaB, qaC, qaD] at hb103'
   refine rd_yes rfl rfl (ov_move rfl) ?_
   refine rd_yes rfl rfl (ov_move rfl) ?_
   refine rd_yes rfl rfl (ov_bin rfl rfl i_add) ?_
   refine rd_yes rfl rfl (ov_bin rfl rfl i_gtr) ?_
   refine rd_op (v := vb (decide (32 < (wr (x1 + x3))))) (ov_pick rfl rfl rfl rfl) ?_
   exact rd_weak (sub_cons rfl (sub_skip rfl (sub_skip rfl (sub_skip rfl (sub_skip rfl (sub_skip rfl (sub_refl _))))))) k
  ·intro k
   refine rd_skip rfl rfl ?_
   refine rd_skip rfl rfl ?_
   refine rd_skip rfl rfl ?_
   refine rd_skip rfl rfl ?_
   refine rd_op (v := vb true) (ov_pick rfl rfl rfl rfl) ?_
   exact rd_weak (sub_cons rfl (sub_skip rfl (sub_skip rfl (sub_skip rfl (sub_skip rfl (sub_skip rfl (sub_refl _))))))) k
 refine rd_nil ?_
 refine pn_seq ?_
 refine rc_cond rfl (fun hc104 => ?_) (fun hc104 => ?_)
 ·replace hres := (ite_t hc104).symm.trans hres
  have hc104' := hc104
  try simp only [qa1, qa2, qa3, qa4, qa5, qa6, qa7, qa8, qa9, qaA, qaB, qaC, qaD] at hc104'
  refine rc_seq ?_
  refine rc_region ?_
  refine rd_op (v := vu32 0#32) (ov_move rfl) ?_
  refine rd_op (v := vb false) (ov_move rfl) ?_
  refine rd_nil ?_
  refine pn_seq ?_
  subst hres
  exact rc_retV (.tmp rfl (.tmp rfl .nil)) (deep_closed (show closed (.tup _) = true from (clL_cons rfl (clL_cons rfl clL_nil)))) rfl
 ·replace hres := (ite_f hc104).symm.trans hres
  have hc104' := hc104
  try simp only [qa1, qa2, qa3, qa4, qa5, qa6, qa7, qa8, qa9, qaA, qaB, qaC, qaD] at hc104'
  refine rc_skip ?_
  refine pn_seq ?_
  refine rc_seq ?_
  refine rc_region ?_
  refine rd_op (ov_move rfl) ?_
  refine rd_op (ov_move rfl) ?_
  obtain ⟨y105, hw105, hres⟩ := let_ex hres
  have f105 := f23_ok (x0 := x1)  
  rw [hw105] at f105
  refine rd_call (cv_fn rfl rfl (clL_cons rfl clL_nil) f105) ?_
  refine rd_op (ov_bin (a := vu32 x0) (b := vu32 y105) rfl rfl w_and) ?_
  refine rd_op (ov_move rfl) ?_
  refine rd_op (ov_bin (a := vu32 (x0 &&& y105)) (b := vi x3) rfl rfl (w_shl (by first | omega | exact mask_sh (by assumption) (by assumption) | (rw [wr_of (by omega) (by omega)]; omega) | (have hk := two_sh (by assumption) (And.left (by assumption)); omega)))) ?_
  refine rd_op (ov_move rfl) ?_
  refine rd_op (ov_move rfl) ?_
  obtain ⟨y106, hw106, hres⟩ := let_ex hres
  have f106 := f23_ok (x0 := x3)  
  rw [hw106] at f106
  refine rd_call (cv_fn rfl rfl (clL_cons rfl clL_nil) f106) ?_
  refine rd_op (ov_bin (a := vu32 x2) (b := vu32 y106) rfl rfl w_and) ?_
  refine rd_op (ov_bin (a := vu32 ((x0 &&& y105) <<< x3.toNat)) (b := vu32 (x2 &&& y106)) rfl rfl w_or) ?_
  refine rd_op (ov_move rfl) ?_
  refine rd_op (v := vb true) (ov_move rfl) ?_
  refine rd_nil ?_
  refine pn_seq ?_
  subst hres
  exact rc_retV (.tmp rfl (.tmp rfl .nil)) (deep_closed (show closed (.tup _) = true from (clL_cons rfl (clL_cons rfl clL_nil)))) rfl

/-- patchbay/expr.truth -/
def RF50 (res : expr_value) (r : PV) : Prop := expr_value.t.R res r
theorem f50_ok {x0 : Bool} : ∃ r, FnR Try.prog 50 [vb x0] r ∧ expr_value.t.R (expr_truth x0) r := by
 obtain ⟨res, hres⟩ : ∃ res, expr_truth x0 = res := ⟨_, rfl⟩
 suffices H : RC Try.prog ac50 [] (QR Try.prog [(2, some (2, true))] (RF50 res)) (argE 0 [vb x0]) ⟨0, []⟩ by
  rw [hres]
  exact fnE text50 (by simp) H
 unfold expr_truth at hres
 unfold ac50
 refine rc_seq ?_
 refine rc_region ?_
 refine rd_allocO (x := .agg [vu32 0#32, vi 0]) (Mem.nil ⟨0, []⟩) rfl rfl (fun i101 w101 h101 M101 => ?_)
 refine rd_nil ?_
 refine pn_seq ?_
 refine rc_seq ?_
 refine rc_seq ?_
 refine rc_region ?_
 refine rd_op (ov_move rfl) ?_
 refine rd_nil ?_
 refine pn_seq ?_
 refine rc_cond rfl (fun hc103 => ?_) (fun hc103 => ?_)
 ·replace hres := (ite_t hc103).symm.trans hres
  have hc103' := hc103
  try simp only [qa1, qa2, qa3, qa4, qa5, qa6, qa7, qa8, qa9, qaA, qaB, qaC, qaD] at hc103'
  refine rc_seq ?_
  refine rc_region ?_
  refine rd_op (v := .agg [vu32 1#32, vi 1]) (ov_build (cs := [vu32 1#32, vi 1]) rfl rfl) ?_
  refine rd_storeO (k := 0) (v := .agg [vu32 1#32, vi 1]) M101 rfl rfl rfl rfl (fun h104 M104 => ?_)
  replace M104 : Mem h104 [⟨.op i101 w101 0, 77, 2, [.agg [vu32 1#32, vi 1]]⟩] := M104
  refine rd_nil ?_
  refine pn_seq ?_
  subst hres
  exact rc_retV (.cell rfl (load_whole (k := 0) M104 rfl rfl) .nil) (deep_closed (TR.clo expr_value.t (show expr_value.t.R ({ v := 1#32, w := 1 } : expr_value) (.agg [vu32 1#32, vi 1]) from rfl))) (show expr_value.t.R ({ v := 1#32, w := 1 } : expr_value) (.agg [vu32 1#32, vi 1]) from rfl)
 ·replace hres := (ite_f hc103).symm.trans hres
  have hc103' := hc103
  try simp only [qa1, qa2, qa3, qa4, qa5, qa6, qa7, qa8, qa9, qaA, qaB, qaC, qaD] at hc103'
  refine rc_skip ?_
  refine pn_seq ?_
  refine rc_seq ?_
  refine rc_region ?_
  refine rd_op (v := .agg [vu32 0#32, vi 1]) (ov_build (cs := [vu32 0#32, vi 1]) rfl rfl) ?_
  refine rd_storeO (k := 0) (v := .agg [vu32 0#32, vi 1]) M101 rfl rfl rfl rfl (fun h105 M105 => ?_)
  replace M105 : Mem h105 [⟨.op i101 w101 0, 77, 2, [.agg [vu32 0#32, vi 1]]⟩] := M105
  refine rd_nil ?_
  refine pn_seq ?_
  subst hres
  exact rc_retV (.cell rfl (load_whole (k := 0) M105 rfl rfl) .nil) (deep_closed (TR.clo expr_value.t (show expr_value.t.R ({ v := 0#32, w := 1 } : expr_value) (.agg [vu32 0#32, vi 1]) from rfl))) (show expr_value.t.R ({ v := 0#32, w := 1 } : expr_value) (.agg [vu32 0#32, vi 1]) from rfl)

/-- patchbay/expr.binary -/
def RF35 (res : expr_value) (r : PV) : Prop := expr_value.t.R res r
theorem f35_ok {x0 : Int} {x1 : expr_value} {x2 : expr_value} {v1 : PV} {v2 : PV} (r1 : expr_value.t.R x1 v1) (r2 : expr_value.t.R x2 v2) : ∃ r, FnR Try.prog 35 [vi x0, v1, v2] r ∧ expr_value.t.R (expr_binary x0 x1 x2) r := by
 obtain ⟨res, hres⟩ : ∃ res, expr_binary x0 x1 x2 = res := ⟨_, rfl⟩
 suffices H : RC Try.prog ac35 [] (QR Try.prog [(6, some (2, true))] (RF35 res)) (argE 0 [vi x0, v1, v2]) ⟨0, []⟩ by
  rw [hres]
  exact fnE text35 (by simp) H
 unfold expr_binary at hres
 unfold ac35
 refine rc_seq ?_
 refine rc_region ?_
 refine rd_op (ov_box rfl (TR.cnt expr_value.t r1)) ?_
 refine rd_op (ov_box rfl (TR.cnt expr_value.t r2)) ?_
 refine rd_allocO (x := .agg [vu32 0#32, vi 0]) (Mem.nil ⟨0, []⟩) rfl rfl (fun i101 w101 h101 M101 => ?_)
 refine rd_nil ?_
 refine pn_seq ?_
 refine rc_seq ?_
 refine rc_seq ?_
 refine rc_region ?_
 refine rd_op (ov_move rfl) ?_
 refine rd_nil ?_
 refine pn_seq ?_
 refine rc_block ?_
 refine rc_seq ?_
 refine rc_region ?_
 refine rd_op (ov_bin rfl rfl i_eql) ?_
 refine rd_op (ov_move rfl) ?_
 refine rd_nil ?_
 refine pn_seq ?_
 refine rc_cond rfl (fun hc103 => ?_) (fun hc103 => ?_)
 ·replace hres := (ite_t hc103).symm.trans hres
  have hc103' := hc103
  try simp only [qa1, qa2, qa3, qa4, qa5, qa6, qa7, qa8, qa9, qaA, qaB, qaC, qaD] at hc103'
  refine rc_seq ?_
  refine rc_region ?_
  refine rd_op (ov_faddr rfl (expr_value.g_v r1)) ?_
  refine rd_op (ov_load rfl rfl rfl) ?_
  refine rd_op (ov_faddr rfl (expr_value.g_v r2)) ?_
  refine rd_op (ov_load rfl rfl rfl) ?_
  refine rd_op (ov_faddr rfl (expr_value.g_w r1)) ?_
  refine rd_op (ov_load rfl rfl rfl) ?_
  obtain ⟨y104, hw104, hres⟩ := let_ex hres
  have f104 := f47_ok (x0 := x1.v) (x1 := x2.v) (x2 := x1.w)  
  rw [hw104] at f104
  refine rd_call (cv_fn rfl rfl (clL_cons rfl (clL_cons rfl (clL_cons rfl clL_nil))) f104) ?_
  refine rd_op (ov_faddr rfl (expr_value.g_w r1)) ?_
  refine rd_op (ov_load rfl rfl rfl) ?_
  refine rd_op (v := .agg [vu32 y104, vi x1.w]) (ov_build (cs := [vu32 y104, vi x1.w]) rfl rfl) ?_
  refine rd_storeO (k := 0) (v := .agg [vu32 y104, vi x1.w]) M101 rfl rfl rfl rfl (fun h105 M105 => ?_)
  replace M105 : Mem h105 [⟨.op i101 w101 0, 77, 2, [.agg [vu32 y104, vi x1.w]]⟩] := M105
  refine rd_nil ?_
  refine pn_seq ?_
  subst hres
  exact rc_retV (.cell rfl (load_whole (k := 0) M105 rfl rfl) .nil) (deep_closed (TR.clo expr_value.t (show expr_value.t.R ({ v := y104, w := x1.w } : expr_value) (.agg [vu32 y104, vi x1.w]) from rfl))) (show expr_value.t.R ({ v := y104, w := x1.w } : expr_value) (.agg [vu32 y104, vi x1.w]) from rfl)
 ·replace hres := (ite_f hc103).symm.trans hres
  have hc103' := hc103
  try simp only [qa1, qa2, qa3, qa4, qa5, qa6, qa7, qa8, qa9, qaA, qaB, qaC, qaD] at hc103'
  refine rc_seq ?_
  refine rc_region ?_
  refine rd_op (ov_bin rfl rfl i_eql) ?_
  refine rd_op (ov_move rfl) ?_
  refine rd_nil ?_
  refine pn_seq ?_
  refine rc_cond rfl (fun hc106 => ?_) (fun hc106 => ?_)
  ·replace hres := (ite_t hc106).symm.trans hres
   have hc106' := hc106
   try simp only [qa1, qa2, qa3, qa4, qa5, qa6, qa7, qa8, qa9, qaA, qaB, qaC, qaD] at hc106'
   refine rc_seq ?_
   refine rc_region ?_
   refine rd_op (ov_faddr rfl (expr_value.g_v r1)) ?_
   refine rd_op (ov_load rfl rfl rfl) ?_
   refine rd_op (ov_faddr rfl (expr_value.g_v r2)) ?_
   refine rd_op (ov_load rfl rfl rfl) ?_
   refine rd_op (ov_faddr rfl (expr_value.g_w r1)) ?_
   refine rd_op (ov_load rfl rfl rfl) ?_
   obtain ⟨y107, hw107, hres⟩ := let_ex hres
   have f107 := f48_ok (x0 := x1.v) (x1 := x2.v) (x2 := x1.w)  
   rw [hw107] at f107
   refine rd_call (cv_fn rfl rfl (clL_cons rfl (clL_cons rfl (clL_cons rfl clL_nil))) f107) ?_
   refine rd_op (ov_faddr rfl (expr_value.g_w r1)) ?_
   refine rd_op (ov_load rfl rfl rfl) ?_
   refine rd_op (v := .agg [vu32 y107, vi x1.w]) (ov_build (cs := [vu32 y107, vi x1.w]) rfl rfl) ?_
   refine rd_storeO (k := 0) (v := .agg [vu32 y107, vi x1.w]) M101 rfl rfl rfl rfl (fun h108 M108 => ?_)
   replace M108 : Mem h108 [⟨.op i101 w101 0, 77, 2, [.agg [vu32 y107, vi x1.w]]⟩] := M108
   refine rd_nil ?_
   refine pn_seq ?_
   subst hres
   exact rc_retV (.cell rfl (load_whole (k := 0) M108 rfl rfl) .nil) (deep_closed (TR.clo expr_value.t (show expr_value.t.R ({ v := y107, w := x1.w } : expr_value) (.agg [vu32 y107, vi x1.w]) from rfl))) (show expr_value.t.R ({ v := y107, w := x1.w } : expr_value) (.agg [vu32 y107, vi x1.w]) from rfl)
  ·replace hres := (ite_f hc106).symm.trans hres
   have hc106' := hc106
   try simp only [qa1, qa2, qa3, qa4, qa5, qa6, qa7, qa8, qa9, qaA, qaB, qaC, qaD] at hc106'
   refine rc_seq ?_
   refine rc_region ?_
   refine rd_op (ov_bin rfl rfl i_eql) ?_
   refine rd_op (ov_move rfl) ?_
   refine rd_nil ?_
   refine pn_seq ?_
   refine rc_cond rfl (fun hc109 => ?_) (fun hc109 => ?_)
   ·replace hres := (ite_t hc109).symm.trans hres
    have hc109' := hc109
    try simp only [qa1, qa2, qa3, qa4, qa5, qa6, qa7, qa8, qa9, qaA, qaB, qaC, qaD] at hc109'
    refine rc_seq ?_
    refine rc_region ?_
    refine rd_op (ov_faddr rfl (expr_value.g_v r1)) ?_
    refine rd_op (ov_load rfl rfl rfl) ?_
    refine rd_op (ov_faddr rfl (expr_value.g_v r2)) ?_
    refine rd_op (ov_load rfl rfl rfl) ?_
    refine rd_op (ov_bin (a := vu32 x1.v) (b := vu32 x2.v) rfl rfl w_and) ?_
    refine rd_op (ov_faddr rfl (expr_value.g_w r1)) ?_
    refine rd_op (ov_load rfl rfl rfl) ?_
    refine rd_op (v := .agg [vu32 (x1.v &&& x2.v), vi x1.w]) (ov_build (cs := [vu32 (x1.v &&& x2.v), vi x1.w]) rfl rfl) ?_
    refine rd_storeO (k := 0) (v := .agg [vu32 (x1.v &&& x2.v), vi x1.w]) M101 rfl rfl rfl rfl (fun h110 M110 => ?_)
    replace M110 : Mem h110 [⟨.op i101 w101 0, 77, 2, [.agg [vu32 (x1.v &&& x2.v), vi x1.w]]⟩] := M110
    refine rd_nil ?_
    refine pn_seq ?_
    subst hres
    exact rc_retV (.cell rfl (load_whole (k := 0) M110 rfl rfl) .nil) (deep_closed (TR.clo expr_value.t (show expr_value.t.R ({ v := (x1.v &&& x2.v), w := x1.w } : expr_value) (.agg [vu32 (x1.v &&& x2.v), vi x1.w]) from rfl))) (show expr_value.t.R ({ v := (x1.v &&& x2.v), w := x1.w } : expr_value) (.agg [vu32 (x1.v &&& x2.v), vi x1.w]) from rfl)
   ·replace hres := (ite_f hc109).symm.trans hres
    have hc109' := hc109
    try simp only [qa1, qa2, qa3, qa4, qa5, qa6, qa7, qa8, qa9, qaA, qaB, qaC, qaD] at hc109'
    refine rc_seq ?_
    refine rc_region ?_
    refine rd_op (ov_bin rfl rfl i_eql) ?_
    refine rd_op (ov_move rfl) ?_
    refine rd_nil ?_
    refine pn_seq ?_
    refine rc_cond rfl (fun hc111 => ?_) (fun hc111 => ?_)
    ·replace hres := (ite_t hc111).symm.trans hres
     have hc111' := hc111
     try simp only [qa1, qa2, qa3, qa4, qa5, qa6, qa7, qa8, qa9, qaA, qaB, qaC, qaD] at hc111'
     refine rc_seq ?_
     refine rc_region ?_
     refine rd_op (ov_faddr rfl (expr_value.g_v r1)) ?_
     refine rd_op (ov_load rfl rfl rfl) ?_
     refine rd_op (ov_faddr rfl (expr_value.g_v r2)) ?_
     refine rd_op (ov_load rfl rfl rfl) ?_
     refine rd_op (ov_bin (a := vu32 x1.v) (b := vu32 x2.v) rfl rfl w_or) ?_
     refine rd_op (ov_faddr rfl (expr_value.g_w r1)) ?_
     refine rd_op (ov_load rfl rfl rfl) ?_
     refine rd_op (v := .agg [vu32 (x1.v ||| x2.v), vi x1.w]) (ov_build (cs := [vu32 (x1.v ||| x2.v), vi x1.w]) rfl rfl) ?_
     refine rd_storeO (k := 0) (v := .agg [vu32 (x1.v ||| x2.v), vi x1.w]) M101 rfl rfl rfl rfl (fun h112 M112 => ?_)
     replace M112 : Mem h112 [⟨.op i101 w101 0, 77, 2, [.agg [vu32 (x1.v ||| x2.v), vi x1.w]]⟩] := M112
     refine rd_nil ?_
     refine pn_seq ?_
     subst hres
     exact rc_retV (.cell rfl (load_whole (k := 0) M112 rfl rfl) .nil) (deep_closed (TR.clo expr_value.t (show expr_value.t.R ({ v := (x1.v ||| x2.v), w := x1.w } : expr_value) (.agg [vu32 (x1.v ||| x2.v), vi x1.w]) from rfl))) (show expr_value.t.R ({ v := (x1.v ||| x2.v), w := x1.w } : expr_value) (.agg [vu32 (x1.v ||| x2.v), vi x1.w]) from rfl)
    ·replace hres := (ite_f hc111).symm.trans hres
     have hc111' := hc111
     try simp only [qa1, qa2, qa3, qa4, qa5, qa6, qa7, qa8, qa9, qaA, qaB, qaC, qaD] at hc111'
     refine rc_seq ?_
     refine rc_region ?_
     refine rd_op (ov_bin rfl rfl i_eql) ?_
     refine rd_op (ov_move rfl) ?_
     refine rd_nil ?_
     refine pn_seq ?_
     refine rc_cond rfl (fun hc113 => ?_) (fun hc113 => ?_)
     ·replace hres := (ite_t hc113).symm.trans hres
      have hc113' := hc113
      try simp only [qa1, qa2, qa3, qa4, qa5, qa6, qa7, qa8, qa9, qaA, qaB, qaC, qaD] at hc113'
      refine rc_seq ?_
      refine rc_region ?_
      refine rd_op (ov_faddr rfl (expr_value.g_v r1)) ?_
      refine rd_op (ov_load rfl rfl rfl) ?_
      refine rd_op (ov_faddr rfl (expr_value.g_v r2)) ?_
      refine rd_op (ov_load rfl rfl rfl) ?_
      refine rd_op (ov_bin (a := vu32 x1.v) (b := vu32 x2.v) rfl rfl w_xor) ?_
      refine rd_op (ov_faddr rfl (expr_value.g_w r1)) ?_
      refine rd_op (ov_load rfl rfl rfl) ?_
      refine rd_op (v := .agg [vu32 (x1.v ^^^ x2.v), vi x1.w]) (ov_build (cs := [vu32 (x1.v ^^^ x2.v), vi x1.w]) rfl rfl) ?_
      refine rd_storeO (k := 0) (v := .agg [vu32 (x1.v ^^^ x2.v), vi x1.w]) M101 rfl rfl rfl rfl (fun h114 M114 => ?_)
      replace M114 : Mem h114 [⟨.op i101 w101 0, 77, 2, [.agg [vu32 (x1.v ^^^ x2.v), vi x1.w]]⟩] := M114
      refine rd_nil ?_
      refine pn_seq ?_
      subst hres
      exact rc_retV (.cell rfl (load_whole (k := 0) M114 rfl rfl) .nil) (deep_closed (TR.clo expr_value.t (show expr_value.t.R ({ v := (x1.v ^^^ x2.v), w := x1.w } : expr_value) (.agg [vu32 (x1.v ^^^ x2.v), vi x1.w]) from rfl))) (show expr_value.t.R ({ v := (x1.v ^^^ x2.v), w := x1.w } : expr_value) (.agg [vu32 (x1.v ^^^ x2.v), vi x1.w]) from rfl)
     ·replace hres := (ite_f hc113).symm.trans hres
      have hc113' := hc113
      try simp only [qa1, qa2, qa3, qa4, qa5, qa6, qa7, qa8, qa9, qaA, qaB, qaC, qaD] at hc113'
      refine rc_seq ?_
      refine rc_region ?_
      refine rd_op (ov_bin rfl rfl i_eql) ?_
      refine rd_op (ov_move rfl) ?_
      refine rd_nil ?_
      refine pn_seq ?_
      refine rc_cond rfl (fun hc115 => ?_) (fun hc115 => ?_)
      ·replace hres := (ite_t hc115).symm.trans hres
       have hc115' := hc115
       try simp only [qa1, qa2, qa3, qa4, qa5, qa6, qa7, qa8, qa9, qaA, qaB, qaC, qaD] at hc115'
       refine rc_seq ?_
       refine rc_region ?_
       refine rd_op (ov_faddr rfl (expr_value.g_v r1)) ?_
       refine rd_op (ov_load rfl rfl rfl) ?_
       refine rd_op (ov_faddr rfl (expr_value.g_w r1)) ?_
       refine rd_op (ov_load rfl rfl rfl) ?_
       refine rd_op (ov_faddr rfl (expr_value.g_v r2)) ?_
       refine rd_op (ov_load rfl rfl rfl) ?_
       refine rd_op (ov_faddr rfl (expr_value.g_w r2)) ?_
       refine rd_op (ov_load rfl rfl rfl) ?_
       obtain ⟨y116, hw116, hres⟩ := let_ex hres
       have f116 := f49_ok (x0 := x1.v) (x1 := x1.w) (x2 := x2.v) (x3 := x2.w)  
       rw [hw116] at f116
       refine rd_call (cv_fn rfl rfl (clL_cons rfl (clL_cons rfl (clL_cons rfl (clL_cons rfl clL_nil)))) f116) ?_
       refine rd_op (ov_move rfl) ?_
       refine rd_op (ov_extract rfl rfl) ?_
       refine rd_op (ov_extract rfl rfl) ?_
       refine rd_op (ov_move rfl) ?_
       refine rd_op (ov_move rfl) ?_
       refine rd_nil ?_
       refine pn_seq ?_
       refine rc_seq ?_
       refine rc_region ?_
       refine rd_op (ov_move rfl) ?_
       refine rd_op (ov_faddr rfl (expr_value.g_w r1)) ?_
       refine rd_op (ov_load rfl rfl rfl) ?_
       refine rd_op (ov_faddr rfl (expr_value.g_w r2)) ?_
       refine rd_op (ov_load rfl rfl rfl) ?_
       refine rd_op (ov_bin rfl rfl i_add) ?_
       refine rd_op (v := .agg [vu32 y116.1, vi (wr (x1.w + x2.w))]) (ov_build (cs := [vu32 y116.1, vi (wr (x1.w + x2.w))]) rfl rfl) ?_
       refine rd_storeO (k := 0) (v := .agg [vu32 y116.1, vi (wr (x1.w + x2.w))]) M101 rfl rfl rfl rfl (fun h117 M117 => ?_)
       replace M117 : Mem h117 [⟨.op i101 w101 0, 77, 2, [.agg [vu32 y116.1, vi (wr (x1.w + x2.w))]]⟩] := M117
       refine rd_nil ?_
       refine pn_seq ?_
       subst hres
       exact rc_retV (.cell rfl (load_whole (k := 0) M117 rfl rfl) .nil) (deep_closed (TR.clo expr_value.t (show expr_value.t.R ({ v := y116.1, w := (wr (x1.w + x2.w)) } : expr_value) (.agg [vu32 y116.1, vi (wr (x1.w + x2.w))]) from rfl))) (show expr_value.t.R ({ v := y116.1, w := (wr (x1.w + x2.w)) } : expr_value) (.agg [vu32 y116.1, vi (wr (x1.w + x2.w))]) from rfl)
      ·replace hres := (ite_f hc115).symm.trans hres
       have hc115' := hc115
       try simp only [qa1, qa2, qa3, qa4, qa5, qa6, qa7, qa8, qa9, qaA, qaB, qaC, qaD] at hc115'
       refine rc_seq ?_
       refine rc_region ?_
       refine rd_op (ov_bin rfl rfl i_eql) ?_
       refine rd_op (ov_move rfl) ?_
       refine rd_nil ?_
       refine pn_seq ?_
       refine rc_cond rfl (fun hc118 => ?_) (fun hc118 => ?_)
       ·replace hres := (ite_t hc118).symm.trans hres
        have hc118' := hc118
        try simp only [qa1, qa2, qa3, qa4, qa5, qa6, qa7, qa8, qa9, qaA, qaB, qaC, qaD] at hc118'
        refine rc_seq ?_
        refine rc_region ?_
        refine rd_op (ov_faddr rfl (expr_value.g_v r1)) ?_
        refine rd_op (ov_load rfl rfl rfl) ?_
        refine rd_op (ov_faddr rfl (expr_value.g_v r2)) ?_
        refine rd_op (ov_load rfl rfl rfl) ?_
        refine rd_op (ov_bin (a := vu32 x1.v) (b := vu32 x2.v) rfl rfl w_eql) ?_
        obtain ⟨y119, hw119, hres⟩ := let_ex hres
        obtain ⟨v120, f119, r120⟩ := f50_ok (x0 := (decide (x1.v = x2.v)))  
        rw [hw119] at r120
        refine rd_call (cv_fn rfl rfl (clL_cons rfl clL_nil) f119) ?_
        refine rd_storeO (k := 0) (v := v120) M101 rfl rfl rfl (TR.cnt expr_value.t r120) (fun h121 M121 => ?_)
        replace M121 : Mem h121 [⟨.op i101 w101 0, 77, 2, [v120]⟩] := M121
        refine rd_nil ?_
        refine pn_seq ?_
        subst hres
        exact rc_retV (.cell rfl (load_whole (k := 0) M121 rfl (TR.agg expr_value.t r120)) .nil) (deep_closed (TR.clo expr_value.t r120)) r120
       ·replace hres := (ite_f hc118).symm.trans hres
        have hc118' := hc118
        try simp only [qa1, qa2, qa3, qa4, qa5, qa6, qa7, qa8, qa9, qaA, qaB, qaC, qaD] at hc118'
        refine rc_skip ?_
        refine pn_blk ?_
        refine pn_seq ?_
        refine rc_seq ?_
        refine rc_region ?_
        refine rd_op (ov_faddr rfl (expr_value.g_v r1)) ?_
        refine rd_op (ov_load rfl rfl rfl) ?_
        refine rd_op (ov_faddr rfl (expr_value.g_v r2)) ?_
        refine rd_op (ov_load rfl rfl rfl) ?_
        refine rd_op (ov_bin (a := vu32 x1.v) (b := vu32 x2.v) rfl rfl w_lss) ?_
        obtain ⟨y122, hw122, hres⟩ := let_ex hres
        obtain ⟨v123, f122, r123⟩ := f50_ok (x0 := (decide (x1.v < x2.v)))  
        rw [hw122] at r123
        refine rd_call (cv_fn rfl rfl (clL_cons rfl clL_nil) f122) ?_
        refine rd_storeO (k := 0) (v := v123) M101 rfl rfl rfl (TR.cnt expr_value.t r123) (fun h124 M124 => ?_)
        replace M124 : Mem h124 [⟨.op i101 w101 0, 77, 2, [v123]⟩] := M124
        refine rd_nil ?_
        refine pn_seq ?_
        subst hres
        exact rc_retV (.cell rfl (load_whole (k := 0) M124 rfl (TR.agg expr_value.t r123)) .nil) (deep_closed (TR.clo expr_value.t r123)) r123

/-- (*patchbay/expr.machine).eval -/
def RF21 (i0_ w0_ : Nat) (R_ : List Ent) (res : expr_value × expr_machine) (r : PV) (h : Heap) : Prop := ∃ uF0 : PV, ∃ c0_ : PV, Mem h (⟨.op i0_ w0_ 0, 75, 17, [uF0]⟩ :: R_) ∧ (expr_machine.t.R res.2 uF0) ∧ r = c0_ ∧ expr_value.t.R res.1 c0_
theorem f21_okB {rec_ : expr_machine → (expr_value × expr_machine)} {mu_ : Nat} {x0 : expr_machine} {u0_ : PV} {R_ : List Ent} {h_ : Heap} {i0_ w0_ : Nat} (ru0_ : expr_machine.t.R x0 u0_) (M_ : Mem h_ (⟨.op i0_ w0_ 0, 75, 17, [u0_]⟩ :: R_)) (hv : VE x0) (hmu : mu_ = x0.nodes.length - x0.next.toNat) (hrec : HR rec_) (ihR : ∀ {z0 : expr_machine} {u0_ : PV} {R_ : List Ent} {h_ : Heap} {i0_ w0_ : Nat} (ru0_ : expr_machine.t.R z0 u0_) (M_ : Mem h_ (⟨.op i0_ w0_ 0, 75, 17, [u0_]⟩ :: R_)) (hv : VE z0), z0.nodes.length - z0.next.toNat < mu_ → ∃ r h2_, FnX Try.prog 21 [.op i0_ w0_ 0] h_ r h2_ ∧ RF21 i0_ w0_ R_ (rec_ z0) r h2_) : ∃ r h2_, FnX Try.prog 21 [.op i0_ w0_ 0] h_ r h2_ ∧ RF21 i0_ w0_ R_ (m2_expr_machine__eval_B rec_ x0) r h2_ := by
 obtain ⟨res, hres⟩ : ∃ res, m2_expr_machine__eval_B rec_ x0 = res := ⟨_, rfl⟩
 suffices H : RC Try.prog ac21 [] (retPost Try.prog [(2, some (2, true))] (RF21 i0_ w0_ R_ res)) (argE 0 [.op i0_ w0_ 0]) h_ by
  rw [hres]
  exact fnX text21 (by simp) H
 unfold m2_expr_machine__eval_B at hres
 unfold ac21
 refine rc_seq ?_
 refine rc_region ?_
 refine rd_allocO (x := .agg [vu32 0#32, vi 0]) M_ rfl rfl (fun i101 w101 h101 M101 => ?_)
 refine rd_nil ?_
 refine pn_seq ?_
 refine rc_seq ?_
 refine rc_region ?_
 refine rd_op (ov_move rfl) ?_
 refine rd_op (ov_nilCheck rfl rfl) ?_
 refine rd_op (ov_faddrO rfl) ?_
 obtain ⟨v103, e103, r103⟩ := expr_machine.g_nodes ru0_
 refine rd_op (ov_loadf (k := 1) M101 rfl rfl e103) ?_
 refine rd_op (ov_move rfl) ?_
 refine rd_op (ov_nilCheck rfl rfl) ?_
 refine rd_op (ov_faddrO rfl) ?_
 refine rd_op (ov_loadf (k := 1) M101 rfl rfl (expr_machine.g_next ru0_)) ?_
 obtain ⟨v104, e104, r104⟩ := sl_idx (i := x0.next) r103 (by first | omega | exact (ve_lt hv).1 | exact (ve_lt hv).2) (by first | omega | exact (ve_lt hv).1 | exact (ve_lt hv).2)
 refine rd_op (ov_iaddr rfl rfl e104) ?_
 refine rd_op (ov_load rfl (TR.cnt api_ExprNode.t r104) (TR.agg api_ExprNode.t r104)) ?_
 refine rd_allocO (x := .agg [vi 0, vi 0, vi 0]) M101 rfl rfl (fun i105 w105 h105 M105 => ?_)
 refine rd_storeO (k := 0) (v := v104) M105 rfl rfl rfl (TR.cnt api_ExprNode.t r104) (fun h107 M107 => ?_)
 replace M107 : Mem h107 (⟨.op i105 w105 0, 53, 3, [v104]⟩ :: ⟨.op i101 w101 0, 77, 2, [.agg [vu32 0#32, vi 0]]⟩ :: ⟨.op i0_ w0_ 0, 75, 17, [u0_]⟩ :: R_) := M107
 refine rd_nil ?_
 refine pn_seq ?_
 refine rc_seq ?_
 refine rc_regionS ?_
 refine rs_step ?_
 refine rd_op (ov_move rfl) ?_
 refine rs_back ?_
 refine rs_step ?_
 refine rd_op (ov_nilCheck rfl rfl) ?_
 refine rs_back ?_
 refine rs_step ?_
 refine rd_op (ov_faddrO rfl) ?_
 refine rs_back ?_
 refine rs_step ?_
 refine rd_op (ov_loadf (k := 2) M107 rfl rfl (expr_machine.g_next ru0_)) ?_
 refine rs_back ?_
 refine rs_step ?_
 refine rd_op (ov_bin rfl rfl i_add) ?_
 refine rs_back ?_
 refine rs_step ?_
 refine rd_op (ov_nilCheck rfl rfl) ?_
 refine rs_back ?_
 refine rs_step ?_
 refine rd_op (ov_faddrO rfl) ?_
 refine rs_back ?_
 refine rs_step ?_
 obtain ⟨v109_c1, v109_c2, v109_c3, v109_c4, v109_c5, v109_c6, v109_c7, v109_c8, v109_c9, v109_c10, v109_c11, v109_c12, v109_c13, v109_c14, v109_c15, e109, r109_c1, r109_c2, r109_c3, r109_c4, r109_c5, r109_c6, r109_c7, r109_c8, r109_c9, r109_c10, r109_c11, r109_c12, r109_c13, r109_c14, r109_c15⟩ := ru0_
 subst e109
 refine rd_storeF (k := 2) (v := vi (wr (x0.next + 1))) M107 rfl rfl rfl rfl rfl (by first | decide | (simp only [List.length_cons, List.length_nil]; omega) | simp) (fun h108 M108 => ?_)
 replace M108 : Mem h108 (⟨.op i105 w105 0, 53, 3, [v104]⟩ :: ⟨.op i101 w101 0, 77, 2, [.agg [vu32 0#32, vi 0]]⟩ :: ⟨.op i0_ w0_ 0, 75, 17, [.agg [vs x0.scope.Program.Name, v109_c1, v109_c2, v109_c3, v109_c4, v109_c5, v109_c6, v109_c7, v109_c8, v109_c9, v109_c10, v109_c11, v109_c12, v109_c13, v109_c14, v109_c15, vi (wr (x0.next + 1))]]⟩ :: R_) := M108
 refine rs_back ?_
 refine rs_freezeP (k := 0) (E' := [(25, .op i0_ w0_ (0 + 16)), (24, .op i0_ w0_ 0), (23, vi (wr (x0.next + 1))), (22, vi x0.next), (21, .op i0_ w0_ (0 + 16)), (20, .op i0_ w0_ 0), (19, .op i0_ w0_ 0), (3, .fp v104), (18, v104), (17, .fp v104), (16, vi x0.next), (15, .op i0_ w0_ (0 + 16)), (14, .op i0_ w0_ 0), (13, .op i0_ w0_ 0), (12, v103), (11, .op i0_ w0_ (0 + 15)), (10, .op i0_ w0_ 0), (9, .op i0_ w0_ 0), (2, .op i101 w101 0), (0, .op i0_ w0_ 0)]) M108 rfl (frz_keep rfl (frz_keep rfl (frz_keep rfl (frz_keep rfl (frz_keep rfl (frz_keep rfl (frz_keep rfl (frz_turn rfl (frz_keep rfl (frz_keep rfl (frz_keep rfl (frz_keep rfl (frz_keep rfl (frz_keep rfl (frz_keep rfl (frz_keep rfl (frz_keep rfl (frz_keep rfl (frz_keep rfl (frz_keep rfl frz_nil)))))))))))))))))))) (fun h110 M110 => ?_)
 replace M110 : Mem h110 (⟨.op i101 w101 0, 77, 2, [.agg [vu32 0#32, vi 0]]⟩ :: ⟨.op i0_ w0_ 0, 75, 17, [.agg [vs x0.scope.Program.Name, v109_c1, v109_c2, v109_c3, v109_c4, v109_c5, v109_c6, v109_c7, v109_c8, v109_c9, v109_c10, v109_c11, v109_c12, v109_c13, v109_c14, v109_c15, vi (wr (x0.next + 1))]]⟩ :: R_) := M110
 refine rs_nil ?_
 refine pn_seq ?_
 refine rc_seq ?_
 refine rc_seq ?_
 refine rc_region ?_
 refine rd_op (ov_faddr rfl (api_ExprNode.g_Op r104)) ?_
 refine rd_op (ov_load rfl rfl rfl) ?_
 obtain ⟨y111, hw111, hres⟩ := let_ex hres
 have f111 := f20_ok (x0 := (ix x0.nodes x0.next).Op)  
 rw [hw111] at f111
 refine rd_call (cv_fn rfl rfl (clL_cons rfl clL_nil) f111) ?_
 refine rd_nil ?_
 refine pn_seq ?_
 refine rc_block ?_
 refine rc_seq ?_
 refine rc_region ?_
 refine rd_op (ov_bin rfl rfl i_eql) ?_
 refine rd_op (ov_move rfl) ?_
 refine rd_nil ?_
 refine pn_seq ?_
 refine rc_cond rfl (fun hc112 => ?_) (fun hc112 => ?_)
 ·replace hres := (ite_t hc112).symm.trans hres
  have hc112' := hc112
  try simp only [qa1, qa2, qa3, qa4, qa5, qa6, qa7, qa8, qa9, qaA, qaB, qaC, qaD] at hc112'
  refine rc_seq ?_
  refine rc_regionS ?_
  refine rs_step ?_
  refine rd_op (ov_move rfl) ?_
  refine rs_back ?_
  refine rs_step ?_
  refine rd_op (ov_load rfl (TR.cnt api_ExprNode.t r104) (TR.agg api_ExprNode.t r104)) ?_
  refine rs_back ?_
  have M113 : Mem h110 (⟨.op i0_ w0_ 0, 75, 17, [.agg [vs x0.scope.Program.Name, v109_c1, v109_c2, v109_c3, v109_c4, v109_c5, v109_c6, v109_c7, v109_c8, v109_c9, v109_c10, v109_c11, v109_c12, v109_c13, v109_c14, v109_c15, vi (wr (x0.next + 1))]]⟩ :: ⟨.op i101 w101 0, 77, 2, [.agg [vu32 0#32, vi 0]]⟩ :: R_) := (Mem.front (k := 1) M110 rfl)
  obtain ⟨y113, hw113, hres⟩ := let_ex hres
  obtain ⟨vr113, h115, hX113, hZ113⟩ := f33_ok (x0 := ({ scope := x0.scope, env := x0.env, args := x0.args, nodes := x0.nodes, next := (wr (x0.next + 1)) } : expr_machine)) (x1 := (ix x0.nodes x0.next)) r104 (show expr_machine.t.R ({ scope := x0.scope, env := x0.env, args := x0.args, nodes := x0.nodes, next := (wr (x0.next + 1)) } : expr_machine) (.agg [vs x0.scope.Program.Name, v109_c1, v109_c2, v109_c3, v109_c4, v109_c5, v109_c6, v109_c7, v109_c8, v109_c9, v109_c10, v109_c11, v109_c12, v109_c13, v109_c14, v109_c15, vi (wr (x0.next + 1))]) from ⟨v109_c1, v109_c2, v109_c3, v109_c4, v109_c5, v109_c6, v109_c7, v109_c8, v109_c9, v109_c10, v109_c11, v109_c12, v109_c13, v109_c14, v109_c15, rfl, r109_c1, r109_c2, r109_c3, r109_c4, r109_c5, r109_c6, r109_c7, r109_c8, r109_c9, r109_c10, r109_c11, r109_c12, r109_c13, r109_c14, r109_c15⟩) M113 (by exact evp hv (by assumption) (by assumption))
  rw [hw113] at hZ113
  obtain ⟨u113_0, v114, M115, ru113_0, hr113, r114⟩ := hZ113
  replace hr113 := hr113.symm; subst hr113
  refine rs_callXc rfl rfl hX113 ?_
  refine rs_step ?_
  refine rd_storeO (k := 1) (v := v114) M115 rfl rfl rfl (TR.cnt expr_value.t r114) (fun h116 M116 => ?_)
  replace M116 : Mem h116 (⟨.op i0_ w0_ 0, 75, 17, [u113_0]⟩ :: ⟨.op i101 w101 0, 77, 2, [v114]⟩ :: R_) := M116
  refine rs_back ?_
  refine rs_nil ?_
  refine pn_seq ?_
  have MZ117 : Mem h116 (⟨.op i0_ w0_ 0, 75, 17, [u113_0]⟩ :: ⟨.op i101 w101 0, 77, 2, [v114]⟩ :: R_) := (Mem.front (k := 0) M116 rfl)
  subst hres
  exact rc_retX (.cell rfl (load_whole (k := 1) M116 rfl (TR.agg expr_value.t r114)) .nil) ⟨u113_0, v114, Mem.sub MZ117 (.cons_cons _ (.cons _ (List.Sublist.refl R_))), ru113_0, rfl, r114⟩
 ·replace hres := (ite_f hc112).symm.trans hres
  have hc112' := hc112
  try simp only [qa1, qa2, qa3, qa4, qa5, qa6, qa7, qa8, qa9, qaA, qaB, qaC, qaD] at hc112'
  refine rc_seq ?_
  refine rc_region ?_
  refine rd_op (ov_bin rfl rfl i_eql) ?_
  refine rd_op (ov_move rfl) ?_
  refine rd_nil ?_
  refine pn_seq ?_
  refine rc_cond rfl (fun hc118 => ?_) (fun hc118 => ?_)
  ·replace hres := (ite_t hc118).symm.trans hres
   have hc118' := hc118
   try simp only [qa1, qa2, qa3, qa4, qa5, qa6, qa7, qa8, qa9, qaA, qaB, qaC, qaD] at hc118'
   refine rc_seq ?_
   refine rc_regionU ?_
   refine rx_step ?_
   refine rd_op (ov_load rfl (TR.cnt api_ExprNode.t r104) (TR.agg api_ExprNode.t r104)) ?_
   refine rx_back ?_
   refine rx_step ?_
   refine rd_op (ov_move rfl) ?_
   refine rx_back ?_
   have M119 : Mem h110 (⟨.op i0_ w0_ 0, 75, 17, [.agg [vs x0.scope.Program.Name, v109_c1, v109_c2, v109_c3, v109_c4, v109_c5, v109_c6, v109_c7, v109_c8, v109_c9, v109_c10, v109_c11, v109_c12, v109_c13, v109_c14, v109_c15, vi (wr (x0.next + 1))]]⟩ :: ⟨.op i101 w101 0, 77, 2, [.agg [vu32 0#32, vi 0]]⟩ :: R_) := (Mem.front (k := 1) M110 rfl)
   obtain ⟨y119, hw119, hres⟩ := let_ex hres
   obtain ⟨vr119, h121, hX119, hZ119⟩ := ihR (z0 := ({ scope := x0.scope, env := x0.env, args := x0.args, nodes := x0.nodes, next := (wr (x0.next + 1)) } : expr_machine)) (show expr_machine.t.R ({ scope := x0.scope, env := x0.env, args := x0.args, nodes := x0.nodes, next := (wr (x0.next + 1)) } : expr_machine) (.agg [vs x0.scope.Program.Name, v109_c1, v109_c2, v109_c3, v109_c4, v109_c5, v109_c6, v109_c7, v109_c8, v109_c9, v109_c10, v109_c11, v109_c12, v109_c13, v109_c14, v109_c15, vi (wr (x0.next + 1))]) from ⟨v109_c1, v109_c2, v109_c3, v109_c4, v109_c5, v109_c6, v109_c7, v109_c8, v109_c9, v109_c10, v109_c11, v109_c12, v109_c13, v109_c14, v109_c15, rfl, r109_c1, r109_c2, r109_c3, r109_c4, r109_c5, r109_c6, r109_c7, r109_c8, r109_c9, r109_c10, r109_c11, r109_c12, r109_c13, r109_c14, r109_c15⟩) M119 (by first | exact ev1 hv (by assumption) (by assumption) | exact ev2 hv (by assumption) (by assumption) (by assumption) hrec (by assumption) | exact ev3 hv (by assumption) (by assumption) (by assumption) (by assumption) hrec (by assumption) (by assumption)) (by rw [hmu]; first | exact dv1 hv (by assumption) (by assumption) | exact dv2 hv (by assumption) (by assumption) (by assumption) hrec (by assumption) | exact dv3 hv (by assumption) (by assumption) (by assumption) (by assumption) hrec (by assumption) (by assumption))
   rw [hw119] at hZ119
   obtain ⟨u119_0, v120, M121, ru119_0, hr119, r120⟩ := hZ119
   replace hr119 := hr119.symm; subst hr119
   refine rx_callXc rfl rfl hX119 ?_
   refine rx_step ?_
   obtain ⟨y122, hw122, hres⟩ := let_ex hres
   obtain ⟨v123, f122, r123⟩ := f34_ok  r104 r120 
   rw [hw122] at r123
   refine rd_call (cv_fn rfl rfl (clL_cons (TR.clo api_ExprNode.t r104) (clL_cons (TR.clo expr_value.t r120) clL_nil)) f122) ?_
   refine rx_back ?_
   refine rx_step ?_
   refine rd_storeO (k := 1) (v := v123) M121 rfl rfl rfl (TR.cnt expr_value.t r123) (fun h124 M124 => ?_)
   replace M124 : Mem h124 (⟨.op i0_ w0_ 0, 75, 17, [u119_0]⟩ :: ⟨.op i101 w101 0, 77, 2, [v123]⟩ :: R_) := M124
   refine rx_back ?_
   refine rx_nil ?_
   refine pn_seq ?_
   have MZ125 : Mem h124 (⟨.op i0_ w0_ 0, 75, 17, [u119_0]⟩ :: ⟨.op i101 w101 0, 77, 2, [v123]⟩ :: R_) := (Mem.front (k := 0) M124 rfl)
   subst hres
   exact rc_retX (.cell rfl (load_whole (k := 1) M124 rfl (TR.agg expr_value.t r123)) .nil) ⟨u119_0, v123, Mem.sub MZ125 (.cons_cons _ (.cons _ (List.Sublist.refl R_))), ru119_0, rfl, r123⟩
  ·replace hres := (ite_f hc118).symm.trans hres
   have hc118' := hc118
   try simp only [qa1, qa2, qa3, qa4, qa5, qa6, qa7, qa8, qa9, qaA, qaB, qaC, qaD] at hc118'
   refine rc_seq ?_
   refine rc_region ?_
   refine rd_op (ov_bin rfl rfl i_eql) ?_
   refine rd_op (ov_move rfl) ?_
   refine rd_nil ?_
   refine pn_seq ?_
   refine rc_cond rfl (fun hc126 => ?_) (fun hc126 => ?_)
   ·replace hres := (ite_t hc126).symm.trans hres
    have hc126' := hc126
    try simp only [qa1, qa2, qa3, qa4, qa5, qa6, qa7, qa8, qa9, qaA, qaB, qaC, qaD] at hc126'
    refine rc_seq ?_
    refine rc_regionS ?_
    refine rs_step ?_
    refine rd_op (ov_move rfl) ?_
    refine rs_back ?_
    have M127 : Mem h110 (⟨.op i0_ w0_ 0, 75, 17, [.agg [vs x0.scope.Program.Name, v109_c1, v109_c2, v109_c3, v109_c4, v109_c5, v109_c6, v109_c7, v109_c8, v109_c9, v109_c10, v109_c11, v109_c12, v109_c13, v109_c14, v109_c15, vi (wr (x0.next + 1))]]⟩ :: ⟨.op i101 w101 0, 77, 2, [.agg [vu32 0#32, vi 0]]⟩ :: R_) := (Mem.front (k := 1) M110 rfl)
    obtain ⟨y127, hw127, hres⟩ := let_ex hres
    obtain ⟨vr127, h129, hX127, hZ127⟩ := ihR (z0 := ({ scope := x0.scope, env := x0.env, args := x0.args, nodes := x0.nodes, next := (wr (x0.next + 1)) } : expr_machine)) (show expr_machine.t.R ({ scope := x0.scope, env := x0.env, args := x0.args, nodes := x0.nodes, next := (wr (x0.next + 1)) } : expr_machine) (.agg [vs x0.scope.Program.Name, v109_c1, v109_c2, v109_c3, v109_c4, v109_c5, v109_c6, v109_c7, v109_c8, v109_c9, v109_c10, v109_c11, v109_c12, v109_c13, v109_c14, v109_c15, vi (wr (x0.next + 1))]) from ⟨v109_c1, v109_c2, v109_c3, v109_c4, v109_c5, v109_c6, v109_c7, v109_c8, v109_c9, v109_c10, v109_c11, v109_c12, v109_c13, v109_c14, v109_c15, rfl, r109_c1, r109_c2, r109_c3, r109_c4, r109_c5, r109_c6, r109_c7, r109_c8, r109_c9, r109_c10, r109_c11, r109_c12, r109_c13, r109_c14, r109_c15⟩) M127 (by first | exact ev1 hv (by assumption) (by assumption) | exact ev2 hv (by assumption) (by assumption) (by assumption) hrec (by assumption) | exact ev3 hv (by assumption) (by assumption) (by assumption) (by assumption) hrec (by assumption) (by assumption)) (by rw [hmu]; first | exact dv1 hv (by assumption) (by assumption) | exact dv2 hv (by assumption) (by assumption) (by assumption) hrec (by assumption) | exact dv3 hv (by assumption) (by assumption) (by assumption) (by assumption) hrec (by assumption) (by assumption))
    rw [hw127] at hZ127
    obtain ⟨u127_0, v128, M129, ru127_0, hr127, r128⟩ := hZ127
    replace hr127 := hr127.symm; subst hr127
    refine rs_callXc rfl rfl hX127 ?_
    refine rs_step ?_
    refine rd_allocO (x := .agg [vu32 0#32, vi 0]) M129 rfl rfl (fun i130 w130 h130 M130 => ?_)
    refine rs_back ?_
    refine rs_step ?_
    refine rd_storeO (k := 0) (v := v128) M130 rfl rfl rfl (TR.cnt expr_value.t r128) (fun h132 M132 => ?_)
    replace M132 : Mem h132 (⟨.op i130 w130 0, 77, 2, [v128]⟩ :: ⟨.op i0_ w0_ 0, 75, 17, [u127_0]⟩ :: ⟨.op i101 w101 0, 77, 2, [.agg [vu32 0#32, vi 0]]⟩ :: R_) := M132
    refine rs_back ?_
    refine rs_nil ?_
    refine pn_seq ?_
    refine rc_seq ?_
    refine rc_regionS ?_
    refine rs_step ?_
    refine rd_op (ov_move rfl) ?_
    refine rs_back ?_
    have M133 : Mem h132 (⟨.op i0_ w0_ 0, 75, 17, [u127_0]⟩ :: ⟨.op i130 w130 0, 77, 2, [v128]⟩ :: ⟨.op i101 w101 0, 77, 2, [.agg [vu32 0#32, vi 0]]⟩ :: R_) := (Mem.front (k := 1) M132 rfl)
    obtain ⟨y133, hw133, hres⟩ := let_ex hres
    obtain ⟨vr133, h135, hX133, hZ133⟩ := ihR (z0 := y127.2) ru127_0 M133 (by first | exact ev1 hv (by assumption) (by assumption) | exact ev2 hv (by assumption) (by assumption) (by assumption) hrec (by assumption) | exact ev3 hv (by assumption) (by assumption) (by assumption) (by assumption) hrec (by assumption) (by assumption)) (by rw [hmu]; first | exact dv1 hv (by assumption) (by assumption) | exact dv2 hv (by assumption) (by assumption) (by assumption) hrec (by assumption) | exact dv3 hv (by assumption) (by assumption) (by assumption) (by assumption) hrec (by assumption) (by assumption))
    rw [hw133] at hZ133
    obtain ⟨u133_0, v134, M135, ru133_0, hr133, r134⟩ := hZ133
    replace hr133 := hr133.symm; subst hr133
    refine rs_callXc rfl rfl hX133 ?_
    refine rs_step ?_
    refine rd_allocO (x := .agg [vu32 0#32, vi 0]) M135 rfl rfl (fun i136 w136 h136 M136 => ?_)
    refine rs_back ?_
    refine rs_step ?_
    refine rd_storeO (k := 0) (v := v134) M136 rfl rfl rfl (TR.cnt expr_value.t r134) (fun h138 M138 => ?_)
    replace M138 : Mem h138 (⟨.op i136 w136 0, 77, 2, [v134]⟩ :: ⟨.op i0_ w0_ 0, 75, 17, [u133_0]⟩ :: ⟨.op i130 w130 0, 77, 2, [v128]⟩ :: ⟨.op i101 w101 0, 77, 2, [.agg [vu32 0#32, vi 0]]⟩ :: R_) := M138
    refine rs_back ?_
    refine rs_nil ?_
    refine pn_seq ?_
    refine rc_seq ?_
    refine rc_region ?_
    refine rd_op (ov_faddr rfl (api_ExprNode.g_Op r104)) ?_
    refine rd_op (ov_load rfl rfl rfl) ?_
    refine rd_op (ov_load0 (k := 2) M138 rfl rfl (TR.agg expr_value.t r128)) ?_
    refine rd_op (ov_load0 (k := 0) M138 rfl rfl (TR.agg expr_value.t r134)) ?_
    obtain ⟨y139, hw139, hres⟩ := let_ex hres
    obtain ⟨v140, f139, r140⟩ := f35_ok (x0 := (ix x0.nodes x0.next).Op) r128 r134 
    rw [hw139] at r140
    refine rd_call (cv_fn rfl rfl (clL_cons rfl (clL_cons (TR.clo expr_value.t r128) (clL_cons (TR.clo expr_value.t r134) clL_nil))) f139) ?_
    refine rd_storeO (k := 3) (v := v140) M138 rfl rfl rfl (TR.cnt expr_value.t r140) (fun h141 M141 => ?_)
    replace M141 : Mem h141 (⟨.op i136 w136 0, 77, 2, [v134]⟩ :: ⟨.op i0_ w0_ 0, 75, 17, [u133_0]⟩ :: ⟨.op i130 w130 0, 77, 2, [v128]⟩ :: ⟨.op i101 w101 0, 77, 2, [v140]⟩ :: R_) := M141
    refine rd_nil ?_
    refine pn_seq ?_
    have MZ142 : Mem h141 (⟨.op i0_ w0_ 0, 75, 17, [u133_0]⟩ :: ⟨.op i136 w136 0, 77, 2, [v134]⟩ :: ⟨.op i130 w130 0, 77, 2, [v128]⟩ :: ⟨.op i101 w101 0, 77, 2, [v140]⟩ :: R_) := (Mem.front (k := 1) M141 rfl)
    subst hres
    exact rc_retX (.cell rfl (load_whole (k := 3) M141 rfl (TR.agg expr_value.t r140)) .nil) ⟨u133_0, v140, Mem.sub MZ142 (.cons_cons _ (.cons _ (.cons _ (.cons _ (List.Sublist.refl R_))))), ru133_0, rfl, r140⟩
   ·replace hres := (ite_f hc126).symm.trans hres
    have hc126' := hc126
    try simp only [qa1, qa2, qa3, qa4, qa5, qa6, qa7, qa8, qa9, qaA, qaB, qaC, qaD] at hc126'
    refine rc_skip ?_
    refine pn_blk ?_
    refine pn_seq ?_
    refine rc_seq ?_
    refine rc_regionS ?_
    refine rs_step ?_
    refine rd_op (ov_move rfl) ?_
    refine rs_back ?_
    have M143 : Mem h110 (⟨.op i0_ w0_ 0, 75, 17, [.agg [vs x0.scope.Program.Name, v109_c1, v109_c2, v109_c3, v109_c4, v109_c5, v109_c6, v109_c7, v109_c8, v109_c9, v109_c10, v109_c11, v109_c12, v109_c13, v109_c14, v109_c15, vi (wr (x0.next + 1))]]⟩ :: ⟨.op i101 w101 0, 77, 2, [.agg [vu32 0#32, vi 0]]⟩ :: R_) := (Mem.front (k := 1) M110 rfl)
    obtain ⟨y143, hw143, hres⟩ := let_ex hres
    obtain ⟨vr143, h145, hX143, hZ143⟩ := ihR (z0 := ({ scope := x0.scope, env := x0.env, args := x0.args, nodes := x0.nodes, next := (wr (x0.next + 1)) } : expr_machine)) (show expr_machine.t.R ({ scope := x0.scope, env := x0.env, args := x0.args, nodes := x0.nodes, next := (wr (x0.next + 1)) } : expr_machine) (.agg [vs x0.scope.Program.Name, v109_c1, v109_c2, v109_c3, v109_c4, v109_c5, v109_c6, v109_c7, v109_c8, v109_c9, v109_c10, v109_c11, v109_c12, v109_c13, v109_c14, v109_c15, vi (wr (x0.next + 1))]) from ⟨v109_c1, v109_c2, v109_c3, v109_c4, v109_c5, v109_c6, v109_c7, v109_c8, v109_c9, v109_c10, v109_c11, v109_c12, v109_c13, v109_c14, v109_c15, rfl, r109_c1, r109_c2, r109_c3, r109_c4, r109_c5, r109_c6, r109_c7, r109_c8, r109_c9, r109_c10, r109_c11, r109_c12, r109_c13, r109_c14, r109_c15⟩) M143 (by first | exact ev1 hv (by assumption) (by assumption) | exact ev2 hv (by assumption) (by assumption) (by assumption) hrec (by assumption) | exact ev3 hv (by assumption) (by assumption) (by assumption) (by assumption) hrec (by assumption) (by assumption)) (by rw [hmu]; first | exact dv1 hv (by assumption) (by assumption) | exact dv2 hv (by assumption) (by assumption) (by assumption) hrec (by assumption) | exact dv3 hv (by assumption) (by assumption) (by assumption) (by assumption) hrec (by assumption) (by assumption))
    rw [hw143] at hZ143
    obtain ⟨u143_0, v144, M145, ru143_0, hr143, r144⟩ := hZ143
    replace hr143 := hr143.symm; subst hr143
    refine rs_callXc rfl rfl hX143 ?_
    refine rs_step ?_
    refine rd_allocO (x := .agg [vu32 0#32, vi 0]) M145 rfl rfl (fun i146 w146 h146 M146 => ?_)
    refine rs_back ?_
    refine rs_step ?_
    refine rd_storeO (k := 0) (v := v144) M146 rfl rfl rfl (TR.cnt expr_value.t r144) (fun h148 M148 => ?_)
    replace M148 : Mem h148 (⟨.op i146 w146 0, 77, 2, [v144]⟩ :: ⟨.op i0_ w0_ 0, 75, 17, [u143_0]⟩ :: ⟨.op i101 w101 0, 77, 2, [.agg [vu32 0#32, vi 0]]⟩ :: R_) := M148
    refine rs_back ?_
    refine rs_nil ?_
    refine pn_seq ?_
    refine rc_seq ?_
    refine rc_regionS ?_
    refine rs_step ?_
    refine rd_op (ov_move rfl) ?_
    refine rs_back ?_
    have M149 : Mem h148 (⟨.op i0_ w0_ 0, 75, 17, [u143_0]⟩ :: ⟨.op i146 w146 0, 77, 2, [v144]⟩ :: ⟨.op i101 w101 0, 77, 2, [.agg [vu32 0#32, vi 0]]⟩ :: R_) := (Mem.front (k := 1) M148 rfl)
    obtain ⟨y149, hw149, hres⟩ := let_ex hres
    obtain ⟨vr149, h151, hX149, hZ149⟩ := ihR (z0 := y143.2) ru143_0 M149 (by first | exact ev1 hv (by assumption) (by assumption) | exact ev2 hv (by assumption) (by assumption) (by assumption) hrec (by assumption) | exact ev3 hv (by assumption) (by assumption) (by assumption) (by assumption) hrec (by assumption) (by assumption)) (by rw [hmu]; first | exact dv1 hv (by assumption) (by assumption) | exact dv2 hv (by assumption) (by assumption) (by assumption) hrec (by assumption) | exact dv3 hv (by assumption) (by assumption) (by assumption) (by assumption) hrec (by assumption) (by assumption))
    rw [hw149] at hZ149
    obtain ⟨u149_0, v150, M151, ru149_0, hr149, r150⟩ := hZ149
    replace hr149 := hr149.symm; subst hr149
    refine rs_callXc rfl rfl hX149 ?_
    refine rs_step ?_
    refine rd_allocO (x := .agg [vu32 0#32, vi 0]) M151 rfl rfl (fun i152 w152 h152 M152 => ?_)
    refine rs_back ?_
    refine rs_step ?_
    refine rd_storeO (k := 0) (v := v150) M152 rfl rfl rfl (TR.cnt expr_value.t r150) (fun h154 M154 => ?_)
    replace M154 : Mem h154 (⟨.op i152 w152 0, 77, 2, [v150]⟩ :: ⟨.op i0_ w0_ 0, 75, 17, [u149_0]⟩ :: ⟨.op i146 w146 0, 77, 2, [v144]⟩ :: ⟨.op i101 w101 0, 77, 2, [.agg [vu32 0#32, vi 0]]⟩ :: R_) := M154
    refine rs_back ?_
    refine rs_nil ?_
    refine pn_seq ?_
    refine rc_seq ?_
    refine rc_regionS ?_
    refine rs_step ?_
    refine rd_op (ov_move rfl) ?_
    refine rs_back ?_
    have M155 : Mem h154 (⟨.op i0_ w0_ 0, 75, 17, [u149_0]⟩ :: ⟨.op i152 w152 0, 77, 2, [v150]⟩ :: ⟨.op i146 w146 0, 77, 2, [v144]⟩ :: ⟨.op i101 w101 0, 77, 2, [.agg [vu32 0#32, vi 0]]⟩ :: R_) := (Mem.front (k := 1) M154 rfl)
    obtain ⟨y155, hw155, hres⟩ := let_ex hres
    obtain ⟨vr155, h157, hX155, hZ155⟩ := ihR (z0 := y149.2) ru149_0 M155 (by first | exact ev1 hv (by assumption) (by assumption) | exact ev2 hv (by assumption) (by assumption) (by assumption) hrec (by assumption) | exact ev3 hv (by assumption) (by assumption) (by assumption) (by assumption) hrec (by assumption) (by assumption)) (by rw [hmu]; first | exact dv1 hv (by assumption) (by assumption) | exact dv2 hv (by assumption) (by assumption) (by assumption) hrec (by assumption) | exact dv3 hv (by assumption) (by assumption) (by assumption) (by assumption) hrec (by assumption) (by assumption))
    rw [hw155] at hZ155
    obtain ⟨u155_0, v156, M157, ru155_0, hr155, r156⟩ := hZ155
    replace hr155 := hr155.symm; subst hr155
    refine rs_callXc rfl rfl hX155 ?_
    refine rs_step ?_
    refine rd_allocO (x := .agg [vu32 0#32, vi 0]) M157 rfl rfl (fun i158 w158 h158 M158 => ?_)
    refine rs_back ?_
    refine rs_step ?_
    refine rd_storeO (k := 0) (v := v156) M158 rfl rfl rfl (TR.cnt expr_value.t r156) (fun h160 M160 => ?_)
    replace M160 : Mem h160 (⟨.op i158 w158 0, 77, 2, [v156]⟩ :: ⟨.op i0_ w0_ 0, 75, 17, [u155_0]⟩ :: ⟨.op i152 w152 0, 77, 2, [v150]⟩ :: ⟨.op i146 w146 0, 77, 2, [v144]⟩ :: ⟨.op i101 w101 0, 77, 2, [.agg [vu32 0#32, vi 0]]⟩ :: R_) := M160
    refine rs_back ?_
    refine rs_nil ?_
    refine pn_seq ?_
    refine rc_seq ?_
    refine rc_seq ?_
    refine rc_region ?_
    refine rd_op (ov_faddrO rfl) ?_
    refine rd_op (ov_loadf (k := 3) M160 rfl rfl (expr_value.g_v r144)) ?_
    refine rd_op (ov_bin (a := vu32 y143.1.v) (b := vu32 1#32) rfl rfl w_eql) ?_
    refine rd_nil ?_
    refine pn_seq ?_
    refine rc_cond rfl (fun hc161 => ?_) (fun hc161 => ?_)
    ·replace hres := (ite_t hc161).symm.trans hres
     have hc161' := hc161
     try simp only [qa1, qa2, qa3, qa4, qa5, qa6, qa7, qa8, qa9, qaA, qaB, qaC, qaD] at hc161'
     refine rc_seq ?_
     refine rc_region ?_
     refine rd_op (ov_load0 (k := 2) M160 rfl rfl (TR.agg expr_value.t r150)) ?_
     refine rd_storeO (k := 4) (v := v150) M160 rfl rfl rfl (TR.cnt expr_value.t r150) (fun h162 M162 => ?_)
     replace M162 : Mem h162 (⟨.op i158 w158 0, 77, 2, [v156]⟩ :: ⟨.op i0_ w0_ 0, 75, 17, [u155_0]⟩ :: ⟨.op i152 w152 0, 77, 2, [v150]⟩ :: ⟨.op i146 w146 0, 77, 2, [v144]⟩ :: ⟨.op i101 w101 0, 77, 2, [v150]⟩ :: R_) := M162
     refine rd_nil ?_
     refine pn_seq ?_
     have MZ163 : Mem h162 (⟨.op i0_ w0_ 0, 75, 17, [u155_0]⟩ :: ⟨.op i158 w158 0, 77, 2, [v156]⟩ :: ⟨.op i152 w152 0, 77, 2, [v150]⟩ :: ⟨.op i146 w146 0, 77, 2, [v144]⟩ :: ⟨.op i101 w101 0, 77, 2, [v150]⟩ :: R_) := (Mem.front (k := 1) M162 rfl)
     subst hres
     exact rc_retX (.cell rfl (load_whole (k := 4) M162 rfl (TR.agg expr_value.t r150)) .nil) ⟨u155_0, v150, Mem.sub MZ163 (.cons_cons _ (.cons _ (.cons _ (.cons _ (.cons _ (List.Sublist.refl R_)))))), ru155_0, rfl, r150⟩
    ·replace hres := (ite_f hc161).symm.trans hres
     have hc161' := hc161
     try simp only [qa1, qa2, qa3, qa4, qa5, qa6, qa7, qa8, qa9, qaA, qaB, qaC, qaD] at hc161'
     refine rc_skip ?_
     refine pn_seq ?_
     refine rc_seq ?_
     refine rc_region ?_
     refine rd_op (ov_load0 (k := 0) M160 rfl rfl (TR.agg expr_value.t r156)) ?_
     refine rd_storeO (k := 4) (v := v156) M160 rfl rfl rfl (TR.cnt expr_value.t r156) (fun h164 M164 => ?_)
     replace M164 : Mem h164 (⟨.op i158 w158 0, 77, 2, [v156]⟩ :: ⟨.op i0_ w0_ 0, 75, 17, [u155_0]⟩ :: ⟨.op i152 w152 0, 77, 2, [v150]⟩ :: ⟨.op i146 w146 0, 77, 2, [v144]⟩ :: ⟨.op i101 w101 0, 77, 2, [v156]⟩ :: R_) := M164
     refine rd_nil ?_
     refine pn_seq ?_
     have MZ165 : Mem h164 (⟨.op i0_ w0_ 0, 75, 17, [u155_0]⟩ :: ⟨.op i158 w158 0, 77, 2, [v156]⟩ :: ⟨.op i152 w152 0, 77, 2, [v150]⟩ :: ⟨.op i146 w146 0, 77, 2, [v144]⟩ :: ⟨.op i101 w101 0, 77, 2, [v156]⟩ :: R_) := (Mem.front (k := 1) M164 rfl)
     subst hres
     exact rc_retX (.cell rfl (load_whole (k := 4) M164 rfl (TR.agg expr_value.t r156)) .nil) ⟨u155_0, v156, Mem.sub MZ165 (.cons_cons _ (.cons _ (.cons _ (.cons _ (.cons _ (List.Sublist.refl R_)))))), ru155_0, rfl, r156⟩
theorem f21_okR : ∀ (n_ : Nat) {x0 : expr_machine} {u0_ : PV} {R_ : List Ent} {h_ : Heap} {i0_ w0_ : Nat} (ru0_ : expr_machine.t.R x0 u0_) (M_ : Mem h_ (⟨.op i0_ w0_ 0, 75, 17, [u0_]⟩ :: R_)) (hv : VE x0), x0.nodes.length - x0.next.toNat < n_ → ∃ r h2_, FnX Try.prog 21 [.op i0_ w0_ 0] h_ r h2_ ∧ RF21 i0_ w0_ R_ (m2_expr_machine__eval_R n_ x0) r h2_ := by
 intro n_
 induction n_ with
 | zero => intros; rename_i hlt; exact absurd hlt (Nat.not_lt_zero _)
 | succ n_ ihn =>
  intro x0 u0_ R_ h_ i0_ w0_ ru0_ M_ hv hlt
  have e_ : m2_expr_machine__eval_R (n_ + 1) x0 = m2_expr_machine__eval_B (m2_expr_machine__eval_R n_) x0 := by rw [m2_expr_machine__eval_R]
  rw [e_]
  exact f21_okB ru0_ M_ hv rfl (eval_next n_) (fun {z0} {u0_} {R_} {h_} {i0_} {w0_} ru0_ M_ hv hz => ihn ru0_ M_ hv (by omega))
theorem f21_ok {x0 : expr_machine} {u0_ : PV} {R_ : List Ent} {h_ : Heap} {i0_ w0_ : Nat} (ru0_ : expr_machine.t.R x0 u0_) (M_ : Mem h_ (⟨.op i0_ w0_ 0, 75, 17, [u0_]⟩ :: R_)) (hv : VE x0) : ∃ r h2_, FnX Try.prog 21 [.op i0_ w0_ 0] h_ r h2_ ∧ RF21 i0_ w0_ R_ (m2_expr_machine__eval x0) r h2_ := f21_okR _ ru0_ M_ hv (Nat.lt_succ_self _)

/-- patchbay/expr.Eval -/
def RF11 (res : (BitVec 32)) (r : PV) : Prop := r = vu32 res
theorem f11_ok {x0 : List api_ExprNode} {x1 : expr_Scope} {x2 : api_Env} {x3 : List (BitVec 32)} {v0 : PV} {v1 : PV} {v2 : PV} {v3 : PV} (r0 : (tSl api_ExprNode.t).R x0 v0) (r1 : expr_Scope.t.R x1 v1) (r2 : api_Env.t.R x2 v2) (r3 : (tSl tU32).R x3 v3) : FnR Try.prog 11 [v0, v1, v2, v3] (vu32 (expr_Eval x0 x1 x2 x3)) := by
 obtain ⟨res, hres⟩ : ∃ res, expr_Eval x0 x1 x2 x3 = res := ⟨_, rfl⟩
 suffices H : RC Try.prog ac11 [] (QR Try.prog [(8, none)] (RF11 res)) (argE 0 [v0, v1, v2, v3]) ⟨0, []⟩ by
  obtain ⟨r, h1, h2⟩ := fnE text11 (by simp) H
  rw [hres]
  have h2 : r = vu32 res := h2
  rw [← h2]; exact h1
 unfold expr_Eval at hres
 unfold ac11
 refine rc_seq ?_
 refine rc_region ?_
 refine rd_op (ov_box rfl (TR.cnt expr_Scope.t r1)) ?_
 refine rd_op (ov_box rfl (TR.cnt api_Env.t r2)) ?_
 refine rd_op (v := vu32 0#32) (ov_move rfl) ?_
 refine rd_nil ?_
 refine pn_seq ?_
 refine rc_seq ?_
 refine rc_seq ?_
 refine rc_region ?_
 refine rd_op (ov_move rfl) ?_
 refine rd_op (ov_load rfl (TR.cnt expr_Scope.t r1) (TR.agg expr_Scope.t r1)) ?_
 obtain ⟨y101, hw101, hres⟩ := let_ex hres
 have f101 := f7_ok  r0 r1 
 rw [hw101] at f101
 refine rd_call (cv_fn rfl rfl (clL_cons (TR.clo (tSl api_ExprNode.t) r0) (clL_cons (TR.clo expr_Scope.t r1) clL_nil)) f101) ?_
 refine rd_op (ov_move rfl) ?_
 refine rd_op (ov_extract rfl rfl) ?_
 refine rd_op (ov_extract rfl rfl) ?_
 refine rd_op (ov_move rfl) ?_
 refine rd_op (ov_move rfl) ?_
 refine rd_nil ?_
 refine pn_seq ?_
 refine rc_seq ?_
 refine rc_region ?_
 refine rd_op (ov_move rfl) ?_
 refine rd_op (ov_bin rfl rfl i_neq) ?_
 refine rd_nil ?_
 refine pn_seq ?_
 refine rc_cond rfl (fun hc102 => ?_) (fun hc102 => ?_)
 ·replace hres := (ite_t hc102).symm.trans hres
  have hc102' := hc102
  try simp only [qa1, qa2, qa3, qa4, qa5, qa6, qa7, qa8, qa9, qaA, qaB, qaC, qaD] at hc102'
  refine rc_seq ?_
  refine rc_region ?_
  refine rd_op (v := vu32 0#32) (ov_move rfl) ?_
  refine rd_nil ?_
  refine pn_seq ?_
  subst hres
  exact rc_retV (.tmp rfl .nil) (deep_closed rfl) rfl
 ·replace hres := (ite_f hc102).symm.trans hres
  have hc102' := hc102
  try simp only [qa1, qa2, qa3, qa4, qa5, qa6, qa7, qa8, qa9, qaA, qaB, qaC, qaD] at hc102'
  refine rc_skip ?_
  refine pn_seq ?_
  refine rc_seq ?_
  refine rc_region ?_
  refine rd_op (ov_load rfl (TR.cnt expr_Scope.t r1) (TR.agg expr_Scope.t r1)) ?_
  refine rd_op (ov_load rfl (TR.cnt api_Env.t r2) (TR.agg api_Env.t r2)) ?_
  refine rd_op (ov_move rfl) ?_
  refine rd_op (ov_move rfl) ?_
  obtain ⟨v103_c1, v103_c2, v103_c3, v103_c4, v103_c5, v103_c6, v103_c7, v103_c8, v103_c9, e103, r103_c1, r103_c2, r103_c3, r103_c4, r103_c5, r103_c6, r103_c7, r103_c8, r103_c9⟩ := r1
  subst e103
  obtain ⟨v104_c0, v104_c1, v104_c2, v104_c3, e104, r104_c0, r104_c1, r104_c2, r104_c3⟩ := r2
  subst e104
  refine rd_op (v := .agg [vs x1.Program.Name, v103_c1, v103_c2, v103_c3, v103_c4, v103_c5, v103_c6, v103_c7, v103_c8, v103_c9, v104_c0, v104_c1, v104_c2, v104_c3, v3, v0, vi 0]) (ov_build (cs := [vs x1.Program.Name, v103_c1, v103_c2, v103_c3, v103_c4, v103_c5, v103_c6, v103_c7, v103_c8, v103_c9, v104_c0, v104_c1, v104_c2, v104_c3, v3, v0, vi 0]) rfl (by simp only [buildV, cells_one (TR.cnt (tSl tU32) r3) (TR.agg (tSl tU32) r3), cells_one (TR.cnt (tSl api_ExprNode.t) r0) (TR.agg (tSl api_ExprNode.t) r0)]; rfl)) ?_
  refine rd_allocO (x := .agg [vs [], nilS, nilS, nilS, nilS, nilS, nilS, nilS, nilS, nilS, nilS, nilS, nilS, nilS, nilS, nilS, vi 0]) (Mem.nil ⟨0, []⟩) rfl rfl (fun i105 w105 h105 M105 => ?_)
  refine rd_storeO (k := 0) (v := .agg [vs x1.Program.Name, v103_c1, v103_c2, v103_c3, v103_c4, v103_c5, v103_c6, v103_c7, v103_c8, v103_c9, v104_c0, v104_c1, v104_c2, v104_c3, v3, v0, vi 0]) M105 rfl rfl rfl rfl (fun h107 M107 => ?_)
  replace M107 : Mem h107 [⟨.op i105 w105 0, 75, 17, [.agg [vs x1.Program.Name, v103_c1, v103_c2, v103_c3, v103_c4, v103_c5, v103_c6, v103_c7, v103_c8, v103_c9, v104_c0, v104_c1, v104_c2, v104_c3, v3, v0, vi 0]]⟩] := M107
  refine rd_nil ?_
  refine pn_seq ?_
  refine rc_seq ?_
  refine rc_regionS ?_
  have M108 : Mem h107 [⟨.op i105 w105 0, 75, 17, [.agg [vs x1.Program.Name, v103_c1, v103_c2, v103_c3, v103_c4, v103_c5, v103_c6, v103_c7, v103_c8, v103_c9, v104_c0, v104_c1, v104_c2, v104_c3, v3, v0, vi 0]]⟩] := (Mem.front (k := 0) M107 rfl)
  obtain ⟨y108, hw108, hres⟩ := let_ex hres
  obtain ⟨vr108, h110, hX108, hZ108⟩ := f21_ok (x0 := ({ scope := x1, env := x2, args := x3, nodes := x0, next := 0 } : expr_machine)) (show expr_machine.t.R ({ scope := x1, env := x2, args := x3, nodes := x0, next := 0 } : expr_machine) (.agg [vs x1.Program.Name, v103_c1, v103_c2, v103_c3, v103_c4, v103_c5, v103_c6, v103_c7, v103_c8, v103_c9, v104_c0, v104_c1, v104_c2, v104_c3, v3, v0, vi 0]) from ⟨v103_c1, v103_c2, v103_c3, v103_c4, v103_c5, v103_c6, v103_c7, v103_c8, v103_c9, v104_c0, v104_c1, v104_c2, v104_c3, v3, v0, rfl, r103_c1, r103_c2, r103_c3, r103_c4, r103_c5, r103_c6, r103_c7, r103_c8, r103_c9, r104_c0, r104_c1, r104_c2, r104_c3, r3, r0⟩) M108 (by exact ev0 (by assumption) (by assumption) _ _)
  rw [hw108] at hZ108
  obtain ⟨u108_0, v109, M110, ru108_0, hr108, r109⟩ := hZ108
  replace hr108 := hr108.symm; subst hr108
  refine rs_callXc rfl rfl hX108 ?_
  refine rs_step ?_
  refine rd_op (ov_field rfl (expr_value.g_v r109)) ?_
  refine rs_back ?_
  refine rs_step ?_
  refine rd_op (ov_move rfl) ?_
  refine rs_back ?_
  refine rs_nil ?_
  refine pn_seq ?_
  subst hres
  exact rc_retV (.tmp rfl .nil) (deep_closed rfl) rfl

/-- patchbay/patchbaylaw13.ExprReplaces -/
def RF3 (res : Bool) (r : PV) : Prop := r = vb res
theorem f3_ok {x0 : law13_Args} {x1 : Int} {v0 : PV} (r0 : law13_Args.t.R x0 v0) : FnR Try.prog 3 [v0, vi x1] (vb (law13_ExprReplaces x0 x1)) := by
 obtain ⟨res, hres⟩ : ∃ res, law13_ExprReplaces x0 x1 = res := ⟨_, rfl⟩
 suffices H : RC Try.prog ac3 [] (QR Try.prog [(4, none)] (RF3 res)) (argE 0 [v0, vi x1]) ⟨0, []⟩ by
  obtain ⟨r, h1, h2⟩ := fnE text3 (by simp) H
  rw [hres]
  have h2 : r = vb res := h2
  rw [← h2]; exact h1
 unfold law13_ExprReplaces at hres
 unfold ac3
 refine rc_seq ?_
 refine rc_region ?_
 refine rd_op (ov_box rfl (TR.cnt law13_Args.t r0)) ?_
 refine rd_op (v := vb false) (ov_move rfl) ?_
 refine rd_nil ?_
 refine pn_seq ?_
 refine rc_seq ?_
 refine rc_seq ?_
 refine rc_region ?_
 obtain ⟨v101, e101, r101⟩ := law13_Args.g_Nodes r0
 refine rd_op (ov_faddr rfl e101) ?_
 refine rd_op (ov_load rfl (TR.cnt (tSl api_ExprNode.t) r101) (TR.agg (tSl api_ExprNode.t) r101)) ?_
 refine rd_op (ov_bi rfl (sl_len r101 Try.underlying32 _)) ?_
 refine rd_op (ov_bin rfl rfl i_gtr) ?_
 refine rd_nil ?_
 refine pn_seq ?_
 refine rc_cond rfl (fun hc102 => ?_) (fun hc102 => ?_)
 ·replace hres := (ite_t hc102).symm.trans hres
  have hc102' := hc102
  try simp only [qa1, qa2, qa3, qa4, qa5, qa6, qa7, qa8, qa9, qaA, qaB, qaC, qaD] at hc102'
  refine rc_seq ?_
  refine rc_region ?_
  obtain ⟨y103, hw103, hres⟩ := let_ex hres
  have f103 := f6_ok   
  rw [hw103] at f103
  refine rd_call (cv_fn rfl rfl clL_nil f103) ?_
  refine rd_op (ov_move rfl) ?_
  refine rd_nil ?_
  refine pn_seq ?_
  subst hres
  exact rc_retV (.tmp rfl .nil) (deep_closed rfl) rfl
 ·replace hres := (ite_f hc102).symm.trans hres
  have hc102' := hc102
  try simp only [qa1, qa2, qa3, qa4, qa5, qa6, qa7, qa8, qa9, qaA, qaB, qaC, qaD] at hc102'
  refine rc_skip ?_
  refine pn_seq ?_
  refine rc_seq ?_
  refine rc_region ?_
  obtain ⟨v104, e104, r104⟩ := law13_Args.g_Nodes r0
  refine rd_op (ov_faddr rfl e104) ?_
  refine rd_op (ov_load rfl (TR.cnt (tSl api_ExprNode.t) r104) (TR.agg (tSl api_ExprNode.t) r104)) ?_
  refine rd_op (ov_load rfl (TR.cnt law13_Args.t r0) (TR.agg law13_Args.t r0)) ?_
  obtain ⟨y105, hw105, hres⟩ := let_ex hres
  obtain ⟨v106, f105, r106⟩ := f8_ok  r0 
  rw [hw105] at r106
  refine rd_call (cv_fn rfl rfl (clL_cons (TR.clo law13_Args.t r0) clL_nil) f105) ?_
  obtain ⟨y107, hw107, hres⟩ := let_ex hres
  have f107 := f7_ok  r104 r106 
  rw [hw107] at f107
  have ek107 := fun (e : y107.2 = 0) => (chk_ok hw107 e).1
  refine rd_call (cv_fn rfl rfl (clL_cons (TR.clo (tSl api_ExprNode.t) r104) (clL_cons (TR.clo expr_Scope.t r106) clL_nil)) f107) ?_
  refine rd_op (ov_move rfl) ?_
  refine rd_op (ov_extract rfl rfl) ?_
  refine rd_op (ov_extract rfl rfl) ?_
  refine rd_op (ov_move rfl) ?_
  refine rd_op (ov_move rfl) ?_
  refine rd_nil ?_
  refine pn_seq ?_
  refine rc_seq ?_
  refine rc_seq ?_
  refine rc_region ?_
  refine rd_op (ov_move rfl) ?_
  refine rd_op (ov_bin rfl rfl i_neq) ?_
  refine rd_op (ov_move rfl) ?_
  refine rd_cut (d := 33) (v := vb ((!decide (y107.2 = 0)) || (decide (x1 < 0)))) ?_ ?_
  ·intro S Q r
   simp only [ac3_G1, List.cons_append, List.nil_append, List.append_assoc]
   cases hb108 : (!decide (y107.2 = 0))
   ·intro k
    have hb108' := hb108
    try simp only [qa1, qa2, qa3, qa4, qa5, qa6, qa7, qa8, qa9, qaA, qaB, qaC, qaD] at hb108'
    refine rd_yes rfl rfl (ov_move rfl) ?_
    refine rd_yes rfl rfl (ov_bin rfl rfl i_lss) ?_
    refine rd_op (v := vb (decide (x1 < 0))) (ov_pick rfl rfl rfl rfl) ?_
    exact rd_weak (sub_cons rfl (sub_skip rfl (sub_skip rfl (sub_skip rfl (sub_refl _))))) k
   ·intro k
    refine rd_skip rfl rfl ?_
    refine rd_skip rfl rfl ?_
    refine rd_op (v := vb true) (ov_pick rfl rfl rfl rfl) ?_
    exact rd_weak (sub_cons rfl (sub_skip rfl (sub_skip rfl (sub_skip rfl (sub_refl _))))) k
  refine rd_op (ov_move rfl) ?_
  refine rd_cut (d := 40) (v := vb (((!decide (y107.2 = 0)) || (decide (x1 < 0))) || (decide ((x0.Nodes.length : Int) ≤ x1)))) ?_ ?_
  ·intro S Q r
   simp only [ac3_G2, List.cons_append, List.nil_append, List.append_assoc]
   cases hb109 : ((!decide (y107.2 = 0)) || (decide (x1 < 0)))
   ·intro k
    have hb109' := hb109
    try simp only [qa1, qa2, qa3, qa4, qa5, qa6, qa7, qa8, qa9, qaA, qaB, qaC, qaD] at hb109'
    refine rd_yes rfl rfl (ov_move rfl) ?_
    obtain ⟨v110, e110, r110⟩ := law13_Args.g_Nodes r0
    refine rd_yes rfl rfl (ov_faddr rfl e110) ?_
    refine rd_yes rfl rfl (ov_load rfl (TR.cnt (tSl api_ExprNode.t) r110) (TR.agg (tSl api_ExprNode.t) r110)) ?_
    refine rd_yes rfl rfl (ov_bi rfl (sl_len r110 Try.underlying32 _)) ?_
    refine rd_yes rfl rfl (ov_bin rfl rfl i_geq) ?_
    refine rd_op (v := vb (decide ((x0.Nodes.length : Int) ≤ x1))) (ov_pick rfl rfl rfl rfl) ?_
    exact rd_weak (sub_cons rfl (sub_skip rfl (sub_skip rfl (sub_skip rfl (sub_skip rfl (sub_skip rfl (sub_skip rfl (sub_refl _)))))))) k
   ·intro k
    refine rd_skip rfl rfl ?_
    refine rd_skip rfl rfl ?_
    refine rd_skip rfl rfl ?_
    refine rd_skip rfl rfl ?_
    refine rd_skip rfl rfl ?_
    refine rd_op (v := vb true) (ov_pick rfl rfl rfl rfl) ?_
    exact rd_weak (sub_cons rfl (sub_skip rfl (sub_skip rfl (sub_skip rfl (sub_skip rfl (sub_skip rfl (sub_skip rfl (sub_refl _)))))))) k
  refine rd_nil ?_
  refine pn_seq ?_
  refine rc_cond rfl (fun hc111 => ?_) (fun hc111 => ?_)
  ·replace hres := (ite_t hc111).symm.trans hres
   have hc111' := hc111
   try simp only [qa1, qa2, qa3, qa4, qa5, qa6, qa7, qa8, qa9, qaA, qaB, qaC, qaD] at hc111'
   refine rc_seq ?_
   refine rc_region ?_
   obtain ⟨y112, hw112, hres⟩ := let_ex hres
   have f112 := f6_ok   
   rw [hw112] at f112
   refine rd_call (cv_fn rfl rfl clL_nil f112) ?_
   refine rd_op (ov_move rfl) ?_
   refine rd_nil ?_
   refine pn_seq ?_
   subst hres
   exact rc_retV (.tmp rfl .nil) (deep_closed rfl) rfl
  ·replace hres := (ite_f hc111).symm.trans hres
   have hc111' := hc111
   try simp only [qa1, qa2, qa3, qa4, qa5, qa6, qa7, qa8, qa9, qaA, qaB, qaC, qaD] at hc111'
   refine rc_skip ?_
   refine pn_seq ?_
   refine rc_seq ?_
   refine rc_region ?_
   obtain ⟨v113, e113, r113⟩ := law13_Args.g_Nodes r0
   refine rd_op (ov_faddr rfl e113) ?_
   refine rd_op (ov_load rfl (TR.cnt (tSl api_ExprNode.t) r113) (TR.agg (tSl api_ExprNode.t) r113)) ?_
   refine rd_op (ov_move rfl) ?_
   obtain ⟨y114, hw114, hres⟩ := let_ex hres
   have f114 := f9_ok (x1 := x1) r113 (by first | assumption | omega | (rw [wr_of (by omega) (by omega)]; omega) | (simp; done) | (simp only [law13_join, List.length_append, List.length_nil, List.length_cons]; omega) | (have hk := (chk_ok (by assumption) (by assumption)).1; omega) | (simp only [List.length_cons, List.length_nil]; omega) | (simp only [List.length_append]; have hk := (chk_ok (by assumption) (by assumption)).1; omega) | (simp only [law13_join, List.length_append, List.length_nil]; have hk := (chk_ok (by assumption) (by assumption)).1; omega))
   rw [hw114] at f114
   refine rd_call (cv_fn rfl rfl (clL_cons (TR.clo (tSl api_ExprNode.t) r113) (clL_cons rfl clL_nil)) f114) ?_
   refine rd_op (ov_move rfl) ?_
   refine rd_nil ?_
   refine pn_seq ?_
   refine rc_seq ?_
   refine rc_seq ?_
   refine rc_region ?_
   refine rd_op (ov_move rfl) ?_
   refine rd_op (ov_move rfl) ?_
   refine rd_op (ov_bin rfl rfl i_leq) ?_
   refine rd_op (ov_move rfl) ?_
   refine rd_cut (d := 55) (v := vb ((decide (y114 ≤ x1)) || (decide ((x0.Nodes.length : Int) < y114)))) ?_ ?_
   ·intro S Q r
    simp only [ac3_G3, List.cons_append, List.nil_append, List.append_assoc]
    cases hb115 : (decide (y114 ≤ x1))
    ·intro k
     have hb115' := hb115
     try simp only [qa1, qa2, qa3, qa4, qa5, qa6, qa7, qa8, qa9, qaA, qaB, qaC, qaD] at hb115'
     refine rd_yes rfl rfl (ov_move rfl) ?_
     obtain ⟨v116, e116, r116⟩ := law13_Args.g_Nodes r0
     refine rd_yes rfl rfl (ov_faddr rfl e116) ?_
     refine rd_yes rfl rfl (ov_load rfl (TR.cnt (tSl api_ExprNode.t) r116) (TR.agg (tSl api_ExprNode.t) r116)) ?_
     refine rd_yes rfl rfl (ov_bi rfl (sl_len r116 Try.underlying32 _)) ?_
     refine rd_yes rfl rfl (ov_bin rfl rfl i_gtr) ?_
     refine rd_op (v := vb (decide ((x0.Nodes.length : Int) < y114))) (ov_pick rfl rfl rfl rfl) ?_
     exact rd_weak (sub_cons rfl (sub_skip rfl (sub_skip rfl (sub_skip rfl (sub_skip rfl (sub_skip rfl (sub_skip rfl (sub_refl _)))))))) k
    ·intro k
     refine rd_skip rfl rfl ?_
     refine rd_skip rfl rfl ?_
     refine rd_skip rfl rfl ?_
     refine rd_skip rfl rfl ?_
     refine rd_skip rfl rfl ?_
     refine rd_op (v := vb true) (ov_pick rfl rfl rfl rfl) ?_
     exact rd_weak (sub_cons rfl (sub_skip rfl (sub_skip rfl (sub_skip rfl (sub_skip rfl (sub_skip rfl (sub_skip rfl (sub_refl _)))))))) k
   refine rd_nil ?_
   refine pn_seq ?_
   refine rc_cond rfl (fun hc117 => ?_) (fun hc117 => ?_)
   ·replace hres := (ite_t hc117).symm.trans hres
    have hc117' := hc117
    try simp only [qa1, qa2, qa3, qa4, qa5, qa6, qa7, qa8, qa9, qaA, qaB, qaC, qaD] at hc117'
    refine rc_seq ?_
    refine rc_region ?_
    refine rd_op (v := vb false) (ov_move rfl) ?_
    refine rd_nil ?_
    refine pn_seq ?_
    subst hres
    exact rc_retV (.tmp rfl .nil) (deep_closed rfl) rfl
   ·replace hres := (ite_f hc117).symm.trans hres
    have hc117' := hc117
    try simp only [qa1, qa2, qa3, qa4, qa5, qa6, qa7, qa8, qa9, qaA, qaB, qaC, qaD] at hc117'
    refine rc_skip ?_
    refine pn_seq ?_
    refine rc_seq ?_
    refine rc_region ?_
    obtain ⟨v118, e118, r118⟩ := law13_Args.g_Nodes r0
    refine rd_op (ov_faddr rfl e118) ?_
    refine rd_op (ov_load rfl (TR.cnt (tSl api_ExprNode.t) r118) (TR.agg (tSl api_ExprNode.t) r118)) ?_
    refine rd_op (ov_move rfl) ?_
    refine rd_op (ov_move rfl) ?_
    obtain ⟨v119, e119, r119⟩ := sl_sub (P := Try.prog) (hf := false) (E := [(59, vi y114), (58, vi x1), (57, v118), (56, .fp v118), (55, vb ((decide (y114 ≤ x1)) || (decide ((x0.Nodes.length : Int) < y114)))), (49, vb (decide (y114 ≤ x1))), (48, vb (decide (y114 ≤ x1))), (47, vi x1), (46, vi y114), (7, vi y114), (45, vi y114), (44, vi x1), (43, v113), (42, .fp v113), (40, vb (((!decide (y107.2 = 0)) || (decide (x1 < 0))) || (decide ((x0.Nodes.length : Int) ≤ x1)))), (34, vb ((!decide (y107.2 = 0)) || (decide (x1 < 0)))), (33, vb ((!decide (y107.2 = 0)) || (decide (x1 < 0)))), (30, vb (!decide (y107.2 = 0))), (29, vb (!decide (y107.2 = 0))), (28, vi y107.2), (6, vi y107.2), (5, vi y107.1), (27, vi y107.2), (26, vi y107.1), (20, .tup [vi y107.1, vi y107.2]), (25, .tup [vi y107.1, vi y107.2]), (24, v106), (23, v0), (22, v104), (21, .fp v104), (18, vb (decide (100 < (x0.Nodes.length : Int)))), (17, vi (x0.Nodes.length : Int)), (16, v101), (15, .fp v101), (4, vb false), (2, .fp v0), (0, v0), (1, vi x1)]) (h := ⟨0, []⟩) (t := api_ExprNode.t) (tt := 32) (x := (.tmp 57)) (lo := (some (.tmp 58))) (hi := (some (.tmp 59))) (a := x1) (b := y114) r118 rfl rfl rfl (show 0 ≤ x1 by omega) (show x1 ≤ y114 by omega) (show y114 ≤ (x0.Nodes.length : Int) by omega) (fun ad => by kernel_rfl)
    have hl119 := sub_len (l := x0.Nodes) (show 0 ≤ x1 by omega) (show x1 ≤ y114 by omega) (show y114 ≤ (x0.Nodes.length : Int) by omega)
    refine rd_op (v := v119) (e119) ?_
    obtain ⟨y120, hw120, hres⟩ := let_ex hres
    obtain ⟨v121, f120, r121⟩ := f10_ok  r119 sl_nil sl_nil (by first | assumption | omega | (rw [wr_of (by omega) (by omega)]; omega) | (simp; done) | (simp only [law13_join, List.length_append, List.length_nil, List.length_cons]; omega) | (have hk := (chk_ok (by assumption) (by assumption)).1; omega) | (simp only [List.length_cons, List.length_nil]; omega) | (simp only [List.length_append]; have hk := (chk_ok (by assumption) (by assumption)).1; omega) | (simp only [law13_join, List.length_append, List.length_nil]; have hk := (chk_ok (by assumption) (by assumption)).1; omega)) (by first | assumption | omega | (rw [wr_of (by omega) (by omega)]; omega) | (simp; done) | (simp only [law13_join, List.length_append, List.length_nil, List.length_cons]; omega) | (have hk := (chk_ok (by assumption) (by assumption)).1; omega) | (simp only [List.length_cons, List.length_nil]; omega) | (simp only [List.length_append]; have hk := (chk_ok (by assumption) (by assumption)).1; omega) | (simp only [law13_join, List.length_append, List.length_nil]; have hk := (chk_ok (by assumption) (by assumption)).1; omega)) (by first | assumption | omega | (rw [wr_of (by omega) (by omega)]; omega) | (simp; done) | (simp only [law13_join, List.length_append, List.length_nil, List.length_cons]; omega) | (have hk := (chk_ok (by assumption) (by assumption)).1; omega) | (simp only [List.length_cons, List.length_nil]; omega) | (simp only [List.length_append]; have hk := (chk_ok (by assumption) (by assumption)).1; omega) | (simp only [law13_join, List.length_append, List.length_nil]; have hk := (chk_ok (by assumption) (by assumption)).1; omega))
    rw [hw120] at r121
    refine rd_call (cv_fn rfl rfl (clL_cons (TR.clo (tSl api_ExprNode.t) r119) (clL_cons (TR.clo (tSl api_ExprNode.t) sl_nil) (clL_cons (TR.clo (tSl api_ExprNode.t) sl_nil) clL_nil))) f120) ?_
    refine rd_op (ov_move rfl) ?_
    refine rd_nil ?_
    refine pn_seq ?_
    refine rc_seq ?_
    refine rc_region ?_
    refine rd_op (ov_move rfl) ?_
    refine rd_op (ov_load rfl (TR.cnt law13_Args.t r0) (TR.agg law13_Args.t r0)) ?_
    obtain ⟨y122, hw122, hres⟩ := let_ex hres
    obtain ⟨v123, f122, r123⟩ := f8_ok  r0 
    rw [hw122] at r123
    refine rd_call (cv_fn rfl rfl (clL_cons (TR.clo law13_Args.t r0) clL_nil) f122) ?_
    obtain ⟨y124, hw124, hres⟩ := let_ex hres
    have f124 := f7_ok  r121 r123 
    rw [hw124] at f124
    have ek124 := fun (e : y124.2 = 0) => (chk_ok hw124 e).1
    refine rd_call (cv_fn rfl rfl (clL_cons (TR.clo (tSl api_ExprNode.t) r121) (clL_cons (TR.clo expr_Scope.t r123) clL_nil)) f124) ?_
    refine rd_op (ov_move rfl) ?_
    refine rd_op (ov_extract rfl rfl) ?_
    refine rd_op (ov_extract rfl rfl) ?_
    refine rd_op (ov_move rfl) ?_
    refine rd_op (ov_move rfl) ?_
    refine rd_nil ?_
    refine pn_seq ?_
    refine rc_seq ?_
    refine rc_seq ?_
    refine rc_region ?_
    refine rd_op (ov_move rfl) ?_
    refine rd_op (ov_bin rfl rfl i_neq) ?_
    refine rd_nil ?_
    refine pn_seq ?_
    refine rc_cond rfl (fun hc125 => ?_) (fun hc125 => ?_)
    ·replace hres := (ite_t hc125).symm.trans hres
     have hc125' := hc125
     try simp only [qa1, qa2, qa3, qa4, qa5, qa6, qa7, qa8, qa9, qaA, qaB, qaC, qaD] at hc125'
     refine rc_seq ?_
     refine rc_region ?_
     refine rd_op (v := vb false) (ov_move rfl) ?_
     refine rd_nil ?_
     refine pn_seq ?_
     subst hres
     exact rc_retV (.tmp rfl .nil) (deep_closed rfl) rfl
    ·replace hres := (ite_f hc125).symm.trans hres
     have hc125' := hc125
     try simp only [qa1, qa2, qa3, qa4, qa5, qa6, qa7, qa8, qa9, qaA, qaB, qaC, qaD] at hc125'
     refine rc_skip ?_
     refine pn_seq ?_
     refine rc_seq ?_
     refine rc_region ?_
     refine rd_op (ov_move rfl) ?_
     refine rd_op (ov_load rfl (TR.cnt law13_Args.t r0) (TR.agg law13_Args.t r0)) ?_
     obtain ⟨y126, hw126, hres⟩ := let_ex hres
     obtain ⟨v127, f126, r127⟩ := f8_ok  r0 
     rw [hw126] at r127
     refine rd_call (cv_fn rfl rfl (clL_cons (TR.clo law13_Args.t r0) clL_nil) f126) ?_
     obtain ⟨v128, e128, r128⟩ := law13_Args.g_E r0
     refine rd_op (ov_faddr rfl e128) ?_
     refine rd_op (ov_load rfl (TR.cnt api_Env.t r128) (TR.agg api_Env.t r128)) ?_
     obtain ⟨v129, e129, r129⟩ := law13_Args.g_Args r0
     refine rd_op (ov_faddr rfl e129) ?_
     refine rd_op (ov_load rfl (TR.cnt (tSl tU32) r129) (TR.agg (tSl tU32) r129)) ?_
     obtain ⟨y130, hw130, hres⟩ := let_ex hres
     have f130 := f11_ok  r121 r127 r128 r129 
     rw [hw130] at f130
     refine rd_call (cv_fn rfl rfl (clL_cons (TR.clo (tSl api_ExprNode.t) r121) (clL_cons (TR.clo expr_Scope.t r127) (clL_cons (TR.clo api_Env.t r128) (clL_cons (TR.clo (tSl tU32) r129) clL_nil)))) f130) ?_
     refine rd_op (ov_move rfl) ?_
     refine rd_nil ?_
     refine pn_seq ?_
     refine rc_seq ?_
     refine rc_region ?_
     obtain ⟨v131, e131, r131⟩ := law13_Args.g_Nodes r0
     refine rd_op (ov_faddr rfl e131) ?_
     refine rd_op (ov_load rfl (TR.cnt (tSl api_ExprNode.t) r131) (TR.agg (tSl api_ExprNode.t) r131)) ?_
     refine rd_op (ov_move rfl) ?_
     obtain ⟨v132, e132, r132⟩ := sl_sub (P := Try.prog) (hf := false) (E := [(81, vi x1), (80, v131), (79, .fp v131), (11, vu32 y130), (78, vu32 y130), (77, v129), (76, .fp v129), (75, v128), (74, .fp v128), (73, v127), (72, v0), (71, v121), (70, vb (!decide (y124.2 = 0))), (69, vi y124.2), (10, vi y124.2), (9, vi y124.1), (68, vi y124.2), (67, vi y124.1), (62, .tup [vi y124.1, vi y124.2]), (66, .tup [vi y124.1, vi y124.2]), (65, v123), (64, v0), (63, v121), (8, v121), (61, v121), (60, v119), (59, vi y114), (58, vi x1), (57, v118), (56, .fp v118), (55, vb ((decide (y114 ≤ x1)) || (decide ((x0.Nodes.length : Int) < y114)))), (49, vb (decide (y114 ≤ x1))), (48, vb (decide (y114 ≤ x1))), (47, vi x1), (46, vi y114), (7, vi y114), (45, vi y114), (44, vi x1), (43, v113), (42, .fp v113), (40, vb (((!decide (y107.2 = 0)) || (decide (x1 < 0))) || (decide ((x0.Nodes.length : Int) ≤ x1)))), (34, vb ((!decide (y107.2 = 0)) || (decide (x1 < 0)))), (33, vb ((!decide (y107.2 = 0)) || (decide (x1 < 0)))), (30, vb (!decide (y107.2 = 0))), (29, vb (!decide (y107.2 = 0))), (28, vi y107.2), (6, vi y107.2), (5, vi y107.1), (27, vi y107.2), (26, vi y107.1), (20, .tup [vi y107.1, vi y107.2]), (25, .tup [vi y107.1, vi y107.2]), (24, v106), (23, v0), (22, v104), (21, .fp v104), (18, vb (decide (100 < (x0.Nodes.length : Int)))), (17, vi (x0.Nodes.length : Int)), (16, v101), (15, .fp v101), (4, vb false), (2, .fp v0), (0, v0), (1, vi x1)]) (h := ⟨0, []⟩) (t := api_ExprNode.t) (tt := 32) (x := (.tmp 80)) (lo := none) (hi := (some (.tmp 81))) (a := 0) (b := x1) r131 rfl rfl rfl (show 0 ≤ 0 by omega) (show 0 ≤ x1 by omega) (show x1 ≤ (x0.Nodes.length : Int) by omega) (fun ad => by kernel_rfl)
     have hl132 := sub_len (l := x0.Nodes) (show 0 ≤ 0 by omega) (show 0 ≤ x1 by omega) (show x1 ≤ (x0.Nodes.length : Int) by omega)
     refine rd_op (v := v132) (e132) ?_
     refine rd_op (ov_move rfl) ?_
     refine rd_op (ov_conv (a := vu32 y130) rfl (c_wi Try.underlying50 Try.underlying3)) ?_
     refine rd_op (ov_move rfl) ?_
     refine rd_op (v := .agg [vi 1, vi (y130.toNat : Int), vi y124.1]) (ov_build (cs := [vi 1, vi (y130.toNat : Int), vi y124.1]) rfl rfl) ?_
     refine rd_op (v := .fs true [.agg [vi 1, vi (y130.toNat : Int), vi y124.1]]) (ov_bslice rfl (all_cons rfl all_nil)) ?_
     have r133 : (tSl api_ExprNode.t).R ([({ Op := 1, N := (y130.toNat : Int), W := y124.1 } : api_ExprNode)] : List api_ExprNode) (.fs true [.agg [vi 1, vi (y130.toNat : Int), vi y124.1]]) := sl_fs ⟨rfl, trivial⟩ (by simp)
     obtain ⟨v134, e134, r134⟩ := law13_Args.g_Nodes r0
     refine rd_op (ov_faddr rfl e134) ?_
     refine rd_op (ov_load rfl (TR.cnt (tSl api_ExprNode.t) r134) (TR.agg (tSl api_ExprNode.t) r134)) ?_
     refine rd_op (ov_move rfl) ?_
     obtain ⟨v135, e135, r135⟩ := sl_sub (P := Try.prog) (hf := false) (E := [(90, vi y114), (89, v134), (88, .fp v134), (87, .fs true [.agg [vi 1, vi (y130.toNat : Int), vi y124.1]]), (86, .agg [vi 1, vi (y130.toNat : Int), vi y124.1]), (85, vi y124.1), (84, vi (y130.toNat : Int)), (83, vu32 y130), (82, v132), (81, vi x1), (80, v131), (79, .fp v131), (11, vu32 y130), (78, vu32 y130), (77, v129), (76, .fp v129), (75, v128), (74, .fp v128), (73, v127), (72, v0), (71, v121), (70, vb (!decide (y124.2 = 0))), (69, vi y124.2), (10, vi y124.2), (9, vi y124.1), (68, vi y124.2), (67, vi y124.1), (62, .tup [vi y124.1, vi y124.2]), (66, .tup [vi y124.1, vi y124.2]), (65, v123), (64, v0), (63, v121), (8, v121), (61, v121), (60, v119), (59, vi y114), (58, vi x1), (57, v118), (56, .fp v118), (55, vb ((decide (y114 ≤ x1)) || (decide ((x0.Nodes.length : Int) < y114)))), (49, vb (decide (y114 ≤ x1))), (48, vb (decide (y114 ≤ x1))), (47, vi x1), (46, vi y114), (7, vi y114), (45, vi y114), (44, vi x1), (43, v113), (42, .fp v113), (40, vb (((!decide (y107.2 = 0)) || (decide (x1 < 0))) || (decide ((x0.Nodes.length : Int) ≤ x1)))), (34, vb ((!decide (y107.2 = 0)) || (decide (x1 < 0)))), (33, vb ((!decide (y107.2 = 0)) || (decide (x1 < 0)))), (30, vb (!decide (y107.2 = 0))), (29, vb (!decide (y107.2 = 0))), (28, vi y107.2), (6, vi y107.2), (5, vi y107.1), (27, vi y107.2), (26, vi y107.1), (20, .tup [vi y107.1, vi y107.2]), (25, .tup [vi y107.1, vi y107.2]), (24, v106), (23, v0), (22, v104), (21, .fp v104), (18, vb (decide (100 < (x0.Nodes.length : Int)))), (17, vi (x0.Nodes.length : Int)), (16, v101), (15, .fp v101), (4, vb false), (2, .fp v0), (0, v0), (1, vi x1)]) (h := ⟨0, []⟩) (t := api_ExprNode.t) (tt := 32) (x := (.tmp 89)) (lo := (some (.tmp 90))) (hi := none) (a := y114) (b := (x0.Nodes.length : Int)) r134 rfl rfl rfl (show 0 ≤ y114 by omega) (show y114 ≤ (x0.Nodes.length : Int) by omega) (show (x0.Nodes.length : Int) ≤ (x0.Nodes.length : Int) by omega) (fun ad => by kernel_rfl)
     have hl135 := sub_len (l := x0.Nodes) (show 0 ≤ y114 by omega) (show y114 ≤ (x0.Nodes.length : Int) by omega) (show (x0.Nodes.length : Int) ≤ (x0.Nodes.length : Int) by omega)
     refine rd_op (v := v135) (e135) ?_
     obtain ⟨y136, hw136, hres⟩ := let_ex hres
     obtain ⟨v137, f136, r137⟩ := f10_ok  r132 r133 r135 (by first | assumption | omega | (rw [wr_of (by omega) (by omega)]; omega) | (simp; done) | (simp only [law13_join, List.length_append, List.length_nil, List.length_cons]; omega) | (have hk := (chk_ok (by assumption) (by assumption)).1; omega) | (simp only [List.length_cons, List.length_nil]; omega) | (simp only [List.length_append]; have hk := (chk_ok (by assumption) (by assumption)).1; omega) | (simp only [law13_join, List.length_append, List.length_nil]; have hk := (chk_ok (by assumption) (by assumption)).1; omega)) (by first | assumption | omega | (rw [wr_of (by omega) (by omega)]; omega) | (simp; done) | (simp only [law13_join, List.length_append, List.length_nil, List.length_cons]; omega) | (have hk := (chk_ok (by assumption) (by assumption)).1; omega) | (simp only [List.length_cons, List.length_nil]; omega) | (simp only [List.length_append]; have hk := (chk_ok (by assumption) (by assumption)).1; omega) | (simp only [law13_join, List.length_append, List.length_nil]; have hk := (chk_ok (by assumption) (by assumption)).1; omega)) (by first | assumption | omega | (rw [wr_of (by omega) (by omega)]; omega) | (simp; done) | (simp only [law13_join, List.length_append, List.length_nil, List.length_cons]; omega) | (have hk := (chk_ok (by assumption) (by assumption)).1; omega) | (simp only [List.length_cons, List.length_nil]; omega) | (simp only [List.length_append]; have hk := (chk_ok (by assumption) (by assumption)).1; omega) | (simp only [law13_join, List.length_append, List.length_nil]; have hk := (chk_ok (by assumption) (by assumption)).1; omega))
     rw [hw136] at r137
     refine rd_call (cv_fn rfl rfl (clL_cons (TR.clo (tSl api_ExprNode.t) r132) (clL_cons (TR.clo (tSl api_ExprNode.t) r133) (clL_cons (TR.clo (tSl api_ExprNode.t) r135) clL_nil))) f136) ?_
     refine rd_op (ov_move rfl) ?_
     refine rd_nil ?_
     refine pn_seq ?_
     refine rc_seq ?_
     refine rc_region ?_
     refine rd_op (ov_move rfl) ?_
     refine rd_op (ov_load rfl (TR.cnt law13_Args.t r0) (TR.agg law13_Args.t r0)) ?_
     obtain ⟨y138, hw138, hres⟩ := let_ex hres
     obtain ⟨v139, f138, r139⟩ := f8_ok  r0 
     rw [hw138] at r139
     refine rd_call (cv_fn rfl rfl (clL_cons (TR.clo law13_Args.t r0) clL_nil) f138) ?_
     obtain ⟨y140, hw140, hres⟩ := let_ex hres
     have f140 := f7_ok  r137 r139 
     rw [hw140] at f140
     have ek140 := fun (e : y140.2 = 0) => (chk_ok hw140 e).1
     refine rd_call (cv_fn rfl rfl (clL_cons (TR.clo (tSl api_ExprNode.t) r137) (clL_cons (TR.clo expr_Scope.t r139) clL_nil)) f140) ?_
     refine rd_op (ov_move rfl) ?_
     refine rd_op (ov_extract rfl rfl) ?_
     refine rd_op (ov_extract rfl rfl) ?_
     refine rd_op (ov_move rfl) ?_
     refine rd_op (ov_move rfl) ?_
     refine rd_nil ?_
     refine pn_seq ?_
     refine rc_seq ?_
     refine rc_region ?_
     refine rd_op (ov_move rfl) ?_
     refine rd_op (ov_move rfl) ?_
     refine rd_op (ov_bin rfl rfl i_eql) ?_
     refine rd_op (ov_move rfl) ?_
     refine rd_cut (d := 106) (v := vb ((decide (y140.1 = y107.1)) && (decide (y140.2 = 0)))) ?_ ?_
     ·intro S Q r
      simp only [ac3_G4, List.cons_append, List.nil_append, List.append_assoc]
      cases hb141 : (decide (y140.1 = y107.1))
      ·intro k
       refine rd_skip rfl rfl ?_
       refine rd_skip rfl rfl ?_
       refine rd_op (v := vb false) (ov_pick rfl rfl rfl rfl) ?_
       exact rd_weak (sub_cons rfl (sub_skip rfl (sub_skip rfl (sub_skip rfl (sub_refl _))))) k
      ·intro k
       have hb141' := hb141
       try simp only [qa1, qa2, qa3, qa4, qa5, qa6, qa7, qa8, qa9, qaA, qaB, qaC, qaD] at hb141'
       refine rd_yes rfl rfl (ov_move rfl) ?_
       refine rd_yes rfl rfl (ov_bin rfl rfl i_eql) ?_
       refine rd_op (v := vb (decide (y140.2 = 0))) (ov_pick rfl rfl rfl rfl) ?_
       exact rd_weak (sub_cons rfl (sub_skip rfl (sub_skip rfl (sub_skip rfl (sub_refl _))))) k
     refine rd_op (ov_move rfl) ?_
     refine rd_cut (d := 126) (v := vb (((decide (y140.1 = y107.1)) && (decide (y140.2 = 0))) && (decide ((expr_Eval y136 (m1_law13_Args__scope x0) x0.E x0.Args) = (expr_Eval x0.Nodes (m1_law13_Args__scope x0) x0.E x0.Args))))) ?_ ?_
     ·intro S Q r
      simp only [ac3_G5, List.cons_append, List.nil_append, List.append_assoc]
      cases hb142 : ((decide (y140.1 = y107.1)) && (decide (y140.2 = 0)))
      ·intro k
       refine rd_skip rfl rfl ?_
       refine rd_skip rfl rfl ?_
       refine rd_skip rfl rfl ?_
       refine rd_skip rfl rfl ?_
       refine rd_skip rfl rfl ?_
       refine rd_skip rfl rfl ?_
       refine rd_skip rfl rfl ?_
       refine rd_skip rfl rfl ?_
       refine rd_skip rfl rfl ?_
       refine rd_skip rfl rfl ?_
       refine rd_skip rfl rfl ?_
       refine rd_skip rfl rfl ?_
       refine rd_skip rfl rfl ?_
       refine rd_skip rfl rfl ?_
       refine rd_skip rfl rfl ?_
       refine rd_skip rfl rfl ?_
       refine rd_skip rfl rfl ?_
       refine rd_skip rfl rfl ?_
       refine rd_op (v := vb false) (ov_pick rfl rfl rfl rfl) ?_
       exact rd_weak (sub_cons rfl (sub_skip rfl (sub_skip rfl (sub_skip rfl (sub_skip rfl (sub_skip rfl (sub_skip rfl (sub_skip rfl (sub_skip rfl (sub_skip rfl (sub_skip rfl (sub_skip rfl (sub_skip rfl (sub_skip rfl (sub_skip rfl (sub_skip rfl (sub_skip rfl (sub_skip rfl (sub_skip rfl (sub_skip rfl (sub_refl _))))))))))))))))))))) k
      ·intro k
       have hb142' := hb142
       try simp only [qa1, qa2, qa3, qa4, qa5, qa6, qa7, qa8, qa9, qaA, qaB, qaC, qaD] at hb142'
       refine rd_yes rfl rfl (ov_move rfl) ?_
       refine rd_yes rfl rfl (ov_load rfl (TR.cnt law13_Args.t r0) (TR.agg law13_Args.t r0)) ?_
       obtain ⟨v144, f143, r144⟩ := f8_ok  r0 
       refine rd_ycall rfl rfl (cv_fn rfl rfl (clL_cons (TR.clo law13_Args.t r0) clL_nil) f143) ?_
       obtain ⟨v145, e145, r145⟩ := law13_Args.g_E r0
       refine rd_yes rfl rfl (ov_faddr rfl e145) ?_
       refine rd_yes rfl rfl (ov_load rfl (TR.cnt api_Env.t r145) (TR.agg api_Env.t r145)) ?_
       obtain ⟨v146, e146, r146⟩ := law13_Args.g_Args r0
       refine rd_yes rfl rfl (ov_faddr rfl e146) ?_
       refine rd_yes rfl rfl (ov_load rfl (TR.cnt (tSl tU32) r146) (TR.agg (tSl tU32) r146)) ?_
       have f147 := f11_ok  r137 r144 r145 r146 
       refine rd_ycall rfl rfl (cv_fn rfl rfl (clL_cons (TR.clo (tSl api_ExprNode.t) r137) (clL_cons (TR.clo expr_Scope.t r144) (clL_cons (TR.clo api_Env.t r145) (clL_cons (TR.clo (tSl tU32) r146) clL_nil)))) f147) ?_
       obtain ⟨v148, e148, r148⟩ := law13_Args.g_Nodes r0
       refine rd_yes rfl rfl (ov_faddr rfl e148) ?_
       refine rd_yes rfl rfl (ov_load rfl (TR.cnt (tSl api_ExprNode.t) r148) (TR.agg (tSl api_ExprNode.t) r148)) ?_
       refine rd_yes rfl rfl (ov_load rfl (TR.cnt law13_Args.t r0) (TR.agg law13_Args.t r0)) ?_
       obtain ⟨v150, f149, r150⟩ := f8_ok  r0 
       refine rd_ycall rfl rfl (cv_fn rfl rfl (clL_cons (TR.clo law13_Args.t r0) clL_nil) f149) ?_
       obtain ⟨v151, e151, r151⟩ := law13_Args.g_E r0
       refine rd_yes rfl rfl (ov_faddr rfl e151) ?_
       refine rd_yes rfl rfl (ov_load rfl (TR.cnt api_Env.t r151) (TR.agg api_Env.t r151)) ?_
       obtain ⟨v152, e152, r152⟩ := law13_Args.g_Args r0
       refine rd_yes rfl rfl (ov_faddr rfl e152) ?_
       refine rd_yes rfl rfl (ov_load rfl (TR.cnt (tSl tU32) r152) (TR.agg (tSl tU32) r152)) ?_
       have f153 := f11_ok  r148 r150 r151 r152 
       refine rd_ycall rfl rfl (cv_fn rfl rfl (clL_cons (TR.clo (tSl api_ExprNode.t) r148) (clL_cons (TR.clo expr_Scope.t r150) (clL_cons (TR.clo api_Env.t r151) (clL_cons (TR.clo (tSl tU32) r152) clL_nil)))) f153) ?_
       refine rd_yes rfl rfl (ov_bin (a := vu32 (expr_Eval y136 (m1_law13_Args__scope x0) x0.E x0.Args)) (b := vu32 (expr_Eval x0.Nodes (m1_law13_Args__scope x0) x0.E x0.Args)) rfl rfl w_eql) ?_
       refine rd_op (v := vb (decide ((expr_Eval y136 (m1_law13_Args__scope x0) x0.E x0.Args) = (expr_Eval x0.Nodes (m1_law13_Args__scope x0) x0.E x0.Args)))) (ov_pick rfl rfl rfl rfl) ?_
       exact rd_weak (sub_cons rfl (sub_skip rfl (sub_skip rfl (sub_skip rfl (sub_skip rfl (sub_skip rfl (sub_skip rfl (sub_skip rfl (sub_skip rfl (sub_skip rfl (sub_skip rfl (sub_skip rfl (sub_skip rfl (sub_skip rfl (sub_skip rfl (sub_skip rfl (sub_skip rfl (sub_skip rfl (sub_skip rfl (sub_skip rfl (sub_refl _))))))))))))))))))))) k
     refine rd_op (ov_move rfl) ?_
     refine rd_cut (d := 129) (v := vb ((((decide (y140.1 = y107.1)) && (decide (y140.2 = 0))) && (decide ((expr_Eval y136 (m1_law13_Args__scope x0) x0.E x0.Args) = (expr_Eval x0.Nodes (m1_law13_Args__scope x0) x0.E x0.Args)))) && (law13_awake))) ?_ ?_
     ·intro S Q r
      simp only [ac3_G6, List.cons_append, List.nil_append, List.append_assoc]
      cases hb154 : (((decide (y140.1 = y107.1)) && (decide (y140.2 = 0))) && (decide ((expr_Eval y136 (m1_law13_Args__scope x0) x0.E x0.Args) = (expr_Eval x0.Nodes (m1_law13_Args__scope x0) x0.E x0.Args))))
      ·intro k
       refine rd_skip rfl rfl ?_
       refine rd_op (v := vb false) (ov_pick rfl rfl rfl rfl) ?_
       exact rd_weak (sub_cons rfl (sub_skip rfl (sub_skip rfl (sub_refl _)))) k
      ·intro k
       have hb154' := hb154
       try simp only [qa1, qa2, qa3, qa4, qa5, qa6, qa7, qa8, qa9, qaA, qaB, qaC, qaD] at hb154'
       have f155 := f6_ok   
       refine rd_ycall rfl rfl (cv_fn rfl rfl clL_nil f155) ?_
       refine rd_op (v := vb (law13_awake)) (ov_pick rfl rfl rfl rfl) ?_
       exact rd_weak (sub_cons rfl (sub_skip rfl (sub_skip rfl (sub_refl _)))) k
     refine rd_op (ov_move rfl) ?_
     refine rd_nil ?_
     refine pn_seq ?_
     subst hres
     exact rc_retV (.tmp rfl .nil) (deep_closed rfl) rfl

end Go.Proofs.Ytfekghenlhoamaa
