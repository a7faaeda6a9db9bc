/-
 The code of each function does what its plain program says.
-/
import Derived.Test.YtfekghenlhoamaaGreatL3W1
set_option linter.unusedVariables false
set_option linter.unusedSimpArgs false
set_option maxRecDepth 100000
namespace Go.Proofs.YtfekghenlhoamaaGreat
open Go Go.Pb Go.RowKit
/-- patchbay/expr.truth -/
def RF51 (res : expr_value) (r : PV) : Prop := expr_value.t.R res r
theorem f51_ok {x0 : Bool} : ∃ r, FnR Tryz.prog 51 [vb x0] r ∧ expr_value.t.R (expr_truth x0) r := by
 obtain ⟨res, hres⟩ : ∃ res, expr_truth x0 = res := ⟨_, rfl⟩
 suffices H : RC Tryz.prog ac51 [] (QR Tryz.prog [(2, some (2, true))] (RF51 res)) (argE 0 [vb x0]) ⟨0, []⟩ by
  rw [hres]
  exact fnE text51 (by simp) H
 unfold expr_truth at hres
 unfold ac51
 refine rc_seq ?_
 refine rc_region ?_
 refine rd_allocO (x := .agg [vu32 0#32, vi 0]) (Mem.nil ⟨0, []⟩) rfl rfl (fun i101 w101 h101 M101 => ?_)
 refine rd_nil ?_
 refine pn_seq ?_
 refine rc_seq ?_
 refine rc_seq ?_
 refine rc_region ?_
 refine rd_op (ov_move rfl) ?_
 refine rd_nil ?_
 refine pn_seq ?_
 refine rc_cond rfl (fun hc103 => ?_) (fun hc103 => ?_)
 ·replace hres := (ite_t hc103).symm.trans hres
  have hc103' := hc103
  try simp only [qa1, qa2, qa3, qa4, qa5, qa6, qa7, qa8, qa9, qaA, qaB, qaC, qaD] at hc103'
  refine rc_seq ?_
  refine rc_region ?_
  refine rd_op (v := .agg [vu32 1#32, vi 1]) (ov_build (cs := [vu32 1#32, vi 1]) rfl rfl) ?_
  refine rd_storeO (k := 0) (v := .agg [vu32 1#32, vi 1]) M101 rfl rfl rfl rfl (fun h104 M104 => ?_)
  replace M104 : Mem h104 [⟨.op i101 w101 0, 71, 2, [.agg [vu32 1#32, vi 1]]⟩] := M104
  refine rd_nil ?_
  refine pn_seq ?_
  subst hres
  exact rc_retV (.cell rfl (load_whole (k := 0) M104 rfl rfl) .nil) (deep_closed (TR.clo expr_value.t (show expr_value.t.R ({ v := 1#32, w := 1 } : expr_value) (.agg [vu32 1#32, vi 1]) from rfl))) (show expr_value.t.R ({ v := 1#32, w := 1 } : expr_value) (.agg [vu32 1#32, vi 1]) from rfl)
 ·replace hres := (ite_f hc103).symm.trans hres
  have hc103' := hc103
  try simp only [qa1, qa2, qa3, qa4, qa5, qa6, qa7, qa8, qa9, qaA, qaB, qaC, qaD] at hc103'
  refine rc_skip ?_
  refine pn_seq ?_
  refine rc_seq ?_
  refine rc_region ?_
  refine rd_op (v := .agg [vu32 0#32, vi 1]) (ov_build (cs := [vu32 0#32, vi 1]) rfl rfl) ?_
  refine rd_storeO (k := 0) (v := .agg [vu32 0#32, vi 1]) M101 rfl rfl rfl rfl (fun h105 M105 => ?_)
  replace M105 : Mem h105 [⟨.op i101 w101 0, 71, 2, [.agg [vu32 0#32, vi 1]]⟩] := M105
  refine rd_nil ?_
  refine pn_seq ?_
  subst hres
  exact rc_retV (.cell rfl (load_whole (k := 0) M105 rfl rfl) .nil) (deep_closed (TR.clo expr_value.t (show expr_value.t.R ({ v := 0#32, w := 1 } : expr_value) (.agg [vu32 0#32, vi 1]) from rfl))) (show expr_value.t.R ({ v := 0#32, w := 1 } : expr_value) (.agg [vu32 0#32, vi 1]) from rfl)

/-- patchbay/expr.binary -/
def RF29 (res : expr_value) (r : PV) : Prop := expr_value.t.R res r
theorem f29_ok {x0 : Int} {x1 : expr_value} {x2 : expr_value} {v1 : PV} {v2 : PV} (r1 : expr_value.t.R x1 v1) (r2 : expr_value.t.R x2 v2) : ∃ r, FnR Tryz.prog 29 [vi x0, v1, v2] r ∧ expr_value.t.R (expr_binary x0 x1 x2) r := by
 obtain ⟨res, hres⟩ : ∃ res, expr_binary x0 x1 x2 = res := ⟨_, rfl⟩
 suffices H : RC Tryz.prog ac29 [] (QR Tryz.prog [(6, some (2, true))] (RF29 res)) (argE 0 [vi x0, v1, v2]) ⟨0, []⟩ by
  rw [hres]
  exact fnE text29 (by simp) H
 unfold expr_binary at hres
 unfold ac29
 refine rc_seq ?_
 refine rc_region ?_
 refine rd_op (ov_box rfl (TR.cnt expr_value.t r1)) ?_
 refine rd_op (ov_box rfl (TR.cnt expr_value.t r2)) ?_
 refine rd_allocO (x := .agg [vu32 0#32, vi 0]) (Mem.nil ⟨0, []⟩) rfl rfl (fun i101 w101 h101 M101 => ?_)
 refine rd_nil ?_
 refine pn_seq ?_
 refine rc_seq ?_
 refine rc_seq ?_
 refine rc_region ?_
 refine rd_op (ov_move rfl) ?_
 refine rd_nil ?_
 refine pn_seq ?_
 refine rc_block ?_
 refine rc_seq ?_
 refine rc_region ?_
 refine rd_op (ov_bin rfl rfl i_eql) ?_
 refine rd_op (ov_move rfl) ?_
 refine rd_nil ?_
 refine pn_seq ?_
 refine rc_cond rfl (fun hc103 => ?_) (fun hc103 => ?_)
 ·replace hres := (ite_t hc103).symm.trans hres
  have hc103' := hc103
  try simp only [qa1, qa2, qa3, qa4, qa5, qa6, qa7, qa8, qa9, qaA, qaB, qaC, qaD] at hc103'
  refine rc_seq ?_
  refine rc_region ?_
  refine rd_op (ov_faddr rfl (expr_value.g_v r1)) ?_
  refine rd_op (ov_load rfl rfl rfl) ?_
  refine rd_op (ov_faddr rfl (expr_value.g_v r2)) ?_
  refine rd_op (ov_load rfl rfl rfl) ?_
  refine rd_op (ov_faddr rfl (expr_value.g_w r1)) ?_
  refine rd_op (ov_load rfl rfl rfl) ?_
  obtain ⟨y104, hw104, hres⟩ := let_ex hres
  have f104 := f48_ok (x0 := x1.v) (x1 := x2.v) (x2 := x1.w)  
  rw [hw104] at f104
  refine rd_call (cv_fn rfl rfl (clL_cons rfl (clL_cons rfl (clL_cons rfl clL_nil))) f104) ?_
  refine rd_op (ov_faddr rfl (expr_value.g_w r1)) ?_
  refine rd_op (ov_load rfl rfl rfl) ?_
  refine rd_op (v := .agg [vu32 y104, vi x1.w]) (ov_build (cs := [vu32 y104, vi x1.w]) rfl rfl) ?_
  refine rd_storeO (k := 0) (v := .agg [vu32 y104, vi x1.w]) M101 rfl rfl rfl rfl (fun h105 M105 => ?_)
  replace M105 : Mem h105 [⟨.op i101 w101 0, 71, 2, [.agg [vu32 y104, vi x1.w]]⟩] := M105
  refine rd_nil ?_
  refine pn_seq ?_
  subst hres
  exact rc_retV (.cell rfl (load_whole (k := 0) M105 rfl rfl) .nil) (deep_closed (TR.clo expr_value.t (show expr_value.t.R ({ v := y104, w := x1.w } : expr_value) (.agg [vu32 y104, vi x1.w]) from rfl))) (show expr_value.t.R ({ v := y104, w := x1.w } : expr_value) (.agg [vu32 y104, vi x1.w]) from rfl)
 ·replace hres := (ite_f hc103).symm.trans hres
  have hc103' := hc103
  try simp only [qa1, qa2, qa3, qa4, qa5, qa6, qa7, qa8, qa9, qaA, qaB, qaC, qaD] at hc103'
  refine rc_seq ?_
  refine rc_region ?_
  refine rd_op (ov_bin rfl rfl i_eql) ?_
  refine rd_op (ov_move rfl) ?_
  refine rd_nil ?_
  refine pn_seq ?_
  refine rc_cond rfl (fun hc106 => ?_) (fun hc106 => ?_)
  ·replace hres := (ite_t hc106).symm.trans hres
   have hc106' := hc106
   try simp only [qa1, qa2, qa3, qa4, qa5, qa6, qa7, qa8, qa9, qaA, qaB, qaC, qaD] at hc106'
   refine rc_seq ?_
   refine rc_region ?_
   refine rd_op (ov_faddr rfl (expr_value.g_v r1)) ?_
   refine rd_op (ov_load rfl rfl rfl) ?_
   refine rd_op (ov_faddr rfl (expr_value.g_v r2)) ?_
   refine rd_op (ov_load rfl rfl rfl) ?_
   refine rd_op (ov_faddr rfl (expr_value.g_w r1)) ?_
   refine rd_op (ov_load rfl rfl rfl) ?_
   obtain ⟨y107, hw107, hres⟩ := let_ex hres
   have f107 := f49_ok (x0 := x1.v) (x1 := x2.v) (x2 := x1.w)  
   rw [hw107] at f107
   refine rd_call (cv_fn rfl rfl (clL_cons rfl (clL_cons rfl (clL_cons rfl clL_nil))) f107) ?_
   refine rd_op (ov_faddr rfl (expr_value.g_w r1)) ?_
   refine rd_op (ov_load rfl rfl rfl) ?_
   refine rd_op (v := .agg [vu32 y107, vi x1.w]) (ov_build (cs := [vu32 y107, vi x1.w]) rfl rfl) ?_
   refine rd_storeO (k := 0) (v := .agg [vu32 y107, vi x1.w]) M101 rfl rfl rfl rfl (fun h108 M108 => ?_)
   replace M108 : Mem h108 [⟨.op i101 w101 0, 71, 2, [.agg [vu32 y107, vi x1.w]]⟩] := M108
   refine rd_nil ?_
   refine pn_seq ?_
   subst hres
   exact rc_retV (.cell rfl (load_whole (k := 0) M108 rfl rfl) .nil) (deep_closed (TR.clo expr_value.t (show expr_value.t.R ({ v := y107, w := x1.w } : expr_value) (.agg [vu32 y107, vi x1.w]) from rfl))) (show expr_value.t.R ({ v := y107, w := x1.w } : expr_value) (.agg [vu32 y107, vi x1.w]) from rfl)
  ·replace hres := (ite_f hc106).symm.trans hres
   have hc106' := hc106
   try simp only [qa1, qa2, qa3, qa4, qa5, qa6, qa7, qa8, qa9, qaA, qaB, qaC, qaD] at hc106'
   refine rc_seq ?_
   refine rc_region ?_
   refine rd_op (ov_bin rfl rfl i_eql) ?_
   refine rd_op (ov_move rfl) ?_
   refine rd_nil ?_
   refine pn_seq ?_
   refine rc_cond rfl (fun hc109 => ?_) (fun hc109 => ?_)
   ·replace hres := (ite_t hc109).symm.trans hres
    have hc109' := hc109
    try simp only [qa1, qa2, qa3, qa4, qa5, qa6, qa7, qa8, qa9, qaA, qaB, qaC, qaD] at hc109'
    refine rc_seq ?_
    refine rc_region ?_
    refine rd_op (ov_faddr rfl (expr_value.g_v r1)) ?_
    refine rd_op (ov_load rfl rfl rfl) ?_
    refine rd_op (ov_faddr rfl (expr_value.g_v r2)) ?_
    refine rd_op (ov_load rfl rfl rfl) ?_
    refine rd_op (ov_bin (a := vu32 x1.v) (b := vu32 x2.v) rfl rfl w_and) ?_
    refine rd_op (ov_faddr rfl (expr_value.g_w r1)) ?_
    refine rd_op (ov_load rfl rfl rfl) ?_
    refine rd_op (v := .agg [vu32 (x1.v &&& x2.v), vi x1.w]) (ov_build (cs := [vu32 (x1.v &&& x2.v), vi x1.w]) rfl rfl) ?_
    refine rd_storeO (k := 0) (v := .agg [vu32 (x1.v &&& x2.v), vi x1.w]) M101 rfl rfl rfl rfl (fun h110 M110 => ?_)
    replace M110 : Mem h110 [⟨.op i101 w101 0, 71, 2, [.agg [vu32 (x1.v &&& x2.v), vi x1.w]]⟩] := M110
    refine rd_nil ?_
    refine pn_seq ?_
    subst hres
    exact rc_retV (.cell rfl (load_whole (k := 0) M110 rfl rfl) .nil) (deep_closed (TR.clo expr_value.t (show expr_value.t.R ({ v := (x1.v &&& x2.v), w := x1.w } : expr_value) (.agg [vu32 (x1.v &&& x2.v), vi x1.w]) from rfl))) (show expr_value.t.R ({ v := (x1.v &&& x2.v), w := x1.w } : expr_value) (.agg [vu32 (x1.v &&& x2.v), vi x1.w]) from rfl)
   ·replace hres := (ite_f hc109).symm.trans hres
    have hc109' := hc109
    try simp only [qa1, qa2, qa3, qa4, qa5, qa6, qa7, qa8, qa9, qaA, qaB, qaC, qaD] at hc109'
    refine rc_seq ?_
    refine rc_region ?_
    refine rd_op (ov_bin rfl rfl i_eql) ?_
    refine rd_op (ov_move rfl) ?_
    refine rd_nil ?_
    refine pn_seq ?_
    refine rc_cond rfl (fun hc111 => ?_) (fun hc111 => ?_)
    ·replace hres := (ite_t hc111).symm.trans hres
     have hc111' := hc111
     try simp only [qa1, qa2, qa3, qa4, qa5, qa6, qa7, qa8, qa9, qaA, qaB, qaC, qaD] at hc111'
     refine rc_seq ?_
     refine rc_region ?_
     refine rd_op (ov_faddr rfl (expr_value.g_v r1)) ?_
     refine rd_op (ov_load rfl rfl rfl) ?_
     refine rd_op (ov_faddr rfl (expr_value.g_v r2)) ?_
     refine rd_op (ov_load rfl rfl rfl) ?_
     refine rd_op (ov_bin (a := vu32 x1.v) (b := vu32 x2.v) rfl rfl w_or) ?_
     refine rd_op (ov_faddr rfl (expr_value.g_w r1)) ?_
     refine rd_op (ov_load rfl rfl rfl) ?_
     refine rd_op (v := .agg [vu32 (x1.v ||| x2.v), vi x1.w]) (ov_build (cs := [vu32 (x1.v ||| x2.v), vi x1.w]) rfl rfl) ?_
     refine rd_storeO (k := 0) (v := .agg [vu32 (x1.v ||| x2.v), vi x1.w]) M101 rfl rfl rfl rfl (fun h112 M112 => ?_)
     replace M112 : Mem h112 [⟨.op i101 w101 0, 71, 2, [.agg [vu32 (x1.v ||| x2.v), vi x1.w]]⟩] := M112
     refine rd_nil ?_
     refine pn_seq ?_
     subst hres
     exact rc_retV (.cell rfl (load_whole (k := 0) M112 rfl rfl) .nil) (deep_closed (TR.clo expr_value.t (show expr_value.t.R ({ v := (x1.v ||| x2.v), w := x1.w } : expr_value) (.agg [vu32 (x1.v ||| x2.v), vi x1.w]) from rfl))) (show expr_value.t.R ({ v := (x1.v ||| x2.v), w := x1.w } : expr_value) (.agg [vu32 (x1.v ||| x2.v), vi x1.w]) from rfl)
    ·replace hres := (ite_f hc111).symm.trans hres
     have hc111' := hc111
     try simp only [qa1, qa2, qa3, qa4, qa5, qa6, qa7, qa8, qa9, qaA, qaB, qaC, qaD] at hc111'
     refine rc_seq ?_
     refine rc_region ?_
     refine rd_op (ov_bin rfl rfl i_eql) ?_
     refine rd_op (ov_move rfl) ?_
     refine rd_nil ?_
     refine pn_seq ?_
     refine rc_cond rfl (fun hc113 => ?_) (fun hc113 => ?_)
     ·replace hres := (ite_t hc113).symm.trans hres
      have hc113' := hc113
      try simp only [qa1, qa2, qa3, qa4, qa5, qa6, qa7, qa8, qa9, qaA, qaB, qaC, qaD] at hc113'
      refine rc_seq ?_
      refine rc_region ?_
      refine rd_op (ov_faddr rfl (expr_value.g_v r1)) ?_
      refine rd_op (ov_load rfl rfl rfl) ?_
      refine rd_op (ov_faddr rfl (expr_value.g_v r2)) ?_
      refine rd_op (ov_load rfl rfl rfl) ?_
      refine rd_op (ov_bin (a := vu32 x1.v) (b := vu32 x2.v) rfl rfl w_xor) ?_
      refine rd_op (ov_faddr rfl (expr_value.g_w r1)) ?_
      refine rd_op (ov_load rfl rfl rfl) ?_
      refine rd_op (v := .agg [vu32 (x1.v ^^^ x2.v), vi x1.w]) (ov_build (cs := [vu32 (x1.v ^^^ x2.v), vi x1.w]) rfl rfl) ?_
      refine rd_storeO (k := 0) (v := .agg [vu32 (x1.v ^^^ x2.v), vi x1.w]) M101 rfl rfl rfl rfl (fun h114 M114 => ?_)
      replace M114 : Mem h114 [⟨.op i101 w101 0, 71, 2, [.agg [vu32 (x1.v ^^^ x2.v), vi x1.w]]⟩] := M114
      refine rd_nil ?_
      refine pn_seq ?_
      subst hres
      exact rc_retV (.cell rfl (load_whole (k := 0) M114 rfl rfl) .nil) (deep_closed (TR.clo expr_value.t (show expr_value.t.R ({ v := (x1.v ^^^ x2.v), w := x1.w } : expr_value) (.agg [vu32 (x1.v ^^^ x2.v), vi x1.w]) from rfl))) (show expr_value.t.R ({ v := (x1.v ^^^ x2.v), w := x1.w } : expr_value) (.agg [vu32 (x1.v ^^^ x2.v), vi x1.w]) from rfl)
     ·replace hres := (ite_f hc113).symm.trans hres
      have hc113' := hc113
      try simp only [qa1, qa2, qa3, qa4, qa5, qa6, qa7, qa8, qa9, qaA, qaB, qaC, qaD] at hc113'
      refine rc_seq ?_
      refine rc_region ?_
      refine rd_op (ov_bin rfl rfl i_eql) ?_
      refine rd_op (ov_move rfl) ?_
      refine rd_nil ?_
      refine pn_seq ?_
      refine rc_cond rfl (fun hc115 => ?_) (fun hc115 => ?_)
      ·replace hres := (ite_t hc115).symm.trans hres
       have hc115' := hc115
       try simp only [qa1, qa2, qa3, qa4, qa5, qa6, qa7, qa8, qa9, qaA, qaB, qaC, qaD] at hc115'
       refine rc_seq ?_
       refine rc_region ?_
       refine rd_op (ov_faddr rfl (expr_value.g_v r1)) ?_
       refine rd_op (ov_load rfl rfl rfl) ?_
       refine rd_op (ov_faddr rfl (expr_value.g_w r1)) ?_
       refine rd_op (ov_load rfl rfl rfl) ?_
       refine rd_op (ov_faddr rfl (expr_value.g_v r2)) ?_
       refine rd_op (ov_load rfl rfl rfl) ?_
       refine rd_op (ov_faddr rfl (expr_value.g_w r2)) ?_
       refine rd_op (ov_load rfl rfl rfl) ?_
       obtain ⟨y116, hw116, hres⟩ := let_ex hres
       have f116 := f50_ok (x0 := x1.v) (x1 := x1.w) (x2 := x2.v) (x3 := x2.w)  
       rw [hw116] at f116
       refine rd_call (cv_fn rfl rfl (clL_cons rfl (clL_cons rfl (clL_cons rfl (clL_cons rfl clL_nil)))) f116) ?_
       refine rd_op (ov_move rfl) ?_
       refine rd_op (ov_extract rfl rfl) ?_
       refine rd_op (ov_extract rfl rfl) ?_
       refine rd_op (ov_move rfl) ?_
       refine rd_op (ov_move rfl) ?_
       refine rd_nil ?_
       refine pn_seq ?_
       refine rc_seq ?_
       refine rc_region ?_
       refine rd_op (ov_move rfl) ?_
       refine rd_op (ov_faddr rfl (expr_value.g_w r1)) ?_
       refine rd_op (ov_load rfl rfl rfl) ?_
       refine rd_op (ov_faddr rfl (expr_value.g_w r2)) ?_
       refine rd_op (ov_load rfl rfl rfl) ?_
       refine rd_op (ov_bin rfl rfl i_add) ?_
       refine rd_op (v := .agg [vu32 y116.1, vi (wr (x1.w + x2.w))]) (ov_build (cs := [vu32 y116.1, vi (wr (x1.w + x2.w))]) rfl rfl) ?_
       refine rd_storeO (k := 0) (v := .agg [vu32 y116.1, vi (wr (x1.w + x2.w))]) M101 rfl rfl rfl rfl (fun h117 M117 => ?_)
       replace M117 : Mem h117 [⟨.op i101 w101 0, 71, 2, [.agg [vu32 y116.1, vi (wr (x1.w + x2.w))]]⟩] := M117
       refine rd_nil ?_
       refine pn_seq ?_
       subst hres
       exact rc_retV (.cell rfl (load_whole (k := 0) M117 rfl rfl) .nil) (deep_closed (TR.clo expr_value.t (show expr_value.t.R ({ v := y116.1, w := (wr (x1.w + x2.w)) } : expr_value) (.agg [vu32 y116.1, vi (wr (x1.w + x2.w))]) from rfl))) (show expr_value.t.R ({ v := y116.1, w := (wr (x1.w + x2.w)) } : expr_value) (.agg [vu32 y116.1, vi (wr (x1.w + x2.w))]) from rfl)
      ·replace hres := (ite_f hc115).symm.trans hres
       have hc115' := hc115
       try simp only [qa1, qa2, qa3, qa4, qa5, qa6, qa7, qa8, qa9, qaA, qaB, qaC, qaD] at hc115'
       refine rc_seq ?_
       refine rc_region ?_
       refine rd_op (ov_bin rfl rfl i_eql) ?_
       refine rd_op (ov_move rfl) ?_
       refine rd_nil ?_
       refine pn_seq ?_
       refine rc_cond rfl (fun hc118 => ?_) (fun hc118 => ?_)
       ·replace hres := (ite_t hc118).symm.trans hres
        have hc118' := hc118
        try simp only [qa1, qa2, qa3, qa4, qa5, qa6, qa7, qa8, qa9, qaA, qaB, qaC, qaD] at hc118'
        refine rc_seq ?_
        refine rc_region ?_
        refine rd_op (ov_faddr rfl (expr_value.g_v r1)) ?_
        refine rd_op (ov_load rfl rfl rfl) ?_
        refine rd_op (ov_faddr rfl (expr_value.g_v r2)) ?_
        refine rd_op (ov_load rfl rfl rfl) ?_
        refine rd_op (ov_bin (a := vu32 x1.v) (b := vu32 x2.v) rfl rfl w_eql) ?_
        obtain ⟨y119, hw119, hres⟩ := let_ex hres
        obtain ⟨v120, f119, r120⟩ := f51_ok (x0 := (decide (x1.v = x2.v)))  
        rw [hw119] at r120
        refine rd_call (cv_fn rfl rfl (clL_cons rfl clL_nil) f119) ?_
        refine rd_storeO (k := 0) (v := v120) M101 rfl rfl rfl (TR.cnt expr_value.t r120) (fun h121 M121 => ?_)
        replace M121 : Mem h121 [⟨.op i101 w101 0, 71, 2, [v120]⟩] := M121
        refine rd_nil ?_
        refine pn_seq ?_
        subst hres
        exact rc_retV (.cell rfl (load_whole (k := 0) M121 rfl (TR.agg expr_value.t r120)) .nil) (deep_closed (TR.clo expr_value.t r120)) r120
       ·replace hres := (ite_f hc118).symm.trans hres
        have hc118' := hc118
        try simp only [qa1, qa2, qa3, qa4, qa5, qa6, qa7, qa8, qa9, qaA, qaB, qaC, qaD] at hc118'
        refine rc_skip ?_
        refine pn_blk ?_
        refine pn_seq ?_
        refine rc_seq ?_
        refine rc_region ?_
        refine rd_op (ov_faddr rfl (expr_value.g_v r1)) ?_
        refine rd_op (ov_load rfl rfl rfl) ?_
        refine rd_op (ov_faddr rfl (expr_value.g_v r2)) ?_
        refine rd_op (ov_load rfl rfl rfl) ?_
        refine rd_op (ov_bin (a := vu32 x1.v) (b := vu32 x2.v) rfl rfl w_lss) ?_
        obtain ⟨y122, hw122, hres⟩ := let_ex hres
        obtain ⟨v123, f122, r123⟩ := f51_ok (x0 := (decide (x1.v < x2.v)))  
        rw [hw122] at r123
        refine rd_call (cv_fn rfl rfl (clL_cons rfl clL_nil) f122) ?_
        refine rd_storeO (k := 0) (v := v123) M101 rfl rfl rfl (TR.cnt expr_value.t r123) (fun h124 M124 => ?_)
        replace M124 : Mem h124 [⟨.op i101 w101 0, 71, 2, [v123]⟩] := M124
        refine rd_nil ?_
        refine pn_seq ?_
        subst hres
        exact rc_retV (.cell rfl (load_whole (k := 0) M124 rfl (TR.agg expr_value.t r123)) .nil) (deep_closed (TR.clo expr_value.t r123)) r123

/-- (*patchbay/expr.machine).eval -/
def RF15 (i0_ w0_ : Nat) (R_ : List Ent) (res : expr_value × expr_machine) (r : PV) (h : Heap) : Prop := ∃ uF0 : PV, ∃ c0_ : PV, Mem h (⟨.op i0_ w0_ 0, 69, 17, [uF0]⟩ :: R_) ∧ (expr_machine.t.R res.2 uF0) ∧ r = c0_ ∧ expr_value.t.R res.1 c0_
theorem f15_okB {rec_ : expr_machine → (expr_value × expr_machine)} {mu_ : Nat} {x0 : expr_machine} {u0_ : PV} {R_ : List Ent} {h_ : Heap} {i0_ w0_ : Nat} (ru0_ : expr_machine.t.R x0 u0_) (M_ : Mem h_ (⟨.op i0_ w0_ 0, 69, 17, [u0_]⟩ :: R_)) (hv : VE x0) (hmu : mu_ = x0.nodes.length - x0.next.toNat) (hrec : HR rec_) (ihR : ∀ {z0 : expr_machine} {u0_ : PV} {R_ : List Ent} {h_ : Heap} {i0_ w0_ : Nat} (ru0_ : expr_machine.t.R z0 u0_) (M_ : Mem h_ (⟨.op i0_ w0_ 0, 69, 17, [u0_]⟩ :: R_)) (hv : VE z0), z0.nodes.length - z0.next.toNat < mu_ → ∃ r h2_, FnX Tryz.prog 15 [.op i0_ w0_ 0] h_ r h2_ ∧ RF15 i0_ w0_ R_ (rec_ z0) r h2_) : ∃ r h2_, FnX Tryz.prog 15 [.op i0_ w0_ 0] h_ r h2_ ∧ RF15 i0_ w0_ R_ (m2_expr_machine__eval_B rec_ x0) r h2_ := by
 obtain ⟨res, hres⟩ : ∃ res, m2_expr_machine__eval_B rec_ x0 = res := ⟨_, rfl⟩
 suffices H : RC Tryz.prog ac15 [] (retPost Tryz.prog [(2, some (2, true))] (RF15 i0_ w0_ R_ res)) (argE 0 [.op i0_ w0_ 0]) h_ by
  rw [hres]
  exact fnX text15 (by simp) H
 unfold m2_expr_machine__eval_B at hres
 unfold ac15
 refine rc_seq ?_
 refine rc_region ?_
 refine rd_allocO (x := .agg [vu32 0#32, vi 0]) M_ rfl rfl (fun i101 w101 h101 M101 => ?_)
 refine rd_nil ?_
 refine pn_seq ?_
 refine rc_seq ?_
 refine rc_region ?_
 refine rd_op (ov_move rfl) ?_
 refine rd_op (ov_nilCheck rfl rfl) ?_
 refine rd_op (ov_faddrO rfl) ?_
 obtain ⟨v103, e103, r103⟩ := expr_machine.g_nodes ru0_
 refine rd_op (ov_loadf (k := 1) M101 rfl rfl e103) ?_
 refine rd_op (ov_move rfl) ?_
 refine rd_op (ov_nilCheck rfl rfl) ?_
 refine rd_op (ov_faddrO rfl) ?_
 refine rd_op (ov_loadf (k := 1) M101 rfl rfl (expr_machine.g_next ru0_)) ?_
 obtain ⟨v104, e104, r104⟩ := sl_idx (i := x0.next) r103 (by first | omega | exact (ve_lt hv).1 | exact (ve_lt hv).2) (by first | omega | exact (ve_lt hv).1 | exact (ve_lt hv).2)
 refine rd_op (ov_iaddr rfl rfl e104) ?_
 refine rd_op (ov_load rfl (TR.cnt api_ExprNode.t r104) (TR.agg api_ExprNode.t r104)) ?_
 refine rd_allocO (x := .agg [vi 0, vi 0, vi 0]) M101 rfl rfl (fun i105 w105 h105 M105 => ?_)
 refine rd_storeO (k := 0) (v := v104) M105 rfl rfl rfl (TR.cnt api_ExprNode.t r104) (fun h107 M107 => ?_)
 replace M107 : Mem h107 (⟨.op i105 w105 0, 55, 3, [v104]⟩ :: ⟨.op i101 w101 0, 71, 2, [.agg [vu32 0#32, vi 0]]⟩ :: ⟨.op i0_ w0_ 0, 69, 17, [u0_]⟩ :: R_) := M107
 refine rd_nil ?_
 refine pn_seq ?_
 refine rc_seq ?_
 refine rc_regionS ?_
 refine rs_step ?_
 refine rd_op (ov_move rfl) ?_
 refine rs_back ?_
 refine rs_step ?_
 refine rd_op (ov_nilCheck rfl rfl) ?_
 refine rs_back ?_
 refine rs_step ?_
 refine rd_op (ov_faddrO rfl) ?_
 refine rs_back ?_
 refine rs_step ?_
 refine rd_op (ov_loadf (k := 2) M107 rfl rfl (expr_machine.g_next ru0_)) ?_
 refine rs_back ?_
 refine rs_step ?_
 refine rd_op (ov_bin rfl rfl i_add) ?_
 refine rs_back ?_
 refine rs_step ?_
 refine rd_op (ov_nilCheck rfl rfl) ?_
 refine rs_back ?_
 refine rs_step ?_
 refine rd_op (ov_faddrO rfl) ?_
 refine rs_back ?_
 refine rs_step ?_
 obtain ⟨v109_c1, v109_c2, v109_c3, v109_c4, v109_c5, v109_c6, v109_c7, v109_c8, v109_c9, v109_c10, v109_c11, v109_c12, v109_c13, v109_c14, v109_c15, e109, r109_c1, r109_c2, r109_c3, r109_c4, r109_c5, r109_c6, r109_c7, r109_c8, r109_c9, r109_c10, r109_c11, r109_c12, r109_c13, r109_c14, r109_c15⟩ := ru0_
 subst e109
 refine rd_storeF (k := 2) (v := vi (wr (x0.next + 1))) M107 rfl rfl rfl rfl rfl (by first | decide | (simp only [List.length_cons, List.length_nil]; omega) | simp) (fun h108 M108 => ?_)
 replace M108 : Mem h108 (⟨.op i105 w105 0, 55, 3, [v104]⟩ :: ⟨.op i101 w101 0, 71, 2, [.agg [vu32 0#32, vi 0]]⟩ :: ⟨.op i0_ w0_ 0, 69, 17, [.agg [vs x0.scope.Program.Name, v109_c1, v109_c2, v109_c3, v109_c4, v109_c5, v109_c6, v109_c7, v109_c8, v109_c9, v109_c10, v109_c11, v109_c12, v109_c13, v109_c14, v109_c15, vi (wr (x0.next + 1))]]⟩ :: R_) := M108
 refine rs_back ?_
 refine rs_freezeP (k := 0) (E' := [(25, .op i0_ w0_ (0 + 16)), (24, .op i0_ w0_ 0), (23, vi (wr (x0.next + 1))), (22, vi x0.next), (21, .op i0_ w0_ (0 + 16)), (20, .op i0_ w0_ 0), (19, .op i0_ w0_ 0), (3, .fp v104), (18, v104), (17, .fp v104), (16, vi x0.next), (15, .op i0_ w0_ (0 + 16)), (14, .op i0_ w0_ 0), (13, .op i0_ w0_ 0), (12, v103), (11, .op i0_ w0_ (0 + 15)), (10, .op i0_ w0_ 0), (9, .op i0_ w0_ 0), (2, .op i101 w101 0), (0, .op i0_ w0_ 0)]) M108 rfl (frz_keep rfl (frz_keep rfl (frz_keep rfl (frz_keep rfl (frz_keep rfl (frz_keep rfl (frz_keep rfl (frz_turn rfl (frz_keep rfl (frz_keep rfl (frz_keep rfl (frz_keep rfl (frz_keep rfl (frz_keep rfl (frz_keep rfl (frz_keep rfl (frz_keep rfl (frz_keep rfl (frz_keep rfl (frz_keep rfl frz_nil)))))))))))))))))))) (fun h110 M110 => ?_)
 replace M110 : Mem h110 (⟨.op i101 w101 0, 71, 2, [.agg [vu32 0#32, vi 0]]⟩ :: ⟨.op i0_ w0_ 0, 69, 17, [.agg [vs x0.scope.Program.Name, v109_c1, v109_c2, v109_c3, v109_c4, v109_c5, v109_c6, v109_c7, v109_c8, v109_c9, v109_c10, v109_c11, v109_c12, v109_c13, v109_c14, v109_c15, vi (wr (x0.next + 1))]]⟩ :: R_) := M110
 refine rs_nil ?_
 refine pn_seq ?_
 refine rc_seq ?_
 refine rc_seq ?_
 refine rc_region ?_
 refine rd_op (ov_faddr rfl (api_ExprNode.g_Op r104)) ?_
 refine rd_op (ov_load rfl rfl rfl) ?_
 obtain ⟨y111, hw111, hres⟩ := let_ex hres
 have f111 := f19_ok (x0 := (ix x0.nodes x0.next).Op)  
 rw [hw111] at f111
 refine rd_call (cv_fn rfl rfl (clL_cons rfl clL_nil) f111) ?_
 refine rd_nil ?_
 refine pn_seq ?_
 refine rc_block ?_
 refine rc_seq ?_
 refine rc_region ?_
 refine rd_op (ov_bin rfl rfl i_eql) ?_
 refine rd_op (ov_move rfl) ?_
 refine rd_nil ?_
 refine pn_seq ?_
 refine rc_cond rfl (fun hc112 => ?_) (fun hc112 => ?_)
 ·replace hres := (ite_t hc112).symm.trans hres
  have hc112' := hc112
  try simp only [qa1, qa2, qa3, qa4, qa5, qa6, qa7, qa8, qa9, qaA, qaB, qaC, qaD] at hc112'
  refine rc_seq ?_
  refine rc_regionS ?_
  refine rs_step ?_
  refine rd_op (ov_move rfl) ?_
  refine rs_back ?_
  refine rs_step ?_
  refine rd_op (ov_load rfl (TR.cnt api_ExprNode.t r104) (TR.agg api_ExprNode.t r104)) ?_
  refine rs_back ?_
  have M113 : Mem h110 (⟨.op i0_ w0_ 0, 69, 17, [.agg [vs x0.scope.Program.Name, v109_c1, v109_c2, v109_c3, v109_c4, v109_c5, v109_c6, v109_c7, v109_c8, v109_c9, v109_c10, v109_c11, v109_c12, v109_c13, v109_c14, v109_c15, vi (wr (x0.next + 1))]]⟩ :: ⟨.op i101 w101 0, 71, 2, [.agg [vu32 0#32, vi 0]]⟩ :: R_) := (Mem.front (k := 1) M110 rfl)
  obtain ⟨y113, hw113, hres⟩ := let_ex hres
  obtain ⟨vr113, h115, hX113, hZ113⟩ := f27_ok (x0 := ({ scope := x0.scope, env := x0.env, args := x0.args, nodes := x0.nodes, next := (wr (x0.next + 1)) } : expr_machine)) (x1 := (ix x0.nodes x0.next)) r104 (show expr_machine.t.R ({ scope := x0.scope, env := x0.env, args := x0.args, nodes := x0.nodes, next := (wr (x0.next + 1)) } : expr_machine) (.agg [vs x0.scope.Program.Name, v109_c1, v109_c2, v109_c3, v109_c4, v109_c5, v109_c6, v109_c7, v109_c8, v109_c9, v109_c10, v109_c11, v109_c12, v109_c13, v109_c14, v109_c15, vi (wr (x0.next + 1))]) from ⟨v109_c1, v109_c2, v109_c3, v109_c4, v109_c5, v109_c6, v109_c7, v109_c8, v109_c9, v109_c10, v109_c11, v109_c12, v109_c13, v109_c14, v109_c15, rfl, r109_c1, r109_c2, r109_c3, r109_c4, r109_c5, r109_c6, r109_c7, r109_c8, r109_c9, r109_c10, r109_c11, r109_c12, r109_c13, r109_c14, r109_c15⟩) M113 (by exact evp hv (by assumption) (by assumption))
  rw [hw113] at hZ113
  obtain ⟨u113_0, v114, M115, ru113_0, hr113, r114⟩ := hZ113
  replace hr113 := hr113.symm; subst hr113
  refine rs_callXc rfl rfl hX113 ?_
  refine rs_step ?_
  refine rd_storeO (k := 1) (v := v114) M115 rfl rfl rfl (TR.cnt expr_value.t r114) (fun h116 M116 => ?_)
  replace M116 : Mem h116 (⟨.op i0_ w0_ 0, 69, 17, [u113_0]⟩ :: ⟨.op i101 w101 0, 71, 2, [v114]⟩ :: R_) := M116
  refine rs_back ?_
  refine rs_nil ?_
  refine pn_seq ?_
  have MZ117 : Mem h116 (⟨.op i0_ w0_ 0, 69, 17, [u113_0]⟩ :: ⟨.op i101 w101 0, 71, 2, [v114]⟩ :: R_) := (Mem.front (k := 0) M116 rfl)
  subst hres
  exact rc_retX (.cell rfl (load_whole (k := 1) M116 rfl (TR.agg expr_value.t r114)) .nil) ⟨u113_0, v114, Mem.sub MZ117 (.cons_cons _ (.cons _ (List.Sublist.refl R_))), ru113_0, rfl, r114⟩
 ·replace hres := (ite_f hc112).symm.trans hres
  have hc112' := hc112
  try simp only [qa1, qa2, qa3, qa4, qa5, qa6, qa7, qa8, qa9, qaA, qaB, qaC, qaD] at hc112'
  refine rc_seq ?_
  refine rc_region ?_
  refine rd_op (ov_bin rfl rfl i_eql) ?_
  refine rd_op (ov_move rfl) ?_
  refine rd_nil ?_
  refine pn_seq ?_
  refine rc_cond rfl (fun hc118 => ?_) (fun hc118 => ?_)
  ·replace hres := (ite_t hc118).symm.trans hres
   have hc118' := hc118
   try simp only [qa1, qa2, qa3, qa4, qa5, qa6, qa7, qa8, qa9, qaA, qaB, qaC, qaD] at hc118'
   refine rc_seq ?_
   refine rc_regionU ?_
   refine rx_step ?_
   refine rd_op (ov_load rfl (TR.cnt api_ExprNode.t r104) (TR.agg api_ExprNode.t r104)) ?_
   refine rx_back ?_
   refine rx_step ?_
   refine rd_op (ov_move rfl) ?_
   refine rx_back ?_
   have M119 : Mem h110 (⟨.op i0_ w0_ 0, 69, 17, [.agg [vs x0.scope.Program.Name, v109_c1, v109_c2, v109_c3, v109_c4, v109_c5, v109_c6, v109_c7, v109_c8, v109_c9, v109_c10, v109_c11, v109_c12, v109_c13, v109_c14, v109_c15, vi (wr (x0.next + 1))]]⟩ :: ⟨.op i101 w101 0, 71, 2, [.agg [vu32 0#32, vi 0]]⟩ :: R_) := (Mem.front (k := 1) M110 rfl)
   obtain ⟨y119, hw119, hres⟩ := let_ex hres
   obtain ⟨vr119, h121, hX119, hZ119⟩ := ihR (z0 := ({ scope := x0.scope, env := x0.env, args := x0.args, nodes := x0.nodes, next := (wr (x0.next + 1)) } : expr_machine)) (show expr_machine.t.R ({ scope := x0.scope, env := x0.env, args := x0.args, nodes := x0.nodes, next := (wr (x0.next + 1)) } : expr_machine) (.agg [vs x0.scope.Program.Name, v109_c1, v109_c2, v109_c3, v109_c4, v109_c5, v109_c6, v109_c7, v109_c8, v109_c9, v109_c10, v109_c11, v109_c12, v109_c13, v109_c14, v109_c15, vi (wr (x0.next + 1))]) from ⟨v109_c1, v109_c2, v109_c3, v109_c4, v109_c5, v109_c6, v109_c7, v109_c8, v109_c9, v109_c10, v109_c11, v109_c12, v109_c13, v109_c14, v109_c15, rfl, r109_c1, r109_c2, r109_c3, r109_c4, r109_c5, r109_c6, r109_c7, r109_c8, r109_c9, r109_c10, r109_c11, r109_c12, r109_c13, r109_c14, r109_c15⟩) M119 (by first | exact ev1 hv (by assumption) (by assumption) | exact ev2 hv (by assumption) (by assumption) (by assumption) hrec (by assumption) | exact ev3 hv (by assumption) (by assumption) (by assumption) (by assumption) hrec (by assumption) (by assumption)) (by rw [hmu]; first | exact dv1 hv (by assumption) (by assumption) | exact dv2 hv (by assumption) (by assumption) (by assumption) hrec (by assumption) | exact dv3 hv (by assumption) (by assumption) (by assumption) (by assumption) hrec (by assumption) (by assumption))
   rw [hw119] at hZ119
   obtain ⟨u119_0, v120, M121, ru119_0, hr119, r120⟩ := hZ119
   replace hr119 := hr119.symm; subst hr119
   refine rx_callXc rfl rfl hX119 ?_
   refine rx_step ?_
   obtain ⟨y122, hw122, hres⟩ := let_ex hres
   obtain ⟨v123, f122, r123⟩ := f28_ok  r104 r120 
   rw [hw122] at r123
   refine rd_call (cv_fn rfl rfl (clL_cons (TR.clo api_ExprNode.t r104) (clL_cons (TR.clo expr_value.t r120) clL_nil)) f122) ?_
   refine rx_back ?_
   refine rx_step ?_
   refine rd_storeO (k := 1) (v := v123) M121 rfl rfl rfl (TR.cnt expr_value.t r123) (fun h124 M124 => ?_)
   replace M124 : Mem h124 (⟨.op i0_ w0_ 0, 69, 17, [u119_0]⟩ :: ⟨.op i101 w101 0, 71, 2, [v123]⟩ :: R_) := M124
   refine rx_back ?_
   refine rx_nil ?_
   refine pn_seq ?_
   have MZ125 : Mem h124 (⟨.op i0_ w0_ 0, 69, 17, [u119_0]⟩ :: ⟨.op i101 w101 0, 71, 2, [v123]⟩ :: R_) := (Mem.front (k := 0) M124 rfl)
   subst hres
   exact rc_retX (.cell rfl (load_whole (k := 1) M124 rfl (TR.agg expr_value.t r123)) .nil) ⟨u119_0, v123, Mem.sub MZ125 (.cons_cons _ (.cons _ (List.Sublist.refl R_))), ru119_0, rfl, r123⟩
  ·replace hres := (ite_f hc118).symm.trans hres
   have hc118' := hc118
   try simp only [qa1, qa2, qa3, qa4, qa5, qa6, qa7, qa8, qa9, qaA, qaB, qaC, qaD] at hc118'
   refine rc_seq ?_
   refine rc_region ?_
   refine rd_op (ov_bin rfl rfl i_eql) ?_
   refine rd_op (ov_move rfl) ?_
   refine rd_nil ?_
   refine pn_seq ?_
   refine rc_cond rfl (fun hc126 => ?_) (fun hc126 => ?_)
   ·replace hres := (ite_t hc126).symm.trans hres
    have hc126' := hc126
    try simp only [qa1, qa2, qa3, qa4, qa5, qa6, qa7, qa8, qa9, qaA, qaB, qaC, qaD] at hc126'
    refine rc_seq ?_
    refine rc_regionS ?_
    refine rs_step ?_
    refine rd_op (ov_move rfl) ?_
    refine rs_back ?_
    have M127 : Mem h110 (⟨.op i0_ w0_ 0, 69, 17, [.agg [vs x0.scope.Program.Name, v109_c1, v109_c2, v109_c3, v109_c4, v109_c5, v109_c6, v109_c7, v109_c8, v109_c9, v109_c10, v109_c11, v109_c12, v109_c13, v109_c14, v109_c15, vi (wr (x0.next + 1))]]⟩ :: ⟨.op i101 w101 0, 71, 2, [.agg [vu32 0#32, vi 0]]⟩ :: R_) := (Mem.front (k := 1) M110 rfl)
    obtain ⟨y127, hw127, hres⟩ := let_ex hres
    obtain ⟨vr127, h129, hX127, hZ127⟩ := ihR (z0 := ({ scope := x0.scope, env := x0.env, args := x0.args, nodes := x0.nodes, next := (wr (x0.next + 1)) } : expr_machine)) (show expr_machine.t.R ({ scope := x0.scope, env := x0.env, args := x0.args, nodes := x0.nodes, next := (wr (x0.next + 1)) } : expr_machine) (.agg [vs x0.scope.Program.Name, v109_c1, v109_c2, v109_c3, v109_c4, v109_c5, v109_c6, v109_c7, v109_c8, v109_c9, v109_c10, v109_c11, v109_c12, v109_c13, v109_c14, v109_c15, vi (wr (x0.next + 1))]) from ⟨v109_c1, v109_c2, v109_c3, v109_c4, v109_c5, v109_c6, v109_c7, v109_c8, v109_c9, v109_c10, v109_c11, v109_c12, v109_c13, v109_c14, v109_c15, rfl, r109_c1, r109_c2, r109_c3, r109_c4, r109_c5, r109_c6, r109_c7, r109_c8, r109_c9, r109_c10, r109_c11, r109_c12, r109_c13, r109_c14, r109_c15⟩) M127 (by first | exact ev1 hv (by assumption) (by assumption) | exact ev2 hv (by assumption) (by assumption) (by assumption) hrec (by assumption) | exact ev3 hv (by assumption) (by assumption) (by assumption) (by assumption) hrec (by assumption) (by assumption)) (by rw [hmu]; first | exact dv1 hv (by assumption) (by assumption) | exact dv2 hv (by assumption) (by assumption) (by assumption) hrec (by assumption) | exact dv3 hv (by assumption) (by assumption) (by assumption) (by assumption) hrec (by assumption) (by assumption))
    rw [hw127] at hZ127
    obtain ⟨u127_0, v128, M129, ru127_0, hr127, r128⟩ := hZ127
    replace hr127 := hr127.symm; subst hr127
    refine rs_callXc rfl rfl hX127 ?_
    refine rs_step ?_
    refine rd_allocO (x := .agg [vu32 0#32, vi 0]) M129 rfl rfl (fun i130 w130 h130 M130 => ?_)
    refine rs_back ?_
    refine rs_step ?_
    refine rd_storeO (k := 0) (v := v128) M130 rfl rfl rfl (TR.cnt expr_value.t r128) (fun h132 M132 => ?_)
    replace M132 : Mem h132 (⟨.op i130 w130 0, 71, 2, [v128]⟩ :: ⟨.op i0_ w0_ 0, 69, 17, [u127_0]⟩ :: ⟨.op i101 w101 0, 71, 2, [.agg [vu32 0#32, vi 0]]⟩ :: R_) := M132
    refine rs_back ?_
    refine rs_nil ?_
    refine pn_seq ?_
    refine rc_seq ?_
    refine rc_regionS ?_
    refine rs_step ?_
    refine rd_op (ov_move rfl) ?_
    refine rs_back ?_
    have M133 : Mem h132 (⟨.op i0_ w0_ 0, 69, 17, [u127_0]⟩ :: ⟨.op i130 w130 0, 71, 2, [v128]⟩ :: ⟨.op i101 w101 0, 71, 2, [.agg [vu32 0#32, vi 0]]⟩ :: R_) := (Mem.front (k := 1) M132 rfl)
    obtain ⟨y133, hw133, hres⟩ := let_ex hres
    obtain ⟨vr133, h135, hX133, hZ133⟩ := ihR (z0 := y127.2) ru127_0 M133 (by first | exact ev1 hv (by assumption) (by assumption) | exact ev2 hv (by assumption) (by assumption) (by assumption) hrec (by assumption) | exact ev3 hv (by assumption) (by assumption) (by assumption) (by assumption) hrec (by assumption) (by assumption)) (by rw [hmu]; first | exact dv1 hv (by assumption) (by assumption) | exact dv2 hv (by assumption) (by assumption) (by assumption) hrec (by assumption) | exact dv3 hv (by assumption) (by assumption) (by assumption) (by assumption) hrec (by assumption) (by assumption))
    rw [hw133] at hZ133
    obtain ⟨u133_0, v134, M135, ru133_0, hr133, r134⟩ := hZ133
    replace hr133 := hr133.symm; subst hr133
    refine rs_callXc rfl rfl hX133 ?_
    refine rs_step ?_
    refine rd_allocO (x := .agg [vu32 0#32, vi 0]) M135 rfl rfl (fun i136 w136 h136 M136 => ?_)
    refine rs_back ?_
    refine rs_step ?_
    refine rd_storeO (k := 0) (v := v134) M136 rfl rfl rfl (TR.cnt expr_value.t r134) (fun h138 M138 => ?_)
    replace M138 : Mem h138 (⟨.op i136 w136 0, 71, 2, [v134]⟩ :: ⟨.op i0_ w0_ 0, 69, 17, [u133_0]⟩ :: ⟨.op i130 w130 0, 71, 2, [v128]⟩ :: ⟨.op i101 w101 0, 71, 2, [.agg [vu32 0#32, vi 0]]⟩ :: R_) := M138
    refine rs_back ?_
    refine rs_nil ?_
    refine pn_seq ?_
    refine rc_seq ?_
    refine rc_region ?_
    refine rd_op (ov_faddr rfl (api_ExprNode.g_Op r104)) ?_
    refine rd_op (ov_load rfl rfl rfl) ?_
    refine rd_op (ov_load0 (k := 2) M138 rfl rfl (TR.agg expr_value.t r128)) ?_
    refine rd_op (ov_load0 (k := 0) M138 rfl rfl (TR.agg expr_value.t r134)) ?_
    obtain ⟨y139, hw139, hres⟩ := let_ex hres
    obtain ⟨v140, f139, r140⟩ := f29_ok (x0 := (ix x0.nodes x0.next).Op) r128 r134 
    rw [hw139] at r140
    refine rd_call (cv_fn rfl rfl (clL_cons rfl (clL_cons (TR.clo expr_value.t r128) (clL_cons (TR.clo expr_value.t r134) clL_nil))) f139) ?_
    refine rd_storeO (k := 3) (v := v140) M138 rfl rfl rfl (TR.cnt expr_value.t r140) (fun h141 M141 => ?_)
    replace M141 : Mem h141 (⟨.op i136 w136 0, 71, 2, [v134]⟩ :: ⟨.op i0_ w0_ 0, 69, 17, [u133_0]⟩ :: ⟨.op i130 w130 0, 71, 2, [v128]⟩ :: ⟨.op i101 w101 0, 71, 2, [v140]⟩ :: R_) := M141
    refine rd_nil ?_
    refine pn_seq ?_
    have MZ142 : Mem h141 (⟨.op i0_ w0_ 0, 69, 17, [u133_0]⟩ :: ⟨.op i136 w136 0, 71, 2, [v134]⟩ :: ⟨.op i130 w130 0, 71, 2, [v128]⟩ :: ⟨.op i101 w101 0, 71, 2, [v140]⟩ :: R_) := (Mem.front (k := 1) M141 rfl)
    subst hres
    exact rc_retX (.cell rfl (load_whole (k := 3) M141 rfl (TR.agg expr_value.t r140)) .nil) ⟨u133_0, v140, Mem.sub MZ142 (.cons_cons _ (.cons _ (.cons _ (.cons _ (List.Sublist.refl R_))))), ru133_0, rfl, r140⟩
   ·replace hres := (ite_f hc126).symm.trans hres
    have hc126' := hc126
    try simp only [qa1, qa2, qa3, qa4, qa5, qa6, qa7, qa8, qa9, qaA, qaB, qaC, qaD] at hc126'
    refine rc_skip ?_
    refine pn_blk ?_
    refine pn_seq ?_
    refine rc_seq ?_
    refine rc_regionS ?_
    refine rs_step ?_
    refine rd_op (ov_move rfl) ?_
    refine rs_back ?_
    have M143 : Mem h110 (⟨.op i0_ w0_ 0, 69, 17, [.agg [vs x0.scope.Program.Name, v109_c1, v109_c2, v109_c3, v109_c4, v109_c5, v109_c6, v109_c7, v109_c8, v109_c9, v109_c10, v109_c11, v109_c12, v109_c13, v109_c14, v109_c15, vi (wr (x0.next + 1))]]⟩ :: ⟨.op i101 w101 0, 71, 2, [.agg [vu32 0#32, vi 0]]⟩ :: R_) := (Mem.front (k := 1) M110 rfl)
    obtain ⟨y143, hw143, hres⟩ := let_ex hres
    obtain ⟨vr143, h145, hX143, hZ143⟩ := ihR (z0 := ({ scope := x0.scope, env := x0.env, args := x0.args, nodes := x0.nodes, next := (wr (x0.next + 1)) } : expr_machine)) (show expr_machine.t.R ({ scope := x0.scope, env := x0.env, args := x0.args, nodes := x0.nodes, next := (wr (x0.next + 1)) } : expr_machine) (.agg [vs x0.scope.Program.Name, v109_c1, v109_c2, v109_c3, v109_c4, v109_c5, v109_c6, v109_c7, v109_c8, v109_c9, v109_c10, v109_c11, v109_c12, v109_c13, v109_c14, v109_c15, vi (wr (x0.next + 1))]) from ⟨v109_c1, v109_c2, v109_c3, v109_c4, v109_c5, v109_c6, v109_c7, v109_c8, v109_c9, v109_c10, v109_c11, v109_c12, v109_c13, v109_c14, v109_c15, rfl, r109_c1, r109_c2, r109_c3, r109_c4, r109_c5, r109_c6, r109_c7, r109_c8, r109_c9, r109_c10, r109_c11, r109_c12, r109_c13, r109_c14, r109_c15⟩) M143 (by first | exact ev1 hv (by assumption) (by assumption) | exact ev2 hv (by assumption) (by assumption) (by assumption) hrec (by assumption) | exact ev3 hv (by assumption) (by assumption) (by assumption) (by assumption) hrec (by assumption) (by assumption)) (by rw [hmu]; first | exact dv1 hv (by assumption) (by assumption) | exact dv2 hv (by assumption) (by assumption) (by assumption) hrec (by assumption) | exact dv3 hv (by assumption) (by assumption) (by assumption) (by assumption) hrec (by assumption) (by assumption))
    rw [hw143] at hZ143
    obtain ⟨u143_0, v144, M145, ru143_0, hr143, r144⟩ := hZ143
    replace hr143 := hr143.symm; subst hr143
    refine rs_callXc rfl rfl hX143 ?_
    refine rs_step ?_
    refine rd_allocO (x := .agg [vu32 0#32, vi 0]) M145 rfl rfl (fun i146 w146 h146 M146 => ?_)
    refine rs_back ?_
    refine rs_step ?_
    refine rd_storeO (k := 0) (v := v144) M146 rfl rfl rfl (TR.cnt expr_value.t r144) (fun h148 M148 => ?_)
    replace M148 : Mem h148 (⟨.op i146 w146 0, 71, 2, [v144]⟩ :: ⟨.op i0_ w0_ 0, 69, 17, [u143_0]⟩ :: ⟨.op i101 w101 0, 71, 2, [.agg [vu32 0#32, vi 0]]⟩ :: R_) := M148
    refine rs_back ?_
    refine rs_nil ?_
    refine pn_seq ?_
    refine rc_seq ?_
    refine rc_regionS ?_
    refine rs_step ?_
    refine rd_op (ov_move rfl) ?_
    refine rs_back ?_
    have M149 : Mem h148 (⟨.op i0_ w0_ 0, 69, 17, [u143_0]⟩ :: ⟨.op i146 w146 0, 71, 2, [v144]⟩ :: ⟨.op i101 w101 0, 71, 2, [.agg [vu32 0#32, vi 0]]⟩ :: R_) := (Mem.front (k := 1) M148 rfl)
    obtain ⟨y149, hw149, hres⟩ := let_ex hres
    obtain ⟨vr149, h151, hX149, hZ149⟩ := ihR (z0 := y143.2) ru143_0 M149 (by first | exact ev1 hv (by assumption) (by assumption) | exact ev2 hv (by assumption) (by assumption) (by assumption) hrec (by assumption) | exact ev3 hv (by assumption) (by assumption) (by assumption) (by assumption) hrec (by assumption) (by assumption)) (by rw [hmu]; first | exact dv1 hv (by assumption) (by assumption) | exact dv2 hv (by assumption) (by assumption) (by assumption) hrec (by assumption) | exact dv3 hv (by assumption) (by assumption) (by assumption) (by assumption) hrec (by assumption) (by assumption))
    rw [hw149] at hZ149
    obtain ⟨u149_0, v150, M151, ru149_0, hr149, r150⟩ := hZ149
    replace hr149 := hr149.symm; subst hr149
    refine rs_callXc rfl rfl hX149 ?_
    refine rs_step ?_
    refine rd_allocO (x := .agg [vu32 0#32, vi 0]) M151 rfl rfl (fun i152 w152 h152 M152 => ?_)
    refine rs_back ?_
    refine rs_step ?_
    refine rd_storeO (k := 0) (v := v150) M152 rfl rfl rfl (TR.cnt expr_value.t r150) (fun h154 M154 => ?_)
    replace M154 : Mem h154 (⟨.op i152 w152 0, 71, 2, [v150]⟩ :: ⟨.op i0_ w0_ 0, 69, 17, [u149_0]⟩ :: ⟨.op i146 w146 0, 71, 2, [v144]⟩ :: ⟨.op i101 w101 0, 71, 2, [.agg [vu32 0#32, vi 0]]⟩ :: R_) := M154
    refine rs_back ?_
    refine rs_nil ?_
    refine pn_seq ?_
    refine rc_seq ?_
    refine rc_regionS ?_
    refine rs_step ?_
    refine rd_op (ov_move rfl) ?_
    refine rs_back ?_
    have M155 : Mem h154 (⟨.op i0_ w0_ 0, 69, 17, [u149_0]⟩ :: ⟨.op i152 w152 0, 71, 2, [v150]⟩ :: ⟨.op i146 w146 0, 71, 2, [v144]⟩ :: ⟨.op i101 w101 0, 71, 2, [.agg [vu32 0#32, vi 0]]⟩ :: R_) := (Mem.front (k := 1) M154 rfl)
    obtain ⟨y155, hw155, hres⟩ := let_ex hres
    obtain ⟨vr155, h157, hX155, hZ155⟩ := ihR (z0 := y149.2) ru149_0 M155 (by first | exact ev1 hv (by assumption) (by assumption) | exact ev2 hv (by assumption) (by assumption) (by assumption) hrec (by assumption) | exact ev3 hv (by assumption) (by assumption) (by assumption) (by assumption) hrec (by assumption) (by assumption)) (by rw [hmu]; first | exact dv1 hv (by assumption) (by assumption) | exact dv2 hv (by assumption) (by assumption) (by assumption) hrec (by assumption) | exact dv3 hv (by assumption) (by assumption) (by assumption) (by assumption) hrec (by assumption) (by assumption))
    rw [hw155] at hZ155
    obtain ⟨u155_0, v156, M157, ru155_0, hr155, r156⟩ := hZ155
    replace hr155 := hr155.symm; subst hr155
    refine rs_callXc rfl rfl hX155 ?_
    refine rs_step ?_
    refine rd_allocO (x := .agg [vu32 0#32, vi 0]) M157 rfl rfl (fun i158 w158 h158 M158 => ?_)
    refine rs_back ?_
    refine rs_step ?_
    refine rd_storeO (k := 0) (v := v156) M158 rfl rfl rfl (TR.cnt expr_value.t r156) (fun h160 M160 => ?_)
    replace M160 : Mem h160 (⟨.op i158 w158 0, 71, 2, [v156]⟩ :: ⟨.op i0_ w0_ 0, 69, 17, [u155_0]⟩ :: ⟨.op i152 w152 0, 71, 2, [v150]⟩ :: ⟨.op i146 w146 0, 71, 2, [v144]⟩ :: ⟨.op i101 w101 0, 71, 2, [.agg [vu32 0#32, vi 0]]⟩ :: R_) := M160
    refine rs_back ?_
    refine rs_nil ?_
    refine pn_seq ?_
    refine rc_seq ?_
    refine rc_seq ?_
    refine rc_region ?_
    refine rd_op (ov_faddrO rfl) ?_
    refine rd_op (ov_loadf (k := 3) M160 rfl rfl (expr_value.g_v r144)) ?_
    refine rd_op (ov_bin (a := vu32 y143.1.v) (b := vu32 1#32) rfl rfl w_eql) ?_
    refine rd_nil ?_
    refine pn_seq ?_
    refine rc_cond rfl (fun hc161 => ?_) (fun hc161 => ?_)
    ·replace hres := (ite_t hc161).symm.trans hres
     have hc161' := hc161
     try simp only [qa1, qa2, qa3, qa4, qa5, qa6, qa7, qa8, qa9, qaA, qaB, qaC, qaD] at hc161'
     refine rc_seq ?_
     refine rc_region ?_
     refine rd_op (ov_load0 (k := 2) M160 rfl rfl (TR.agg expr_value.t r150)) ?_
     refine rd_storeO (k := 4) (v := v150) M160 rfl rfl rfl (TR.cnt expr_value.t r150) (fun h162 M162 => ?_)
     replace M162 : Mem h162 (⟨.op i158 w158 0, 71, 2, [v156]⟩ :: ⟨.op i0_ w0_ 0, 69, 17, [u155_0]⟩ :: ⟨.op i152 w152 0, 71, 2, [v150]⟩ :: ⟨.op i146 w146 0, 71, 2, [v144]⟩ :: ⟨.op i101 w101 0, 71, 2, [v150]⟩ :: R_) := M162
     refine rd_nil ?_
     refine pn_seq ?_
     have MZ163 : Mem h162 (⟨.op i0_ w0_ 0, 69, 17, [u155_0]⟩ :: ⟨.op i158 w158 0, 71, 2, [v156]⟩ :: ⟨.op i152 w152 0, 71, 2, [v150]⟩ :: ⟨.op i146 w146 0, 71, 2, [v144]⟩ :: ⟨.op i101 w101 0, 71, 2, [v150]⟩ :: R_) := (Mem.front (k := 1) M162 rfl)
     subst hres
     exact rc_retX (.cell rfl (load_whole (k := 4) M162 rfl (TR.agg expr_value.t r150)) .nil) ⟨u155_0, v150, Mem.sub MZ163 (.cons_cons _ (.cons _ (.cons _ (.cons _ (.cons _ (List.Sublist.refl R_)))))), ru155_0, rfl, r150⟩
    ·replace hres := (ite_f hc161).symm.trans hres
     have hc161' := hc161
     try simp only [qa1, qa2, qa3, qa4, qa5, qa6, qa7, qa8, qa9, qaA, qaB, qaC, qaD] at hc161'
     refine rc_skip ?_
     refine pn_seq ?_
     refine rc_seq ?_
     refine rc_region ?_
     refine rd_op (ov_load0 (k := 0) M160 rfl rfl (TR.agg expr_value.t r156)) ?_
     refine rd_storeO (k := 4) (v := v156) M160 rfl rfl rfl (TR.cnt expr_value.t r156) (fun h164 M164 => ?_)
     replace M164 : Mem h164 (⟨.op i158 w158 0, 71, 2, [v156]⟩ :: ⟨.op i0_ w0_ 0, 69, 17, [u155_0]⟩ :: ⟨.op i152 w152 0, 71, 2, [v150]⟩ :: ⟨.op i146 w146 0, 71, 2, [v144]⟩ :: ⟨.op i101 w101 0, 71, 2, [v156]⟩ :: R_) := M164
     refine rd_nil ?_
     refine pn_seq ?_
     have MZ165 : Mem h164 (⟨.op i0_ w0_ 0, 69, 17, [u155_0]⟩ :: ⟨.op i158 w158 0, 71, 2, [v156]⟩ :: ⟨.op i152 w152 0, 71, 2, [v150]⟩ :: ⟨.op i146 w146 0, 71, 2, [v144]⟩ :: ⟨.op i101 w101 0, 71, 2, [v156]⟩ :: R_) := (Mem.front (k := 1) M164 rfl)
     subst hres
     exact rc_retX (.cell rfl (load_whole (k := 4) M164 rfl (TR.agg expr_value.t r156)) .nil) ⟨u155_0, v156, Mem.sub MZ165 (.cons_cons _ (.cons _ (.cons _ (.cons _ (.cons _ (List.Sublist.refl R_)))))), ru155_0, rfl, r156⟩
theorem f15_okR : ∀ (n_ : Nat) {x0 : expr_machine} {u0_ : PV} {R_ : List Ent} {h_ : Heap} {i0_ w0_ : Nat} (ru0_ : expr_machine.t.R x0 u0_) (M_ : Mem h_ (⟨.op i0_ w0_ 0, 69, 17, [u0_]⟩ :: R_)) (hv : VE x0), x0.nodes.length - x0.next.toNat < n_ → ∃ r h2_, FnX Tryz.prog 15 [.op i0_ w0_ 0] h_ r h2_ ∧ RF15 i0_ w0_ R_ (m2_expr_machine__eval_R n_ x0) r h2_ := by
 intro n_
 induction n_ with
 | zero => intros; rename_i hlt; exact absurd hlt (Nat.not_lt_zero _)
 | succ n_ ihn =>
  intro x0 u0_ R_ h_ i0_ w0_ ru0_ M_ hv hlt
  have e_ : m2_expr_machine__eval_R (n_ + 1) x0 = m2_expr_machine__eval_B (m2_expr_machine__eval_R n_) x0 := by rw [m2_expr_machine__eval_R]
  rw [e_]
  exact f15_okB ru0_ M_ hv rfl (eval_next n_) (fun {z0} {u0_} {R_} {h_} {i0_} {w0_} ru0_ M_ hv hz => ihn ru0_ M_ hv (by omega))
theorem f15_ok {x0 : expr_machine} {u0_ : PV} {R_ : List Ent} {h_ : Heap} {i0_ w0_ : Nat} (ru0_ : expr_machine.t.R x0 u0_) (M_ : Mem h_ (⟨.op i0_ w0_ 0, 69, 17, [u0_]⟩ :: R_)) (hv : VE x0) : ∃ r h2_, FnX Tryz.prog 15 [.op i0_ w0_ 0] h_ r h2_ ∧ RF15 i0_ w0_ R_ (m2_expr_machine__eval x0) r h2_ := f15_okR _ ru0_ M_ hv (Nat.lt_succ_self _)

/-- patchbay/expr.Eval -/
def RF5 (res : (BitVec 32)) (r : PV) : Prop := r = vu32 res
theorem f5_ok {x0 : List api_ExprNode} {x1 : expr_Scope} {x2 : api_Env} {x3 : List (BitVec 32)} {v0 : PV} {v1 : PV} {v2 : PV} {v3 : PV} (r0 : (tSl api_ExprNode.t).R x0 v0) (r1 : expr_Scope.t.R x1 v1) (r2 : api_Env.t.R x2 v2) (r3 : (tSl tU32).R x3 v3) : FnR Tryz.prog 5 [v0, v1, v2, v3] (vu32 (expr_Eval x0 x1 x2 x3)) := by
 obtain ⟨res, hres⟩ : ∃ res, expr_Eval x0 x1 x2 x3 = res := ⟨_, rfl⟩
 suffices H : RC Tryz.prog ac5 [] (QR Tryz.prog [(8, none)] (RF5 res)) (argE 0 [v0, v1, v2, v3]) ⟨0, []⟩ by
  obtain ⟨r, h1, h2⟩ := fnE text5 (by simp) H
  rw [hres]
  have h2 : r = vu32 res := h2
  rw [← h2]; exact h1
 unfold expr_Eval at hres
 unfold ac5
 refine rc_seq ?_
 refine rc_region ?_
 refine rd_op (ov_box rfl (TR.cnt expr_Scope.t r1)) ?_
 refine rd_op (ov_box rfl (TR.cnt api_Env.t r2)) ?_
 refine rd_op (v := vu32 0#32) (ov_move rfl) ?_
 refine rd_nil ?_
 refine pn_seq ?_
 refine rc_seq ?_
 refine rc_seq ?_
 refine rc_region ?_
 refine rd_op (ov_move rfl) ?_
 refine rd_op (ov_load rfl (TR.cnt expr_Scope.t r1) (TR.agg expr_Scope.t r1)) ?_
 obtain ⟨y101, hw101, hres⟩ := let_ex hres
 have f101 := f9_ok  r0 r1 
 rw [hw101] at f101
 refine rd_call (cv_fn rfl rfl (clL_cons (TR.clo (tSl api_ExprNode.t) r0) (clL_cons (TR.clo expr_Scope.t r1) clL_nil)) f101) ?_
 refine rd_op (ov_move rfl) ?_
 refine rd_op (ov_extract rfl rfl) ?_
 refine rd_op (ov_extract rfl rfl) ?_
 refine rd_op (ov_move rfl) ?_
 refine rd_op (ov_move rfl) ?_
 refine rd_nil ?_
 refine pn_seq ?_
 refine rc_seq ?_
 refine rc_region ?_
 refine rd_op (ov_move rfl) ?_
 refine rd_op (ov_bin rfl rfl i_neq) ?_
 refine rd_nil ?_
 refine pn_seq ?_
 refine rc_cond rfl (fun hc102 => ?_) (fun hc102 => ?_)
 ·replace hres := (ite_t hc102).symm.trans hres
  have hc102' := hc102
  try simp only [qa1, qa2, qa3, qa4, qa5, qa6, qa7, qa8, qa9, qaA, qaB, qaC, qaD] at hc102'
  refine rc_seq ?_
  refine rc_region ?_
  refine rd_op (v := vu32 0#32) (ov_move rfl) ?_
  refine rd_nil ?_
  refine pn_seq ?_
  subst hres
  exact rc_retV (.tmp rfl .nil) (deep_closed rfl) rfl
 ·replace hres := (ite_f hc102).symm.trans hres
  have hc102' := hc102
  try simp only [qa1, qa2, qa3, qa4, qa5, qa6, qa7, qa8, qa9, qaA, qaB, qaC, qaD] at hc102'
  refine rc_skip ?_
  refine pn_seq ?_
  refine rc_seq ?_
  refine rc_region ?_
  refine rd_op (ov_load rfl (TR.cnt expr_Scope.t r1) (TR.agg expr_Scope.t r1)) ?_
  refine rd_op (ov_load rfl (TR.cnt api_Env.t r2) (TR.agg api_Env.t r2)) ?_
  refine rd_op (ov_move rfl) ?_
  refine rd_op (ov_move rfl) ?_
  obtain ⟨v103_c1, v103_c2, v103_c3, v103_c4, v103_c5, v103_c6, v103_c7, v103_c8, v103_c9, e103, r103_c1, r103_c2, r103_c3, r103_c4, r103_c5, r103_c6, r103_c7, r103_c8, r103_c9⟩ := r1
  subst e103
  obtain ⟨v104_c0, v104_c1, v104_c2, v104_c3, e104, r104_c0, r104_c1, r104_c2, r104_c3⟩ := r2
  subst e104
  refine rd_op (v := .agg [vs x1.Program.Name, v103_c1, v103_c2, v103_c3, v103_c4, v103_c5, v103_c6, v103_c7, v103_c8, v103_c9, v104_c0, v104_c1, v104_c2, v104_c3, v3, v0, vi 0]) (ov_build (cs := [vs x1.Program.Name, v103_c1, v103_c2, v103_c3, v103_c4, v103_c5, v103_c6, v103_c7, v103_c8, v103_c9, v104_c0, v104_c1, v104_c2, v104_c3, v3, v0, vi 0]) rfl (by simp only [buildV, cells_one (TR.cnt (tSl tU32) r3) (TR.agg (tSl tU32) r3), cells_one (TR.cnt (tSl api_ExprNode.t) r0) (TR.agg (tSl api_ExprNode.t) r0)]; rfl)) ?_
  refine rd_allocO (x := .agg [vs [], nilS, nilS, nilS, nilS, nilS, nilS, nilS, nilS, nilS, nilS, nilS, nilS, nilS, nilS, nilS, vi 0]) (Mem.nil ⟨0, []⟩) rfl rfl (fun i105 w105 h105 M105 => ?_)
  refine rd_storeO (k := 0) (v := .agg [vs x1.Program.Name, v103_c1, v103_c2, v103_c3, v103_c4, v103_c5, v103_c6, v103_c7, v103_c8, v103_c9, v104_c0, v104_c1, v104_c2, v104_c3, v3, v0, vi 0]) M105 rfl rfl rfl rfl (fun h107 M107 => ?_)
  replace M107 : Mem h107 [⟨.op i105 w105 0, 69, 17, [.agg [vs x1.Program.Name, v103_c1, v103_c2, v103_c3, v103_c4, v103_c5, v103_c6, v103_c7, v103_c8, v103_c9, v104_c0, v104_c1, v104_c2, v104_c3, v3, v0, vi 0]]⟩] := M107
  refine rd_nil ?_
  refine pn_seq ?_
  refine rc_seq ?_
  refine rc_regionS ?_
  have M108 : Mem h107 [⟨.op i105 w105 0, 69, 17, [.agg [vs x1.Program.Name, v103_c1, v103_c2, v103_c3, v103_c4, v103_c5, v103_c6, v103_c7, v103_c8, v103_c9, v104_c0, v104_c1, v104_c2, v104_c3, v3, v0, vi 0]]⟩] := (Mem.front (k := 0) M107 rfl)
  obtain ⟨y108, hw108, hres⟩ := let_ex hres
  obtain ⟨vr108, h110, hX108, hZ108⟩ := f15_ok (x0 := ({ scope := x1, env := x2, args := x3, nodes := x0, next := 0 } : expr_machine)) (show expr_machine.t.R ({ scope := x1, env := x2, args := x3, nodes := x0, next := 0 } : expr_machine) (.agg [vs x1.Program.Name, v103_c1, v103_c2, v103_c3, v103_c4, v103_c5, v103_c6, v103_c7, v103_c8, v103_c9, v104_c0, v104_c1, v104_c2, v104_c3, v3, v0, vi 0]) from ⟨v103_c1, v103_c2, v103_c3, v103_c4, v103_c5, v103_c6, v103_c7, v103_c8, v103_c9, v104_c0, v104_c1, v104_c2, v104_c3, v3, v0, rfl, r103_c1, r103_c2, r103_c3, r103_c4, r103_c5, r103_c6, r103_c7, r103_c8, r103_c9, r104_c0, r104_c1, r104_c2, r104_c3, r3, r0⟩) M108 (by exact ev0 (by assumption) (by assumption) _ _)
  rw [hw108] at hZ108
  obtain ⟨u108_0, v109, M110, ru108_0, hr108, r109⟩ := hZ108
  replace hr108 := hr108.symm; subst hr108
  refine rs_callXc rfl rfl hX108 ?_
  refine rs_step ?_
  refine rd_op (ov_field rfl (expr_value.g_v r109)) ?_
  refine rs_back ?_
  refine rs_step ?_
  refine rd_op (ov_move rfl) ?_
  refine rs_back ?_
  refine rs_nil ?_
  refine pn_seq ?_
  subst hres
  exact rc_retV (.tmp rfl .nil) (deep_closed rfl) rfl

/-- patchbay/patchbayref13.Arity -/
def RF34 (res : Int) (r : PV) : Prop := r = vi res
theorem f34_ok {x0 : Int} : FnR Tryz.prog 34 [vi x0] (vi (ref13_Arity x0)) := by
 obtain ⟨res, hres⟩ : ∃ res, ref13_Arity x0 = res := ⟨_, rfl⟩
 suffices H : RC Tryz.prog ac34 [] (QR Tryz.prog [(2, none)] (RF34 res)) (argE 0 [vi x0]) ⟨0, []⟩ by
  obtain ⟨r, h1, h2⟩ := fnE text34 (by simp) H
  rw [hres]
  have h2 : r = vi res := h2
  rw [← h2]; exact h1
 unfold ref13_Arity at hres
 unfold ac34
 refine rc_seq ?_
 refine rc_region ?_
 refine rd_op (v := vi 0) (ov_move rfl) ?_
 refine rd_nil ?_
 refine pn_seq ?_
 refine rc_seq ?_
 refine rc_block ?_
 refine rc_seq ?_
 refine rc_region ?_
 refine rd_op (ov_move rfl) ?_
 refine rd_op (ov_bin rfl rfl i_geq) ?_
 refine rd_op (ov_move rfl) ?_
 refine rd_cut (d := 9) (v := vb ((decide (1 ≤ x0)) && (decide (x0 ≤ 4)))) ?_ ?_
 ·intro S Q r
  simp only [ac34_G1, List.cons_append, List.nil_append, List.append_assoc]
  cases hb101 : (decide (1 ≤ x0))
  ·intro k
   refine rd_skip rfl rfl ?_
   refine rd_skip rfl rfl ?_
   refine rd_op (v := vb false) (ov_pick rfl rfl rfl rfl) ?_
   exact rd_weak (sub_cons rfl (sub_skip rfl (sub_skip rfl (sub_skip rfl (sub_refl _))))) k
  ·intro k
   have hb101' := hb101
   try simp only [qa1, qa2, qa3, qa4, qa5, qa6, qa7, qa8, qa9, qaA, qaB, qaC, qaD] at hb101'
   refine rd_yes rfl rfl (ov_move rfl) ?_
   refine rd_yes rfl rfl (ov_bin rfl rfl i_leq) ?_
   refine rd_op (v := vb (decide (x0 ≤ 4))) (ov_pick rfl rfl rfl rfl) ?_
   exact rd_weak (sub_cons rfl (sub_skip rfl (sub_skip rfl (sub_skip rfl (sub_refl _))))) k
 refine rd_op (ov_move rfl) ?_
 refine rd_nil ?_
 refine pn_seq ?_
 refine rc_cond rfl (fun hc102 => ?_) (fun hc102 => ?_)
 ·replace hres := (ite_t hc102).symm.trans hres
  have hc102' := hc102
  try simp only [qa1, qa2, qa3, qa4, qa5, qa6, qa7, qa8, qa9, qaA, qaB, qaC, qaD] at hc102'
  refine rc_seq ?_
  refine rc_region ?_
  refine rd_op (v := vi 0) (ov_move rfl) ?_
  refine rd_nil ?_
  refine pn_seq ?_
  subst hres
  exact rc_retV (.tmp rfl .nil) (deep_closed rfl) rfl
 ·replace hres := (ite_f hc102).symm.trans hres
  have hc102' := hc102
  try simp only [qa1, qa2, qa3, qa4, qa5, qa6, qa7, qa8, qa9, qaA, qaB, qaC, qaD] at hc102'
  refine rc_seq ?_
  refine rc_region ?_
  refine rd_op (ov_move rfl) ?_
  refine rd_op (ov_bin rfl rfl i_geq) ?_
  refine rd_op (ov_move rfl) ?_
  refine rd_cut (d := 16) (v := vb ((decide (5 ≤ x0)) && (decide (x0 ≤ 8)))) ?_ ?_
  ·intro S Q r
   simp only [ac34_G2, List.cons_append, List.nil_append, List.append_assoc]
   cases hb103 : (decide (5 ≤ x0))
   ·intro k
    refine rd_skip rfl rfl ?_
    refine rd_skip rfl rfl ?_
    refine rd_op (v := vb false) (ov_pick rfl rfl rfl rfl) ?_
    exact rd_weak (sub_cons rfl (sub_skip rfl (sub_skip rfl (sub_skip rfl (sub_refl _))))) k
   ·intro k
    have hb103' := hb103
    try simp only [qa1, qa2, qa3, qa4, qa5, qa6, qa7, qa8, qa9, qaA, qaB, qaC, qaD] at hb103'
    refine rd_yes rfl rfl (ov_move rfl) ?_
    refine rd_yes rfl rfl (ov_bin rfl rfl i_leq) ?_
    refine rd_op (v := vb (decide (x0 ≤ 8))) (ov_pick rfl rfl rfl rfl) ?_
    exact rd_weak (sub_cons rfl (sub_skip rfl (sub_skip rfl (sub_skip rfl (sub_refl _))))) k
  refine rd_op (ov_move rfl) ?_
  refine rd_nil ?_
  refine pn_seq ?_
  refine rc_cond rfl (fun hc104 => ?_) (fun hc104 => ?_)
  ·replace hres := (ite_t hc104).symm.trans hres
   have hc104' := hc104
   try simp only [qa1, qa2, qa3, qa4, qa5, qa6, qa7, qa8, qa9, qaA, qaB, qaC, qaD] at hc104'
   refine rc_seq ?_
   refine rc_region ?_
   refine rd_op (v := vi 1) (ov_move rfl) ?_
   refine rd_nil ?_
   refine pn_seq ?_
   subst hres
   exact rc_retV (.tmp rfl .nil) (deep_closed rfl) rfl
  ·replace hres := (ite_f hc104).symm.trans hres
   have hc104' := hc104
   try simp only [qa1, qa2, qa3, qa4, qa5, qa6, qa7, qa8, qa9, qaA, qaB, qaC, qaD] at hc104'
   refine rc_seq ?_
   refine rc_region ?_
   refine rd_op (ov_move rfl) ?_
   refine rd_op (ov_bin rfl rfl i_geq) ?_
   refine rd_op (ov_move rfl) ?_
   refine rd_cut (d := 23) (v := vb ((decide (9 ≤ x0)) && (decide (x0 ≤ 16)))) ?_ ?_
   ·intro S Q r
    simp only [ac34_G3, List.cons_append, List.nil_append, List.append_assoc]
    cases hb105 : (decide (9 ≤ x0))
    ·intro k
     refine rd_skip rfl rfl ?_
     refine rd_skip rfl rfl ?_
     refine rd_op (v := vb false) (ov_pick rfl rfl rfl rfl) ?_
     exact rd_weak (sub_cons rfl (sub_skip rfl (sub_skip rfl (sub_skip rfl (sub_refl _))))) k
    ·intro k
     have hb105' := hb105
     try simp only [qa1, qa2, qa3, qa4, qa5, qa6, qa7, qa8, qa9, qaA, qaB, qaC, qaD] at hb105'
     refine rd_yes rfl rfl (ov_move rfl) ?_
     refine rd_yes rfl rfl (ov_bin rfl rfl i_leq) ?_
     refine rd_op (v := vb (decide (x0 ≤ 16))) (ov_pick rfl rfl rfl rfl) ?_
     exact rd_weak (sub_cons rfl (sub_skip rfl (sub_skip rfl (sub_skip rfl (sub_refl _))))) k
   refine rd_op (ov_move rfl) ?_
   refine rd_nil ?_
   refine pn_seq ?_
   refine rc_cond rfl (fun hc106 => ?_) (fun hc106 => ?_)
   ·replace hres := (ite_t hc106).symm.trans hres
    have hc106' := hc106
    try simp only [qa1, qa2, qa3, qa4, qa5, qa6, qa7, qa8, qa9, qaA, qaB, qaC, qaD] at hc106'
    refine rc_seq ?_
    refine rc_region ?_
    refine rd_op (v := vi 2) (ov_move rfl) ?_
    refine rd_nil ?_
    refine pn_seq ?_
    subst hres
    exact rc_retV (.tmp rfl .nil) (deep_closed rfl) rfl
   ·replace hres := (ite_f hc106).symm.trans hres
    have hc106' := hc106
    try simp only [qa1, qa2, qa3, qa4, qa5, qa6, qa7, qa8, qa9, qaA, qaB, qaC, qaD] at hc106'
    refine rc_seq ?_
    refine rc_region ?_
    refine rd_op (ov_move rfl) ?_
    refine rd_op (ov_bin rfl rfl i_eql) ?_
    refine rd_op (ov_move rfl) ?_
    refine rd_nil ?_
    refine pn_seq ?_
    refine rc_cond rfl (fun hc107 => ?_) (fun hc107 => ?_)
    ·replace hres := (ite_t hc107).symm.trans hres
     have hc107' := hc107
     try simp only [qa1, qa2, qa3, qa4, qa5, qa6, qa7, qa8, qa9, qaA, qaB, qaC, qaD] at hc107'
     refine rc_seq ?_
     refine rc_region ?_
     refine rd_op (v := vi 3) (ov_move rfl) ?_
     refine rd_nil ?_
     refine pn_seq ?_
     subst hres
     exact rc_retV (.tmp rfl .nil) (deep_closed rfl) rfl
    ·replace hres := (ite_f hc107).symm.trans hres
     have hc107' := hc107
     try simp only [qa1, qa2, qa3, qa4, qa5, qa6, qa7, qa8, qa9, qaA, qaB, qaC, qaD] at hc107'
     refine rc_skip ?_
     refine pn_blk ?_
     refine pn_seq ?_
     refine rc_seq ?_
     refine rc_region ?_
     refine rd_op (v := vi (-1)) (ov_move rfl) ?_
     refine rd_nil ?_
     refine pn_seq ?_
     subst hres
     exact rc_retV (.tmp rfl .nil) (deep_closed rfl) rfl

/-- patchbay/patchbayref13.wide -/
def RF88 (res : Int × Int) (r : PV) : Prop := r = .tup [vi res.1, vi res.2]
theorem f88_ok {x0 : Int} : FnR Tryz.prog 88 [vi x0] (.tup [vi ((ref13_wide x0).1), vi ((ref13_wide x0).2)]) := by
 obtain ⟨res, hres⟩ : ∃ res, ref13_wide x0 = res := ⟨_, rfl⟩
 suffices H : RC Tryz.prog ac88 [] (QR Tryz.prog [(2, none), (3, none)] (RF88 res)) (argE 0 [vi x0]) ⟨0, []⟩ by
  obtain ⟨r, h1, h2⟩ := fnE text88 (by simp) H
  rw [hres]
  have h2 : r = .tup [vi res.1, vi res.2] := h2
  rw [← h2]; exact h1
 unfold ref13_wide at hres
 unfold ac88
 refine rc_seq ?_
 refine rc_region ?_
 refine rd_op (v := vi 0) (ov_move rfl) ?_
 refine rd_op (v := vi 0) (ov_move rfl) ?_
 refine rd_nil ?_
 refine pn_seq ?_
 refine rc_seq ?_
 refine rc_seq ?_
 refine rc_region ?_
 refine rd_op (ov_move rfl) ?_
 refine rd_op (ov_bin rfl rfl i_lss) ?_
 refine rd_op (ov_move rfl) ?_
 refine rd_cut (d := 9) (v := vb ((decide (x0 < 1)) || (decide (32 < x0)))) ?_ ?_
 ·intro S Q r
  simp only [ac88_G1, List.cons_append, List.nil_append, List.append_assoc]
  cases hb101 : (decide (x0 < 1))
  ·intro k
   have hb101' := hb101
   try simp only [qa1, qa2, qa3, qa4, qa5, qa6, qa7, qa8, qa9, qaA, qaB, qaC, qaD] at hb101'
   refine rd_yes rfl rfl (ov_move rfl) ?_
   refine rd_yes rfl rfl (ov_bin rfl rfl i_gtr) ?_
   refine rd_op (v := vb (decide (32 < x0))) (ov_pick rfl rfl rfl rfl) ?_
   exact rd_weak (sub_cons rfl (sub_skip rfl (sub_skip rfl (sub_skip rfl (sub_refl _))))) k
  ·intro k
   refine rd_skip rfl rfl ?_
   refine rd_skip rfl rfl ?_
   refine rd_op (v := vb true) (ov_pick rfl rfl rfl rfl) ?_
   exact rd_weak (sub_cons rfl (sub_skip rfl (sub_skip rfl (sub_skip rfl (sub_refl _))))) k
 refine rd_nil ?_
 refine pn_seq ?_
 refine rc_cond rfl (fun hc102 => ?_) (fun hc102 => ?_)
 ·replace hres := (ite_t hc102).symm.trans hres
  have hc102' := hc102
  try simp only [qa1, qa2, qa3, qa4, qa5, qa6, qa7, qa8, qa9, qaA, qaB, qaC, qaD] at hc102'
  refine rc_seq ?_
  refine rc_region ?_
  refine rd_op (v := vi 0) (ov_move rfl) ?_
  refine rd_op (v := vi 10) (ov_move rfl) ?_
  refine rd_nil ?_
  refine pn_seq ?_
  subst hres
  exact rc_retV (.tmp rfl (.tmp rfl .nil)) (deep_closed (show closed (.tup _) = true from (clL_cons rfl (clL_cons rfl clL_nil)))) rfl
 ·replace hres := (ite_f hc102).symm.trans hres
  have hc102' := hc102
  try simp only [qa1, qa2, qa3, qa4, qa5, qa6, qa7, qa8, qa9, qaA, qaB, qaC, qaD] at hc102'
  refine rc_skip ?_
  refine pn_seq ?_
  refine rc_seq ?_
  refine rc_region ?_
  refine rd_op (ov_move rfl) ?_
  refine rd_op (ov_move rfl) ?_
  refine rd_op (v := vi 0) (ov_move rfl) ?_
  refine rd_nil ?_
  refine pn_seq ?_
  subst hres
  exact rc_retV (.tmp rfl (.tmp rfl .nil)) (deep_closed (show closed (.tup _) = true from (clL_cons rfl (clL_cons rfl clL_nil)))) rfl

/-- patchbay/patchbayref01.valid -/
def RF54 (res : Bool) (r : PV) : Prop := r = vb res
theorem f54_ok {x0 : Int} : FnR Tryz.prog 54 [vi x0] (vb (ref01_valid x0)) := by
 obtain ⟨res, hres⟩ : ∃ res, ref01_valid x0 = res := ⟨_, rfl⟩
 suffices H : RC Tryz.prog ac54 [] (QR Tryz.prog [(2, none)] (RF54 res)) (argE 0 [vi x0]) ⟨0, []⟩ by
  obtain ⟨r, h1, h2⟩ := fnE text54 (by simp) H
  rw [hres]
  have h2 : r = vb res := h2
  rw [← h2]; exact h1
 unfold ref01_valid at hres
 unfold ac54
 refine rc_seq ?_
 refine rc_region ?_
 refine rd_op (v := vb false) (ov_move rfl) ?_
 refine rd_nil ?_
 refine pn_seq ?_
 refine rc_seq ?_
 refine rc_region ?_
 refine rd_op (ov_move rfl) ?_
 refine rd_op (ov_bin rfl rfl i_geq) ?_
 refine rd_op (ov_move rfl) ?_
 refine rd_cut (d := 8) (v := vb ((decide (1 ≤ x0)) && (decide (x0 ≤ 32)))) ?_ ?_
 ·intro S Q r
  simp only [ac54_G1, List.cons_append, List.nil_append, List.append_assoc]
  cases hb101 : (decide (1 ≤ x0))
  ·intro k
   refine rd_skip rfl rfl ?_
   refine rd_skip rfl rfl ?_
   refine rd_op (v := vb false) (ov_pick rfl rfl rfl rfl) ?_
   exact rd_weak (sub_cons rfl (sub_skip rfl (sub_skip rfl (sub_skip rfl (sub_refl _))))) k
  ·intro k
   have hb101' := hb101
   try simp only [qa1, qa2, qa3, qa4, qa5, qa6, qa7, qa8, qa9, qaA, qaB, qaC, qaD] at hb101'
   refine rd_yes rfl rfl (ov_move rfl) ?_
   refine rd_yes rfl rfl (ov_bin rfl rfl i_leq) ?_
   refine rd_op (v := vb (decide (x0 ≤ 32))) (ov_pick rfl rfl rfl rfl) ?_
   exact rd_weak (sub_cons rfl (sub_skip rfl (sub_skip rfl (sub_skip rfl (sub_refl _))))) k
 refine rd_op (ov_move rfl) ?_
 refine rd_nil ?_
 refine pn_seq ?_
 subst hres
 exact rc_retV (.tmp rfl .nil) (deep_closed rfl) rfl

/-- patchbay/patchbayref01.power -/
def RF55 (res : (BitVec 64)) (r : PV) : Prop := r = vu64 res
theorem ref01_power_L1_ok {S : List Fr} {res : (BitVec 64)} {x0 : Int} (hp : x0 ≤ 64) {K0 : (BitVec 64) → (BitVec 64)}
  (hK0 : ∀ (x3_ : BitVec 64), K0 x3_ = res → PX Tryz.prog 0 S (QR Tryz.prog [(2, none)] (RF55 res)) [(3, vu64 x3_)] ⟨0, []⟩) :
  ∀ (m : Nat) (x3_ : BitVec 64) (x4_ : Int) (hm1 : m = Int.toNat (x0 - x4_)) (hlo1 : 0 ≤ x4_), ref01_power_L1 K0 m x3_ x4_ = res → RC Tryz.prog (.loop ac55_L1) S (QR Tryz.prog [(2, none)] (RF55 res)) [(4, vi x4_), (3, vu64 x3_), (0, vi x0)] ⟨0, []⟩ := by
 intro m
 induction m with
 | zero =>
  intro x3_ x4_ hm1 hlo1 hres
  rw [ref01_power_L1] at hres
  refine rc_loop ?_
  unfold ac55_L1
  refine rc_seq ?_
  refine rc_seq ?_
  refine rc_region ?_
  refine rd_op (ov_move rfl) ?_
  refine rd_op (ov_move rfl) ?_
  refine rd_op (ov_bin rfl rfl i_lss) ?_
  refine rd_nil ?_
  refine pn_seq ?_
  refine rc_cond rfl (fun hc101 => ?_) (fun hc101 => ?_)
  ·exfalso
   try simp only [qa1, qa2, qa3, qa4, qa5, qa6, qa7, qa8, qa9, qaA, qaB, qaC, qaD] at hc101
   omega
  ·have hend := hres
   have hc101' := hc101
   try simp only [qa1, qa2, qa3, qa4, qa5, qa6, qa7, qa8, qa9, qaA, qaB, qaC, qaD] at hc101'
   refine rc_exit ?_
   refine px_seq ?_
   refine px_again ?_
   exact px_weak ((sub_cons rfl (sub_nil _))) (hK0 x3_ hres)
 | succ m ih =>
  intro x3_ x4_ hm1 hlo1 hres
  rw [ref01_power_L1] at hres
  refine rc_loop ?_
  unfold ac55_L1
  refine rc_seq ?_
  refine rc_seq ?_
  refine rc_region ?_
  refine rd_op (ov_move rfl) ?_
  refine rd_op (ov_move rfl) ?_
  refine rd_op (ov_bin rfl rfl i_lss) ?_
  refine rd_nil ?_
  refine pn_seq ?_
  refine rc_cond rfl (fun hc102 => ?_) (fun hc102 => ?_)
  ·have hgo := hres
   have hc102' := hc102
   try simp only [qa1, qa2, qa3, qa4, qa5, qa6, qa7, qa8, qa9, qaA, qaB, qaC, qaD] at hc102'
   refine rc_skip ?_
   refine pn_seq ?_
   refine rc_seq ?_
   refine rc_block ?_
   refine rc_region ?_
   refine rd_op (ov_move rfl) ?_
   refine rd_op (ov_bin (a := vu64 2#64) (b := vu64 x3_) rfl rfl d_mul) ?_
   refine rd_op (ov_move rfl) ?_
   refine rd_nil ?_
   refine pn_blk ?_
   refine pn_seq ?_
   refine rc_region ?_
   refine rd_op (ov_move rfl) ?_
   refine rd_op (ov_bin rfl rfl i_add) ?_
   refine rd_op (ov_move rfl) ?_
   refine rd_nil ?_
   refine pn_again ?_
   have hinc : wr (x4_ + 1) = x4_ + 1 := wr_of (by omega) (by omega)
   rw [hinc]
   refine rc_weak ?_ (ih (2#64 * x3_) (x4_ + 1)  (by omega) (by omega) hres)
   exact ((sub_cons rfl (sub_cons rfl (sub_cons rfl (sub_nil _)))))
  ·exfalso
   try simp only [qa1, qa2, qa3, qa4, qa5, qa6, qa7, qa8, qa9, qaA, qaB, qaC, qaD] at hc102
   omega

theorem f55_ok {x0 : Int} (hp : x0 ≤ 64) : FnR Tryz.prog 55 [vi x0] (vu64 (ref01_power x0)) := by
 obtain ⟨res, hres⟩ : ∃ res, ref01_power x0 = res := ⟨_, rfl⟩
 suffices H : RC Tryz.prog ac55 [] (QR Tryz.prog [(2, none)] (RF55 res)) (argE 0 [vi x0]) ⟨0, []⟩ by
  obtain ⟨r, h1, h2⟩ := fnE text55 (by simp) H
  rw [hres]
  have h2 : r = vu64 res := h2
  rw [← h2]; exact h1
 unfold ref01_power at hres
 unfold ac55
 refine rc_seq ?_
 refine rc_region ?_
 refine rd_op (v := vu64 0#64) (ov_move rfl) ?_
 refine rd_nil ?_
 refine pn_seq ?_
 refine rc_seq ?_
 refine rc_region ?_
 refine rd_op (v := vu64 1#64) (ov_move rfl) ?_
 refine rd_nil ?_
 refine pn_seq ?_
 refine rc_seq ?_
 refine rc_seq ?_
 refine rc_region ?_
 refine rd_op (v := vi 0) (ov_move rfl) ?_
 refine rd_nil ?_
 refine pn_seq ?_
 refine rc_block ?_
 refine rc_weak ?_ (ref01_power_L1_ok (x0 := x0)   (hp := hp) ?_ (Int.toNat (x0 - 0)) 1#64 0 rfl (by omega) hres)
 ·exact ((sub_cons rfl (sub_cons rfl (sub_cons rfl (sub_nil _)))))
 ·intro x3_103 hres
  refine px_blk ?_
  refine pn_seq ?_
  refine rc_seq ?_
  refine rc_region ?_
  refine rd_op (ov_move rfl) ?_
  refine rd_op (ov_move rfl) ?_
  refine rd_nil ?_
  refine pn_seq ?_
  subst hres
  exact rc_retV (.tmp rfl .nil) (deep_closed rfl) rfl

/-- patchbay/patchbayref01.Mask -/
def RF89 (res : (BitVec 32)) (r : PV) : Prop := r = vu32 res
theorem f89_ok {x0 : Int} : FnR Tryz.prog 89 [vi x0] (vu32 (ref01_Mask x0)) := by
 obtain ⟨res, hres⟩ : ∃ res, ref01_Mask x0 = res := ⟨_, rfl⟩
 suffices H : RC Tryz.prog ac89 [] (QR Tryz.prog [(2, none)] (RF89 res)) (argE 0 [vi x0]) ⟨0, []⟩ by
  obtain ⟨r, h1, h2⟩ := fnE text89 (by simp) H
  rw [hres]
  have h2 : r = vu32 res := h2
  rw [← h2]; exact h1
 unfold ref01_Mask at hres
 unfold ac89
 refine rc_seq ?_
 refine rc_region ?_
 refine rd_op (v := vu32 0#32) (ov_move rfl) ?_
 refine rd_nil ?_
 refine pn_seq ?_
 refine rc_seq ?_
 refine rc_seq ?_
 refine rc_region ?_
 refine rd_op (ov_move rfl) ?_
 obtain ⟨y101, hw101, hres⟩ := let_ex hres
 have f101 := f54_ok (x0 := x0)  
 rw [hw101] at f101
 refine rd_call (cv_fn rfl rfl (clL_cons rfl clL_nil) f101) ?_
 refine rd_op (ov_not rfl) ?_
 refine rd_nil ?_
 refine pn_seq ?_
 refine rc_cond rfl (fun hc102 => ?_) (fun hc102 => ?_)
 ·replace hres := (ite_t hc102).symm.trans hres
  have hc102' := hc102
  try simp only [qa1, qa2, qa3, qa4, qa5, qa6, qa7, qa8, qa9, qaA, qaB, qaC, qaD] at hc102'
  refine rc_seq ?_
  refine rc_region ?_
  refine rd_op (v := vu32 0#32) (ov_move rfl) ?_
  refine rd_nil ?_
  refine pn_seq ?_
  subst hres
  exact rc_retV (.tmp rfl .nil) (deep_closed rfl) rfl
 ·replace hres := (ite_f hc102).symm.trans hres
  have hc102' := hc102
  try simp only [qa1, qa2, qa3, qa4, qa5, qa6, qa7, qa8, qa9, qaA, qaB, qaC, qaD] at hc102'
  refine rc_skip ?_
  refine pn_seq ?_
  refine rc_seq ?_
  refine rc_region ?_
  refine rd_op (ov_move rfl) ?_
  obtain ⟨y103, hw103, hres⟩ := let_ex hres
  have f103 := f55_ok (x0 := x0)  (by first | assumption | omega | (rw [wr_of (by omega) (by omega)]; omega) | (have hk := rval rfl (And.right (And.left (by assumption))); omega) | (have hk := rval (by assumption) (by assumption); omega) | (have hk := rval (by assumption) (And.left (by assumption)); omega) | (have hk := rval (by assumption) (And.left (And.left (by assumption))); have hz := rslc (by assumption); omega) | (simp; done) | (simp only [List.length_append, List.length_nil, List.length_cons]; omega) | (have hk := (chk_ok (by assumption) (by assumption)).1; omega) | (simp only [List.length_cons, List.length_nil]; omega) | (simp only [List.length_append]; have hk := (chk_ok (by assumption) (by assumption)).1; omega) | (simp only [List.length_append, List.length_nil]; have hk := (chk_ok (by assumption) (by assumption)).1; omega))
  rw [hw103] at f103
  refine rd_call (cv_fn rfl rfl (clL_cons rfl clL_nil) f103) ?_
  refine rd_op (ov_bin (a := vu64 y103) (b := vu64 1#64) rfl rfl d_sub) ?_
  refine rd_op (ov_conv (a := vu64 (y103 - 1#64)) rfl (c_dw Tryz.underlying93 Tryz.underlying42)) ?_
  refine rd_op (ov_move rfl) ?_
  refine rd_nil ?_
  refine pn_seq ?_
  subst hres
  exact rc_retV (.tmp rfl .nil) (deep_closed rfl) rfl

/-- patchbay/patchbayref13.Declared -/
def RF90 (res : Int × Bool) (r : PV) : Prop := r = .tup [vi res.1, vb res.2]
theorem f90_ok {x0 : api_Program} {x1 : api_FieldRef} {v0 : PV} {v1 : PV} (r0 : api_Program.t.R x0 v0) (r1 : api_FieldRef.t.R x1 v1) : FnR Tryz.prog 90 [v0, v1] (.tup [vi ((ref13_Declared x0 x1).1), vb ((ref13_Declared x0 x1).2)]) := by
 obtain ⟨res, hres⟩ : ∃ res, ref13_Declared x0 x1 = res := ⟨_, rfl⟩
 suffices H : RC Tryz.prog ac90 [] (QR Tryz.prog [(4, none), (5, none)] (RF90 res)) (argE 0 [v0, v1]) ⟨0, []⟩ by
  obtain ⟨r, h1, h2⟩ := fnE text90 (by simp) H
  rw [hres]
  have h2 : r = .tup [vi res.1, vb res.2] := h2
  rw [← h2]; exact h1
 unfold ref13_Declared at hres
 unfold ac90
 refine rc_seq ?_
 refine rc_region ?_
 refine rd_op (ov_box rfl (TR.cnt api_Program.t r0)) ?_
 refine rd_op (ov_box rfl (TR.cnt api_FieldRef.t r1)) ?_
 refine rd_op (v := vi 0) (ov_move rfl) ?_
 refine rd_op (v := vb false) (ov_move rfl) ?_
 refine rd_nil ?_
 refine pn_seq ?_
 refine rc_seq ?_
 refine rc_region ?_
 obtain ⟨v101, e101, r101⟩ := api_Program.g_Metadata r0
 refine rd_op (ov_faddr rfl e101) ?_
 refine rd_op (ov_load rfl (TR.cnt (tSl api_Field.t) r101) (TR.agg (tSl api_Field.t) r101)) ?_
 refine rd_op (ov_move rfl) ?_
 refine rd_nil ?_
 refine pn_seq ?_
 refine rc_seq ?_
 refine rc_seq ?_
 refine rc_region ?_
 refine rd_op (ov_faddr rfl (api_FieldRef.g_Header r1)) ?_
 refine rd_op (ov_load rfl rfl rfl) ?_
 refine rd_op (ov_bin rfl rfl i_neq) ?_
 refine rd_nil ?_
 refine pn_seq ?_
 obtain ⟨k109, hk109, hres⟩ := let_ex hres
 refine rc_join (F := fun b S Q => ∀ (x6_109 : List api_Field) (u6_109 : PV) (r6_109 : (tSl api_Field.t).R x6_109 u6_109) (hj109 : Heap) (Mj109 : Mem hj109 []), k109 x6_109 = res → RC Tryz.prog b S Q [(6, u6_109), (3, .fp v1)] hj109) ?_ ?_
 ·intro x6_109 u6_109 r6_109 hj109 Mj109 hres
  rw [← hk109] at hres
  refine rc_seq ?_
  refine rc_seq ?_
  refine rc_region ?_
  refine rd_op (ov_faddr rfl (api_FieldRef.g_Field r1)) ?_
  refine rd_op (ov_load rfl rfl rfl) ?_
  refine rd_op (ov_bin rfl rfl i_lss) ?_
  refine rd_op (ov_move rfl) ?_
  refine rd_cut (d := 39) (v := vb ((decide (x1.Field < 0)) || (decide ((x6_109.length : Int) ≤ x1.Field)))) ?_ ?_
  ·intro S Q r
   simp only [ac90_G2, List.cons_append, List.nil_append, List.append_assoc]
   cases hb110 : (decide (x1.Field < 0))
   ·intro k
    have hb110' := hb110
    try simp only [qa1, qa2, qa3, qa4, qa5, qa6, qa7, qa8, qa9, qaA, qaB, qaC, qaD] at hb110'
    refine rd_yes rfl rfl (ov_faddr rfl (api_FieldRef.g_Field r1)) ?_
    refine rd_yes rfl rfl (ov_load rfl rfl rfl) ?_
    refine rd_yes rfl rfl (ov_move rfl) ?_
    refine rd_yes rfl rfl (ov_bi rfl (sl_len r6_109 Tryz.underlying23 _)) ?_
    refine rd_yes rfl rfl (ov_bin rfl rfl i_geq) ?_
    refine rd_op (v := vb (decide ((x6_109.length : Int) ≤ x1.Field))) (ov_pick rfl rfl rfl rfl) ?_
    exact rd_weak (sub_cons rfl (sub_skip rfl (sub_skip rfl (sub_skip rfl (sub_skip rfl (sub_skip rfl (sub_skip rfl (sub_refl _)))))))) k
   ·intro k
    refine rd_skip rfl rfl ?_
    refine rd_skip rfl rfl ?_
    refine rd_skip rfl rfl ?_
    refine rd_skip rfl rfl ?_
    refine rd_skip rfl rfl ?_
    refine rd_op (v := vb true) (ov_pick rfl rfl rfl rfl) ?_
    exact rd_weak (sub_cons rfl (sub_skip rfl (sub_skip rfl (sub_skip rfl (sub_skip rfl (sub_skip rfl (sub_skip rfl (sub_refl _)))))))) k
  refine rd_nil ?_
  refine pn_seq ?_
  refine rc_cond rfl (fun hc111 => ?_) (fun hc111 => ?_)
  ·replace hres := (ite_t hc111).symm.trans hres
   have hc111' := hc111
   try simp only [qa1, qa2, qa3, qa4, qa5, qa6, qa7, qa8, qa9, qaA, qaB, qaC, qaD] at hc111'
   refine rc_seq ?_
   refine rc_region ?_
   refine rd_op (v := vi 0) (ov_move rfl) ?_
   refine rd_op (v := vb false) (ov_move rfl) ?_
   refine rd_nil ?_
   refine pn_seq ?_
   subst hres
   exact rc_retV (.tmp rfl (.tmp rfl .nil)) (deep_closed (show closed (.tup _) = true from (clL_cons rfl (clL_cons rfl clL_nil)))) rfl
  ·replace hres := (ite_f hc111).symm.trans hres
   have hc111' := hc111
   try simp only [qa1, qa2, qa3, qa4, qa5, qa6, qa7, qa8, qa9, qaA, qaB, qaC, qaD] at hc111'
   refine rc_skip ?_
   refine pn_seq ?_
   refine rc_seq ?_
   refine rc_region ?_
   refine rd_op (ov_move rfl) ?_
   refine rd_op (ov_faddr rfl (api_FieldRef.g_Field r1)) ?_
   refine rd_op (ov_load rfl rfl rfl) ?_
   obtain ⟨v112, e112, r112⟩ := sl_idx (i := x1.Field) r6_109 (by omega) (by omega)
   refine rd_op (ov_iaddr rfl rfl e112) ?_
   refine rd_op (ov_faddr rfl (api_Field.g_Width r112)) ?_
   refine rd_op (ov_load rfl rfl rfl) ?_
   refine rd_op (ov_move rfl) ?_
   refine rd_op (v := vb true) (ov_move rfl) ?_
   refine rd_nil ?_
   refine pn_seq ?_
   subst hres
   exact rc_retV (.tmp rfl (.tmp rfl .nil)) (deep_closed (show closed (.tup _) = true from (clL_cons rfl (clL_cons rfl clL_nil)))) rfl
 ·intro J
  refine rc_cond rfl (fun hc113 => ?_) (fun hc113 => ?_)
  ·replace hres := (ite_t hc113).symm.trans hres
   have hc113' := hc113
   try simp only [qa1, qa2, qa3, qa4, qa5, qa6, qa7, qa8, qa9, qaA, qaB, qaC, qaD] at hc113'
   refine rc_seq ?_
   refine rc_seq ?_
   refine rc_region ?_
   refine rd_op (ov_faddr rfl (api_FieldRef.g_Header r1)) ?_
   refine rd_op (ov_load rfl rfl rfl) ?_
   refine rd_op (ov_bin rfl rfl i_lss) ?_
   refine rd_op (ov_move rfl) ?_
   refine rd_cut (d := 22) (v := vb ((decide (x1.Header < 0)) || (decide ((x0.Headers.length : Int) ≤ x1.Header)))) ?_ ?_
   ·intro S Q r
    simp only [ac90_G1, List.cons_append, List.nil_append, List.append_assoc]
    cases hb114 : (decide (x1.Header < 0))
    ·intro k
     have hb114' := hb114
     try simp only [qa1, qa2, qa3, qa4, qa5, qa6, qa7, qa8, qa9, qaA, qaB, qaC, qaD] at hb114'
     refine rd_yes rfl rfl (ov_faddr rfl (api_FieldRef.g_Header r1)) ?_
     refine rd_yes rfl rfl (ov_load rfl rfl rfl) ?_
     obtain ⟨v115, e115, r115⟩ := api_Program.g_Headers r0
     refine rd_yes rfl rfl (ov_faddr rfl e115) ?_
     refine rd_yes rfl rfl (ov_load rfl (TR.cnt (tSl api_Header.t) r115) (TR.agg (tSl api_Header.t) r115)) ?_
     refine rd_yes rfl rfl (ov_bi rfl (sl_len r115 Tryz.underlying22 _)) ?_
     refine rd_yes rfl rfl (ov_bin rfl rfl i_geq) ?_
     refine rd_op (v := vb (decide ((x0.Headers.length : Int) ≤ x1.Header))) (ov_pick rfl rfl rfl rfl) ?_
     exact rd_weak (sub_cons rfl (sub_skip rfl (sub_skip rfl (sub_skip rfl (sub_skip rfl (sub_skip rfl (sub_skip rfl (sub_skip rfl (sub_refl _))))))))) k
    ·intro k
     refine rd_skip rfl rfl ?_
     refine rd_skip rfl rfl ?_
     refine rd_skip rfl rfl ?_
     refine rd_skip rfl rfl ?_
     refine rd_skip rfl rfl ?_
     refine rd_skip rfl rfl ?_
     refine rd_op (v := vb true) (ov_pick rfl rfl rfl rfl) ?_
     exact rd_weak (sub_cons rfl (sub_skip rfl (sub_skip rfl (sub_skip rfl (sub_skip rfl (sub_skip rfl (sub_skip rfl (sub_skip rfl (sub_refl _))))))))) k
   refine rd_nil ?_
   refine pn_seq ?_
   refine rc_cond rfl (fun hc116 => ?_) (fun hc116 => ?_)
   ·replace hres := (ite_t hc116).symm.trans hres
    have hc116' := hc116
    try simp only [qa1, qa2, qa3, qa4, qa5, qa6, qa7, qa8, qa9, qaA, qaB, qaC, qaD] at hc116'
    refine rc_seq ?_
    refine rc_region ?_
    refine rd_op (v := vi 0) (ov_move rfl) ?_
    refine rd_op (v := vb false) (ov_move rfl) ?_
    refine rd_nil ?_
    refine pn_seq ?_
    subst hres
    exact rc_retV (.tmp rfl (.tmp rfl .nil)) (deep_closed (show closed (.tup _) = true from (clL_cons rfl (clL_cons rfl clL_nil)))) rfl
   ·replace hres := (ite_f hc116).symm.trans hres
    have hc116' := hc116
    try simp only [qa1, qa2, qa3, qa4, qa5, qa6, qa7, qa8, qa9, qaA, qaB, qaC, qaD] at hc116'
    refine rc_skip ?_
    refine pn_seq ?_
    refine rc_region ?_
    obtain ⟨v117, e117, r117⟩ := api_Program.g_Headers r0
    refine rd_op (ov_faddr rfl e117) ?_
    refine rd_op (ov_load rfl (TR.cnt (tSl api_Header.t) r117) (TR.agg (tSl api_Header.t) r117)) ?_
    refine rd_op (ov_faddr rfl (api_FieldRef.g_Header r1)) ?_
    refine rd_op (ov_load rfl rfl rfl) ?_
    obtain ⟨v118, e118, r118⟩ := sl_idx (i := x1.Header) r117 (by omega) (by omega)
    refine rd_op (ov_iaddr rfl rfl e118) ?_
    obtain ⟨v119, e119, r119⟩ := api_Header.g_Fields r118
    refine rd_op (ov_faddr rfl e119) ?_
    refine rd_op (ov_load rfl (TR.cnt (tSl api_Field.t) r119) (TR.agg (tSl api_Field.t) r119)) ?_
    refine rd_op (ov_move rfl) ?_
    refine rd_nil ?_
    refine pn_seq (rc_weak ((sub_cons rfl (sub_cons rfl (sub_nil _)))) (J _ _ r119 _ (Mem.sub (Mem.nil ⟨0, []⟩) .slnil) hres))
  ·replace hres := (ite_f hc113).symm.trans hres
   have hc113' := hc113
   try simp only [qa1, qa2, qa3, qa4, qa5, qa6, qa7, qa8, qa9, qaA, qaB, qaC, qaD] at hc113'
   refine rc_skip ?_
   refine pn_seq (rc_weak ((sub_cons rfl (sub_cons rfl (sub_nil _)))) (J _ _ r101 _ (Mem.sub (Mem.nil ⟨0, []⟩) .slnil) hres))

/-- patchbay/patchbayref13.leaf -/
def RF52 (res : Int × Int) (r : PV) : Prop := r = .tup [vi res.1, vi res.2]
theorem f52_ok {x0 : api_ExprNode} {x1 : expr_Scope} {v0 : PV} {v1 : PV} (r0 : api_ExprNode.t.R x0 v0) (r1 : expr_Scope.t.R x1 v1) : FnR Tryz.prog 52 [v0, v1] (.tup [vi ((ref13_leaf x0 x1).1), vi ((ref13_leaf x0 x1).2)]) := by
 obtain ⟨res, hres⟩ : ∃ res, ref13_leaf x0 x1 = res := ⟨_, rfl⟩
 suffices H : RC Tryz.prog ac52 [] (QR Tryz.prog [(4, none), (5, none)] (RF52 res)) (argE 0 [v0, v1]) ⟨0, []⟩ by
  obtain ⟨r, h1, h2⟩ := fnE text52 (by simp) H
  rw [hres]
  have h2 : r = .tup [vi res.1, vi res.2] := h2
  rw [← h2]; exact h1
 unfold ref13_leaf at hres
 unfold ac52
 refine rc_seq ?_
 refine rc_region ?_
 refine rd_op (ov_box rfl (TR.cnt api_ExprNode.t r0)) ?_
 refine rd_op (ov_box rfl (TR.cnt expr_Scope.t r1)) ?_
 refine rd_op (v := vi 0) (ov_move rfl) ?_
 refine rd_op (v := vi 0) (ov_move rfl) ?_
 refine rd_nil ?_
 refine pn_seq ?_
 refine rc_seq ?_
 refine rc_seq ?_
 refine rc_region ?_
 refine rd_op (ov_faddr rfl (api_ExprNode.g_Op r0)) ?_
 refine rd_op (ov_load rfl rfl rfl) ?_
 refine rd_nil ?_
 refine pn_seq ?_
 refine rc_block ?_
 refine rc_seq ?_
 refine rc_region ?_
 refine rd_op (ov_bin rfl rfl i_eql) ?_
 refine rd_op (ov_move rfl) ?_
 refine rd_nil ?_
 refine pn_seq ?_
 refine rc_cond rfl (fun hc101 => ?_) (fun hc101 => ?_)
 ·replace hres := (ite_t hc101).symm.trans hres
  have hc101' := hc101
  try simp only [qa1, qa2, qa3, qa4, qa5, qa6, qa7, qa8, qa9, qaA, qaB, qaC, qaD] at hc101'
  refine rc_seq ?_
  refine rc_region ?_
  refine rd_op (ov_faddr rfl (api_ExprNode.g_W r0)) ?_
  refine rd_op (ov_load rfl rfl rfl) ?_
  obtain ⟨y102, hw102, hres⟩ := let_ex hres
  have f102 := f88_ok (x0 := x0.W)  
  rw [hw102] at f102
  refine rd_call (cv_fn rfl rfl (clL_cons rfl clL_nil) f102) ?_
  refine rd_op (ov_move rfl) ?_
  refine rd_op (ov_extract rfl rfl) ?_
  refine rd_op (ov_extract rfl rfl) ?_
  refine rd_op (ov_move rfl) ?_
  refine rd_op (ov_move rfl) ?_
  refine rd_nil ?_
  refine pn_seq ?_
  refine rc_seq ?_
  refine rc_seq ?_
  refine rc_region ?_
  refine rd_op (ov_move rfl) ?_
  refine rd_op (ov_bin rfl rfl i_eql) ?_
  refine rd_op (ov_move rfl) ?_
  refine rd_cut (d := 34) (v := vb ((decide (y102.2 = 0)) && ((decide (x0.N < 0)) || (decide (((ref01_Mask y102.1).toNat : Int) < x0.N))))) ?_ ?_
  ·intro S Q r
   simp only [ac52_G1, List.cons_append, List.nil_append, List.append_assoc]
   cases hb103 : (decide (y102.2 = 0))
   ·intro k
    simp only [ac52_G2, List.cons_append, List.nil_append, List.append_assoc]
    refine rd_skip rfl rfl ?_
    refine rd_skip rfl rfl ?_
    refine rd_skip rfl rfl ?_
    refine rd_skip rfl rfl ?_
    refine rd_skipU rfl ?_
    refine rd_skipU rfl ?_
    refine rd_skipU rfl ?_
    refine rd_skipU rfl ?_
    refine rd_skipU rfl ?_
    refine rd_skipU rfl ?_
    refine rd_skip rfl rfl ?_
    refine rd_op (v := vb false) (ov_pick rfl rfl rfl rfl) ?_
    exact rd_weak (sub_cons rfl (sub_skip rfl (sub_skip rfl (sub_skip rfl (sub_skip rfl (sub_skip rfl (sub_skip rfl (sub_skip rfl (sub_skip rfl (sub_skip rfl (sub_skip rfl (sub_skip rfl (sub_skip rfl (sub_refl _)))))))))))))) k
   ·intro k
    have hb103' := hb103
    try simp only [qa1, qa2, qa3, qa4, qa5, qa6, qa7, qa8, qa9, qaA, qaB, qaC, qaD] at hb103'
    refine rd_yes rfl rfl (ov_faddr rfl (api_ExprNode.g_N r0)) ?_
    refine rd_yes rfl rfl (ov_load rfl rfl rfl) ?_
    refine rd_yes rfl rfl (ov_bin rfl rfl i_lss) ?_
    refine rd_yes rfl rfl (ov_move rfl) ?_
    refine rd_cut (d := 33) (v := vb ((decide (x0.N < 0)) || (decide (((ref01_Mask y102.1).toNat : Int) < x0.N)))) ?_ ?_
    ·intro S Q r
     simp only [ac52_G2, List.cons_append, List.nil_append, List.append_assoc]
     cases hb104 : (decide (x0.N < 0))
     ·intro k
      have hb104' := hb104
      try simp only [qa1, qa2, qa3, qa4, qa5, qa6, qa7, qa8, qa9, qaA, qaB, qaC, qaD] at hb104'
      refine rd_yes rfl rfl (ov_faddr rfl (api_ExprNode.g_N r0)) ?_
      refine rd_yes rfl rfl (ov_load rfl rfl rfl) ?_
      refine rd_yes rfl rfl (ov_move rfl) ?_
      have f105 := f89_ok (x0 := y102.1)  
      refine rd_ycall rfl rfl (cv_fn rfl rfl (clL_cons rfl clL_nil) f105) ?_
      refine rd_yes rfl rfl (ov_conv (a := vu32 (ref01_Mask y102.1)) rfl (c_wi Tryz.underlying42 Tryz.underlying3)) ?_
      refine rd_yes rfl rfl (ov_bin rfl rfl i_gtr) ?_
      refine rd_yes (v := vb (decide (((ref01_Mask y102.1).toNat : Int) < x0.N))) rfl rfl (ov_pick rfl rfl rfl rfl) ?_
      exact rd_weak (sub_cons rfl (sub_skip rfl (sub_skip rfl (sub_skip rfl (sub_skip rfl (sub_skip rfl (sub_skip rfl (sub_skip rfl (sub_refl _))))))))) k
     ·intro k
      refine rd_skip rfl rfl ?_
      refine rd_skip rfl rfl ?_
      refine rd_skip rfl rfl ?_
      refine rd_skip rfl rfl ?_
      refine rd_skip rfl rfl ?_
      refine rd_skip rfl rfl ?_
      refine rd_yes (v := vb true) rfl rfl (ov_pick rfl rfl rfl rfl) ?_
      exact rd_weak (sub_cons rfl (sub_skip rfl (sub_skip rfl (sub_skip rfl (sub_skip rfl (sub_skip rfl (sub_skip rfl (sub_skip rfl (sub_refl _))))))))) k
    refine rd_op (v := vb ((decide (x0.N < 0)) || (decide (((ref01_Mask y102.1).toNat : Int) < x0.N)))) (ov_pick rfl rfl rfl rfl) ?_
    exact rd_weak (sub_cons rfl (sub_skip rfl (sub_skip rfl (sub_skip rfl (sub_skip rfl (sub_skip rfl (sub_skip rfl (sub_refl _)))))))) k
  refine rd_nil ?_
  refine pn_seq ?_
  refine rc_cond rfl (fun hc106 => ?_) (fun hc106 => ?_)
  ·replace hres := (ite_t hc106).symm.trans hres
   have hc106' := hc106
   try simp only [qa1, qa2, qa3, qa4, qa5, qa6, qa7, qa8, qa9, qaA, qaB, qaC, qaD] at hc106'
   refine rc_seq ?_
   refine rc_region ?_
   refine rd_op (v := vi 0) (ov_move rfl) ?_
   refine rd_op (v := vi 9) (ov_move rfl) ?_
   refine rd_nil ?_
   refine pn_seq ?_
   subst hres
   exact rc_retV (.tmp rfl (.tmp rfl .nil)) (deep_closed (show closed (.tup _) = true from (clL_cons rfl (clL_cons rfl clL_nil)))) rfl
  ·replace hres := (ite_f hc106).symm.trans hres
   have hc106' := hc106
   try simp only [qa1, qa2, qa3, qa4, qa5, qa6, qa7, qa8, qa9, qaA, qaB, qaC, qaD] at hc106'
   refine rc_skip ?_
   refine pn_seq ?_
   refine rc_seq ?_
   refine rc_region ?_
   refine rd_op (ov_move rfl) ?_
   refine rd_op (ov_move rfl) ?_
   refine rd_op (ov_move rfl) ?_
   refine rd_op (ov_move rfl) ?_
   refine rd_nil ?_
   refine pn_seq ?_
   subst hres
   exact rc_retV (.tmp rfl (.tmp rfl .nil)) (deep_closed (show closed (.tup _) = true from (clL_cons rfl (clL_cons rfl clL_nil)))) rfl
 ·replace hres := (ite_f hc101).symm.trans hres
  have hc101' := hc101
  try simp only [qa1, qa2, qa3, qa4, qa5, qa6, qa7, qa8, qa9, qaA, qaB, qaC, qaD] at hc101'
  refine rc_seq ?_
  refine rc_region ?_
  refine rd_op (ov_bin rfl rfl i_eql) ?_
  refine rd_op (ov_move rfl) ?_
  refine rd_nil ?_
  refine pn_seq ?_
  refine rc_cond rfl (fun hc107 => ?_) (fun hc107 => ?_)
  ·replace hres := (ite_t hc107).symm.trans hres
   have hc107' := hc107
   try simp only [qa1, qa2, qa3, qa4, qa5, qa6, qa7, qa8, qa9, qaA, qaB, qaC, qaD] at hc107'
   refine rc_seq ?_
   refine rc_region ?_
   obtain ⟨v108, e108, r108⟩ := expr_Scope.g_Program r1
   refine rd_op (ov_faddr rfl e108) ?_
   refine rd_op (ov_load rfl (TR.cnt api_Program.t r108) (TR.agg api_Program.t r108)) ?_
   refine rd_op (ov_faddr rfl (api_ExprNode.g_N r0)) ?_
   refine rd_op (ov_load rfl rfl rfl) ?_
   refine rd_op (ov_faddr rfl (api_ExprNode.g_W r0)) ?_
   refine rd_op (ov_load rfl rfl rfl) ?_
   refine rd_op (v := .agg [vi x0.N, vi x0.W]) (ov_build (cs := [vi x0.N, vi x0.W]) rfl rfl) ?_
   obtain ⟨y109, hw109, hres⟩ := let_ex hres
   have f109 := f90_ok  r108 (show api_FieldRef.t.R ({ Header := x0.N, Field := x0.W } : api_FieldRef) (.agg [vi x0.N, vi x0.W]) from rfl) 
   rw [hw109] at f109
   refine rd_call (cv_fn rfl rfl (clL_cons (TR.clo api_Program.t r108) (clL_cons (TR.clo api_FieldRef.t (show api_FieldRef.t.R ({ Header := x0.N, Field := x0.W } : api_FieldRef) (.agg [vi x0.N, vi x0.W]) from rfl)) clL_nil)) f109) ?_
   refine rd_op (ov_move rfl) ?_
   refine rd_op (ov_extract rfl rfl) ?_
   refine rd_op (ov_extract rfl rfl) ?_
   refine rd_op (ov_move rfl) ?_
   refine rd_op (ov_move rfl) ?_
   refine rd_nil ?_
   refine pn_seq ?_
   refine rc_seq ?_
   refine rc_seq ?_
   refine rc_region ?_
   refine rd_op (ov_move rfl) ?_
   refine rd_op (ov_not rfl) ?_
   refine rd_nil ?_
   refine pn_seq ?_
   refine rc_cond rfl (fun hc110 => ?_) (fun hc110 => ?_)
   ·replace hres := (ite_t hc110).symm.trans hres
    have hc110' := hc110
    try simp only [qa1, qa2, qa3, qa4, qa5, qa6, qa7, qa8, qa9, qaA, qaB, qaC, qaD] at hc110'
    refine rc_seq ?_
    refine rc_region ?_
    refine rd_op (v := vi 0) (ov_move rfl) ?_
    refine rd_op (v := vi 8) (ov_move rfl) ?_
    refine rd_nil ?_
    refine pn_seq ?_
    subst hres
    exact rc_retV (.tmp rfl (.tmp rfl .nil)) (deep_closed (show closed (.tup _) = true from (clL_cons rfl (clL_cons rfl clL_nil)))) rfl
   ·replace hres := (ite_f hc110).symm.trans hres
    have hc110' := hc110
    try simp only [qa1, qa2, qa3, qa4, qa5, qa6, qa7, qa8, qa9, qaA, qaB, qaC, qaD] at hc110'
    refine rc_skip ?_
    refine pn_seq ?_
    refine rc_seq ?_
    refine rc_region ?_
    refine rd_op (ov_move rfl) ?_
    obtain ⟨y111, hw111, hres⟩ := let_ex hres
    have f111 := f88_ok (x0 := y109.1)  
    rw [hw111] at f111
    refine rd_call (cv_fn rfl rfl (clL_cons rfl clL_nil) f111) ?_
    refine rd_op (ov_extract rfl rfl) ?_
    refine rd_op (ov_extract rfl rfl) ?_
    refine rd_op (ov_move rfl) ?_
    refine rd_op (ov_move rfl) ?_
    refine rd_nil ?_
    refine pn_seq ?_
    subst hres
    exact rc_retV (.tmp rfl (.tmp rfl .nil)) (deep_closed (show closed (.tup _) = true from (clL_cons rfl (clL_cons rfl clL_nil)))) rfl
  ·replace hres := (ite_f hc107).symm.trans hres
   have hc107' := hc107
   try simp only [qa1, qa2, qa3, qa4, qa5, qa6, qa7, qa8, qa9, qaA, qaB, qaC, qaD] at hc107'
   refine rc_seq ?_
   refine rc_region ?_
   refine rd_op (ov_bin rfl rfl i_eql) ?_
   refine rd_op (ov_move rfl) ?_
   refine rd_nil ?_
   refine pn_seq ?_
   refine rc_cond rfl (fun hc112 => ?_) (fun hc112 => ?_)
   ·replace hres := (ite_t hc112).symm.trans hres
    have hc112' := hc112
    try simp only [qa1, qa2, qa3, qa4, qa5, qa6, qa7, qa8, qa9, qaA, qaB, qaC, qaD] at hc112'
    refine rc_seq ?_
    refine rc_seq ?_
    refine rc_region ?_
    refine rd_op (ov_faddr rfl (api_ExprNode.g_N r0)) ?_
    refine rd_op (ov_load rfl rfl rfl) ?_
    refine rd_op (ov_bin rfl rfl i_lss) ?_
    refine rd_op (ov_move rfl) ?_
    refine rd_cut (d := 68) (v := vb ((decide (x0.N < 0)) || (decide ((x1.Params.length : Int) ≤ x0.N)))) ?_ ?_
    ·intro S Q r
     simp only [ac52_G3, List.cons_append, List.nil_append, List.append_assoc]
     cases hb113 : (decide (x0.N < 0))
     ·intro k
      have hb113' := hb113
      try simp only [qa1, qa2, qa3, qa4, qa5, qa6, qa7, qa8, qa9, qaA, qaB, qaC, qaD] at hb113'
      refine rd_yes rfl rfl (ov_faddr rfl (api_ExprNode.g_N r0)) ?_
      refine rd_yes rfl rfl (ov_load rfl rfl rfl) ?_
      obtain ⟨v114, e114, r114⟩ := expr_Scope.g_Params r1
      refine rd_yes rfl rfl (ov_faddr rfl e114) ?_
      refine rd_yes rfl rfl (ov_load rfl (TR.cnt (tSl api_Field.t) r114) (TR.agg (tSl api_Field.t) r114)) ?_
      refine rd_yes rfl rfl (ov_bi rfl (sl_len r114 Tryz.underlying23 _)) ?_
      refine rd_yes rfl rfl (ov_bin rfl rfl i_geq) ?_
      refine rd_op (v := vb (decide ((x1.Params.length : Int) ≤ x0.N))) (ov_pick rfl rfl rfl rfl) ?_
      exact rd_weak (sub_cons rfl (sub_skip rfl (sub_skip rfl (sub_skip rfl (sub_skip rfl (sub_skip rfl (sub_skip rfl (sub_skip rfl (sub_refl _))))))))) k
     ·intro k
      refine rd_skip rfl rfl ?_
      refine rd_skip rfl rfl ?_
      refine rd_skip rfl rfl ?_
      refine rd_skip rfl rfl ?_
      refine rd_skip rfl rfl ?_
      refine rd_skip rfl rfl ?_
      refine rd_op (v := vb true) (ov_pick rfl rfl rfl rfl) ?_
      exact rd_weak (sub_cons rfl (sub_skip rfl (sub_skip rfl (sub_skip rfl (sub_skip rfl (sub_skip rfl (sub_skip rfl (sub_skip rfl (sub_refl _))))))))) k
    refine rd_nil ?_
    refine pn_seq ?_
    refine rc_cond rfl (fun hc115 => ?_) (fun hc115 => ?_)
    ·replace hres := (ite_t hc115).symm.trans hres
     have hc115' := hc115
     try simp only [qa1, qa2, qa3, qa4, qa5, qa6, qa7, qa8, qa9, qaA, qaB, qaC, qaD] at hc115'
     refine rc_seq ?_
     refine rc_region ?_
     refine rd_op (v := vi 0) (ov_move rfl) ?_
     refine rd_op (v := vi 8) (ov_move rfl) ?_
     refine rd_nil ?_
     refine pn_seq ?_
     subst hres
     exact rc_retV (.tmp rfl (.tmp rfl .nil)) (deep_closed (show closed (.tup _) = true from (clL_cons rfl (clL_cons rfl clL_nil)))) rfl
    ·replace hres := (ite_f hc115).symm.trans hres
     have hc115' := hc115
     try simp only [qa1, qa2, qa3, qa4, qa5, qa6, qa7, qa8, qa9, qaA, qaB, qaC, qaD] at hc115'
     refine rc_skip ?_
     refine pn_seq ?_
     refine rc_seq ?_
     refine rc_region ?_
     obtain ⟨v116, e116, r116⟩ := expr_Scope.g_Params r1
     refine rd_op (ov_faddr rfl e116) ?_
     refine rd_op (ov_load rfl (TR.cnt (tSl api_Field.t) r116) (TR.agg (tSl api_Field.t) r116)) ?_
     refine rd_op (ov_faddr rfl (api_ExprNode.g_N r0)) ?_
     refine rd_op (ov_load rfl rfl rfl) ?_
     obtain ⟨v117, e117, r117⟩ := sl_idx (i := x0.N) r116 (by omega) (by omega)
     refine rd_op (ov_iaddr rfl rfl e117) ?_
     refine rd_op (ov_faddr rfl (api_Field.g_Width r117)) ?_
     refine rd_op (ov_load rfl rfl rfl) ?_
     obtain ⟨y118, hw118, hres⟩ := let_ex hres
     have f118 := f88_ok (x0 := (ix x1.Params x0.N).Width)  
     rw [hw118] at f118
     refine rd_call (cv_fn rfl rfl (clL_cons rfl clL_nil) f118) ?_
     refine rd_op (ov_extract rfl rfl) ?_
     refine rd_op (ov_extract rfl rfl) ?_
     refine rd_op (ov_move rfl) ?_
     refine rd_op (ov_move rfl) ?_
     refine rd_nil ?_
     refine pn_seq ?_
     subst hres
     exact rc_retV (.tmp rfl (.tmp rfl .nil)) (deep_closed (show closed (.tup _) = true from (clL_cons rfl (clL_cons rfl clL_nil)))) rfl
   ·replace hres := (ite_f hc112).symm.trans hres
    have hc112' := hc112
    try simp only [qa1, qa2, qa3, qa4, qa5, qa6, qa7, qa8, qa9, qaA, qaB, qaC, qaD] at hc112'
    refine rc_skip ?_
    refine pn_blk ?_
    refine pn_seq ?_
    refine rc_seq ?_
    refine rc_seq ?_
    refine rc_region ?_
    refine rd_op (ov_faddr rfl (api_ExprNode.g_N r0)) ?_
    refine rd_op (ov_load rfl rfl rfl) ?_
    refine rd_op (ov_bin rfl rfl i_lss) ?_
    refine rd_op (ov_move rfl) ?_
    refine rd_cut (d := 90) (v := vb ((decide (x0.N < 0)) || (decide ((x1.Program.Headers.length : Int) ≤ x0.N)))) ?_ ?_
    ·intro S Q r
     simp only [ac52_G4, List.cons_append, List.nil_append, List.append_assoc]
     cases hb119 : (decide (x0.N < 0))
     ·intro k
      have hb119' := hb119
      try simp only [qa1, qa2, qa3, qa4, qa5, qa6, qa7, qa8, qa9, qaA, qaB, qaC, qaD] at hb119'
      refine rd_yes rfl rfl (ov_faddr rfl (api_ExprNode.g_N r0)) ?_
      refine rd_yes rfl rfl (ov_load rfl rfl rfl) ?_
      obtain ⟨v120, e120, r120⟩ := expr_Scope.g_Program r1
      refine rd_yes rfl rfl (ov_faddr rfl e120) ?_
      obtain ⟨v121, e121, r121⟩ := api_Program.g_Headers r120
      refine rd_yes rfl rfl (ov_faddr rfl e121) ?_
      refine rd_yes rfl rfl (ov_load rfl (TR.cnt (tSl api_Header.t) r121) (TR.agg (tSl api_Header.t) r121)) ?_
      refine rd_yes rfl rfl (ov_bi rfl (sl_len r121 Tryz.underlying22 _)) ?_
      refine rd_yes rfl rfl (ov_bin rfl rfl i_geq) ?_
      refine rd_op (v := vb (decide ((x1.Program.Headers.length : Int) ≤ x0.N))) (ov_pick rfl rfl rfl rfl) ?_
      exact rd_weak (sub_cons rfl (sub_skip rfl (sub_skip rfl (sub_skip rfl (sub_skip rfl (sub_skip rfl (sub_skip rfl (sub_skip rfl (sub_skip rfl (sub_refl _)))))))))) k
     ·intro k
      refine rd_skip rfl rfl ?_
      refine rd_skip rfl rfl ?_
      refine rd_skip rfl rfl ?_
      refine rd_skip rfl rfl ?_
      refine rd_skip rfl rfl ?_
      refine rd_skip rfl rfl ?_
      refine rd_skip rfl rfl ?_
      refine rd_op (v := vb true) (ov_pick rfl rfl rfl rfl) ?_
      exact rd_weak (sub_cons rfl (sub_skip rfl (sub_skip rfl (sub_skip rfl (sub_skip rfl (sub_skip rfl (sub_skip rfl (sub_skip rfl (sub_skip rfl (sub_refl _)))))))))) k
    refine rd_nil ?_
    refine pn_seq ?_
    refine rc_cond rfl (fun hc122 => ?_) (fun hc122 => ?_)
    ·replace hres := (ite_t hc122).symm.trans hres
     have hc122' := hc122
     try simp only [qa1, qa2, qa3, qa4, qa5, qa6, qa7, qa8, qa9, qaA, qaB, qaC, qaD] at hc122'
     refine rc_seq ?_
     refine rc_region ?_
     refine rd_op (v := vi 0) (ov_move rfl) ?_
     refine rd_op (v := vi 8) (ov_move rfl) ?_
     refine rd_nil ?_
     refine pn_seq ?_
     subst hres
     exact rc_retV (.tmp rfl (.tmp rfl .nil)) (deep_closed (show closed (.tup _) = true from (clL_cons rfl (clL_cons rfl clL_nil)))) rfl
    ·replace hres := (ite_f hc122).symm.trans hres
     have hc122' := hc122
     try simp only [qa1, qa2, qa3, qa4, qa5, qa6, qa7, qa8, qa9, qaA, qaB, qaC, qaD] at hc122'
     refine rc_skip ?_
     refine pn_seq ?_
     refine rc_seq ?_
     refine rc_region ?_
     refine rd_op (v := vi 1) (ov_move rfl) ?_
     refine rd_op (v := vi 0) (ov_move rfl) ?_
     refine rd_nil ?_
     refine pn_seq ?_
     subst hres
     exact rc_retV (.tmp rfl (.tmp rfl .nil)) (deep_closed (show closed (.tup _) = true from (clL_cons rfl (clL_cons rfl clL_nil)))) rfl

end Go.Proofs.YtfekghenlhoamaaGreat
