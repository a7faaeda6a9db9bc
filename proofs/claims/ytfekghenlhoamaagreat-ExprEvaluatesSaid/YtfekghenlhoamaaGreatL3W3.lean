/-
 The code of each function does what its plain program says.
-/
import Derived.Test.YtfekghenlhoamaaGreatL3W2
set_option linter.unusedVariables false
set_option linter.unusedSimpArgs false
set_option maxRecDepth 100000
namespace Go.Proofs.YtfekghenlhoamaaGreat
open Go Go.Pb Go.RowKit
/-- patchbay/patchbayref13.operator -/
def RF53 (res : Int × Int) (r : PV) : Prop := r = .tup [vi res.1, vi res.2]
theorem f53_ok {x0 : api_ExprNode} {x1 : List Int} {v0 : PV} {v1 : PV} (r0 : api_ExprNode.t.R x0 v0) (r1 : (tSl tI).R x1 v1) (hl : (x1.length : Int) = ref13_Arity x0.Op) (h1 : 1 ≤ x1.length) : FnR Tryz.prog 53 [v0, v1] (.tup [vi ((ref13_operator x0 x1).1), vi ((ref13_operator x0 x1).2)]) := by
 obtain ⟨res, hres⟩ : ∃ res, ref13_operator x0 x1 = res := ⟨_, rfl⟩
 suffices H : RC Tryz.prog ac53 [] (QR Tryz.prog [(4, none), (5, none)] (RF53 res)) (argE 0 [v0, v1]) ⟨0, []⟩ by
  obtain ⟨r, h1, h2⟩ := fnE text53 (by simp) H
  rw [hres]
  have h2 : r = .tup [vi res.1, vi res.2] := h2
  rw [← h2]; exact h1
 unfold ref13_operator at hres
 unfold ac53
 refine rc_seq ?_
 refine rc_region ?_
 refine rd_op (ov_box rfl (TR.cnt api_ExprNode.t r0)) ?_
 refine rd_op (v := vi 0) (ov_move rfl) ?_
 refine rd_op (v := vi 0) (ov_move rfl) ?_
 refine rd_nil ?_
 refine pn_seq ?_
 refine rc_seq ?_
 refine rc_seq ?_
 refine rc_region ?_
 refine rd_op (ov_faddr rfl (api_ExprNode.g_Op r0)) ?_
 refine rd_op (ov_load rfl rfl rfl) ?_
 refine rd_nil ?_
 refine pn_seq ?_
 refine rc_block ?_
 refine rc_seq ?_
 refine rc_region ?_
 refine rd_op (ov_bin rfl rfl i_eql) ?_
 refine rd_op (ov_move rfl) ?_
 refine rd_nil ?_
 refine pn_seq ?_
 refine rc_cond rfl (fun hc101 => ?_) (fun hc101 => ?_)
 ·replace hres := (ite_t hc101).symm.trans hres
  have hc101' := hc101
  try simp only [qa1, qa2, qa3, qa4, qa5, qa6, qa7, qa8, qa9, qaA, qaB, qaC, qaD] at hc101'
  refine rc_seq ?_
  refine rc_region ?_
  refine rd_op (ov_move rfl) ?_
  refine rd_op (ov_iaddr rfl rfl (slI r1 (by first | omega | (have hk := opl hl; omega) | (have hk := opl hl; have hj := jor (by assumption) (by assumption); omega)) (by first | omega | (have hk := opl hl; omega) | (have hk := opl hl; have hj := jor (by assumption) (by assumption); omega)))) ?_
  refine rd_op (ov_load rfl rfl rfl) ?_
  refine rd_op (ov_move rfl) ?_
  refine rd_op (v := vi 0) (ov_move rfl) ?_
  refine rd_nil ?_
  refine pn_seq ?_
  subst hres
  exact rc_retV (.tmp rfl (.tmp rfl .nil)) (deep_closed (show closed (.tup _) = true from (clL_cons rfl (clL_cons rfl clL_nil)))) rfl
 ·replace hres := (ite_f hc101).symm.trans hres
  have hc101' := hc101
  try simp only [qa1, qa2, qa3, qa4, qa5, qa6, qa7, qa8, qa9, qaA, qaB, qaC, qaD] at hc101'
  refine rc_seq ?_
  refine rc_seq ?_
  refine rc_region ?_
  refine rd_op (ov_bin rfl rfl i_eql) ?_
  refine rd_op (ov_move rfl) ?_
  refine rd_nil ?_
  refine pn_seq ?_
  obtain ⟨k103, hk103, hres⟩ := let_ex hres
  refine rc_join (F := fun b S Q => ∀ (x13_103 : Bool) (jq103 : x13_103 = (if (decide (x0.Op = 6)) = true then (decide (x0.Op = 6)) else (decide (x0.Op = 7)))) (hj103 : Heap) (Mj103 : Mem hj103 []), k103 x13_103 = res → RC Tryz.prog b S Q [(13, vb x13_103), (7, vi x0.Op), (2, .fp v0), (1, v1)] hj103) ?_ ?_
  ·intro x13_103 jq103 hj103 Mj103 hres
   rw [← hk103] at hres
   refine rc_cond rfl (fun hc104 => ?_) (fun hc104 => ?_)
   ·replace hres := (ite_t hc104).symm.trans hres
    have hc104' := hc104
    try simp only [qa1, qa2, qa3, qa4, qa5, qa6, qa7, qa8, qa9, qaA, qaB, qaC, qaD] at hc104'
    refine rc_seq ?_
    refine rc_seq ?_
    refine rc_region ?_
    refine rd_op (ov_faddr rfl (api_ExprNode.g_N r0)) ?_
    refine rd_op (ov_load rfl rfl rfl) ?_
    refine rd_op (ov_bin rfl rfl i_lss) ?_
    refine rd_op (ov_move rfl) ?_
    refine rd_cut (d := 23) (v := vb ((decide (x0.N < 0)) || (decide (31 < x0.N)))) ?_ ?_
    ·intro S Q r
     simp only [ac53_G1, List.cons_append, List.nil_append, List.append_assoc]
     cases hb105 : (decide (x0.N < 0))
     ·intro k
      have hb105' := hb105
      try simp only [qa1, qa2, qa3, qa4, qa5, qa6, qa7, qa8, qa9, qaA, qaB, qaC, qaD] at hb105'
      refine rd_yes rfl rfl (ov_faddr rfl (api_ExprNode.g_N r0)) ?_
      refine rd_yes rfl rfl (ov_load rfl rfl rfl) ?_
      refine rd_yes rfl rfl (ov_bin rfl rfl i_gtr) ?_
      refine rd_op (v := vb (decide (31 < x0.N))) (ov_pick rfl rfl rfl rfl) ?_
      exact rd_weak (sub_cons rfl (sub_skip rfl (sub_skip rfl (sub_skip rfl (sub_skip rfl (sub_refl _)))))) k
     ·intro k
      refine rd_skip rfl rfl ?_
      refine rd_skip rfl rfl ?_
      refine rd_skip rfl rfl ?_
      refine rd_op (v := vb true) (ov_pick rfl rfl rfl rfl) ?_
      exact rd_weak (sub_cons rfl (sub_skip rfl (sub_skip rfl (sub_skip rfl (sub_skip rfl (sub_refl _)))))) k
    refine rd_nil ?_
    refine pn_seq ?_
    refine rc_cond rfl (fun hc106 => ?_) (fun hc106 => ?_)
    ·replace hres := (ite_t hc106).symm.trans hres
     have hc106' := hc106
     try simp only [qa1, qa2, qa3, qa4, qa5, qa6, qa7, qa8, qa9, qaA, qaB, qaC, qaD] at hc106'
     refine rc_seq ?_
     refine rc_region ?_
     refine rd_op (v := vi 0) (ov_move rfl) ?_
     refine rd_op (v := vi 9) (ov_move rfl) ?_
     refine rd_nil ?_
     refine pn_seq ?_
     subst hres
     exact rc_retV (.tmp rfl (.tmp rfl .nil)) (deep_closed (show closed (.tup _) = true from (clL_cons rfl (clL_cons rfl clL_nil)))) rfl
    ·replace hres := (ite_f hc106).symm.trans hres
     have hc106' := hc106
     try simp only [qa1, qa2, qa3, qa4, qa5, qa6, qa7, qa8, qa9, qaA, qaB, qaC, qaD] at hc106'
     refine rc_skip ?_
     refine pn_seq ?_
     refine rc_seq ?_
     refine rc_region ?_
     refine rd_op (ov_move rfl) ?_
     refine rd_op (ov_iaddr rfl rfl (slI r1 (by first | omega | (have hk := opl hl; omega) | (have hk := opl hl; have hj := jor (by assumption) (by assumption); omega)) (by first | omega | (have hk := opl hl; omega) | (have hk := opl hl; have hj := jor (by assumption) (by assumption); omega)))) ?_
     refine rd_op (ov_load rfl rfl rfl) ?_
     refine rd_op (ov_move rfl) ?_
     refine rd_op (v := vi 0) (ov_move rfl) ?_
     refine rd_nil ?_
     refine pn_seq ?_
     subst hres
     exact rc_retV (.tmp rfl (.tmp rfl .nil)) (deep_closed (show closed (.tup _) = true from (clL_cons rfl (clL_cons rfl clL_nil)))) rfl
   ·replace hres := (ite_f hc104).symm.trans hres
    have hc104' := hc104
    try simp only [qa1, qa2, qa3, qa4, qa5, qa6, qa7, qa8, qa9, qaA, qaB, qaC, qaD] at hc104'
    refine rc_seq ?_
    refine rc_region ?_
    refine rd_op (ov_bin rfl rfl i_eql) ?_
    refine rd_op (ov_move rfl) ?_
    refine rd_nil ?_
    refine pn_seq ?_
    refine rc_cond rfl (fun hc107 => ?_) (fun hc107 => ?_)
    ·replace hres := (ite_t hc107).symm.trans hres
     have hc107' := hc107
     try simp only [qa1, qa2, qa3, qa4, qa5, qa6, qa7, qa8, qa9, qaA, qaB, qaC, qaD] at hc107'
     refine rc_seq ?_
     refine rc_block ?_
     refine rc_seq ?_
     refine rc_region ?_
     refine rd_op (ov_faddr rfl (api_ExprNode.g_N r0)) ?_
     refine rd_op (ov_load rfl rfl rfl) ?_
     refine rd_op (ov_bin rfl rfl i_lss) ?_
     refine rd_op (ov_move rfl) ?_
     refine rd_nil ?_
     refine pn_seq ?_
     refine rc_cond rfl (fun hc108 => ?_) (fun hc108 => ?_)
     ·replace hres := (ite_t hc108).symm.trans hres
      have hc108' := hc108
      try simp only [qa1, qa2, qa3, qa4, qa5, qa6, qa7, qa8, qa9, qaA, qaB, qaC, qaD] at hc108'
      refine rc_seq ?_
      refine rc_region ?_
      refine rd_op (v := vi 0) (ov_move rfl) ?_
      refine rd_op (v := vi 9) (ov_move rfl) ?_
      refine rd_nil ?_
      refine pn_seq ?_
      subst hres
      exact rc_retV (.tmp rfl (.tmp rfl .nil)) (deep_closed (show closed (.tup _) = true from (clL_cons rfl (clL_cons rfl clL_nil)))) rfl
     ·replace hres := (ite_f hc108).symm.trans hres
      have hc108' := hc108
      try simp only [qa1, qa2, qa3, qa4, qa5, qa6, qa7, qa8, qa9, qaA, qaB, qaC, qaD] at hc108'
      refine rc_seq ?_
      refine rc_region ?_
      refine rd_op (ov_faddr rfl (api_ExprNode.g_W r0)) ?_
      refine rd_op (ov_load rfl rfl rfl) ?_
      refine rd_op (ov_bin rfl rfl i_lss) ?_
      refine rd_op (ov_move rfl) ?_
      refine rd_cut (d := 41) (v := vb ((decide (x0.W < 1)) || (decide (32 < x0.W)))) ?_ ?_
      ·intro S Q r
       simp only [ac53_G2, List.cons_append, List.nil_append, List.append_assoc]
       cases hb109 : (decide (x0.W < 1))
       ·intro k
        have hb109' := hb109
        try simp only [qa1, qa2, qa3, qa4, qa5, qa6, qa7, qa8, qa9, qaA, qaB, qaC, qaD] at hb109'
        refine rd_yes rfl rfl (ov_faddr rfl (api_ExprNode.g_W r0)) ?_
        refine rd_yes rfl rfl (ov_load rfl rfl rfl) ?_
        refine rd_yes rfl rfl (ov_bin rfl rfl i_gtr) ?_
        refine rd_op (v := vb (decide (32 < x0.W))) (ov_pick rfl rfl rfl rfl) ?_
        exact rd_weak (sub_cons rfl (sub_skip rfl (sub_skip rfl (sub_skip rfl (sub_skip rfl (sub_refl _)))))) k
       ·intro k
        refine rd_skip rfl rfl ?_
        refine rd_skip rfl rfl ?_
        refine rd_skip rfl rfl ?_
        refine rd_op (v := vb true) (ov_pick rfl rfl rfl rfl) ?_
        exact rd_weak (sub_cons rfl (sub_skip rfl (sub_skip rfl (sub_skip rfl (sub_skip rfl (sub_refl _)))))) k
      refine rd_op (ov_move rfl) ?_
      refine rd_cut (d := 52) (v := vb (((decide (x0.W < 1)) || (decide (32 < x0.W))) || (decide ((wr ((ix x1 0) - x0.W)) < x0.N)))) ?_ ?_
      ·intro S Q r
       simp only [ac53_G3, List.cons_append, List.nil_append, List.append_assoc]
       cases hb110 : ((decide (x0.W < 1)) || (decide (32 < x0.W)))
       ·intro k
        have hb110' := hb110
        try simp only [qa1, qa2, qa3, qa4, qa5, qa6, qa7, qa8, qa9, qaA, qaB, qaC, qaD] at hb110'
        refine rd_yes rfl rfl (ov_faddr rfl (api_ExprNode.g_N r0)) ?_
        refine rd_yes rfl rfl (ov_load rfl rfl rfl) ?_
        refine rd_yes rfl rfl (ov_move rfl) ?_
        refine rd_yes rfl rfl (ov_iaddr rfl rfl (slI r1 (by first | omega | (have hk := opl hl; omega) | (have hk := opl hl; have hj := jor (by assumption) (by assumption); omega)) (by first | omega | (have hk := opl hl; omega) | (have hk := opl hl; have hj := jor (by assumption) (by assumption); omega)))) ?_
        refine rd_yes rfl rfl (ov_load rfl rfl rfl) ?_
        refine rd_yes rfl rfl (ov_faddr rfl (api_ExprNode.g_W r0)) ?_
        refine rd_yes rfl rfl (ov_load rfl rfl rfl) ?_
        refine rd_yes rfl rfl (ov_bin rfl rfl i_sub) ?_
        refine rd_yes rfl rfl (ov_bin rfl rfl i_gtr) ?_
        refine rd_op (v := vb (decide ((wr ((ix x1 0) - x0.W)) < x0.N))) (ov_pick rfl rfl rfl rfl) ?_
        exact rd_weak (sub_cons rfl (sub_skip rfl (sub_skip rfl (sub_skip rfl (sub_skip rfl (sub_skip rfl (sub_skip rfl (sub_skip rfl (sub_skip rfl (sub_skip rfl (sub_skip rfl (sub_refl _)))))))))))) k
       ·intro k
        refine rd_skip rfl rfl ?_
        refine rd_skip rfl rfl ?_
        refine rd_skip rfl rfl ?_
        refine rd_skip rfl rfl ?_
        refine rd_skip rfl rfl ?_
        refine rd_skip rfl rfl ?_
        refine rd_skip rfl rfl ?_
        refine rd_skip rfl rfl ?_
        refine rd_skip rfl rfl ?_
        refine rd_op (v := vb true) (ov_pick rfl rfl rfl rfl) ?_
        exact rd_weak (sub_cons rfl (sub_skip rfl (sub_skip rfl (sub_skip rfl (sub_skip rfl (sub_skip rfl (sub_skip rfl (sub_skip rfl (sub_skip rfl (sub_skip rfl (sub_skip rfl (sub_refl _)))))))))))) k
      refine rd_op (ov_move rfl) ?_
      refine rd_nil ?_
      refine pn_seq ?_
      refine rc_cond rfl (fun hc111 => ?_) (fun hc111 => ?_)
      ·replace hres := (ite_t hc111).symm.trans hres
       have hc111' := hc111
       try simp only [qa1, qa2, qa3, qa4, qa5, qa6, qa7, qa8, qa9, qaA, qaB, qaC, qaD] at hc111'
       refine rc_seq ?_
       refine rc_region ?_
       refine rd_op (v := vi 0) (ov_move rfl) ?_
       refine rd_op (v := vi 10) (ov_move rfl) ?_
       refine rd_nil ?_
       refine pn_seq ?_
       subst hres
       exact rc_retV (.tmp rfl (.tmp rfl .nil)) (deep_closed (show closed (.tup _) = true from (clL_cons rfl (clL_cons rfl clL_nil)))) rfl
      ·replace hres := (ite_f hc111).symm.trans hres
       have hc111' := hc111
       try simp only [qa1, qa2, qa3, qa4, qa5, qa6, qa7, qa8, qa9, qaA, qaB, qaC, qaD] at hc111'
       refine rc_skip ?_
       refine pn_blk ?_
       refine pn_seq ?_
       refine rc_seq ?_
       refine rc_region ?_
       refine rd_op (ov_faddr rfl (api_ExprNode.g_W r0)) ?_
       refine rd_op (ov_load rfl rfl rfl) ?_
       refine rd_op (ov_move rfl) ?_
       refine rd_op (v := vi 0) (ov_move rfl) ?_
       refine rd_nil ?_
       refine pn_seq ?_
       subst hres
       exact rc_retV (.tmp rfl (.tmp rfl .nil)) (deep_closed (show closed (.tup _) = true from (clL_cons rfl (clL_cons rfl clL_nil)))) rfl
    ·replace hres := (ite_f hc107).symm.trans hres
     have hc107' := hc107
     try simp only [qa1, qa2, qa3, qa4, qa5, qa6, qa7, qa8, qa9, qaA, qaB, qaC, qaD] at hc107'
     refine rc_seq ?_
     refine rc_region ?_
     refine rd_op (ov_bin rfl rfl i_eql) ?_
     refine rd_op (ov_move rfl) ?_
     refine rd_nil ?_
     refine pn_seq ?_
     refine rc_cond rfl (fun hc112 => ?_) (fun hc112 => ?_)
     ·replace hres := (ite_t hc112).symm.trans hres
      have hc112' := hc112
      try simp only [qa1, qa2, qa3, qa4, qa5, qa6, qa7, qa8, qa9, qaA, qaB, qaC, qaD] at hc112'
      refine rc_seq ?_
      refine rc_region ?_
      refine rd_op (ov_move rfl) ?_
      refine rd_op (ov_iaddr rfl rfl (slI r1 (by first | omega | (have hk := opl hl; omega) | (have hk := opl hl; have hj := jor (by assumption) (by assumption); omega)) (by first | omega | (have hk := opl hl; omega) | (have hk := opl hl; have hj := jor (by assumption) (by assumption); omega)))) ?_
      refine rd_op (ov_load rfl rfl rfl) ?_
      refine rd_op (ov_move rfl) ?_
      refine rd_op (ov_iaddr rfl rfl (slI r1 (by first | omega | (have hk := opl hl; omega) | (have hk := opl hl; have hj := jor (by assumption) (by assumption); omega)) (by first | omega | (have hk := opl hl; omega) | (have hk := opl hl; have hj := jor (by assumption) (by assumption); omega)))) ?_
      refine rd_op (ov_load rfl rfl rfl) ?_
      refine rd_op (ov_bin rfl rfl i_add) ?_
      obtain ⟨y113, hw113, hres⟩ := let_ex hres
      have f113 := f88_ok (x0 := (wr ((ix x1 0) + (ix x1 1))))  
      rw [hw113] at f113
      refine rd_call (cv_fn rfl rfl (clL_cons rfl clL_nil) f113) ?_
      refine rd_op (ov_extract rfl rfl) ?_
      refine rd_op (ov_extract rfl rfl) ?_
      refine rd_op (ov_move rfl) ?_
      refine rd_op (ov_move rfl) ?_
      refine rd_nil ?_
      refine pn_seq ?_
      subst hres
      exact rc_retV (.tmp rfl (.tmp rfl .nil)) (deep_closed (show closed (.tup _) = true from (clL_cons rfl (clL_cons rfl clL_nil)))) rfl
     ·replace hres := (ite_f hc112).symm.trans hres
      have hc112' := hc112
      try simp only [qa1, qa2, qa3, qa4, qa5, qa6, qa7, qa8, qa9, qaA, qaB, qaC, qaD] at hc112'
      refine rc_seq ?_
      refine rc_region ?_
      refine rd_op (ov_bin rfl rfl i_eql) ?_
      refine rd_op (ov_move rfl) ?_
      refine rd_nil ?_
      refine pn_seq ?_
      refine rc_cond rfl (fun hc114 => ?_) (fun hc114 => ?_)
      ·replace hres := (ite_t hc114).symm.trans hres
       have hc114' := hc114
       try simp only [qa1, qa2, qa3, qa4, qa5, qa6, qa7, qa8, qa9, qaA, qaB, qaC, qaD] at hc114'
       refine rc_seq ?_
       refine rc_seq ?_
       refine rc_region ?_
       refine rd_op (ov_move rfl) ?_
       refine rd_op (ov_iaddr rfl rfl (slI r1 (by first | omega | (have hk := opl hl; omega) | (have hk := opl hl; have hj := jor (by assumption) (by assumption); omega)) (by first | omega | (have hk := opl hl; omega) | (have hk := opl hl; have hj := jor (by assumption) (by assumption); omega)))) ?_
       refine rd_op (ov_load rfl rfl rfl) ?_
       refine rd_op (ov_bin rfl rfl i_neq) ?_
       refine rd_op (ov_move rfl) ?_
       refine rd_cut (d := 81) (v := vb ((!decide ((ix x1 0) = 1)) || (!decide ((ix x1 1) = (ix x1 2))))) ?_ ?_
       ·intro S Q r
        simp only [ac53_G4, List.cons_append, List.nil_append, List.append_assoc]
        cases hb115 : (!decide ((ix x1 0) = 1))
        ·intro k
         have hb115' := hb115
         try simp only [qa1, qa2, qa3, qa4, qa5, qa6, qa7, qa8, qa9, qaA, qaB, qaC, qaD] at hb115'
         refine rd_yes rfl rfl (ov_move rfl) ?_
         refine rd_yes rfl rfl (ov_iaddr rfl rfl (slI r1 (by first | omega | (have hk := opl hl; omega) | (have hk := opl hl; have hj := jor (by assumption) (by assumption); omega)) (by first | omega | (have hk := opl hl; omega) | (have hk := opl hl; have hj := jor (by assumption) (by assumption); omega)))) ?_
         refine rd_yes rfl rfl (ov_load rfl rfl rfl) ?_
         refine rd_yes rfl rfl (ov_move rfl) ?_
         refine rd_yes rfl rfl (ov_iaddr rfl rfl (slI r1 (by first | omega | (have hk := opl hl; omega) | (have hk := opl hl; have hj := jor (by assumption) (by assumption); omega)) (by first | omega | (have hk := opl hl; omega) | (have hk := opl hl; have hj := jor (by assumption) (by assumption); omega)))) ?_
         refine rd_yes rfl rfl (ov_load rfl rfl rfl) ?_
         refine rd_yes rfl rfl (ov_bin rfl rfl i_neq) ?_
         refine rd_op (v := vb (!decide ((ix x1 1) = (ix x1 2)))) (ov_pick rfl rfl rfl rfl) ?_
         exact rd_weak (sub_cons rfl (sub_skip rfl (sub_skip rfl (sub_skip rfl (sub_skip rfl (sub_skip rfl (sub_skip rfl (sub_skip rfl (sub_skip rfl (sub_refl _)))))))))) k
        ·intro k
         refine rd_skip rfl rfl ?_
         refine rd_skip rfl rfl ?_
         refine rd_skip rfl rfl ?_
         refine rd_skip rfl rfl ?_
         refine rd_skip rfl rfl ?_
         refine rd_skip rfl rfl ?_
         refine rd_skip rfl rfl ?_
         refine rd_op (v := vb true) (ov_pick rfl rfl rfl rfl) ?_
         exact rd_weak (sub_cons rfl (sub_skip rfl (sub_skip rfl (sub_skip rfl (sub_skip rfl (sub_skip rfl (sub_skip rfl (sub_skip rfl (sub_skip rfl (sub_refl _)))))))))) k
       refine rd_nil ?_
       refine pn_seq ?_
       refine rc_cond rfl (fun hc116 => ?_) (fun hc116 => ?_)
       ·replace hres := (ite_t hc116).symm.trans hres
        have hc116' := hc116
        try simp only [qa1, qa2, qa3, qa4, qa5, qa6, qa7, qa8, qa9, qaA, qaB, qaC, qaD] at hc116'
        refine rc_seq ?_
        refine rc_region ?_
        refine rd_op (v := vi 0) (ov_move rfl) ?_
        refine rd_op (v := vi 10) (ov_move rfl) ?_
        refine rd_nil ?_
        refine pn_seq ?_
        subst hres
        exact rc_retV (.tmp rfl (.tmp rfl .nil)) (deep_closed (show closed (.tup _) = true from (clL_cons rfl (clL_cons rfl clL_nil)))) rfl
       ·replace hres := (ite_f hc116).symm.trans hres
        have hc116' := hc116
        try simp only [qa1, qa2, qa3, qa4, qa5, qa6, qa7, qa8, qa9, qaA, qaB, qaC, qaD] at hc116'
        refine rc_skip ?_
        refine pn_seq ?_
        refine rc_seq ?_
        refine rc_region ?_
        refine rd_op (ov_move rfl) ?_
        refine rd_op (ov_iaddr rfl rfl (slI r1 (by first | omega | (have hk := opl hl; omega) | (have hk := opl hl; have hj := jor (by assumption) (by assumption); omega)) (by first | omega | (have hk := opl hl; omega) | (have hk := opl hl; have hj := jor (by assumption) (by assumption); omega)))) ?_
        refine rd_op (ov_load rfl rfl rfl) ?_
        refine rd_op (ov_move rfl) ?_
        refine rd_op (v := vi 0) (ov_move rfl) ?_
        refine rd_nil ?_
        refine pn_seq ?_
        subst hres
        exact rc_retV (.tmp rfl (.tmp rfl .nil)) (deep_closed (show closed (.tup _) = true from (clL_cons rfl (clL_cons rfl clL_nil)))) rfl
      ·replace hres := (ite_f hc114).symm.trans hres
       have hc114' := hc114
       try simp only [qa1, qa2, qa3, qa4, qa5, qa6, qa7, qa8, qa9, qaA, qaB, qaC, qaD] at hc114'
       refine rc_skip ?_
       refine pn_blk ?_
       refine pn_seq ?_
       refine rc_seq ?_
       refine rc_block ?_
       refine rc_seq ?_
       refine rc_region ?_
       refine rd_op (ov_move rfl) ?_
       refine rd_op (ov_iaddr rfl rfl (slI r1 (by first | omega | (have hk := opl hl; omega) | (have hk := opl hl; have hj := jor (by assumption) (by assumption); omega)) (by first | omega | (have hk := opl hl; omega) | (have hk := opl hl; have hj := jor (by assumption) (by assumption); omega)))) ?_
       refine rd_op (ov_load rfl rfl rfl) ?_
       refine rd_op (ov_move rfl) ?_
       refine rd_op (ov_iaddr rfl rfl (slI r1 (by first | omega | (have hk := opl hl; omega) | (have hk := opl hl; have hj := jor (by assumption) (by assumption); omega)) (by first | omega | (have hk := opl hl; omega) | (have hk := opl hl; have hj := jor (by assumption) (by assumption); omega)))) ?_
       refine rd_op (ov_load rfl rfl rfl) ?_
       refine rd_op (ov_bin rfl rfl i_neq) ?_
       refine rd_op (ov_move rfl) ?_
       refine rd_nil ?_
       refine pn_seq ?_
       refine rc_cond rfl (fun hc117 => ?_) (fun hc117 => ?_)
       ·replace hres := (ite_t hc117).symm.trans hres
        have hc117' := hc117
        try simp only [qa1, qa2, qa3, qa4, qa5, qa6, qa7, qa8, qa9, qaA, qaB, qaC, qaD] at hc117'
        refine rc_seq ?_
        refine rc_region ?_
        refine rd_op (v := vi 0) (ov_move rfl) ?_
        refine rd_op (v := vi 10) (ov_move rfl) ?_
        refine rd_nil ?_
        refine pn_seq ?_
        subst hres
        exact rc_retV (.tmp rfl (.tmp rfl .nil)) (deep_closed (show closed (.tup _) = true from (clL_cons rfl (clL_cons rfl clL_nil)))) rfl
       ·replace hres := (ite_f hc117).symm.trans hres
        have hc117' := hc117
        try simp only [qa1, qa2, qa3, qa4, qa5, qa6, qa7, qa8, qa9, qaA, qaB, qaC, qaD] at hc117'
        refine rc_seq ?_
        refine rc_region ?_
        refine rd_op (ov_faddr rfl (api_ExprNode.g_Op r0)) ?_
        refine rd_op (ov_load rfl rfl rfl) ?_
        refine rd_op (ov_bin rfl rfl i_eql) ?_
        refine rd_op (ov_move rfl) ?_
        refine rd_cut (d := 101) (v := vb ((decide (x0.Op = 15)) || (decide (x0.Op = 16)))) ?_ ?_
        ·intro S Q r
         simp only [ac53_G5, List.cons_append, List.nil_append, List.append_assoc]
         cases hb118 : (decide (x0.Op = 15))
         ·intro k
          have hb118' := hb118
          try simp only [qa1, qa2, qa3, qa4, qa5, qa6, qa7, qa8, qa9, qaA, qaB, qaC, qaD] at hb118'
          refine rd_yes rfl rfl (ov_faddr rfl (api_ExprNode.g_Op r0)) ?_
          refine rd_yes rfl rfl (ov_load rfl rfl rfl) ?_
          refine rd_yes rfl rfl (ov_bin rfl rfl i_eql) ?_
          refine rd_op (v := vb (decide (x0.Op = 16))) (ov_pick rfl rfl rfl rfl) ?_
          exact rd_weak (sub_cons rfl (sub_skip rfl (sub_skip rfl (sub_skip rfl (sub_skip rfl (sub_refl _)))))) k
         ·intro k
          refine rd_skip rfl rfl ?_
          refine rd_skip rfl rfl ?_
          refine rd_skip rfl rfl ?_
          refine rd_op (v := vb true) (ov_pick rfl rfl rfl rfl) ?_
          exact rd_weak (sub_cons rfl (sub_skip rfl (sub_skip rfl (sub_skip rfl (sub_skip rfl (sub_refl _)))))) k
        refine rd_op (ov_move rfl) ?_
        refine rd_nil ?_
        refine pn_seq ?_
        refine rc_cond rfl (fun hc119 => ?_) (fun hc119 => ?_)
        ·replace hres := (ite_t hc119).symm.trans hres
         have hc119' := hc119
         try simp only [qa1, qa2, qa3, qa4, qa5, qa6, qa7, qa8, qa9, qaA, qaB, qaC, qaD] at hc119'
         refine rc_seq ?_
         refine rc_region ?_
         refine rd_op (v := vi 1) (ov_move rfl) ?_
         refine rd_op (v := vi 0) (ov_move rfl) ?_
         refine rd_nil ?_
         refine pn_seq ?_
         subst hres
         exact rc_retV (.tmp rfl (.tmp rfl .nil)) (deep_closed (show closed (.tup _) = true from (clL_cons rfl (clL_cons rfl clL_nil)))) rfl
        ·replace hres := (ite_f hc119).symm.trans hres
         have hc119' := hc119
         try simp only [qa1, qa2, qa3, qa4, qa5, qa6, qa7, qa8, qa9, qaA, qaB, qaC, qaD] at hc119'
         refine rc_skip ?_
         refine pn_blk ?_
         refine pn_seq ?_
         refine rc_seq ?_
         refine rc_region ?_
         refine rd_op (ov_move rfl) ?_
         refine rd_op (ov_iaddr rfl rfl (slI r1 (by first | omega | (have hk := opl hl; omega) | (have hk := opl hl; have hj := jor (by assumption) (by assumption); omega)) (by first | omega | (have hk := opl hl; omega) | (have hk := opl hl; have hj := jor (by assumption) (by assumption); omega)))) ?_
         refine rd_op (ov_load rfl rfl rfl) ?_
         refine rd_op (ov_move rfl) ?_
         refine rd_op (v := vi 0) (ov_move rfl) ?_
         refine rd_nil ?_
         refine pn_seq ?_
         subst hres
         exact rc_retV (.tmp rfl (.tmp rfl .nil)) (deep_closed (show closed (.tup _) = true from (clL_cons rfl (clL_cons rfl clL_nil)))) rfl
  ·intro J
   refine rc_cond rfl (fun hc120 => ?_) (fun hc120 => ?_)
   ·replace hres := (ite_t hc120).symm.trans hres
    have hc120' := hc120
    try simp only [qa1, qa2, qa3, qa4, qa5, qa6, qa7, qa8, qa9, qaA, qaB, qaC, qaD] at hc120'
    refine rc_skip ?_
    refine pn_seq (rc_weak ((sub_cons rfl (sub_cons rfl (sub_cons rfl (sub_cons rfl (sub_nil _)))))) (J _ (ite_t hc120).symm _ (Mem.sub (Mem.nil ⟨0, []⟩) .slnil) hres))
   ·replace hres := (ite_f hc120).symm.trans hres
    have hc120' := hc120
    try simp only [qa1, qa2, qa3, qa4, qa5, qa6, qa7, qa8, qa9, qaA, qaB, qaC, qaD] at hc120'
    refine rc_region ?_
    refine rd_op (ov_bin rfl rfl i_eql) ?_
    refine rd_op (ov_move rfl) ?_
    refine rd_nil ?_
    refine pn_seq (rc_weak ((sub_cons rfl (sub_cons rfl (sub_cons rfl (sub_cons rfl (sub_nil _)))))) (J _ (ite_f hc120).symm _ (Mem.sub (Mem.nil ⟨0, []⟩) .slnil) hres))

/-- patchbay/patchbayref13.check -/
def RF30 (res : Int × Int × Int) (r : PV) : Prop := r = .tup [vi res.1, vi res.2.1, vi res.2.2]
theorem ref13_check_L1_ok {S : List Fr} {res : Int × Int × Int} {x0 : List api_ExprNode} {x1 : Int} {x2 : expr_Scope} {rec_ : (List api_ExprNode) → Int → expr_Scope → (Int × Int × Int)} {mu_ : Nat} {y103 : Int} {v0 : PV} {v2 : PV} (r0 : (tSl api_ExprNode.t).R x0 v0) (r2 : expr_Scope.t.R x2 v2) (h0 : 0 ≤ x1) (hb : x0.length ≤ 1000000) (ihR : ∀ {z0 : List api_ExprNode} {z1 : Int} {z2 : expr_Scope} {zv0 : PV} {zv2 : PV} (zr0 : (tSl api_ExprNode.t).R z0 zv0) (zr2 : expr_Scope.t.R z2 zv2) (h0 : 0 ≤ z1) (hb : z0.length ≤ 1000000), (z0.length - z1.toNat) < mu_ → FnR Tryz.prog 30 [zv0, vi z1, zv2] (.tup [vi ((rec_ z0 z1 z2).1), vi ((rec_ z0 z1 z2).2.1), vi ((rec_ z0 z1 z2).2.2)])) (hmu : mu_ = (x0.length - x1.toNat)) (hrec : ∀ (z0 : List api_ExprNode) (z1 : Int) (z2 : expr_Scope), 0 ≤ z1 → z0.length ≤ 1000000 → (rec_ z0 z1 z2).2.2 = 0 → z1 < (rec_ z0 z1 z2).2.1) (hc101 : (decide ((x0.length : Int) ≤ x1)) = false) (hw103 : ref13_Arity ((ix x0 x1).Op) = y103) (hc104 : (decide (y103 < 0)) = false) (hc105 : (decide (y103 = 0)) = false) {K0 : Int → (List Int) → (Int × Int × Int)}
  (hK0 : ∀ (x13_ : Int) (zE109 : List Int) (esE109 : List PV) (aE109 : PV) (qE109 : All2 tI.R zE109 esE109) (nE109 : isL aE109 = true) (wrE109 : Wri aE109 esE109) (hlE109 : zE109.length ≤ 4611686018427387904) (po0 : (zE109.length : Int) = y103) (h : Heap) (M0 : Mem h [⟨aE109, 3, 1, esE109⟩]), K0 x13_ zE109 = res → PX Tryz.prog 0 S (QR Tryz.prog [(6, none), (7, none), (8, none)] (RF30 res)) [(0, v0), (1, vi x1), (12, aE109), (13, vi x13_)] h) :
  ∀ (m : Nat) (x13_ : Int) (x14_ : Int) (zE109 : List Int) (esE109 : List PV) (aE109 : PV) (qE109 : All2 tI.R zE109 esE109) (nE109 : isL aE109 = true) (wrE109 : Wri aE109 esE109) (hlE109 : zE109.length ≤ 4611686018427387904) (hm1 : m = Int.toNat (y103 - x14_)) (hlo1 : 0 ≤ x14_) (iv1_0 : x1 < x13_) (iv1_1 : (zE109.length : Int) = x14_) (iv1_2 : x14_ ≤ y103) (h : Heap) (M0 : Mem h [⟨aE109, 3, 1, esE109⟩]), ref13_check_L1 x0 x2 rec_ K0 m x13_ x14_ zE109 = res → RC Tryz.prog (.loop ac30_L1) S (QR Tryz.prog [(6, none), (7, none), (8, none)] (RF30 res)) [(14, vi x14_), (13, vi x13_), (12, aE109), (9, vi y103), (5, .fp v2), (1, vi x1), (0, v0)] h := by
 have hb' := hb
 try simp only [qa1, qa2, qa3, qa4, qa5, qa6, qa7, qa8, qa9, qaA, qaB, qaC, qaD] at hb'
 have hc101' := hc101
 try simp only [qa1, qa2, qa3, qa4, qa5, qa6, qa7, qa8, qa9, qaA, qaB, qaC, qaD] at hc101'
 have hc104' := hc104
 try simp only [qa1, qa2, qa3, qa4, qa5, qa6, qa7, qa8, qa9, qaA, qaB, qaC, qaD] at hc104'
 have hc105' := hc105
 try simp only [qa1, qa2, qa3, qa4, qa5, qa6, qa7, qa8, qa9, qaA, qaB, qaC, qaD] at hc105'
 intro m
 induction m with
 | zero =>
  intro x13_ x14_ zE109 esE109 aE109 qE109 nE109 wrE109 hlE109 hm1 hlo1 iv1_0 iv1_1 iv1_2 h M0 hres
  rw [ref13_check_L1] at hres
  refine rc_loop ?_
  unfold ac30_L1
  refine rc_seq ?_
  refine rc_seq ?_
  refine rc_region ?_
  refine rd_op (ov_move rfl) ?_
  refine rd_op (ov_move rfl) ?_
  refine rd_op (ov_bin rfl rfl i_lss) ?_
  refine rd_nil ?_
  refine pn_seq ?_
  refine rc_cond rfl (fun hc110 => ?_) (fun hc110 => ?_)
  ·exfalso
   try simp only [qa1, qa2, qa3, qa4, qa5, qa6, qa7, qa8, qa9, qaA, qaB, qaC, qaD] at hc110
   omega
  ·have hend := hres
   have hc110' := hc110
   try simp only [qa1, qa2, qa3, qa4, qa5, qa6, qa7, qa8, qa9, qaA, qaB, qaC, qaD] at hc110'
   refine rc_exit ?_
   refine px_seq ?_
   refine px_again ?_
   exact px_weak ((sub_cons rfl (sub_cons rfl (sub_cons rfl (sub_cons rfl (sub_nil _)))))) (hK0 x13_ zE109 esE109 aE109 qE109 nE109 wrE109 hlE109 (by omega) _ (Mem.sub M0 (.cons_cons _ .slnil)) hres)
 | succ m ih =>
  intro x13_ x14_ zE109 esE109 aE109 qE109 nE109 wrE109 hlE109 hm1 hlo1 iv1_0 iv1_1 iv1_2 h M0 hres
  rw [ref13_check_L1] at hres
  refine rc_loop ?_
  unfold ac30_L1
  refine rc_seq ?_
  refine rc_seq ?_
  refine rc_region ?_
  refine rd_op (ov_move rfl) ?_
  refine rd_op (ov_move rfl) ?_
  refine rd_op (ov_bin rfl rfl i_lss) ?_
  refine rd_nil ?_
  refine pn_seq ?_
  refine rc_cond rfl (fun hc111 => ?_) (fun hc111 => ?_)
  ·have hgo := hres
   have hc111' := hc111
   try simp only [qa1, qa2, qa3, qa4, qa5, qa6, qa7, qa8, qa9, qaA, qaB, qaC, qaD] at hc111'
   refine rc_skip ?_
   refine pn_seq ?_
   refine rc_seq ?_
   refine rc_block ?_
   refine rc_seq ?_
   refine rc_region ?_
   refine rd_op (ov_move rfl) ?_
   refine rd_op (ov_move rfl) ?_
   refine rd_op (ov_load rfl (TR.cnt expr_Scope.t r2) (TR.agg expr_Scope.t r2)) ?_
   obtain ⟨y112, hw112, hres⟩ := let_ex hres
   have f112 := ihR (z0 := x0) (z1 := x13_) (z2 := x2) r0 r2 (by first | assumption | omega | (rw [wr_of (by omega) (by omega)]; omega) | (have hk := rval rfl (And.right (And.left (by assumption))); omega) | (have hk := rval (by assumption) (by assumption); omega) | (have hk := rval (by assumption) (And.left (by assumption)); omega) | (have hk := rval (by assumption) (And.left (And.left (by assumption))); have hz := rslc (by assumption); omega) | (simp; done) | (simp only [List.length_append, List.length_nil, List.length_cons]; omega) | (have hk := (chk_ok (by assumption) (by assumption)).1; omega) | (simp only [List.length_cons, List.length_nil]; omega) | (simp only [List.length_append]; have hk := (chk_ok (by assumption) (by assumption)).1; omega) | (simp only [List.length_append, List.length_nil]; have hk := (chk_ok (by assumption) (by assumption)).1; omega)) (by first | assumption | omega | (rw [wr_of (by omega) (by omega)]; omega) | (have hk := rval rfl (And.right (And.left (by assumption))); omega) | (have hk := rval (by assumption) (by assumption); omega) | (have hk := rval (by assumption) (And.left (by assumption)); omega) | (have hk := rval (by assumption) (And.left (And.left (by assumption))); have hz := rslc (by assumption); omega) | (simp; done) | (simp only [List.length_append, List.length_nil, List.length_cons]; omega) | (have hk := (chk_ok (by assumption) (by assumption)).1; omega) | (simp only [List.length_cons, List.length_nil]; omega) | (simp only [List.length_append]; have hk := (chk_ok (by assumption) (by assumption)).1; omega) | (simp only [List.length_append, List.length_nil]; have hk := (chk_ok (by assumption) (by assumption)).1; omega)) (by first | omega | (rw [wr_of (by omega) (by omega)]; omega))
   rw [hw112] at f112
   have ek112 : y112.2.2 = 0 → x13_ < y112.2.1 := by rw [← hw112]; exact hrec _ _ _ (by omega) (by omega)
   refine rd_call (cv_fn rfl rfl (clL_cons (TR.clo (tSl api_ExprNode.t) r0) (clL_cons rfl (clL_cons (TR.clo expr_Scope.t r2) clL_nil))) f112) ?_
   refine rd_op (ov_move rfl) ?_
   refine rd_op (ov_extract rfl rfl) ?_
   refine rd_op (ov_extract rfl rfl) ?_
   refine rd_op (ov_extract rfl rfl) ?_
   refine rd_op (ov_move rfl) ?_
   refine rd_op (ov_move rfl) ?_
   refine rd_op (ov_move rfl) ?_
   refine rd_nil ?_
   refine pn_seq ?_
   refine rc_seq ?_
   refine rc_seq ?_
   refine rc_region ?_
   refine rd_op (ov_move rfl) ?_
   refine rd_op (ov_bin rfl rfl i_neq) ?_
   refine rd_nil ?_
   refine pn_seq ?_
   refine rc_cond rfl (fun hc113 => ?_) (fun hc113 => ?_)
   ·replace hres := (ite_t hc113).symm.trans hres
    have hc113' := hc113
    try simp only [qa1, qa2, qa3, qa4, qa5, qa6, qa7, qa8, qa9, qaA, qaB, qaC, qaD] at hc113'
    refine rc_seq ?_
    refine rc_region ?_
    refine rd_op (ov_move rfl) ?_
    refine rd_op (ov_move rfl) ?_
    refine rd_op (v := vi 0) (ov_move rfl) ?_
    refine rd_op (ov_move rfl) ?_
    refine rd_op (ov_move rfl) ?_
    refine rd_nil ?_
    refine pn_seq ?_
    subst hres
    exact rc_retV (.tmp rfl (.tmp rfl (.tmp rfl .nil))) (deep_closed (show closed (.tup _) = true from (clL_cons rfl (clL_cons rfl (clL_cons rfl clL_nil))))) rfl
   ·replace hres := (ite_f hc113).symm.trans hres
    have hc113' := hc113
    try simp only [qa1, qa2, qa3, qa4, qa5, qa6, qa7, qa8, qa9, qaA, qaB, qaC, qaD] at hc113'
    refine rc_skip ?_
    refine pn_seq ?_
    refine rc_seq ?_
    refine rc_region ?_
    refine rd_op (ov_move rfl) ?_
    refine rd_op (ov_move rfl) ?_
    refine rd_op (v := .fs true [vi y112.1]) (ov_bslice rfl (all_cons rfl all_nil)) ?_
    have r114 : (tSl tI).R ([y112.1] : List Int) (.fs true [vi y112.1]) := sl_fs ⟨rfl, trivial⟩ (by simp)
    obtain ⟨nw115, sr115, ar115⟩ := src_of (t := tI) (h := h) r114
    have f115 : fits (esE109.length + nw115.length) 8 = true := by rw [All2.length_eq qE109, All2.length_eq ar115]; (try simp only [List.length_cons, List.length_nil]); exact fits_of (by first | omega | (have hk := rar (by assumption); omega) | (simp only [List.length_append, List.length_cons, List.length_nil]; have hk := rar (by assumption); omega)) (by first | omega | (have hk := rar (by assumption); omega) | (simp only [List.length_append, List.length_cons, List.length_nil]; have hk := rar (by assumption); omega))
    refine rd_appW (k := 0) (es := esE109) (news := nw115) M0 rfl rfl rfl nE109 wrE109 sr115 f115 (fun a115 h115 n115 wr115 M115 => ?_)
    have q115 : All2 tI.R (zE109 ++ ([y112.1] : List Int)) (esE109 ++ nw115) := All2.app qE109 ar115
    have hl115 : (zE109 ++ ([y112.1] : List Int)).length ≤ 4611686018427387904 := by rw [← All2.length_eq q115, List.length_append]; exact fits_len f115
    refine rd_op (ov_move rfl) ?_
    refine rd_nil ?_
    refine pn_seq ?_
    refine rc_region ?_
    refine rd_op (ov_move rfl) ?_
    refine rd_op (ov_move rfl) ?_
    refine rd_nil ?_
    refine pn_blk ?_
    refine pn_seq ?_
    refine rc_region ?_
    refine rd_op (ov_move rfl) ?_
    refine rd_op (ov_bin rfl rfl i_add) ?_
    refine rd_op (ov_move rfl) ?_
    refine rd_nil ?_
    refine pn_again ?_
    have hinc : wr (x14_ + 1) = x14_ + 1 := wr_of (by omega) (by (have hk := rar (by assumption); omega))
    rw [hinc]
    refine rc_weak ?_ (ih y112.2.1 (x14_ + 1) (zE109 ++ ([y112.1] : List Int)) (esE109 ++ nw115) a115 q115 n115 wr115 hl115 (by omega) (by omega) (by first | (simp only [List.length_append, List.length_cons, List.length_nil]; omega) | omega) (by first | (simp only [List.length_append, List.length_cons, List.length_nil]; omega) | omega) (by first | (simp only [List.length_append, List.length_cons, List.length_nil]; omega) | omega) _ (Mem.sub M115 (.cons_cons _ .slnil)) hres)
    exact ((sub_cons rfl (sub_cons rfl (sub_cons rfl (sub_cons rfl (sub_cons rfl (sub_cons rfl (sub_cons rfl (sub_nil _)))))))))
  ·exfalso
   try simp only [qa1, qa2, qa3, qa4, qa5, qa6, qa7, qa8, qa9, qaA, qaB, qaC, qaD] at hc111
   omega

theorem f30_okB {rec_ : (List api_ExprNode) → Int → expr_Scope → (Int × Int × Int)} {mu_ : Nat} {x0 : List api_ExprNode} {x1 : Int} {x2 : expr_Scope} {v0 : PV} {v2 : PV} (r0 : (tSl api_ExprNode.t).R x0 v0) (r2 : expr_Scope.t.R x2 v2) (h0 : 0 ≤ x1) (hb : x0.length ≤ 1000000) (hmu : mu_ = (x0.length - x1.toNat)) (hrec : ∀ (z0 : List api_ExprNode) (z1 : Int) (z2 : expr_Scope), 0 ≤ z1 → z0.length ≤ 1000000 → (rec_ z0 z1 z2).2.2 = 0 → z1 < (rec_ z0 z1 z2).2.1) (ihR : ∀ {z0 : List api_ExprNode} {z1 : Int} {z2 : expr_Scope} {zv0 : PV} {zv2 : PV} (zr0 : (tSl api_ExprNode.t).R z0 zv0) (zr2 : expr_Scope.t.R z2 zv2) (h0 : 0 ≤ z1) (hb : z0.length ≤ 1000000), (z0.length - z1.toNat) < mu_ → FnR Tryz.prog 30 [zv0, vi z1, zv2] (.tup [vi ((rec_ z0 z1 z2).1), vi ((rec_ z0 z1 z2).2.1), vi ((rec_ z0 z1 z2).2.2)])) : FnR Tryz.prog 30 [v0, vi x1, v2] (.tup [vi ((ref13_check_B rec_ x0 x1 x2).1), vi ((ref13_check_B rec_ x0 x1 x2).2.1), vi ((ref13_check_B rec_ x0 x1 x2).2.2)]) := by
 obtain ⟨res, hres⟩ : ∃ res, ref13_check_B rec_ x0 x1 x2 = res := ⟨_, rfl⟩
 suffices H : RC Tryz.prog ac30 [] (QR Tryz.prog [(6, none), (7, none), (8, none)] (RF30 res)) (argE 0 [v0, vi x1, v2]) ⟨0, []⟩ by
  obtain ⟨r, h1, h2⟩ := fnE text30 (by simp) H
  rw [hres]
  have h2 : r = .tup [vi res.1, vi res.2.1, vi res.2.2] := h2
  rw [← h2]; exact h1
 unfold ref13_check_B at hres
 unfold ac30
 refine rc_seq ?_
 refine rc_region ?_
 refine rd_op (ov_box rfl (TR.cnt expr_Scope.t r2)) ?_
 refine rd_op (v := vi 0) (ov_move rfl) ?_
 refine rd_op (v := vi 0) (ov_move rfl) ?_
 refine rd_op (v := vi 0) (ov_move rfl) ?_
 refine rd_nil ?_
 refine pn_seq ?_
 refine rc_seq ?_
 refine rc_seq ?_
 refine rc_region ?_
 refine rd_op (ov_move rfl) ?_
 refine rd_op (ov_move rfl) ?_
 refine rd_op (ov_bi rfl (sl_len r0 Tryz.underlying32 _)) ?_
 refine rd_op (ov_bin rfl rfl i_geq) ?_
 refine rd_nil ?_
 refine pn_seq ?_
 refine rc_cond rfl (fun hc101 => ?_) (fun hc101 => ?_)
 ·replace hres := (ite_t hc101).symm.trans hres
  have hc101' := hc101
  try simp only [qa1, qa2, qa3, qa4, qa5, qa6, qa7, qa8, qa9, qaA, qaB, qaC, qaD] at hc101'
  refine rc_seq ?_
  refine rc_region ?_
  refine rd_op (ov_move rfl) ?_
  refine rd_op (v := vi 0) (ov_move rfl) ?_
  refine rd_op (ov_move rfl) ?_
  refine rd_op (v := vi 3) (ov_move rfl) ?_
  refine rd_nil ?_
  refine pn_seq ?_
  subst hres
  exact rc_retV (.tmp rfl (.tmp rfl (.tmp rfl .nil))) (deep_closed (show closed (.tup _) = true from (clL_cons rfl (clL_cons rfl (clL_cons rfl clL_nil))))) rfl
 ·replace hres := (ite_f hc101).symm.trans hres
  have hc101' := hc101
  try simp only [qa1, qa2, qa3, qa4, qa5, qa6, qa7, qa8, qa9, qaA, qaB, qaC, qaD] at hc101'
  refine rc_skip ?_
  refine pn_seq ?_
  refine rc_seq ?_
  refine rc_region ?_
  refine rd_op (ov_move rfl) ?_
  refine rd_op (ov_move rfl) ?_
  obtain ⟨v102, e102, r102⟩ := sl_idx (i := x1) r0 (by omega) (by omega)
  refine rd_op (ov_iaddr rfl rfl e102) ?_
  refine rd_op (ov_faddr rfl (api_ExprNode.g_Op r102)) ?_
  refine rd_op (ov_load rfl rfl rfl) ?_
  obtain ⟨y103, hw103, hres⟩ := let_ex hres
  have f103 := f34_ok (x0 := (ix x0 x1).Op)  
  rw [hw103] at f103
  refine rd_call (cv_fn rfl rfl (clL_cons rfl clL_nil) f103) ?_
  refine rd_op (ov_move rfl) ?_
  refine rd_nil ?_
  refine pn_seq ?_
  refine rc_seq ?_
  refine rc_seq ?_
  refine rc_region ?_
  refine rd_op (ov_move rfl) ?_
  refine rd_op (ov_bin rfl rfl i_lss) ?_
  refine rd_nil ?_
  refine pn_seq ?_
  refine rc_cond rfl (fun hc104 => ?_) (fun hc104 => ?_)
  ·replace hres := (ite_t hc104).symm.trans hres
   have hc104' := hc104
   try simp only [qa1, qa2, qa3, qa4, qa5, qa6, qa7, qa8, qa9, qaA, qaB, qaC, qaD] at hc104'
   refine rc_seq ?_
   refine rc_region ?_
   refine rd_op (ov_move rfl) ?_
   refine rd_op (v := vi 0) (ov_move rfl) ?_
   refine rd_op (ov_move rfl) ?_
   refine rd_op (v := vi 11) (ov_move rfl) ?_
   refine rd_nil ?_
   refine pn_seq ?_
   subst hres
   exact rc_retV (.tmp rfl (.tmp rfl (.tmp rfl .nil))) (deep_closed (show closed (.tup _) = true from (clL_cons rfl (clL_cons rfl (clL_cons rfl clL_nil))))) rfl
  ·replace hres := (ite_f hc104).symm.trans hres
   have hc104' := hc104
   try simp only [qa1, qa2, qa3, qa4, qa5, qa6, qa7, qa8, qa9, qaA, qaB, qaC, qaD] at hc104'
   refine rc_skip ?_
   refine pn_seq ?_
   refine rc_seq ?_
   refine rc_seq ?_
   refine rc_region ?_
   refine rd_op (ov_move rfl) ?_
   refine rd_op (ov_bin rfl rfl i_eql) ?_
   refine rd_nil ?_
   refine pn_seq ?_
   refine rc_cond rfl (fun hc105 => ?_) (fun hc105 => ?_)
   ·replace hres := (ite_t hc105).symm.trans hres
    have hc105' := hc105
    try simp only [qa1, qa2, qa3, qa4, qa5, qa6, qa7, qa8, qa9, qaA, qaB, qaC, qaD] at hc105'
    refine rc_seq ?_
    refine rc_region ?_
    refine rd_op (ov_move rfl) ?_
    refine rd_op (ov_move rfl) ?_
    obtain ⟨v106, e106, r106⟩ := sl_idx (i := x1) r0 (by omega) (by omega)
    refine rd_op (ov_iaddr rfl rfl e106) ?_
    refine rd_op (ov_load rfl (TR.cnt api_ExprNode.t r106) (TR.agg api_ExprNode.t r106)) ?_
    refine rd_op (ov_load rfl (TR.cnt expr_Scope.t r2) (TR.agg expr_Scope.t r2)) ?_
    obtain ⟨y107, hw107, hres⟩ := let_ex hres
    have f107 := f52_ok  r106 r2 
    rw [hw107] at f107
    refine rd_call (cv_fn rfl rfl (clL_cons (TR.clo api_ExprNode.t r106) (clL_cons (TR.clo expr_Scope.t r2) clL_nil)) f107) ?_
    refine rd_op (ov_move rfl) ?_
    refine rd_op (ov_extract rfl rfl) ?_
    refine rd_op (ov_extract rfl rfl) ?_
    refine rd_op (ov_move rfl) ?_
    refine rd_op (ov_move rfl) ?_
    refine rd_nil ?_
    refine pn_seq ?_
    refine rc_seq ?_
    refine rc_region ?_
    refine rd_op (ov_move rfl) ?_
    refine rd_op (ov_move rfl) ?_
    refine rd_op (ov_bin rfl rfl i_add) ?_
    refine rd_op (ov_move rfl) ?_
    refine rd_op (ov_move rfl) ?_
    refine rd_op (ov_move rfl) ?_
    refine rd_op (ov_move rfl) ?_
    refine rd_nil ?_
    refine pn_seq ?_
    subst hres
    exact rc_retV (.tmp rfl (.tmp rfl (.tmp rfl .nil))) (deep_closed (show closed (.tup _) = true from (clL_cons rfl (clL_cons rfl (clL_cons rfl clL_nil))))) rfl
   ·replace hres := (ite_f hc105).symm.trans hres
    have hc105' := hc105
    try simp only [qa1, qa2, qa3, qa4, qa5, qa6, qa7, qa8, qa9, qaA, qaB, qaC, qaD] at hc105'
    refine rc_skip ?_
    refine pn_seq ?_
    refine rc_seq ?_
    refine rc_region ?_
    refine rd_op (v := nilS) (ov_move rfl) ?_
    refine rd_nil ?_
    refine pn_seq ?_
    refine rc_seq ?_
    refine rc_region ?_
    refine rd_op (ov_move rfl) ?_
    refine rd_op (ov_bin rfl rfl i_add) ?_
    refine rd_op (ov_move rfl) ?_
    refine rd_nil ?_
    refine pn_seq ?_
    refine rc_seq ?_
    refine rc_seq ?_
    refine rc_region ?_
    refine rd_op (v := vi 0) (ov_move rfl) ?_
    refine rd_nil ?_
    refine pn_seq ?_
    refine rc_block ?_
    have M108 := mem_acc (sz := 1) (es := []) (Mem.nil ⟨0, []⟩) 3 (.inl ⟨none, rfl, rfl⟩) (by simp)
    refine rc_weak ?_ (ref13_check_L1_ok (x0 := x0) (x1 := x1) (x2 := x2) (rec_ := rec_) (mu_ := mu_) (y103 := y103) (v0 := v0) (v2 := v2)  (r0 := r0) (r2 := r2) (h0 := h0) (hb := hb) (ihR := ihR) (hmu := hmu) (hrec := hrec) (hc101 := hc101) (hw103 := hw103) (hc104 := hc104) (hc105 := hc105) ?_ (Int.toNat (y103 - 0)) (wr (x1 + 1)) 0 ([] : List Int) ([] : List PV) nilS (show All2 tI.R ([] : List Int) [] from trivial) rfl (.inl rfl) (by decide) rfl (by omega) (by first | omega | simp | (rw [wr_of (by omega) (by omega)]; omega)) (by first | omega | simp | (rw [wr_of (by omega) (by omega)]; omega)) (by first | omega | simp | (rw [wr_of (by omega) (by omega)]; omega)) _ (Mem.sub M108 (.cons_cons _ .slnil)) hres)
    ·exact ((sub_cons rfl (sub_cons rfl (sub_cons rfl (sub_cons rfl (sub_cons rfl (sub_cons rfl (sub_cons rfl (sub_nil _)))))))))
    ·intro x13_116 zE109_116 es116E109 a116E109 q116E109 n116E109 wr116E109 hl116E109 po116_0 h116 M116 hres
     refine px_blk ?_
     refine pn_seq ?_
     refine rc_seq ?_
     refine rc_region ?_
     refine rd_op (ov_move rfl) ?_
     refine rd_op (ov_move rfl) ?_
     obtain ⟨v117, e117, r117⟩ := sl_idx (i := x1) r0 (by omega) (by omega)
     refine rd_op (ov_iaddr rfl rfl e117) ?_
     refine rd_op (ov_load rfl (TR.cnt api_ExprNode.t r117) (TR.agg api_ExprNode.t r117)) ?_
     refine rd_op (ov_move rfl) ?_
     obtain ⟨v119, d119, r119⟩ := own_sl (P := Tryz.prog) (k := 0) (t := tI) M116 rfl n116E109 q116E109 (Nat.le_trans hl116E109 (by decide))
     obtain ⟨y118, hw118, hres⟩ := let_ex hres
     have f118 := f53_ok  r117 r119 (by first | omega | (have hk := rar (by assumption); omega)) (by first | omega | (have hk := rar (by assumption); omega))
     rw [hw118] at f118
     refine rd_call (cv_lend rfl rfl (dl_cons (deep_closed (TR.clo api_ExprNode.t r117)) (dl_cons d119 dl_nil)) f118 rfl) ?_
     refine rd_op (ov_move rfl) ?_
     refine rd_op (ov_extract rfl rfl) ?_
     refine rd_op (ov_extract rfl rfl) ?_
     refine rd_op (ov_move rfl) ?_
     refine rd_op (ov_move rfl) ?_
     refine rd_nil ?_
     refine pn_seq ?_
     refine rc_seq ?_
     refine rc_region ?_
     refine rd_op (ov_move rfl) ?_
     refine rd_op (ov_move rfl) ?_
     refine rd_op (ov_move rfl) ?_
     refine rd_op (ov_move rfl) ?_
     refine rd_op (ov_move rfl) ?_
     refine rd_op (ov_move rfl) ?_
     refine rd_nil ?_
     refine pn_seq ?_
     subst hres
     exact rc_retV (.tmp rfl (.tmp rfl (.tmp rfl .nil))) (deep_closed (show closed (.tup _) = true from (clL_cons rfl (clL_cons rfl (clL_cons rfl clL_nil))))) rfl
theorem f30_okR : ∀ (n_ : Nat) {x0 : List api_ExprNode} {x1 : Int} {x2 : expr_Scope} {v0 : PV} {v2 : PV} (r0 : (tSl api_ExprNode.t).R x0 v0) (r2 : expr_Scope.t.R x2 v2) (h0 : 0 ≤ x1) (hb : x0.length ≤ 1000000), (x0.length - x1.toNat) < n_ → FnR Tryz.prog 30 [v0, vi x1, v2] (.tup [vi ((ref13_check_R n_ x0 x1 x2).1), vi ((ref13_check_R n_ x0 x1 x2).2.1), vi ((ref13_check_R n_ x0 x1 x2).2.2)]) := by
 intro n_
 induction n_ with
 | zero => intros; rename_i hlt; exact absurd hlt (Nat.not_lt_zero _)
 | succ n_ ihn =>
  intro x0 x1 x2 v0 v2 r0 r2 h0 hb hlt
  have e_ : ref13_check_R (n_ + 1) x0 x1 x2 = ref13_check_B (ref13_check_R n_) x0 x1 x2 := by rw [ref13_check_R]
  rw [e_]
  exact f30_okB r0 r2 h0 hb rfl (rcheck_next n_) (fun {z0} {z1} {z2} {zv0} {zv2} zr0 zr2 h0 hb hz => ihn zr0 zr2 h0 hb (by omega))
theorem f30_ok {x0 : List api_ExprNode} {x1 : Int} {x2 : expr_Scope} {v0 : PV} {v2 : PV} (r0 : (tSl api_ExprNode.t).R x0 v0) (r2 : expr_Scope.t.R x2 v2) (h0 : 0 ≤ x1) (hb : x0.length ≤ 1000000) : FnR Tryz.prog 30 [v0, vi x1, v2] (.tup [vi ((ref13_check x0 x1 x2).1), vi ((ref13_check x0 x1 x2).2.1), vi ((ref13_check x0 x1 x2).2.2)]) := f30_okR _ r0 r2 h0 hb (Nat.lt_succ_self _)

/-- patchbay/patchbayref13.Check -/
def RF16 (res : Int × Int) (r : PV) : Prop := r = .tup [vi res.1, vi res.2]
theorem f16_ok {x0 : List api_ExprNode} {x1 : expr_Scope} {v0 : PV} {v1 : PV} (r0 : (tSl api_ExprNode.t).R x0 v0) (r1 : expr_Scope.t.R x1 v1) : FnR Tryz.prog 16 [v0, v1] (.tup [vi ((ref13_Check x0 x1).1), vi ((ref13_Check x0 x1).2)]) := by
 obtain ⟨res, hres⟩ : ∃ res, ref13_Check x0 x1 = res := ⟨_, rfl⟩
 suffices H : RC Tryz.prog ac16 [] (QR Tryz.prog [(4, none), (5, none)] (RF16 res)) (argE 0 [v0, v1]) ⟨0, []⟩ by
  obtain ⟨r, h1, h2⟩ := fnE text16 (by simp) H
  rw [hres]
  have h2 : r = .tup [vi res.1, vi res.2] := h2
  rw [← h2]; exact h1
 unfold ref13_Check at hres
 unfold ac16
 refine rc_seq ?_
 refine rc_region ?_
 refine rd_op (ov_box rfl (TR.cnt expr_Scope.t r1)) ?_
 refine rd_op (v := vi 0) (ov_move rfl) ?_
 refine rd_op (v := vi 0) (ov_move rfl) ?_
 refine rd_nil ?_
 refine pn_seq ?_
 refine rc_seq ?_
 refine rc_seq ?_
 refine rc_region ?_
 refine rd_op (ov_move rfl) ?_
 refine rd_op (ov_bi rfl (sl_len r0 Tryz.underlying32 _)) ?_
 refine rd_op (ov_bin rfl rfl i_gtr) ?_
 refine rd_nil ?_
 refine pn_seq ?_
 refine rc_cond rfl (fun hc101 => ?_) (fun hc101 => ?_)
 ·replace hres := (ite_t hc101).symm.trans hres
  have hc101' := hc101
  try simp only [qa1, qa2, qa3, qa4, qa5, qa6, qa7, qa8, qa9, qaA, qaB, qaC, qaD] at hc101'
  refine rc_seq ?_
  refine rc_region ?_
  refine rd_op (v := vi 0) (ov_move rfl) ?_
  refine rd_op (v := vi 12) (ov_move rfl) ?_
  refine rd_nil ?_
  refine pn_seq ?_
  subst hres
  exact rc_retV (.tmp rfl (.tmp rfl .nil)) (deep_closed (show closed (.tup _) = true from (clL_cons rfl (clL_cons rfl clL_nil)))) rfl
 ·replace hres := (ite_f hc101).symm.trans hres
  have hc101' := hc101
  try simp only [qa1, qa2, qa3, qa4, qa5, qa6, qa7, qa8, qa9, qaA, qaB, qaC, qaD] at hc101'
  refine rc_skip ?_
  refine pn_seq ?_
  refine rc_seq ?_
  refine rc_region ?_
  refine rd_op (ov_move rfl) ?_
  refine rd_op (ov_load rfl (TR.cnt expr_Scope.t r1) (TR.agg expr_Scope.t r1)) ?_
  obtain ⟨y102, hw102, hres⟩ := let_ex hres
  have f102 := f30_ok (x1 := 0) r0 r1 (by first | assumption | omega | (rw [wr_of (by omega) (by omega)]; omega) | (have hk := rval rfl (And.right (And.left (by assumption))); omega) | (have hk := rval (by assumption) (by assumption); omega) | (have hk := rval (by assumption) (And.left (by assumption)); omega) | (have hk := rval (by assumption) (And.left (And.left (by assumption))); have hz := rslc (by assumption); omega) | (simp; done) | (simp only [List.length_append, List.length_nil, List.length_cons]; omega) | (have hk := (chk_ok (by assumption) (by assumption)).1; omega) | (simp only [List.length_cons, List.length_nil]; omega) | (simp only [List.length_append]; have hk := (chk_ok (by assumption) (by assumption)).1; omega) | (simp only [List.length_append, List.length_nil]; have hk := (chk_ok (by assumption) (by assumption)).1; omega)) (by first | assumption | omega | (rw [wr_of (by omega) (by omega)]; omega) | (have hk := rval rfl (And.right (And.left (by assumption))); omega) | (have hk := rval (by assumption) (by assumption); omega) | (have hk := rval (by assumption) (And.left (by assumption)); omega) | (have hk := rval (by assumption) (And.left (And.left (by assumption))); have hz := rslc (by assumption); omega) | (simp; done) | (simp only [List.length_append, List.length_nil, List.length_cons]; omega) | (have hk := (chk_ok (by assumption) (by assumption)).1; omega) | (simp only [List.length_cons, List.length_nil]; omega) | (simp only [List.length_append]; have hk := (chk_ok (by assumption) (by assumption)).1; omega) | (simp only [List.length_append, List.length_nil]; have hk := (chk_ok (by assumption) (by assumption)).1; omega))
  rw [hw102] at f102
  refine rd_call (cv_fn rfl rfl (clL_cons (TR.clo (tSl api_ExprNode.t) r0) (clL_cons rfl (clL_cons (TR.clo expr_Scope.t r1) clL_nil))) f102) ?_
  refine rd_op (ov_move rfl) ?_
  refine rd_op (ov_extract rfl rfl) ?_
  refine rd_op (ov_extract rfl rfl) ?_
  refine rd_op (ov_extract rfl rfl) ?_
  refine rd_op (ov_move rfl) ?_
  refine rd_op (ov_move rfl) ?_
  refine rd_op (ov_move rfl) ?_
  refine rd_nil ?_
  refine pn_seq ?_
  refine rc_seq ?_
  refine rc_block ?_
  refine rc_seq ?_
  refine rc_region ?_
  refine rd_op (ov_move rfl) ?_
  refine rd_op (ov_bin rfl rfl i_neq) ?_
  refine rd_op (ov_move rfl) ?_
  refine rd_nil ?_
  refine pn_seq ?_
  refine rc_cond rfl (fun hc103 => ?_) (fun hc103 => ?_)
  ·replace hres := (ite_t hc103).symm.trans hres
   have hc103' := hc103
   try simp only [qa1, qa2, qa3, qa4, qa5, qa6, qa7, qa8, qa9, qaA, qaB, qaC, qaD] at hc103'
   refine rc_seq ?_
   refine rc_region ?_
   refine rd_op (ov_move rfl) ?_
   refine rd_op (v := vi 0) (ov_move rfl) ?_
   refine rd_op (ov_move rfl) ?_
   refine rd_nil ?_
   refine pn_seq ?_
   subst hres
   exact rc_retV (.tmp rfl (.tmp rfl .nil)) (deep_closed (show closed (.tup _) = true from (clL_cons rfl (clL_cons rfl clL_nil)))) rfl
  ·replace hres := (ite_f hc103).symm.trans hres
   have hc103' := hc103
   try simp only [qa1, qa2, qa3, qa4, qa5, qa6, qa7, qa8, qa9, qaA, qaB, qaC, qaD] at hc103'
   refine rc_seq ?_
   refine rc_region ?_
   refine rd_op (ov_move rfl) ?_
   refine rd_op (ov_move rfl) ?_
   refine rd_op (ov_bi rfl (sl_len r0 Tryz.underlying32 _)) ?_
   refine rd_op (ov_bin rfl rfl i_lss) ?_
   refine rd_op (ov_move rfl) ?_
   refine rd_nil ?_
   refine pn_seq ?_
   refine rc_cond rfl (fun hc104 => ?_) (fun hc104 => ?_)
   ·replace hres := (ite_t hc104).symm.trans hres
    have hc104' := hc104
    try simp only [qa1, qa2, qa3, qa4, qa5, qa6, qa7, qa8, qa9, qaA, qaB, qaC, qaD] at hc104'
    refine rc_seq ?_
    refine rc_region ?_
    refine rd_op (v := vi 0) (ov_move rfl) ?_
    refine rd_op (v := vi 4) (ov_move rfl) ?_
    refine rd_nil ?_
    refine pn_seq ?_
    subst hres
    exact rc_retV (.tmp rfl (.tmp rfl .nil)) (deep_closed (show closed (.tup _) = true from (clL_cons rfl (clL_cons rfl clL_nil)))) rfl
   ·replace hres := (ite_f hc104).symm.trans hres
    have hc104' := hc104
    try simp only [qa1, qa2, qa3, qa4, qa5, qa6, qa7, qa8, qa9, qaA, qaB, qaC, qaD] at hc104'
    refine rc_skip ?_
    refine pn_blk ?_
    refine pn_seq ?_
    refine rc_seq ?_
    refine rc_region ?_
    refine rd_op (ov_move rfl) ?_
    refine rd_op (ov_move rfl) ?_
    refine rd_op (v := vi 0) (ov_move rfl) ?_
    refine rd_nil ?_
    refine pn_seq ?_
    subst hres
    exact rc_retV (.tmp rfl (.tmp rfl .nil)) (deep_closed (show closed (.tup _) = true from (clL_cons rfl (clL_cons rfl clL_nil)))) rfl

/-- patchbay/patchbayref12.element -/
def RF56 (res : Bool) (r : PV) : Prop := r = vb res
theorem f56_ok {x0 : api_Env} {x1 : api_FieldRef} {v0 : PV} {v1 : PV} (r0 : api_Env.t.R x0 v0) (r1 : api_FieldRef.t.R x1 v1) : FnR Tryz.prog 56 [v0, v1] (vb (ref12_element x0 x1)) := by
 obtain ⟨res, hres⟩ : ∃ res, ref12_element x0 x1 = res := ⟨_, rfl⟩
 suffices H : RC Tryz.prog ac56 [] (QR Tryz.prog [(4, none)] (RF56 res)) (argE 0 [v0, v1]) ⟨0, []⟩ by
  obtain ⟨r, h1, h2⟩ := fnE text56 (by simp) H
  rw [hres]
  have h2 : r = vb res := h2
  rw [← h2]; exact h1
 unfold ref12_element at hres
 unfold ac56
 refine rc_seq ?_
 refine rc_region ?_
 refine rd_op (ov_box rfl (TR.cnt api_Env.t r0)) ?_
 refine rd_op (ov_box rfl (TR.cnt api_FieldRef.t r1)) ?_
 refine rd_op (v := vb false) (ov_move rfl) ?_
 refine rd_nil ?_
 refine pn_seq ?_
 refine rc_seq ?_
 refine rc_seq ?_
 refine rc_region ?_
 refine rd_op (ov_faddr rfl (api_FieldRef.g_Header r1)) ?_
 refine rd_op (ov_load rfl rfl rfl) ?_
 refine rd_op (ov_bin rfl rfl i_eql) ?_
 refine rd_nil ?_
 refine pn_seq ?_
 refine rc_cond rfl (fun hc101 => ?_) (fun hc101 => ?_)
 ·replace hres := (ite_t hc101).symm.trans hres
  have hc101' := hc101
  try simp only [qa1, qa2, qa3, qa4, qa5, qa6, qa7, qa8, qa9, qaA, qaB, qaC, qaD] at hc101'
  refine rc_seq ?_
  refine rc_region ?_
  refine rd_op (ov_faddr rfl (api_FieldRef.g_Field r1)) ?_
  refine rd_op (ov_load rfl rfl rfl) ?_
  refine rd_op (ov_bin rfl rfl i_geq) ?_
  refine rd_op (ov_move rfl) ?_
  refine rd_cut (d := 18) (v := vb ((decide (0 ≤ x1.Field)) && (decide (x1.Field < (x0.Metd.length : Int))))) ?_ ?_
  ·intro S Q r
   simp only [ac56_G1, List.cons_append, List.nil_append, List.append_assoc]
   cases hb102 : (decide (0 ≤ x1.Field))
   ·intro k
    refine rd_skip rfl rfl ?_
    refine rd_skip rfl rfl ?_
    refine rd_skip rfl rfl ?_
    refine rd_skip rfl rfl ?_
    refine rd_skip rfl rfl ?_
    refine rd_skip rfl rfl ?_
    refine rd_op (v := vb false) (ov_pick rfl rfl rfl rfl) ?_
    exact rd_weak (sub_cons rfl (sub_skip rfl (sub_skip rfl (sub_skip rfl (sub_skip rfl (sub_skip rfl (sub_skip rfl (sub_skip rfl (sub_refl _))))))))) k
   ·intro k
    have hb102' := hb102
    try simp only [qa1, qa2, qa3, qa4, qa5, qa6, qa7, qa8, qa9, qaA, qaB, qaC, qaD] at hb102'
    refine rd_yes rfl rfl (ov_faddr rfl (api_FieldRef.g_Field r1)) ?_
    refine rd_yes rfl rfl (ov_load rfl rfl rfl) ?_
    obtain ⟨v103, e103, r103⟩ := api_Env.g_Meta r0
    refine rd_yes rfl rfl (ov_faddr rfl e103) ?_
    refine rd_yes rfl rfl (ov_load rfl (TR.cnt (tSl tU32) r103) (TR.agg (tSl tU32) r103)) ?_
    refine rd_yes rfl rfl (ov_bi rfl (sl_len r103 Tryz.underlying35 _)) ?_
    refine rd_yes rfl rfl (ov_bin rfl rfl i_lss) ?_
    refine rd_op (v := vb (decide (x1.Field < (x0.Metd.length : Int)))) (ov_pick rfl rfl rfl rfl) ?_
    exact rd_weak (sub_cons rfl (sub_skip rfl (sub_skip rfl (sub_skip rfl (sub_skip rfl (sub_skip rfl (sub_skip rfl (sub_skip rfl (sub_refl _))))))))) k
  refine rd_op (ov_move rfl) ?_
  refine rd_nil ?_
  refine pn_seq ?_
  subst hres
  exact rc_retV (.tmp rfl .nil) (deep_closed rfl) rfl
 ·replace hres := (ite_f hc101).symm.trans hres
  have hc101' := hc101
  try simp only [qa1, qa2, qa3, qa4, qa5, qa6, qa7, qa8, qa9, qaA, qaB, qaC, qaD] at hc101'
  refine rc_skip ?_
  refine pn_seq ?_
  refine rc_seq ?_
  refine rc_region ?_
  refine rd_op (ov_faddr rfl (api_FieldRef.g_Header r1)) ?_
  refine rd_op (ov_load rfl rfl rfl) ?_
  refine rd_op (ov_bin rfl rfl i_geq) ?_
  refine rd_op (ov_move rfl) ?_
  refine rd_cut (d := 29) (v := vb ((decide (0 ≤ x1.Header)) && (decide (x1.Header < (x0.Fields.length : Int))))) ?_ ?_
  ·intro S Q r
   simp only [ac56_G2, List.cons_append, List.nil_append, List.append_assoc]
   cases hb104 : (decide (0 ≤ x1.Header))
   ·intro k
    refine rd_skip rfl rfl ?_
    refine rd_skip rfl rfl ?_
    refine rd_skip rfl rfl ?_
    refine rd_skip rfl rfl ?_
    refine rd_skip rfl rfl ?_
    refine rd_skip rfl rfl ?_
    refine rd_op (v := vb false) (ov_pick rfl rfl rfl rfl) ?_
    exact rd_weak (sub_cons rfl (sub_skip rfl (sub_skip rfl (sub_skip rfl (sub_skip rfl (sub_skip rfl (sub_skip rfl (sub_skip rfl (sub_refl _))))))))) k
   ·intro k
    have hb104' := hb104
    try simp only [qa1, qa2, qa3, qa4, qa5, qa6, qa7, qa8, qa9, qaA, qaB, qaC, qaD] at hb104'
    refine rd_yes rfl rfl (ov_faddr rfl (api_FieldRef.g_Header r1)) ?_
    refine rd_yes rfl rfl (ov_load rfl rfl rfl) ?_
    obtain ⟨v105, e105, r105⟩ := api_Env.g_Fields r0
    refine rd_yes rfl rfl (ov_faddr rfl e105) ?_
    refine rd_yes rfl rfl (ov_load rfl (TR.cnt (tSl (tSl tU32)) r105) (TR.agg (tSl (tSl tU32)) r105)) ?_
    refine rd_yes rfl rfl (ov_bi rfl (sl_len r105 Tryz.underlying34 _)) ?_
    refine rd_yes rfl rfl (ov_bin rfl rfl i_lss) ?_
    refine rd_op (v := vb (decide (x1.Header < (x0.Fields.length : Int)))) (ov_pick rfl rfl rfl rfl) ?_
    exact rd_weak (sub_cons rfl (sub_skip rfl (sub_skip rfl (sub_skip rfl (sub_skip rfl (sub_skip rfl (sub_skip rfl (sub_skip rfl (sub_refl _))))))))) k
  refine rd_op (ov_move rfl) ?_
  refine rd_cut (d := 34) (v := vb (((decide (0 ≤ x1.Header)) && (decide (x1.Header < (x0.Fields.length : Int)))) && (decide (0 ≤ x1.Field)))) ?_ ?_
  ·intro S Q r
   simp only [ac56_G3, List.cons_append, List.nil_append, List.append_assoc]
   cases hb106 : ((decide (0 ≤ x1.Header)) && (decide (x1.Header < (x0.Fields.length : Int))))
   ·intro k
    refine rd_skip rfl rfl ?_
    refine rd_skip rfl rfl ?_
    refine rd_skip rfl rfl ?_
    refine rd_op (v := vb false) (ov_pick rfl rfl rfl rfl) ?_
    exact rd_weak (sub_cons rfl (sub_skip rfl (sub_skip rfl (sub_skip rfl (sub_skip rfl (sub_refl _)))))) k
   ·intro k
    have hb106' := hb106
    try simp only [qa1, qa2, qa3, qa4, qa5, qa6, qa7, qa8, qa9, qaA, qaB, qaC, qaD] at hb106'
    refine rd_yes rfl rfl (ov_faddr rfl (api_FieldRef.g_Field r1)) ?_
    refine rd_yes rfl rfl (ov_load rfl rfl rfl) ?_
    refine rd_yes rfl rfl (ov_bin rfl rfl i_geq) ?_
    refine rd_op (v := vb (decide (0 ≤ x1.Field))) (ov_pick rfl rfl rfl rfl) ?_
    exact rd_weak (sub_cons rfl (sub_skip rfl (sub_skip rfl (sub_skip rfl (sub_skip rfl (sub_refl _)))))) k
  refine rd_op (ov_move rfl) ?_
  refine rd_cut (d := 46) (v := vb ((((decide (0 ≤ x1.Header)) && (decide (x1.Header < (x0.Fields.length : Int)))) && (decide (0 ≤ x1.Field))) && (decide (x1.Field < ((ix x0.Fields x1.Header).length : Int))))) ?_ ?_
  ·intro S Q r
   simp only [ac56_G4, List.cons_append, List.nil_append, List.append_assoc]
   cases hb107 : (((decide (0 ≤ x1.Header)) && (decide (x1.Header < (x0.Fields.length : Int)))) && (decide (0 ≤ x1.Field)))
   ·intro k
    refine rd_skip rfl rfl ?_
    refine rd_skip rfl rfl ?_
    refine rd_skip rfl rfl ?_
    refine rd_skip rfl rfl ?_
    refine rd_skip rfl rfl ?_
    refine rd_skip rfl rfl ?_
    refine rd_skip rfl rfl ?_
    refine rd_skip rfl rfl ?_
    refine rd_skip rfl rfl ?_
    refine rd_skip rfl rfl ?_
    refine rd_op (v := vb false) (ov_pick rfl rfl rfl rfl) ?_
    exact rd_weak (sub_cons rfl (sub_skip rfl (sub_skip rfl (sub_skip rfl (sub_skip rfl (sub_skip rfl (sub_skip rfl (sub_skip rfl (sub_skip rfl (sub_skip rfl (sub_skip rfl (sub_skip rfl (sub_refl _))))))))))))) k
   ·intro k
    have hb107' := hb107
    try simp only [qa1, qa2, qa3, qa4, qa5, qa6, qa7, qa8, qa9, qaA, qaB, qaC, qaD] at hb107'
    refine rd_yes rfl rfl (ov_faddr rfl (api_FieldRef.g_Field r1)) ?_
    refine rd_yes rfl rfl (ov_load rfl rfl rfl) ?_
    obtain ⟨v108, e108, r108⟩ := api_Env.g_Fields r0
    refine rd_yes rfl rfl (ov_faddr rfl e108) ?_
    refine rd_yes rfl rfl (ov_load rfl (TR.cnt (tSl (tSl tU32)) r108) (TR.agg (tSl (tSl tU32)) r108)) ?_
    refine rd_yes rfl rfl (ov_faddr rfl (api_FieldRef.g_Header r1)) ?_
    refine rd_yes rfl rfl (ov_load rfl rfl rfl) ?_
    obtain ⟨v109, e109, r109⟩ := sl_idx (i := x1.Header) r108 (by omega) (by omega)
    refine rd_yes rfl rfl (ov_iaddr rfl rfl e109) ?_
    refine rd_yes rfl rfl (ov_load rfl (TR.cnt (tSl tU32) r109) (TR.agg (tSl tU32) r109)) ?_
    refine rd_yes rfl rfl (ov_bi rfl (sl_len r109 Tryz.underlying35 _)) ?_
    refine rd_yes rfl rfl (ov_bin rfl rfl i_lss) ?_
    refine rd_op (v := vb (decide (x1.Field < ((ix x0.Fields x1.Header).length : Int)))) (ov_pick rfl rfl rfl rfl) ?_
    exact rd_weak (sub_cons rfl (sub_skip rfl (sub_skip rfl (sub_skip rfl (sub_skip rfl (sub_skip rfl (sub_skip rfl (sub_skip rfl (sub_skip rfl (sub_skip rfl (sub_skip rfl (sub_skip rfl (sub_refl _))))))))))))) k
  refine rd_op (ov_move rfl) ?_
  refine rd_nil ?_
  refine pn_seq ?_
  subst hres
  exact rc_retV (.tmp rfl .nil) (deep_closed rfl) rfl

/-- patchbay/patchbayref12.Has -/
def RF57 (res : Bool) (r : PV) : Prop := r = vb res
theorem f57_ok {x0 : api_Env} {x1 : Int} {v0 : PV} (r0 : api_Env.t.R x0 v0) : FnR Tryz.prog 57 [v0, vi x1] (vb (ref12_Has x0 x1)) := by
 obtain ⟨res, hres⟩ : ∃ res, ref12_Has x0 x1 = res := ⟨_, rfl⟩
 suffices H : RC Tryz.prog ac57 [] (QR Tryz.prog [(4, none)] (RF57 res)) (argE 0 [v0, vi x1]) ⟨0, []⟩ by
  obtain ⟨r, h1, h2⟩ := fnE text57 (by simp) H
  rw [hres]
  have h2 : r = vb res := h2
  rw [← h2]; exact h1
 unfold ref12_Has at hres
 unfold ac57
 refine rc_seq ?_
 refine rc_region ?_
 refine rd_op (ov_box rfl (TR.cnt api_Env.t r0)) ?_
 refine rd_op (v := vb false) (ov_move rfl) ?_
 refine rd_nil ?_
 refine pn_seq ?_
 refine rc_seq ?_
 refine rc_region ?_
 refine rd_op (ov_move rfl) ?_
 refine rd_op (ov_bin rfl rfl i_geq) ?_
 refine rd_op (ov_move rfl) ?_
 refine rd_cut (d := 13) (v := vb ((decide (0 ≤ x1)) && (decide (x1 < (x0.Valid.length : Int))))) ?_ ?_
 ·intro S Q r
  simp only [ac57_G1, List.cons_append, List.nil_append, List.append_assoc]
  cases hb101 : (decide (0 ≤ x1))
  ·intro k
   refine rd_skip rfl rfl ?_
   refine rd_skip rfl rfl ?_
   refine rd_skip rfl rfl ?_
   refine rd_skip rfl rfl ?_
   refine rd_skip rfl rfl ?_
   refine rd_op (v := vb false) (ov_pick rfl rfl rfl rfl) ?_
   exact rd_weak (sub_cons rfl (sub_skip rfl (sub_skip rfl (sub_skip rfl (sub_skip rfl (sub_skip rfl (sub_skip rfl (sub_refl _)))))))) k
  ·intro k
   have hb101' := hb101
   try simp only [qa1, qa2, qa3, qa4, qa5, qa6, qa7, qa8, qa9, qaA, qaB, qaC, qaD] at hb101'
   refine rd_yes rfl rfl (ov_move rfl) ?_
   obtain ⟨v102, e102, r102⟩ := api_Env.g_Valid r0
   refine rd_yes rfl rfl (ov_faddr rfl e102) ?_
   refine rd_yes rfl rfl (ov_load rfl (TR.cnt (tSl tB) r102) (TR.agg (tSl tB) r102)) ?_
   refine rd_yes rfl rfl (ov_bi rfl (sl_len r102 Tryz.underlying33 _)) ?_
   refine rd_yes rfl rfl (ov_bin rfl rfl i_lss) ?_
   refine rd_op (v := vb (decide (x1 < (x0.Valid.length : Int)))) (ov_pick rfl rfl rfl rfl) ?_
   exact rd_weak (sub_cons rfl (sub_skip rfl (sub_skip rfl (sub_skip rfl (sub_skip rfl (sub_skip rfl (sub_skip rfl (sub_refl _)))))))) k
 refine rd_op (ov_move rfl) ?_
 refine rd_cut (d := 20) (v := vb (((decide (0 ≤ x1)) && (decide (x1 < (x0.Valid.length : Int)))) && (ix x0.Valid x1))) ?_ ?_
 ·intro S Q r
  simp only [ac57_G2, List.cons_append, List.nil_append, List.append_assoc]
  cases hb103 : ((decide (0 ≤ x1)) && (decide (x1 < (x0.Valid.length : Int))))
  ·intro k
   refine rd_skip rfl rfl ?_
   refine rd_skip rfl rfl ?_
   refine rd_skip rfl rfl ?_
   refine rd_skip rfl rfl ?_
   refine rd_skip rfl rfl ?_
   refine rd_op (v := vb false) (ov_pick rfl rfl rfl rfl) ?_
   exact rd_weak (sub_cons rfl (sub_skip rfl (sub_skip rfl (sub_skip rfl (sub_skip rfl (sub_skip rfl (sub_skip rfl (sub_refl _)))))))) k
  ·intro k
   have hb103' := hb103
   try simp only [qa1, qa2, qa3, qa4, qa5, qa6, qa7, qa8, qa9, qaA, qaB, qaC, qaD] at hb103'
   obtain ⟨v104, e104, r104⟩ := api_Env.g_Valid r0
   refine rd_yes rfl rfl (ov_faddr rfl e104) ?_
   refine rd_yes rfl rfl (ov_load rfl (TR.cnt (tSl tB) r104) (TR.agg (tSl tB) r104)) ?_
   refine rd_yes rfl rfl (ov_move rfl) ?_
   refine rd_yes rfl rfl (ov_iaddr rfl rfl (slB r104 (by omega) (by omega))) ?_
   refine rd_yes rfl rfl (ov_load rfl rfl rfl) ?_
   refine rd_op (v := vb (ix x0.Valid x1)) (ov_pick rfl rfl rfl rfl) ?_
   exact rd_weak (sub_cons rfl (sub_skip rfl (sub_skip rfl (sub_skip rfl (sub_skip rfl (sub_skip rfl (sub_skip rfl (sub_refl _)))))))) k
 refine rd_op (ov_move rfl) ?_
 refine rd_nil ?_
 refine pn_seq ?_
 subst hres
 exact rc_retV (.tmp rfl .nil) (deep_closed rfl) rfl

/-- patchbay/patchbayref12.Get -/
def RF32 (res : (BitVec 32)) (r : PV) : Prop := r = vu32 res
theorem f32_ok {x0 : api_Env} {x1 : api_FieldRef} {v0 : PV} {v1 : PV} (r0 : api_Env.t.R x0 v0) (r1 : api_FieldRef.t.R x1 v1) : FnR Tryz.prog 32 [v0, v1] (vu32 (ref12_Get x0 x1)) := by
 obtain ⟨res, hres⟩ : ∃ res, ref12_Get x0 x1 = res := ⟨_, rfl⟩
 suffices H : RC Tryz.prog ac32 [] (QR Tryz.prog [(4, none)] (RF32 res)) (argE 0 [v0, v1]) ⟨0, []⟩ by
  obtain ⟨r, h1, h2⟩ := fnE text32 (by simp) H
  rw [hres]
  have h2 : r = vu32 res := h2
  rw [← h2]; exact h1
 unfold ref12_Get at hres
 unfold ac32
 refine rc_seq ?_
 refine rc_region ?_
 refine rd_op (ov_box rfl (TR.cnt api_Env.t r0)) ?_
 refine rd_op (ov_box rfl (TR.cnt api_FieldRef.t r1)) ?_
 refine rd_op (v := vu32 0#32) (ov_move rfl) ?_
 refine rd_nil ?_
 refine pn_seq ?_
 refine rc_seq ?_
 refine rc_seq ?_
 refine rc_region ?_
 refine rd_op (ov_load rfl (TR.cnt api_Env.t r0) (TR.agg api_Env.t r0)) ?_
 refine rd_op (ov_load rfl (TR.cnt api_FieldRef.t r1) (TR.agg api_FieldRef.t r1)) ?_
 obtain ⟨y101, hw101, hres⟩ := let_ex hres
 have f101 := f56_ok  r0 r1 
 rw [hw101] at f101
 refine rd_call (cv_fn rfl rfl (clL_cons (TR.clo api_Env.t r0) (clL_cons (TR.clo api_FieldRef.t r1) clL_nil)) f101) ?_
 refine rd_op (ov_not rfl) ?_
 refine rd_nil ?_
 refine pn_seq ?_
 refine rc_cond rfl (fun hc102 => ?_) (fun hc102 => ?_)
 ·replace hres := (ite_t hc102).symm.trans hres
  have hc102' := hc102
  try simp only [qa1, qa2, qa3, qa4, qa5, qa6, qa7, qa8, qa9, qaA, qaB, qaC, qaD] at hc102'
  refine rc_seq ?_
  refine rc_region ?_
  refine rd_op (v := vu32 0#32) (ov_move rfl) ?_
  refine rd_nil ?_
  refine pn_seq ?_
  subst hres
  exact rc_retV (.tmp rfl .nil) (deep_closed rfl) rfl
 ·replace hres := (ite_f hc102).symm.trans hres
  have hc102' := hc102
  try simp only [qa1, qa2, qa3, qa4, qa5, qa6, qa7, qa8, qa9, qaA, qaB, qaC, qaD] at hc102'
  refine rc_skip ?_
  refine pn_seq ?_
  refine rc_seq ?_
  refine rc_seq ?_
  refine rc_region ?_
  refine rd_op (ov_faddr rfl (api_FieldRef.g_Header r1)) ?_
  refine rd_op (ov_load rfl rfl rfl) ?_
  refine rd_op (ov_bin rfl rfl i_eql) ?_
  refine rd_nil ?_
  refine pn_seq ?_
  refine rc_cond rfl (fun hc103 => ?_) (fun hc103 => ?_)
  ·replace hres := (ite_t hc103).symm.trans hres
   have hc103' := hc103
   try simp only [qa1, qa2, qa3, qa4, qa5, qa6, qa7, qa8, qa9, qaA, qaB, qaC, qaD] at hc103'
   refine rc_seq ?_
   refine rc_region ?_
   obtain ⟨v104, e104, r104⟩ := api_Env.g_Meta r0
   refine rd_op (ov_faddr rfl e104) ?_
   refine rd_op (ov_load rfl (TR.cnt (tSl tU32) r104) (TR.agg (tSl tU32) r104)) ?_
   refine rd_op (ov_faddr rfl (api_FieldRef.g_Field r1)) ?_
   refine rd_op (ov_load rfl rfl rfl) ?_
   refine rd_op (ov_iaddr rfl rfl (slU32 r104 (by first | omega | (have hk := rel_m (by assumption) (by assumption) (by assumption); omega) | (have hk := rel_h (by assumption) (by assumption) (by assumption); omega)) (by first | omega | (have hk := rel_m (by assumption) (by assumption) (by assumption); omega) | (have hk := rel_h (by assumption) (by assumption) (by assumption); omega)))) ?_
   refine rd_op (ov_load rfl rfl rfl) ?_
   refine rd_op (ov_move rfl) ?_
   refine rd_nil ?_
   refine pn_seq ?_
   subst hres
   exact rc_retV (.tmp rfl .nil) (deep_closed rfl) rfl
  ·replace hres := (ite_f hc103).symm.trans hres
   have hc103' := hc103
   try simp only [qa1, qa2, qa3, qa4, qa5, qa6, qa7, qa8, qa9, qaA, qaB, qaC, qaD] at hc103'
   refine rc_skip ?_
   refine pn_seq ?_
   refine rc_seq ?_
   refine rc_seq ?_
   refine rc_region ?_
   refine rd_op (ov_load rfl (TR.cnt api_Env.t r0) (TR.agg api_Env.t r0)) ?_
   refine rd_op (ov_faddr rfl (api_FieldRef.g_Header r1)) ?_
   refine rd_op (ov_load rfl rfl rfl) ?_
   obtain ⟨y105, hw105, hres⟩ := let_ex hres
   have f105 := f57_ok (x1 := x1.Header) r0 
   rw [hw105] at f105
   refine rd_call (cv_fn rfl rfl (clL_cons (TR.clo api_Env.t r0) (clL_cons rfl clL_nil)) f105) ?_
   refine rd_op (ov_not rfl) ?_
   refine rd_nil ?_
   refine pn_seq ?_
   refine rc_cond rfl (fun hc106 => ?_) (fun hc106 => ?_)
   ·replace hres := (ite_t hc106).symm.trans hres
    have hc106' := hc106
    try simp only [qa1, qa2, qa3, qa4, qa5, qa6, qa7, qa8, qa9, qaA, qaB, qaC, qaD] at hc106'
    refine rc_seq ?_
    refine rc_region ?_
    refine rd_op (v := vu32 0#32) (ov_move rfl) ?_
    refine rd_nil ?_
    refine pn_seq ?_
    subst hres
    exact rc_retV (.tmp rfl .nil) (deep_closed rfl) rfl
   ·replace hres := (ite_f hc106).symm.trans hres
    have hc106' := hc106
    try simp only [qa1, qa2, qa3, qa4, qa5, qa6, qa7, qa8, qa9, qaA, qaB, qaC, qaD] at hc106'
    refine rc_skip ?_
    refine pn_seq ?_
    refine rc_seq ?_
    refine rc_region ?_
    obtain ⟨v107, e107, r107⟩ := api_Env.g_Fields r0
    refine rd_op (ov_faddr rfl e107) ?_
    refine rd_op (ov_load rfl (TR.cnt (tSl (tSl tU32)) r107) (TR.agg (tSl (tSl tU32)) r107)) ?_
    refine rd_op (ov_faddr rfl (api_FieldRef.g_Header r1)) ?_
    refine rd_op (ov_load rfl rfl rfl) ?_
    obtain ⟨v108, e108, r108⟩ := sl_idx (i := x1.Header) r107 (by first | omega | (have hk := rel_m (by assumption) (by assumption) (by assumption); omega) | (have hk := rel_h (by assumption) (by assumption) (by assumption); omega)) (by first | omega | (have hk := rel_m (by assumption) (by assumption) (by assumption); omega) | (have hk := rel_h (by assumption) (by assumption) (by assumption); omega))
    refine rd_op (ov_iaddr rfl rfl e108) ?_
    refine rd_op (ov_load rfl (TR.cnt (tSl tU32) r108) (TR.agg (tSl tU32) r108)) ?_
    refine rd_op (ov_faddr rfl (api_FieldRef.g_Field r1)) ?_
    refine rd_op (ov_load rfl rfl rfl) ?_
    refine rd_op (ov_iaddr rfl rfl (slU32 r108 (by first | omega | (have hk := rel_m (by assumption) (by assumption) (by assumption); omega) | (have hk := rel_h (by assumption) (by assumption) (by assumption); omega)) (by first | omega | (have hk := rel_m (by assumption) (by assumption) (by assumption); omega) | (have hk := rel_h (by assumption) (by assumption) (by assumption); omega)))) ?_
    refine rd_op (ov_load rfl rfl rfl) ?_
    refine rd_op (ov_move rfl) ?_
    refine rd_nil ?_
    refine pn_seq ?_
    subst hres
    exact rc_retV (.tmp rfl .nil) (deep_closed rfl) rfl

/-- patchbay/patchbayref01.Reduce -/
def RF31 (res : (BitVec 32)) (r : PV) : Prop := r = vu32 res
theorem f31_ok {x0 : BitVec 64} {x1 : Int} : FnR Tryz.prog 31 [vu64 x0, vi x1] (vu32 (ref01_Reduce x0 x1)) := by
 obtain ⟨res, hres⟩ : ∃ res, ref01_Reduce x0 x1 = res := ⟨_, rfl⟩
 suffices H : RC Tryz.prog ac31 [] (QR Tryz.prog [(4, none)] (RF31 res)) (argE 0 [vu64 x0, vi x1]) ⟨0, []⟩ by
  obtain ⟨r, h1, h2⟩ := fnE text31 (by simp) H
  rw [hres]
  have h2 : r = vu32 res := h2
  rw [← h2]; exact h1
 unfold ref01_Reduce at hres
 unfold ac31
 refine rc_seq ?_
 refine rc_region ?_
 refine rd_op (v := vu32 0#32) (ov_move rfl) ?_
 refine rd_nil ?_
 refine pn_seq ?_
 refine rc_seq ?_
 refine rc_seq ?_
 refine rc_region ?_
 refine rd_op (ov_move rfl) ?_
 obtain ⟨y101, hw101, hres⟩ := let_ex hres
 have f101 := f54_ok (x0 := x1)  
 rw [hw101] at f101
 refine rd_call (cv_fn rfl rfl (clL_cons rfl clL_nil) f101) ?_
 refine rd_op (ov_not rfl) ?_
 refine rd_nil ?_
 refine pn_seq ?_
 refine rc_cond rfl (fun hc102 => ?_) (fun hc102 => ?_)
 ·replace hres := (ite_t hc102).symm.trans hres
  have hc102' := hc102
  try simp only [qa1, qa2, qa3, qa4, qa5, qa6, qa7, qa8, qa9, qaA, qaB, qaC, qaD] at hc102'
  refine rc_seq ?_
  refine rc_region ?_
  refine rd_op (v := vu32 0#32) (ov_move rfl) ?_
  refine rd_nil ?_
  refine pn_seq ?_
  subst hres
  exact rc_retV (.tmp rfl .nil) (deep_closed rfl) rfl
 ·replace hres := (ite_f hc102).symm.trans hres
  have hc102' := hc102
  try simp only [qa1, qa2, qa3, qa4, qa5, qa6, qa7, qa8, qa9, qaA, qaB, qaC, qaD] at hc102'
  refine rc_skip ?_
  refine pn_seq ?_
  refine rc_seq ?_
  refine rc_region ?_
  refine rd_op (ov_move rfl) ?_
  refine rd_op (ov_move rfl) ?_
  obtain ⟨y103, hw103, hres⟩ := let_ex hres
  have f103 := f55_ok (x0 := x1)  (by first | assumption | omega | (rw [wr_of (by omega) (by omega)]; omega) | (have hk := rval rfl (And.right (And.left (by assumption))); omega) | (have hk := rval (by assumption) (by assumption); omega) | (have hk := rval (by assumption) (And.left (by assumption)); omega) | (have hk := rval (by assumption) (And.left (And.left (by assumption))); have hz := rslc (by assumption); omega) | (simp; done) | (simp only [List.length_append, List.length_nil, List.length_cons]; omega) | (have hk := (chk_ok (by assumption) (by assumption)).1; omega) | (simp only [List.length_cons, List.length_nil]; omega) | (simp only [List.length_append]; have hk := (chk_ok (by assumption) (by assumption)).1; omega) | (simp only [List.length_append, List.length_nil]; have hk := (chk_ok (by assumption) (by assumption)).1; omega))
  rw [hw103] at f103
  refine rd_call (cv_fn rfl rfl (clL_cons rfl clL_nil) f103) ?_
  refine rd_op (ov_bin (a := vu64 x0) (b := vu64 y103) rfl rfl (d_rem (rpow_nz (by assumption) (by assumption) (by assumption)))) ?_
  refine rd_op (ov_conv (a := vu64 (x0 % y103)) rfl (c_dw Tryz.underlying93 Tryz.underlying42)) ?_
  refine rd_op (ov_move rfl) ?_
  refine rd_nil ?_
  refine pn_seq ?_
  subst hres
  exact rc_retV (.tmp rfl .nil) (deep_closed rfl) rfl

/-- patchbay/patchbayref13.bit -/
def RF33 (res : (BitVec 32)) (r : PV) : Prop := r = vu32 res
theorem f33_ok {x0 : Bool} : FnR Tryz.prog 33 [vb x0] (vu32 (ref13_bit x0)) := by
 obtain ⟨res, hres⟩ : ∃ res, ref13_bit x0 = res := ⟨_, rfl⟩
 suffices H : RC Tryz.prog ac33 [] (QR Tryz.prog [(2, none)] (RF33 res)) (argE 0 [vb x0]) ⟨0, []⟩ by
  obtain ⟨r, h1, h2⟩ := fnE text33 (by simp) H
  rw [hres]
  have h2 : r = vu32 res := h2
  rw [← h2]; exact h1
 unfold ref13_bit at hres
 unfold ac33
 refine rc_seq ?_
 refine rc_region ?_
 refine rd_op (v := vu32 0#32) (ov_move rfl) ?_
 refine rd_nil ?_
 refine pn_seq ?_
 refine rc_seq ?_
 refine rc_seq ?_
 refine rc_region ?_
 refine rd_op (ov_move rfl) ?_
 refine rd_nil ?_
 refine pn_seq ?_
 refine rc_cond rfl (fun hc101 => ?_) (fun hc101 => ?_)
 ·replace hres := (ite_t hc101).symm.trans hres
  have hc101' := hc101
  try simp only [qa1, qa2, qa3, qa4, qa5, qa6, qa7, qa8, qa9, qaA, qaB, qaC, qaD] at hc101'
  refine rc_seq ?_
  refine rc_region ?_
  refine rd_op (v := vu32 1#32) (ov_move rfl) ?_
  refine rd_nil ?_
  refine pn_seq ?_
  subst hres
  exact rc_retV (.tmp rfl .nil) (deep_closed rfl) rfl
 ·replace hres := (ite_f hc101).symm.trans hres
  have hc101' := hc101
  try simp only [qa1, qa2, qa3, qa4, qa5, qa6, qa7, qa8, qa9, qaA, qaB, qaC, qaD] at hc101'
  refine rc_skip ?_
  refine pn_seq ?_
  refine rc_seq ?_
  refine rc_region ?_
  refine rd_op (v := vu32 0#32) (ov_move rfl) ?_
  refine rd_nil ?_
  refine pn_seq ?_
  subst hres
  exact rc_retV (.tmp rfl .nil) (deep_closed rfl) rfl

/-- patchbay/patchbayref01.Not -/
def RF58 (res : (BitVec 32)) (r : PV) : Prop := r = vu32 res
theorem f58_ok {x0 : BitVec 32} {x1 : Int} : FnR Tryz.prog 58 [vu32 x0, vi x1] (vu32 (ref01_Not x0 x1)) := by
 obtain ⟨res, hres⟩ : ∃ res, ref01_Not x0 x1 = res := ⟨_, rfl⟩
 suffices H : RC Tryz.prog ac58 [] (QR Tryz.prog [(4, none)] (RF58 res)) (argE 0 [vu32 x0, vi x1]) ⟨0, []⟩ by
  obtain ⟨r, h1, h2⟩ := fnE text58 (by simp) H
  rw [hres]
  have h2 : r = vu32 res := h2
  rw [← h2]; exact h1
 unfold ref01_Not at hres
 unfold ac58
 refine rc_seq ?_
 refine rc_region ?_
 refine rd_op (v := vu32 0#32) (ov_move rfl) ?_
 refine rd_nil ?_
 refine pn_seq ?_
 refine rc_seq ?_
 refine rc_region ?_
 refine rd_op (ov_move rfl) ?_
 obtain ⟨y101, hw101, hres⟩ := let_ex hres
 have f101 := f89_ok (x0 := x1)  
 rw [hw101] at f101
 refine rd_call (cv_fn rfl rfl (clL_cons rfl clL_nil) f101) ?_
 refine rd_op (ov_move rfl) ?_
 refine rd_op (ov_conv (a := vu32 x0) rfl (c_wd Tryz.underlying42 Tryz.underlying93)) ?_
 refine rd_op (ov_move rfl) ?_
 obtain ⟨y102, hw102, hres⟩ := let_ex hres
 have f102 := f31_ok (x0 := (BitVec.setWidth 64 x0)) (x1 := x1)  
 rw [hw102] at f102
 refine rd_call (cv_fn rfl rfl (clL_cons rfl (clL_cons rfl clL_nil)) f102) ?_
 refine rd_op (ov_bin (a := vu32 y101) (b := vu32 y102) rfl rfl w_sub) ?_
 refine rd_op (ov_move rfl) ?_
 refine rd_nil ?_
 refine pn_seq ?_
 subst hres
 exact rc_retV (.tmp rfl .nil) (deep_closed rfl) rfl

/-- patchbay/patchbayref01.Shl -/
def RF59 (res : (BitVec 32)) (r : PV) : Prop := r = vu32 res
theorem ref01_Shl_L1_ok {S : List Fr} {res : (BitVec 32)} {x0 : BitVec 32} {x1 : Int} {x2 : Int} {y101 : (BitVec 32)} (hw101 : ref01_Reduce (BitVec.setWidth 64 x0) x2 = y101) {K0 : (BitVec 32) → (BitVec 32)}
  (hK0 : ∀ (x7_ : BitVec 32), K0 x7_ = res → PX Tryz.prog 0 S (QR Tryz.prog [(6, none)] (RF59 res)) [(7, vu32 x7_)] ⟨0, []⟩) :
  ∀ (m : Nat) (x7_ : BitVec 32) (x8_ : Int) (hm1 : m = Int.toNat (x1 - x8_)) (hlo1 : 0 ≤ x8_), ref01_Shl_L1 x1 x2 K0 m x7_ x8_ = res → RC Tryz.prog (.loop ac59_L1) S (QR Tryz.prog [(6, none)] (RF59 res)) [(8, vi x8_), (7, vu32 x7_), (2, vi x2), (1, vi x1)] ⟨0, []⟩ := by
 intro m
 induction m with
 | zero =>
  intro x7_ x8_ hm1 hlo1 hres
  rw [ref01_Shl_L1] at hres
  refine rc_loop ?_
  unfold ac59_L1
  refine rc_seq ?_
  refine rc_seq ?_
  refine rc_region ?_
  refine rd_op (ov_move rfl) ?_
  refine rd_op (ov_move rfl) ?_
  refine rd_op (ov_bin rfl rfl i_lss) ?_
  refine rd_op (ov_move rfl) ?_
  refine rd_cut (d := 19) (v := vb ((decide (x8_ < x1)) && (decide (x8_ < 32)))) ?_ ?_
  ·intro S Q r
   simp only [ac59_G1, List.cons_append, List.nil_append, List.append_assoc]
   cases hb102 : (decide (x8_ < x1))
   ·intro k
    refine rd_skip rfl rfl ?_
    refine rd_skip rfl rfl ?_
    refine rd_op (v := vb false) (ov_pick rfl rfl rfl rfl) ?_
    exact rd_weak (sub_cons rfl (sub_skip rfl (sub_skip rfl (sub_skip rfl (sub_refl _))))) k
   ·intro k
    have hb102' := hb102
    try simp only [qa1, qa2, qa3, qa4, qa5, qa6, qa7, qa8, qa9, qaA, qaB, qaC, qaD] at hb102'
    refine rd_yes rfl rfl (ov_move rfl) ?_
    refine rd_yes rfl rfl (ov_bin rfl rfl i_lss) ?_
    refine rd_op (v := vb (decide (x8_ < 32))) (ov_pick rfl rfl rfl rfl) ?_
    exact rd_weak (sub_cons rfl (sub_skip rfl (sub_skip rfl (sub_skip rfl (sub_refl _))))) k
  refine rd_nil ?_
  refine pn_seq ?_
  refine rc_cond rfl (fun hc103 => ?_) (fun hc103 => ?_)
  ·exfalso
   try simp only [qa1, qa2, qa3, qa4, qa5, qa6, qa7, qa8, qa9, qaA, qaB, qaC, qaD] at hc103
   omega
  ·have hend := hres
   have hc103' := hc103
   try simp only [qa1, qa2, qa3, qa4, qa5, qa6, qa7, qa8, qa9, qaA, qaB, qaC, qaD] at hc103'
   refine rc_exit ?_
   refine px_seq ?_
   refine px_again ?_
   exact px_weak ((sub_cons rfl (sub_nil _))) (hK0 x7_ hres)
 | succ m ih =>
  intro x7_ x8_ hm1 hlo1 hres
  rw [ref01_Shl_L1] at hres
  refine rc_loop ?_
  unfold ac59_L1
  refine rc_seq ?_
  refine rc_seq ?_
  refine rc_region ?_
  refine rd_op (ov_move rfl) ?_
  refine rd_op (ov_move rfl) ?_
  refine rd_op (ov_bin rfl rfl i_lss) ?_
  refine rd_op (ov_move rfl) ?_
  refine rd_cut (d := 19) (v := vb ((decide (x8_ < x1)) && (decide (x8_ < 32)))) ?_ ?_
  ·intro S Q r
   simp only [ac59_G1, List.cons_append, List.nil_append, List.append_assoc]
   cases hb104 : (decide (x8_ < x1))
   ·intro k
    refine rd_skip rfl rfl ?_
    refine rd_skip rfl rfl ?_
    refine rd_op (v := vb false) (ov_pick rfl rfl rfl rfl) ?_
    exact rd_weak (sub_cons rfl (sub_skip rfl (sub_skip rfl (sub_skip rfl (sub_refl _))))) k
   ·intro k
    have hb104' := hb104
    try simp only [qa1, qa2, qa3, qa4, qa5, qa6, qa7, qa8, qa9, qaA, qaB, qaC, qaD] at hb104'
    refine rd_yes rfl rfl (ov_move rfl) ?_
    refine rd_yes rfl rfl (ov_bin rfl rfl i_lss) ?_
    refine rd_op (v := vb (decide (x8_ < 32))) (ov_pick rfl rfl rfl rfl) ?_
    exact rd_weak (sub_cons rfl (sub_skip rfl (sub_skip rfl (sub_skip rfl (sub_refl _))))) k
  refine rd_nil ?_
  refine pn_seq ?_
  refine rc_cond rfl (fun hc105 => ?_) (fun hc105 => ?_)
  ·replace hres := (ite_t hc105).symm.trans hres
   have hc105' := hc105
   try simp only [qa1, qa2, qa3, qa4, qa5, qa6, qa7, qa8, qa9, qaA, qaB, qaC, qaD] at hc105'
   refine rc_skip ?_
   refine pn_seq ?_
   refine rc_seq ?_
   refine rc_block ?_
   refine rc_region ?_
   refine rd_op (ov_move rfl) ?_
   refine rd_op (ov_conv (a := vu32 x7_) rfl (c_wd Tryz.underlying42 Tryz.underlying93)) ?_
   refine rd_op (ov_bin (a := vu64 2#64) (b := vu64 (BitVec.setWidth 64 x7_)) rfl rfl d_mul) ?_
   refine rd_op (ov_move rfl) ?_
   obtain ⟨y106, hw106, hres⟩ := let_ex hres
   have f106 := f31_ok (x0 := (2#64 * (BitVec.setWidth 64 x7_))) (x1 := x2)  
   rw [hw106] at f106
   refine rd_call (cv_fn rfl rfl (clL_cons rfl (clL_cons rfl clL_nil)) f106) ?_
   refine rd_op (ov_move rfl) ?_
   refine rd_nil ?_
   refine pn_blk ?_
   refine pn_seq ?_
   refine rc_region ?_
   refine rd_op (ov_move rfl) ?_
   refine rd_op (ov_bin rfl rfl i_add) ?_
   refine rd_op (ov_move rfl) ?_
   refine rd_nil ?_
   refine pn_again ?_
   have hinc : wr (x8_ + 1) = x8_ + 1 := wr_of (by omega) (by omega)
   rw [hinc]
   refine rc_weak ?_ (ih y106 (x8_ + 1)  (by omega) (by omega) hres)
   exact ((sub_cons rfl (sub_cons rfl (sub_cons rfl (sub_cons rfl (sub_nil _))))))
  ·replace hres := (ite_f hc105).symm.trans hres
   have hc105' := hc105
   try simp only [qa1, qa2, qa3, qa4, qa5, qa6, qa7, qa8, qa9, qaA, qaB, qaC, qaD] at hc105'
   refine rc_exit ?_
   refine px_seq ?_
   refine px_again ?_
   exact px_weak ((sub_cons rfl (sub_nil _))) (hK0 x7_ hres)

theorem f59_ok {x0 : BitVec 32} {x1 : Int} {x2 : Int} : FnR Tryz.prog 59 [vu32 x0, vi x1, vi x2] (vu32 (ref01_Shl x0 x1 x2)) := by
 obtain ⟨res, hres⟩ : ∃ res, ref01_Shl x0 x1 x2 = res := ⟨_, rfl⟩
 suffices H : RC Tryz.prog ac59 [] (QR Tryz.prog [(6, none)] (RF59 res)) (argE 0 [vu32 x0, vi x1, vi x2]) ⟨0, []⟩ by
  obtain ⟨r, h1, h2⟩ := fnE text59 (by simp) H
  rw [hres]
  have h2 : r = vu32 res := h2
  rw [← h2]; exact h1
 unfold ref01_Shl at hres
 unfold ac59
 refine rc_seq ?_
 refine rc_region ?_
 refine rd_op (v := vu32 0#32) (ov_move rfl) ?_
 refine rd_nil ?_
 refine pn_seq ?_
 refine rc_seq ?_
 refine rc_region ?_
 refine rd_op (ov_move rfl) ?_
 refine rd_op (ov_conv (a := vu32 x0) rfl (c_wd Tryz.underlying42 Tryz.underlying93)) ?_
 refine rd_op (ov_move rfl) ?_
 obtain ⟨y101, hw101, hres⟩ := let_ex hres
 have f101 := f31_ok (x0 := (BitVec.setWidth 64 x0)) (x1 := x2)  
 rw [hw101] at f101
 refine rd_call (cv_fn rfl rfl (clL_cons rfl (clL_cons rfl clL_nil)) f101) ?_
 refine rd_op (ov_move rfl) ?_
 refine rd_nil ?_
 refine pn_seq ?_
 refine rc_seq ?_
 refine rc_seq ?_
 refine rc_region ?_
 refine rd_op (v := vi 0) (ov_move rfl) ?_
 refine rd_nil ?_
 refine pn_seq ?_
 refine rc_block ?_
 refine rc_weak ?_ (ref01_Shl_L1_ok (x0 := x0) (x1 := x1) (x2 := x2) (y101 := y101)   (hw101 := hw101) ?_ (Int.toNat (x1 - 0)) y101 0 rfl (by omega) hres)
 ·exact ((sub_cons rfl (sub_cons rfl (sub_cons rfl (sub_cons rfl (sub_nil _))))))
 ·intro x7_107 hres
  refine px_blk ?_
  refine pn_seq ?_
  refine rc_seq ?_
  refine rc_region ?_
  refine rd_op (ov_move rfl) ?_
  refine rd_op (ov_move rfl) ?_
  refine rd_nil ?_
  refine pn_seq ?_
  subst hres
  exact rc_retV (.tmp rfl .nil) (deep_closed rfl) rfl

end Go.Proofs.YtfekghenlhoamaaGreat
