/-
  The code of each function does what its plain program says.
-/
import Derived.Test.YtkgnjpoafilicaaL3W3
set_option linter.unusedVariables false
set_option linter.unusedSimpArgs false
set_option maxRecDepth 100000
namespace Go.Proofs.Ytkgnjpoafilicaa
open Go Go.Pb Go.RowKit
/-- patchbay/patchbayref13.Check -/
def RF76 (res : Int × Int) (r : PV) : Prop := r = .tup [vi res.1, vi res.2]
theorem f76_ok {x0 : List api_ExprNode} {x1 : expr_Scope} {v0 : PV} {v1 : PV} (r0 : (tSl api_ExprNode.t).R x0 v0) (r1 : expr_Scope.t.R x1 v1) : FnR Try.prog 76 [v0, v1] (.tup [vi ((ref13_Check x0 x1).1), vi ((ref13_Check x0 x1).2)]) := by
  obtain ⟨res, hres⟩ : ∃ res, ref13_Check x0 x1 = res := ⟨_, rfl⟩
  suffices H : RC Try.prog ac76 [] (QR Try.prog [(4, none), (5, none)] (RF76 res)) (argE 0 [v0, v1]) ⟨0, []⟩ by
    obtain ⟨r, h1, h2⟩ := fnE text76 (by simp) H
    rw [hres]
    have h2 : r = .tup [vi res.1, vi res.2] := h2
    rw [← h2]; exact h1
  unfold ref13_Check at hres
  unfold ac76
  refine rc_seq ?_
  refine rc_region ?_
  refine rd_op (ov_box rfl (TR.cnt expr_Scope.t r1)) ?_
  refine rd_op (v := vi 0) (ov_move rfl) ?_
  refine rd_op (v := vi 0) (ov_move rfl) ?_
  refine rd_nil ?_
  refine pn_seq ?_
  refine rc_seq ?_
  refine rc_seq ?_
  refine rc_region ?_
  refine rd_op (ov_move rfl) ?_
  refine rd_op (ov_bi rfl (sl_len r0 Try.underlying38 _)) ?_
  refine rd_op (ov_bin rfl rfl i_gtr) ?_
  refine rd_nil ?_
  refine pn_seq ?_
  refine rc_cond rfl (fun hc101 => ?_) (fun hc101 => ?_)
  · replace hres := (ite_t hc101).symm.trans hres
    have hc101' := hc101
    try simp only [Bool.or_eq_true, Bool.or_eq_false_iff, Bool.and_eq_true, Bool.and_eq_false_imp, decide_eq_true_eq, decide_eq_false_iff_not, Bool.not_eq_true', Bool.not_eq_false', Bool.not_eq_true, Bool.not_eq_false, Bool.not_true, Bool.not_false, ne_eq] at hc101'
    refine rc_seq ?_
    refine rc_region ?_
    refine rd_op (v := vi 0) (ov_move rfl) ?_
    refine rd_op (v := vi 12) (ov_move rfl) ?_
    refine rd_nil ?_
    refine pn_seq ?_
    subst hres
    exact rc_retV (.tmp rfl (.tmp rfl .nil)) (deep_closed (show closed (.tup _) = true from (clL_cons rfl (clL_cons rfl clL_nil)))) rfl
  · replace hres := (ite_f hc101).symm.trans hres
    have hc101' := hc101
    try simp only [Bool.or_eq_true, Bool.or_eq_false_iff, Bool.and_eq_true, Bool.and_eq_false_imp, decide_eq_true_eq, decide_eq_false_iff_not, Bool.not_eq_true', Bool.not_eq_false', Bool.not_eq_true, Bool.not_eq_false, Bool.not_true, Bool.not_false, ne_eq] at hc101'
    refine rc_skip ?_
    refine pn_seq ?_
    refine rc_seq ?_
    refine rc_region ?_
    refine rd_op (ov_move rfl) ?_
    refine rd_op (ov_load rfl (TR.cnt expr_Scope.t r1) (TR.agg expr_Scope.t r1)) ?_
    obtain ⟨y102, hw102, hres⟩ := let_ex hres
    have f102 := f85_ok (x1 := 0) r0 r1 (by first | assumption | omega) (by first | assumption | omega)
    rw [hw102] at f102
    refine rd_call (cv_fn rfl rfl (clL_cons (TR.clo (tSl api_ExprNode.t) r0) (clL_cons rfl (clL_cons (TR.clo expr_Scope.t r1) clL_nil))) f102) ?_
    refine rd_op (ov_move rfl) ?_
    refine rd_op (ov_extract rfl rfl) ?_
    refine rd_op (ov_extract rfl rfl) ?_
    refine rd_op (ov_extract rfl rfl) ?_
    refine rd_op (ov_move rfl) ?_
    refine rd_op (ov_move rfl) ?_
    refine rd_op (ov_move rfl) ?_
    refine rd_nil ?_
    refine pn_seq ?_
    refine rc_seq ?_
    refine rc_block ?_
    refine rc_seq ?_
    refine rc_region ?_
    refine rd_op (ov_move rfl) ?_
    refine rd_op (ov_bin rfl rfl i_neq) ?_
    refine rd_op (ov_move rfl) ?_
    refine rd_nil ?_
    refine pn_seq ?_
    refine rc_cond rfl (fun hc103 => ?_) (fun hc103 => ?_)
    · replace hres := (ite_t hc103).symm.trans hres
      have hc103' := hc103
      try simp only [Bool.or_eq_true, Bool.or_eq_false_iff, Bool.and_eq_true, Bool.and_eq_false_imp, decide_eq_true_eq, decide_eq_false_iff_not, Bool.not_eq_true', Bool.not_eq_false', Bool.not_eq_true, Bool.not_eq_false, Bool.not_true, Bool.not_false, ne_eq] at hc103'
      refine rc_seq ?_
      refine rc_region ?_
      refine rd_op (ov_move rfl) ?_
      refine rd_op (v := vi 0) (ov_move rfl) ?_
      refine rd_op (ov_move rfl) ?_
      refine rd_nil ?_
      refine pn_seq ?_
      subst hres
      exact rc_retV (.tmp rfl (.tmp rfl .nil)) (deep_closed (show closed (.tup _) = true from (clL_cons rfl (clL_cons rfl clL_nil)))) rfl
    · replace hres := (ite_f hc103).symm.trans hres
      have hc103' := hc103
      try simp only [Bool.or_eq_true, Bool.or_eq_false_iff, Bool.and_eq_true, Bool.and_eq_false_imp, decide_eq_true_eq, decide_eq_false_iff_not, Bool.not_eq_true', Bool.not_eq_false', Bool.not_eq_true, Bool.not_eq_false, Bool.not_true, Bool.not_false, ne_eq] at hc103'
      refine rc_seq ?_
      refine rc_region ?_
      refine rd_op (ov_move rfl) ?_
      refine rd_op (ov_move rfl) ?_
      refine rd_op (ov_bi rfl (sl_len r0 Try.underlying38 _)) ?_
      refine rd_op (ov_bin rfl rfl i_lss) ?_
      refine rd_op (ov_move rfl) ?_
      refine rd_nil ?_
      refine pn_seq ?_
      refine rc_cond rfl (fun hc104 => ?_) (fun hc104 => ?_)
      · replace hres := (ite_t hc104).symm.trans hres
        have hc104' := hc104
        try simp only [Bool.or_eq_true, Bool.or_eq_false_iff, Bool.and_eq_true, Bool.and_eq_false_imp, decide_eq_true_eq, decide_eq_false_iff_not, Bool.not_eq_true', Bool.not_eq_false', Bool.not_eq_true, Bool.not_eq_false, Bool.not_true, Bool.not_false, ne_eq] at hc104'
        refine rc_seq ?_
        refine rc_region ?_
        refine rd_op (v := vi 0) (ov_move rfl) ?_
        refine rd_op (v := vi 4) (ov_move rfl) ?_
        refine rd_nil ?_
        refine pn_seq ?_
        subst hres
        exact rc_retV (.tmp rfl (.tmp rfl .nil)) (deep_closed (show closed (.tup _) = true from (clL_cons rfl (clL_cons rfl clL_nil)))) rfl
      · replace hres := (ite_f hc104).symm.trans hres
        have hc104' := hc104
        try simp only [Bool.or_eq_true, Bool.or_eq_false_iff, Bool.and_eq_true, Bool.and_eq_false_imp, decide_eq_true_eq, decide_eq_false_iff_not, Bool.not_eq_true', Bool.not_eq_false', Bool.not_eq_true, Bool.not_eq_false, Bool.not_true, Bool.not_false, ne_eq] at hc104'
        refine rc_skip ?_
        refine pn_blk ?_
        refine pn_seq ?_
        refine rc_seq ?_
        refine rc_region ?_
        refine rd_op (ov_move rfl) ?_
        refine rd_op (ov_move rfl) ?_
        refine rd_op (v := vi 0) (ov_move rfl) ?_
        refine rd_nil ?_
        refine pn_seq ?_
        subst hres
        exact rc_retV (.tmp rfl (.tmp rfl .nil)) (deep_closed (show closed (.tup _) = true from (clL_cons rfl (clL_cons rfl clL_nil)))) rfl

/-- patchbay/patchbayref20.applies -/
def RF58 (res : Bool) (r : PV) : Prop := r = vb res
theorem f58_ok {x0 : api_ControlNode} {v0 : PV} (r0 : api_ControlNode.t.R x0 v0) : FnR Try.prog 58 [v0] (vb (ref20_applies x0)) := by
  obtain ⟨res, hres⟩ : ∃ res, ref20_applies x0 = res := ⟨_, rfl⟩
  suffices H : RC Try.prog ac58 [] (QR Try.prog [(2, none)] (RF58 res)) (argE 0 [v0]) ⟨0, []⟩ by
    obtain ⟨r, h1, h2⟩ := fnE text58 (by simp) H
    rw [hres]
    have h2 : r = vb res := h2
    rw [← h2]; exact h1
  unfold ref20_applies at hres
  unfold ac58
  refine rc_seq ?_
  refine rc_region ?_
  refine rd_op (ov_box rfl (TR.cnt api_ControlNode.t r0)) ?_
  refine rd_op (v := vb false) (ov_move rfl) ?_
  refine rd_nil ?_
  refine pn_seq ?_
  refine rc_seq ?_
  refine rc_region ?_
  refine rd_op (ov_faddr rfl (api_ControlNode.g_Kind r0)) ?_
  refine rd_op (ov_load rfl rfl rfl) ?_
  refine rd_op (ov_bin rfl rfl i_eql) ?_
  refine rd_op (ov_move rfl) ?_
  refine rd_cut (d := 10) (v := vb ((decide (x0.Kind = 1)) || (decide (x0.Kind = 3)))) ?_ ?_
  · intro S Q r
    simp only [ac58_G1, List.cons_append, List.nil_append, List.append_assoc]
    cases hb101 : (decide (x0.Kind = 1))
    · intro k
      have hb101' := hb101
      try simp only [Bool.or_eq_true, Bool.or_eq_false_iff, Bool.and_eq_true, Bool.and_eq_false_imp, decide_eq_true_eq, decide_eq_false_iff_not, Bool.not_eq_true', Bool.not_eq_false', Bool.not_eq_true, Bool.not_eq_false, Bool.not_true, Bool.not_false, ne_eq] at hb101'
      refine rd_yes rfl rfl (ov_faddr rfl (api_ControlNode.g_Kind r0)) ?_
      refine rd_yes rfl rfl (ov_load rfl rfl rfl) ?_
      refine rd_yes rfl rfl (ov_bin rfl rfl i_eql) ?_
      refine rd_op (v := vb (decide (x0.Kind = 3))) (ov_pick rfl rfl rfl rfl) ?_
      exact rd_weak (sub_cons rfl (sub_skip rfl (sub_skip rfl (sub_skip rfl (sub_skip rfl (sub_refl _)))))) k
    · intro k
      refine rd_skip rfl rfl ?_
      refine rd_skip rfl rfl ?_
      refine rd_skip rfl rfl ?_
      refine rd_op (v := vb true) (ov_pick rfl rfl rfl rfl) ?_
      exact rd_weak (sub_cons rfl (sub_skip rfl (sub_skip rfl (sub_skip rfl (sub_skip rfl (sub_refl _)))))) k
  refine rd_op (ov_move rfl) ?_
  refine rd_nil ?_
  refine pn_seq ?_
  subst hres
  exact rc_retV (.tmp rfl .nil) (deep_closed rfl) rfl

/-- patchbay/patchbayref20.appliedBefore -/
def RF77 (res : Bool) (r : PV) : Prop := r = vb res
theorem ref20_appliedBefore_L1_ok {S : List Fr} {res : Bool} {x0 : List api_ControlNode} {x1 : Int} {v0 : PV} (r0 : (tSl api_ControlNode.t).R x0 v0) (h0 : 0 ≤ x1) (h1 : x1 < (x0.length : Int)) {K0 : Unit → Bool}
    (hK0 : K0 () = res → PX Try.prog 0 S (QR Try.prog [(4, none)] (RF77 res)) [] ⟨0, []⟩) :
    ∀ (m : Nat) (x5_ : Int) (hm1 : m = Int.toNat (x1 - x5_)) (hlo1 : 0 ≤ x5_), ref20_appliedBefore_L1 x0 x1 K0 m x5_ = res → RC Try.prog (.loop ac77_L1) S (QR Try.prog [(4, none)] (RF77 res)) [(5, vi x5_), (1, vi x1), (0, v0)] ⟨0, []⟩ := by
  intro m
  induction m with
  | zero =>
    intro x5_ hm1 hlo1 hres
    rw [ref20_appliedBefore_L1] at hres
    refine rc_loop ?_
    unfold ac77_L1
    refine rc_seq ?_
    refine rc_seq ?_
    refine rc_region ?_
    refine rd_op (ov_move rfl) ?_
    refine rd_op (ov_move rfl) ?_
    refine rd_op (ov_bin rfl rfl i_lss) ?_
    refine rd_nil ?_
    refine pn_seq ?_
    refine rc_cond rfl (fun hc101 => ?_) (fun hc101 => ?_)
    · exfalso
      try simp only [Bool.or_eq_true, Bool.or_eq_false_iff, Bool.and_eq_true, Bool.and_eq_false_imp, decide_eq_true_eq, decide_eq_false_iff_not, Bool.not_eq_true', Bool.not_eq_false', Bool.not_eq_true, Bool.not_eq_false, Bool.not_true, Bool.not_false, ne_eq] at hc101
      omega
    · have hend := hres
      have hc101' := hc101
      try simp only [Bool.or_eq_true, Bool.or_eq_false_iff, Bool.and_eq_true, Bool.and_eq_false_imp, decide_eq_true_eq, decide_eq_false_iff_not, Bool.not_eq_true', Bool.not_eq_false', Bool.not_eq_true, Bool.not_eq_false, Bool.not_true, Bool.not_false, ne_eq] at hc101'
      refine rc_exit ?_
      refine px_seq ?_
      refine px_again ?_
      exact px_weak ((sub_nil _)) (hK0  hres)
  | succ m ih =>
    intro x5_ hm1 hlo1 hres
    rw [ref20_appliedBefore_L1] at hres
    refine rc_loop ?_
    unfold ac77_L1
    refine rc_seq ?_
    refine rc_seq ?_
    refine rc_region ?_
    refine rd_op (ov_move rfl) ?_
    refine rd_op (ov_move rfl) ?_
    refine rd_op (ov_bin rfl rfl i_lss) ?_
    refine rd_nil ?_
    refine pn_seq ?_
    refine rc_cond rfl (fun hc102 => ?_) (fun hc102 => ?_)
    · have hgo := hres
      have hc102' := hc102
      try simp only [Bool.or_eq_true, Bool.or_eq_false_iff, Bool.and_eq_true, Bool.and_eq_false_imp, decide_eq_true_eq, decide_eq_false_iff_not, Bool.not_eq_true', Bool.not_eq_false', Bool.not_eq_true, Bool.not_eq_false, Bool.not_true, Bool.not_false, ne_eq] at hc102'
      refine rc_skip ?_
      refine pn_seq ?_
      refine rc_seq ?_
      refine rc_block ?_
      refine rc_seq ?_
      refine rc_region ?_
      refine rd_op (ov_move rfl) ?_
      refine rd_op (ov_move rfl) ?_
      obtain ⟨v103, e103, r103⟩ := sl_idx (i := x5_) r0 (by omega) (by omega)
      refine rd_op (ov_iaddr rfl rfl e103) ?_
      refine rd_op (ov_load rfl (TR.cnt api_ControlNode.t r103) (TR.agg api_ControlNode.t r103)) ?_
      obtain ⟨y104, hw104, hres⟩ := let_ex hres
      have f104 := f58_ok  r103 
      rw [hw104] at f104
      refine rd_call (cv_fn rfl rfl (clL_cons (TR.clo api_ControlNode.t r103) clL_nil) f104) ?_
      refine rd_op (ov_move rfl) ?_
      refine rd_cut (d := 28) (v := vb (y104 && (decide (((ix x0 x5_).Table) = ((ix x0 x1).Table))))) ?_ ?_
      · intro S Q r
        simp only [ac77_G1, List.cons_append, List.nil_append, List.append_assoc]
        cases hb105 : y104
        · intro k
          refine rd_skip rfl rfl ?_
          refine rd_skip rfl rfl ?_
          refine rd_skip rfl rfl ?_
          refine rd_skip rfl rfl ?_
          refine rd_skip rfl rfl ?_
          refine rd_skip rfl rfl ?_
          refine rd_skip rfl rfl ?_
          refine rd_skip rfl rfl ?_
          refine rd_skip rfl rfl ?_
          refine rd_skip rfl rfl ?_
          refine rd_skip rfl rfl ?_
          refine rd_op (v := vb false) (ov_pick rfl rfl rfl rfl) ?_
          exact rd_weak (sub_cons rfl (sub_skip rfl (sub_skip rfl (sub_skip rfl (sub_skip rfl (sub_skip rfl (sub_skip rfl (sub_skip rfl (sub_skip rfl (sub_skip rfl (sub_skip rfl (sub_skip rfl (sub_skip rfl (sub_refl _)))))))))))))) k
        · intro k
          have hb105' := hb105
          try simp only [Bool.or_eq_true, Bool.or_eq_false_iff, Bool.and_eq_true, Bool.and_eq_false_imp, decide_eq_true_eq, decide_eq_false_iff_not, Bool.not_eq_true', Bool.not_eq_false', Bool.not_eq_true, Bool.not_eq_false, Bool.not_true, Bool.not_false, ne_eq] at hb105'
          refine rd_yes rfl rfl (ov_move rfl) ?_
          refine rd_yes rfl rfl (ov_move rfl) ?_
          obtain ⟨v106, e106, r106⟩ := sl_idx (i := x5_) r0 (by omega) (by omega)
          refine rd_yes rfl rfl (ov_iaddr rfl rfl e106) ?_
          refine rd_yes rfl rfl (ov_faddr rfl (api_ControlNode.g_Table r106)) ?_
          refine rd_yes rfl rfl (ov_load rfl rfl rfl) ?_
          refine rd_yes rfl rfl (ov_move rfl) ?_
          refine rd_yes rfl rfl (ov_move rfl) ?_
          obtain ⟨v107, e107, r107⟩ := sl_idx (i := x1) r0 (by omega) (by omega)
          refine rd_yes rfl rfl (ov_iaddr rfl rfl e107) ?_
          refine rd_yes rfl rfl (ov_faddr rfl (api_ControlNode.g_Table r107)) ?_
          refine rd_yes rfl rfl (ov_load rfl rfl rfl) ?_
          refine rd_yes rfl rfl (ov_bin rfl rfl i_eql) ?_
          refine rd_op (v := vb (decide (((ix x0 x5_).Table) = ((ix x0 x1).Table)))) (ov_pick rfl rfl rfl rfl) ?_
          exact rd_weak (sub_cons rfl (sub_skip rfl (sub_skip rfl (sub_skip rfl (sub_skip rfl (sub_skip rfl (sub_skip rfl (sub_skip rfl (sub_skip rfl (sub_skip rfl (sub_skip rfl (sub_skip rfl (sub_skip rfl (sub_refl _)))))))))))))) k
      refine rd_nil ?_
      refine pn_seq ?_
      refine rc_cond rfl (fun hc108 => ?_) (fun hc108 => ?_)
      · replace hres := (ite_t hc108).symm.trans hres
        have hc108' := hc108
        try simp only [Bool.or_eq_true, Bool.or_eq_false_iff, Bool.and_eq_true, Bool.and_eq_false_imp, decide_eq_true_eq, decide_eq_false_iff_not, Bool.not_eq_true', Bool.not_eq_false', Bool.not_eq_true, Bool.not_eq_false, Bool.not_true, Bool.not_false, ne_eq] at hc108'
        refine rc_seq ?_
        refine rc_region ?_
        refine rd_op (v := vb true) (ov_move rfl) ?_
        refine rd_nil ?_
        refine pn_seq ?_
        subst hres
        exact rc_retV (.tmp rfl .nil) (deep_closed rfl) rfl
      · replace hres := (ite_f hc108).symm.trans hres
        have hc108' := hc108
        try simp only [Bool.or_eq_true, Bool.or_eq_false_iff, Bool.and_eq_true, Bool.and_eq_false_imp, decide_eq_true_eq, decide_eq_false_iff_not, Bool.not_eq_true', Bool.not_eq_false', Bool.not_eq_true, Bool.not_eq_false, Bool.not_true, Bool.not_false, ne_eq] at hc108'
        refine rc_skip ?_
        refine pn_blk ?_
        refine pn_seq ?_
        refine rc_region ?_
        refine rd_op (ov_move rfl) ?_
        refine rd_op (ov_bin rfl rfl i_add) ?_
        refine rd_op (ov_move rfl) ?_
        refine rd_nil ?_
        refine pn_again ?_
        have hinc : wr (x5_ + 1) = x5_ + 1 := wr_of (by omega) (by (have hk := sl_bound r0; omega))
        rw [hinc]
        refine rc_weak ?_ (ih (x5_ + 1)  (by omega) (by omega) hres)
        exact ((sub_cons rfl (sub_cons rfl (sub_cons rfl (sub_nil _)))))
    · exfalso
      try simp only [Bool.or_eq_true, Bool.or_eq_false_iff, Bool.and_eq_true, Bool.and_eq_false_imp, decide_eq_true_eq, decide_eq_false_iff_not, Bool.not_eq_true', Bool.not_eq_false', Bool.not_eq_true, Bool.not_eq_false, Bool.not_true, Bool.not_false, ne_eq] at hc102
      omega

theorem f77_ok {x0 : List api_ControlNode} {x1 : Int} {v0 : PV} (r0 : (tSl api_ControlNode.t).R x0 v0) (h0 : 0 ≤ x1) (h1 : x1 < (x0.length : Int)) : FnR Try.prog 77 [v0, vi x1] (vb (ref20_appliedBefore x0 x1)) := by
  obtain ⟨res, hres⟩ : ∃ res, ref20_appliedBefore x0 x1 = res := ⟨_, rfl⟩
  suffices H : RC Try.prog ac77 [] (QR Try.prog [(4, none)] (RF77 res)) (argE 0 [v0, vi x1]) ⟨0, []⟩ by
    obtain ⟨r, h1, h2⟩ := fnE text77 (by simp) H
    rw [hres]
    have h2 : r = vb res := h2
    rw [← h2]; exact h1
  unfold ref20_appliedBefore at hres
  unfold ac77
  refine rc_seq ?_
  refine rc_region ?_
  refine rd_op (v := vb false) (ov_move rfl) ?_
  refine rd_nil ?_
  refine pn_seq ?_
  refine rc_seq ?_
  refine rc_seq ?_
  refine rc_region ?_
  refine rd_op (v := vi 0) (ov_move rfl) ?_
  refine rd_nil ?_
  refine pn_seq ?_
  refine rc_block ?_
  refine rc_weak ?_ (ref20_appliedBefore_L1_ok (x0 := x0) (x1 := x1) (v0 := v0)  (r0 := r0) (h0 := h0) (h1 := h1) ?_ (Int.toNat (x1 - 0)) 0 rfl (by omega) hres)
  · exact ((sub_cons rfl (sub_cons rfl (sub_cons rfl (sub_nil _)))))
  · intro  hres
    refine px_blk ?_
    refine pn_seq ?_
    refine rc_seq ?_
    refine rc_region ?_
    refine rd_op (v := vb false) (ov_move rfl) ?_
    refine rd_nil ?_
    refine pn_seq ?_
    subst hres
    exact rc_retV (.tmp rfl .nil) (deep_closed rfl) rfl

/-- patchbay/patchbayref20.checkNode -/
def RF53 (res : Int) (r : PV) : Prop := r = vi res
theorem f53_ok {x0 : api_Program} {x1 : List api_ControlNode} {x2 : Int} {v0 : PV} {v1 : PV} (r0 : api_Program.t.R x0 v0) (r1 : (tSl api_ControlNode.t).R x1 v1) (h0 : 0 ≤ x2) (h1 : x2 < (x1.length : Int)) : FnR Try.prog 53 [v0, v1, vi x2] (vi (ref20_checkNode x0 x1 x2)) := by
  obtain ⟨res, hres⟩ : ∃ res, ref20_checkNode x0 x1 x2 = res := ⟨_, rfl⟩
  suffices H : RC Try.prog ac53 [] (QR Try.prog [(6, none)] (RF53 res)) (argE 0 [v0, v1, vi x2]) ⟨0, []⟩ by
    obtain ⟨r, h1, h2⟩ := fnE text53 (by simp) H
    rw [hres]
    have h2 : r = vi res := h2
    rw [← h2]; exact h1
  unfold ref20_checkNode at hres
  unfold ac53
  refine rc_seq ?_
  refine rc_region ?_
  refine rd_op (ov_box rfl (TR.cnt api_Program.t r0)) ?_
  refine rd_op (v := vi 0) (ov_move rfl) ?_
  refine rd_nil ?_
  refine pn_seq ?_
  refine rc_seq ?_
  refine rc_region ?_
  refine rd_op (ov_move rfl) ?_
  refine rd_op (ov_move rfl) ?_
  obtain ⟨v101, e101, r101⟩ := sl_idx (i := x2) r1 (by omega) (by omega)
  refine rd_op (ov_iaddr rfl rfl e101) ?_
  refine rd_op (ov_load rfl (TR.cnt api_ControlNode.t r101) (TR.agg api_ControlNode.t r101)) ?_
  refine rd_allocO (x := .agg [vi 0, vi 0, nilS, nilS, nilS]) (Mem.nil ⟨0, []⟩) rfl rfl (fun i102 w102 h102 M102 => ?_)
  refine rd_storeO (k := 0) (v := v101) M102 rfl rfl rfl (TR.cnt api_ControlNode.t r101) (fun h104 M104 => ?_)
  replace M104 : Mem h104 [⟨.op i102 w102 0, 40, 5, [v101]⟩] := M104
  refine rd_nil ?_
  refine pn_seq ?_
  refine rc_seq ?_
  refine rc_block ?_
  refine rc_seq ?_
  refine rc_region ?_
  refine rd_op (ov_faddrO rfl) ?_
  refine rd_op (ov_loadf (k := 0) M104 rfl rfl (api_ControlNode.g_Kind r101)) ?_
  refine rd_op (ov_bin rfl rfl i_lss) ?_
  refine rd_op (ov_move rfl) ?_
  refine rd_cut (d := 22) (v := vb ((decide (((ix x1 x2).Kind) < 1)) || (decide (3 < ((ix x1 x2).Kind))))) ?_ ?_
  · intro S Q r
    simp only [ac53_G1, List.cons_append, List.nil_append, List.append_assoc]
    cases hb105 : (decide (((ix x1 x2).Kind) < 1))
    · intro k
      have hb105' := hb105
      try simp only [Bool.or_eq_true, Bool.or_eq_false_iff, Bool.and_eq_true, Bool.and_eq_false_imp, decide_eq_true_eq, decide_eq_false_iff_not, Bool.not_eq_true', Bool.not_eq_false', Bool.not_eq_true, Bool.not_eq_false, Bool.not_true, Bool.not_false, ne_eq] at hb105'
      refine rd_yes rfl rfl (ov_faddrO rfl) ?_
      refine rd_yes rfl rfl (ov_loadf (k := 0) M104 rfl rfl (api_ControlNode.g_Kind r101)) ?_
      refine rd_yes rfl rfl (ov_bin rfl rfl i_gtr) ?_
      refine rd_op (v := vb (decide (3 < ((ix x1 x2).Kind)))) (ov_pick rfl rfl rfl rfl) ?_
      exact rd_weak (sub_cons rfl (sub_skip rfl (sub_skip rfl (sub_skip rfl (sub_skip rfl (sub_refl _)))))) k
    · intro k
      refine rd_skip rfl rfl ?_
      refine rd_skip rfl rfl ?_
      refine rd_skip rfl rfl ?_
      refine rd_op (v := vb true) (ov_pick rfl rfl rfl rfl) ?_
      exact rd_weak (sub_cons rfl (sub_skip rfl (sub_skip rfl (sub_skip rfl (sub_skip rfl (sub_refl _)))))) k
  refine rd_op (ov_move rfl) ?_
  refine rd_nil ?_
  refine pn_seq ?_
  refine rc_cond rfl (fun hc106 => ?_) (fun hc106 => ?_)
  · replace hres := (ite_t hc106).symm.trans hres
    have hc106' := hc106
    try simp only [Bool.or_eq_true, Bool.or_eq_false_iff, Bool.and_eq_true, Bool.and_eq_false_imp, decide_eq_true_eq, decide_eq_false_iff_not, Bool.not_eq_true', Bool.not_eq_false', Bool.not_eq_true, Bool.not_eq_false, Bool.not_true, Bool.not_false, ne_eq] at hc106'
    refine rc_seq ?_
    refine rc_region ?_
    refine rd_op (v := vi 11) (ov_move rfl) ?_
    refine rd_nil ?_
    refine pn_seq ?_
    subst hres
    exact rc_retV (.tmp rfl .nil) (deep_closed rfl) rfl
  · replace hres := (ite_f hc106).symm.trans hres
    have hc106' := hc106
    try simp only [Bool.or_eq_true, Bool.or_eq_false_iff, Bool.and_eq_true, Bool.and_eq_false_imp, decide_eq_true_eq, decide_eq_false_iff_not, Bool.not_eq_true', Bool.not_eq_false', Bool.not_eq_true, Bool.not_eq_false, Bool.not_true, Bool.not_false, ne_eq] at hc106'
    refine rc_seq ?_
    refine rc_region ?_
    refine rd_op (ov_faddrO rfl) ?_
    refine rd_op (ov_loadf (k := 0) M104 rfl rfl (api_ControlNode.g_Kind r101)) ?_
    refine rd_op (ov_bin rfl rfl i_eql) ?_
    refine rd_op (ov_move rfl) ?_
    refine rd_nil ?_
    refine pn_seq ?_
    refine rc_cond rfl (fun hc107 => ?_) (fun hc107 => ?_)
    · replace hres := (ite_t hc107).symm.trans hres
      have hc107' := hc107
      try simp only [Bool.or_eq_true, Bool.or_eq_false_iff, Bool.and_eq_true, Bool.and_eq_false_imp, decide_eq_true_eq, decide_eq_false_iff_not, Bool.not_eq_true', Bool.not_eq_false', Bool.not_eq_true, Bool.not_eq_false, Bool.not_true, Bool.not_false, ne_eq] at hc107'
      refine rc_seq ?_
      refine rc_region ?_
      refine rd_op (ov_faddrO rfl) ?_
      obtain ⟨v108, e108, r108⟩ := api_ControlNode.g_Cond r101
      refine rd_op (ov_loadf (k := 0) M104 rfl rfl e108) ?_
      refine rd_op (ov_load rfl (TR.cnt api_Program.t r0) (TR.agg api_Program.t r0)) ?_
      obtain ⟨v109_c1, v109_c2, v109_c3, v109_c4, v109_c5, v109_c6, v109_c7, v109_c8, e109, r109_c1, r109_c2, r109_c3, r109_c4, r109_c5, r109_c6, r109_c7, r109_c8⟩ := r0
      subst e109
      refine rd_op (v := .agg [vs x0.Name, v109_c1, v109_c2, v109_c3, v109_c4, v109_c5, v109_c6, v109_c7, v109_c8, nilS]) (ov_build (cs := [vs x0.Name, v109_c1, v109_c2, v109_c3, v109_c4, v109_c5, v109_c6, v109_c7, v109_c8, nilS]) rfl rfl) ?_
      obtain ⟨y110, hw110, hres⟩ := let_ex hres
      have f110 := f76_ok  r108 (show expr_Scope.t.R ({ Program := x0, Params := ([] : List api_Field) } : expr_Scope) (.agg [vs x0.Name, v109_c1, v109_c2, v109_c3, v109_c4, v109_c5, v109_c6, v109_c7, v109_c8, nilS]) from ⟨v109_c1, v109_c2, v109_c3, v109_c4, v109_c5, v109_c6, v109_c7, v109_c8, nilS, rfl, r109_c1, r109_c2, r109_c3, r109_c4, r109_c5, r109_c6, r109_c7, r109_c8, sl_nil⟩) 
      rw [hw110] at f110
      refine rd_call (cv_fn rfl rfl (clL_cons (TR.clo (tSl api_ExprNode.t) r108) (clL_cons (TR.clo expr_Scope.t (show expr_Scope.t.R ({ Program := x0, Params := ([] : List api_Field) } : expr_Scope) (.agg [vs x0.Name, v109_c1, v109_c2, v109_c3, v109_c4, v109_c5, v109_c6, v109_c7, v109_c8, nilS]) from ⟨v109_c1, v109_c2, v109_c3, v109_c4, v109_c5, v109_c6, v109_c7, v109_c8, nilS, rfl, r109_c1, r109_c2, r109_c3, r109_c4, r109_c5, r109_c6, r109_c7, r109_c8, sl_nil⟩)) clL_nil)) f110) ?_
      refine rd_op (ov_move rfl) ?_
      refine rd_op (ov_extract rfl rfl) ?_
      refine rd_op (ov_extract rfl rfl) ?_
      refine rd_op (ov_move rfl) ?_
      refine rd_op (ov_move rfl) ?_
      refine rd_nil ?_
      refine pn_seq ?_
      refine rc_seq ?_
      refine rc_seq ?_
      refine rc_region ?_
      refine rd_op (ov_move rfl) ?_
      refine rd_op (ov_bin rfl rfl i_eql) ?_
      refine rd_op (ov_move rfl) ?_
      refine rd_cut (d := 40) (v := vb ((decide (y110.2 = 0)) && (!decide (y110.1 = 1)))) ?_ ?_
      · intro S Q r
        simp only [ac53_G2, List.cons_append, List.nil_append, List.append_assoc]
        cases hb111 : (decide (y110.2 = 0))
        · intro k
          refine rd_skip rfl rfl ?_
          refine rd_skip rfl rfl ?_
          refine rd_op (v := vb false) (ov_pick rfl rfl rfl rfl) ?_
          exact rd_weak (sub_cons rfl (sub_skip rfl (sub_skip rfl (sub_skip rfl (sub_refl _))))) k
        · intro k
          have hb111' := hb111
          try simp only [Bool.or_eq_true, Bool.or_eq_false_iff, Bool.and_eq_true, Bool.and_eq_false_imp, decide_eq_true_eq, decide_eq_false_iff_not, Bool.not_eq_true', Bool.not_eq_false', Bool.not_eq_true, Bool.not_eq_false, Bool.not_true, Bool.not_false, ne_eq] at hb111'
          refine rd_yes rfl rfl (ov_move rfl) ?_
          refine rd_yes rfl rfl (ov_bin rfl rfl i_neq) ?_
          refine rd_op (v := vb (!decide (y110.1 = 1))) (ov_pick rfl rfl rfl rfl) ?_
          exact rd_weak (sub_cons rfl (sub_skip rfl (sub_skip rfl (sub_skip rfl (sub_refl _))))) k
      refine rd_nil ?_
      refine pn_seq ?_
      obtain ⟨k113, hk113, hres⟩ := let_ex hres
      refine rc_join (F := fun b S Q => ∀ (x9_113 : Int) (hj113 : Heap) (Mj113 : Mem hj113 []), k113 x9_113 = res → RC Try.prog b S Q [(9, vi x9_113)] hj113) ?_ ?_
      · intro x9_113 hj113 Mj113 hres
        rw [← hk113] at hres
        refine rc_seq ?_
        refine rc_region ?_
        refine rd_op (ov_move rfl) ?_
        refine rd_op (ov_move rfl) ?_
        refine rd_nil ?_
        refine pn_seq ?_
        subst hres
        exact rc_retV (.tmp rfl .nil) (deep_closed rfl) rfl
      · intro J
        refine rc_cond rfl (fun hc114 => ?_) (fun hc114 => ?_)
        · replace hres := (ite_t hc114).symm.trans hres
          have hc114' := hc114
          try simp only [Bool.or_eq_true, Bool.or_eq_false_iff, Bool.and_eq_true, Bool.and_eq_false_imp, decide_eq_true_eq, decide_eq_false_iff_not, Bool.not_eq_true', Bool.not_eq_false', Bool.not_eq_true, Bool.not_eq_false, Bool.not_true, Bool.not_false, ne_eq] at hc114'
          refine rc_region ?_
          refine rd_op (v := vi 10) (ov_move rfl) ?_
          refine rd_nil ?_
          refine pn_seq (rc_weak ((sub_cons rfl (sub_nil _))) (J _ _ (Mem.sub M104 (.cons _ .slnil)) hres))
        · replace hres := (ite_f hc114).symm.trans hres
          have hc114' := hc114
          try simp only [Bool.or_eq_true, Bool.or_eq_false_iff, Bool.and_eq_true, Bool.and_eq_false_imp, decide_eq_true_eq, decide_eq_false_iff_not, Bool.not_eq_true', Bool.not_eq_false', Bool.not_eq_true, Bool.not_eq_false, Bool.not_true, Bool.not_false, ne_eq] at hc114'
          refine rc_skip ?_
          refine pn_seq (rc_weak ((sub_cons rfl (sub_nil _))) (J _ _ (Mem.sub M104 (.cons _ .slnil)) hres))
    · replace hres := (ite_f hc107).symm.trans hres
      have hc107' := hc107
      try simp only [Bool.or_eq_true, Bool.or_eq_false_iff, Bool.and_eq_true, Bool.and_eq_false_imp, decide_eq_true_eq, decide_eq_false_iff_not, Bool.not_eq_true', Bool.not_eq_false', Bool.not_eq_true, Bool.not_eq_false, Bool.not_true, Bool.not_false, ne_eq] at hc107'
      refine rc_seq ?_
      refine rc_region ?_
      refine rd_op (ov_faddrO rfl) ?_
      refine rd_op (ov_loadf (k := 0) M104 rfl rfl (api_ControlNode.g_Table r101)) ?_
      refine rd_op (ov_bin rfl rfl i_lss) ?_
      refine rd_op (ov_move rfl) ?_
      refine rd_cut (d := 53) (v := vb ((decide (((ix x1 x2).Table) < 0)) || (decide ((x0.Tables.length : Int) ≤ ((ix x1 x2).Table))))) ?_ ?_
      · intro S Q r
        simp only [ac53_G3, List.cons_append, List.nil_append, List.append_assoc]
        cases hb115 : (decide (((ix x1 x2).Table) < 0))
        · intro k
          have hb115' := hb115
          try simp only [Bool.or_eq_true, Bool.or_eq_false_iff, Bool.and_eq_true, Bool.and_eq_false_imp, decide_eq_true_eq, decide_eq_false_iff_not, Bool.not_eq_true', Bool.not_eq_false', Bool.not_eq_true, Bool.not_eq_false, Bool.not_true, Bool.not_false, ne_eq] at hb115'
          refine rd_yes rfl rfl (ov_faddrO rfl) ?_
          refine rd_yes rfl rfl (ov_loadf (k := 0) M104 rfl rfl (api_ControlNode.g_Table r101)) ?_
          obtain ⟨v116, e116, r116⟩ := api_Program.g_Tables r0
          refine rd_yes rfl rfl (ov_faddr rfl e116) ?_
          refine rd_yes rfl rfl (ov_load rfl (TR.cnt (tSl api_Table.t) r116) (TR.agg (tSl api_Table.t) r116)) ?_
          refine rd_yes rfl rfl (ov_bi rfl (sl_len r116 Try.underlying26 _)) ?_
          refine rd_yes rfl rfl (ov_bin rfl rfl i_geq) ?_
          refine rd_op (v := vb (decide ((x0.Tables.length : Int) ≤ ((ix x1 x2).Table)))) (ov_pick rfl rfl rfl rfl) ?_
          exact rd_weak (sub_cons rfl (sub_skip rfl (sub_skip rfl (sub_skip rfl (sub_skip rfl (sub_skip rfl (sub_skip rfl (sub_skip rfl (sub_refl _))))))))) k
        · intro k
          refine rd_skip rfl rfl ?_
          refine rd_skip rfl rfl ?_
          refine rd_skip rfl rfl ?_
          refine rd_skip rfl rfl ?_
          refine rd_skip rfl rfl ?_
          refine rd_skip rfl rfl ?_
          refine rd_op (v := vb true) (ov_pick rfl rfl rfl rfl) ?_
          exact rd_weak (sub_cons rfl (sub_skip rfl (sub_skip rfl (sub_skip rfl (sub_skip rfl (sub_skip rfl (sub_skip rfl (sub_skip rfl (sub_refl _))))))))) k
      refine rd_op (ov_move rfl) ?_
      refine rd_nil ?_
      refine pn_seq ?_
      refine rc_cond rfl (fun hc117 => ?_) (fun hc117 => ?_)
      · replace hres := (ite_t hc117).symm.trans hres
        have hc117' := hc117
        try simp only [Bool.or_eq_true, Bool.or_eq_false_iff, Bool.and_eq_true, Bool.and_eq_false_imp, decide_eq_true_eq, decide_eq_false_iff_not, Bool.not_eq_true', Bool.not_eq_false', Bool.not_eq_true, Bool.not_eq_false, Bool.not_true, Bool.not_false, ne_eq] at hc117'
        refine rc_seq ?_
        refine rc_region ?_
        refine rd_op (v := vi 8) (ov_move rfl) ?_
        refine rd_nil ?_
        refine pn_seq ?_
        subst hres
        exact rc_retV (.tmp rfl .nil) (deep_closed rfl) rfl
      · replace hres := (ite_f hc117).symm.trans hres
        have hc117' := hc117
        try simp only [Bool.or_eq_true, Bool.or_eq_false_iff, Bool.and_eq_true, Bool.and_eq_false_imp, decide_eq_true_eq, decide_eq_false_iff_not, Bool.not_eq_true', Bool.not_eq_false', Bool.not_eq_true, Bool.not_eq_false, Bool.not_true, Bool.not_false, ne_eq] at hc117'
        refine rc_seq ?_
        refine rc_region ?_
        refine rd_op (ov_move rfl) ?_
        refine rd_op (ov_move rfl) ?_
        obtain ⟨y118, hw118, hres⟩ := let_ex hres
        have f118 := f77_ok (x1 := x2) r1 (by first | assumption | omega) (by first | assumption | omega)
        rw [hw118] at f118
        refine rd_call (cv_fn rfl rfl (clL_cons (TR.clo (tSl api_ControlNode.t) r1) (clL_cons rfl clL_nil)) f118) ?_
        refine rd_op (ov_move rfl) ?_
        refine rd_nil ?_
        refine pn_seq ?_
        refine rc_cond rfl (fun hc119 => ?_) (fun hc119 => ?_)
        · replace hres := (ite_t hc119).symm.trans hres
          have hc119' := hc119
          try simp only [Bool.or_eq_true, Bool.or_eq_false_iff, Bool.and_eq_true, Bool.and_eq_false_imp, decide_eq_true_eq, decide_eq_false_iff_not, Bool.not_eq_true', Bool.not_eq_false', Bool.not_eq_true, Bool.not_eq_false, Bool.not_true, Bool.not_false, ne_eq] at hc119'
          refine rc_seq ?_
          refine rc_region ?_
          refine rd_op (v := vi 7) (ov_move rfl) ?_
          refine rd_nil ?_
          refine pn_seq ?_
          subst hres
          exact rc_retV (.tmp rfl .nil) (deep_closed rfl) rfl
        · replace hres := (ite_f hc119).symm.trans hres
          have hc119' := hc119
          try simp only [Bool.or_eq_true, Bool.or_eq_false_iff, Bool.and_eq_true, Bool.and_eq_false_imp, decide_eq_true_eq, decide_eq_false_iff_not, Bool.not_eq_true', Bool.not_eq_false', Bool.not_eq_true, Bool.not_eq_false, Bool.not_true, Bool.not_false, ne_eq] at hc119'
          refine rc_seq ?_
          refine rc_region ?_
          refine rd_op (ov_faddrO rfl) ?_
          refine rd_op (ov_loadf (k := 0) M104 rfl rfl (api_ControlNode.g_Kind r101)) ?_
          refine rd_op (ov_bin rfl rfl i_eql) ?_
          refine rd_op (ov_move rfl) ?_
          refine rd_cut (d := 71) (v := vb ((decide (((ix x1 x2).Kind) = 1)) && (decide (0 < (wr ((((ix x1 x2).Then).length : Int) + (((ix x1 x2).Else).length : Int))))))) ?_ ?_
          · intro S Q r
            simp only [ac53_G4, List.cons_append, List.nil_append, List.append_assoc]
            cases hb120 : (decide (((ix x1 x2).Kind) = 1))
            · intro k
              refine rd_skip rfl rfl ?_
              refine rd_skip rfl rfl ?_
              refine rd_skip rfl rfl ?_
              refine rd_skip rfl rfl ?_
              refine rd_skip rfl rfl ?_
              refine rd_skip rfl rfl ?_
              refine rd_skip rfl rfl ?_
              refine rd_skip rfl rfl ?_
              refine rd_op (v := vb false) (ov_pick rfl rfl rfl rfl) ?_
              exact rd_weak (sub_cons rfl (sub_skip rfl (sub_skip rfl (sub_skip rfl (sub_skip rfl (sub_skip rfl (sub_skip rfl (sub_skip rfl (sub_skip rfl (sub_skip rfl (sub_refl _))))))))))) k
            · intro k
              have hb120' := hb120
              try simp only [Bool.or_eq_true, Bool.or_eq_false_iff, Bool.and_eq_true, Bool.and_eq_false_imp, decide_eq_true_eq, decide_eq_false_iff_not, Bool.not_eq_true', Bool.not_eq_false', Bool.not_eq_true, Bool.not_eq_false, Bool.not_true, Bool.not_false, ne_eq] at hb120'
              refine rd_yes rfl rfl (ov_faddrO rfl) ?_
              obtain ⟨v121, e121, r121⟩ := api_ControlNode.g_Then r101
              refine rd_yes rfl rfl (ov_loadf (k := 0) M104 rfl rfl e121) ?_
              refine rd_yes rfl rfl (ov_bi rfl (sl_len r121 Try.underlying28 _)) ?_
              refine rd_yes rfl rfl (ov_faddrO rfl) ?_
              obtain ⟨v122, e122, r122⟩ := api_ControlNode.g_Else r101
              refine rd_yes rfl rfl (ov_loadf (k := 0) M104 rfl rfl e122) ?_
              refine rd_yes rfl rfl (ov_bi rfl (sl_len r122 Try.underlying28 _)) ?_
              refine rd_yes rfl rfl (ov_bin rfl rfl i_add) ?_
              refine rd_yes rfl rfl (ov_bin rfl rfl i_gtr) ?_
              refine rd_op (v := vb (decide (0 < (wr ((((ix x1 x2).Then).length : Int) + (((ix x1 x2).Else).length : Int)))))) (ov_pick rfl rfl rfl rfl) ?_
              exact rd_weak (sub_cons rfl (sub_skip rfl (sub_skip rfl (sub_skip rfl (sub_skip rfl (sub_skip rfl (sub_skip rfl (sub_skip rfl (sub_skip rfl (sub_skip rfl (sub_refl _))))))))))) k
          refine rd_op (ov_move rfl) ?_
          refine rd_nil ?_
          refine pn_seq ?_
          refine rc_cond rfl (fun hc123 => ?_) (fun hc123 => ?_)
          · replace hres := (ite_t hc123).symm.trans hres
            have hc123' := hc123
            try simp only [Bool.or_eq_true, Bool.or_eq_false_iff, Bool.and_eq_true, Bool.and_eq_false_imp, decide_eq_true_eq, decide_eq_false_iff_not, Bool.not_eq_true', Bool.not_eq_false', Bool.not_eq_true, Bool.not_eq_false, Bool.not_true, Bool.not_false, ne_eq] at hc123'
            refine rc_seq ?_
            refine rc_region ?_
            refine rd_op (v := vi 5) (ov_move rfl) ?_
            refine rd_nil ?_
            refine pn_seq ?_
            subst hres
            exact rc_retV (.tmp rfl .nil) (deep_closed rfl) rfl
          · replace hres := (ite_f hc123).symm.trans hres
            have hc123' := hc123
            try simp only [Bool.or_eq_true, Bool.or_eq_false_iff, Bool.and_eq_true, Bool.and_eq_false_imp, decide_eq_true_eq, decide_eq_false_iff_not, Bool.not_eq_true', Bool.not_eq_false', Bool.not_eq_true, Bool.not_eq_false, Bool.not_true, Bool.not_false, ne_eq] at hc123'
            refine rc_skip ?_
            refine pn_blk ?_
            refine pn_seq ?_
            refine rc_seq ?_
            refine rc_region ?_
            refine rd_op (v := vi 0) (ov_move rfl) ?_
            refine rd_nil ?_
            refine pn_seq ?_
            subst hres
            exact rc_retV (.tmp rfl .nil) (deep_closed rfl) rfl

/-- patchbay/patchbayref20.Check -/
def RF17 (res : Int × Int) (r : PV) : Prop := r = .tup [vi res.1, vi res.2]
theorem ref20_Check_L1_ok {S : List Fr} {res : Int × Int} {x0 : api_Program} {y102 : Int} {y105 : Int} {y108 : (List api_ControlNode)} {v0 : PV} {v109 : PV} (r0 : api_Program.t.R x0 v0) (hs : csl x0.Control ≤ 1000) (hw102 : ref20_Count x0.Control = y102) (hc103 : (decide (24 < y102)) = false) (hw105 : ref20_Nesting x0.Control = y105) (hc106 : (decide (6 < y105)) = false) (hw108 : ref20_Preorder x0.Control = y108) (r109 : (tSl api_ControlNode.t).R y108 v109) {K1 : Unit → (Int × Int)}
    (hK1 : K1 () = res → PX Try.prog 1 S (QR Try.prog [(2, none), (3, none)] (RF17 res)) [] ⟨0, []⟩) :
    ∀ (m : Nat) (x5_ : Int) (hm1 : m = Int.toNat ((y108.length : Int) - x5_)) (hlo1 : 0 ≤ x5_), ref20_Check_L1 x0 y108 K1 m x5_ = res → RC Try.prog (.loop ac17_L1) S (QR Try.prog [(2, none), (3, none)] (RF17 res)) [(5, vi x5_), (4, v109), (1, .fp v0)] ⟨0, []⟩ := by
  have hc103' := hc103
  try simp only [Bool.or_eq_true, Bool.or_eq_false_iff, Bool.and_eq_true, Bool.and_eq_false_imp, decide_eq_true_eq, decide_eq_false_iff_not, Bool.not_eq_true', Bool.not_eq_false', Bool.not_eq_true, Bool.not_eq_false, Bool.not_true, Bool.not_false, ne_eq] at hc103'
  have hc106' := hc106
  try simp only [Bool.or_eq_true, Bool.or_eq_false_iff, Bool.and_eq_true, Bool.and_eq_false_imp, decide_eq_true_eq, decide_eq_false_iff_not, Bool.not_eq_true', Bool.not_eq_false', Bool.not_eq_true, Bool.not_eq_false, Bool.not_true, Bool.not_false, ne_eq] at hc106'
  intro m
  induction m with
  | zero =>
    intro x5_ hm1 hlo1 hres
    rw [ref20_Check_L1] at hres
    refine rc_loop ?_
    unfold ac17_L1
    refine rc_seq ?_
    refine rc_seq ?_
    refine rc_region ?_
    refine rd_op (ov_move rfl) ?_
    refine rd_op (ov_move rfl) ?_
    refine rd_op (ov_bi rfl (sl_len r109 Try.underlying28 _)) ?_
    refine rd_op (ov_bin rfl rfl i_lss) ?_
    refine rd_nil ?_
    refine pn_seq ?_
    refine rc_cond rfl (fun hc110 => ?_) (fun hc110 => ?_)
    · exfalso
      try simp only [Bool.or_eq_true, Bool.or_eq_false_iff, Bool.and_eq_true, Bool.and_eq_false_imp, decide_eq_true_eq, decide_eq_false_iff_not, Bool.not_eq_true', Bool.not_eq_false', Bool.not_eq_true, Bool.not_eq_false, Bool.not_true, Bool.not_false, ne_eq] at hc110
      omega
    · have hend := hres
      have hc110' := hc110
      try simp only [Bool.or_eq_true, Bool.or_eq_false_iff, Bool.and_eq_true, Bool.and_eq_false_imp, decide_eq_true_eq, decide_eq_false_iff_not, Bool.not_eq_true', Bool.not_eq_false', Bool.not_eq_true, Bool.not_eq_false, Bool.not_true, Bool.not_false, ne_eq] at hc110'
      refine rc_exit ?_
      refine px_seq ?_
      refine px_again ?_
      exact px_weak ((sub_nil _)) (hK1  hres)
  | succ m ih =>
    intro x5_ hm1 hlo1 hres
    rw [ref20_Check_L1] at hres
    refine rc_loop ?_
    unfold ac17_L1
    refine rc_seq ?_
    refine rc_seq ?_
    refine rc_region ?_
    refine rd_op (ov_move rfl) ?_
    refine rd_op (ov_move rfl) ?_
    refine rd_op (ov_bi rfl (sl_len r109 Try.underlying28 _)) ?_
    refine rd_op (ov_bin rfl rfl i_lss) ?_
    refine rd_nil ?_
    refine pn_seq ?_
    refine rc_cond rfl (fun hc111 => ?_) (fun hc111 => ?_)
    · have hgo := hres
      have hc111' := hc111
      try simp only [Bool.or_eq_true, Bool.or_eq_false_iff, Bool.and_eq_true, Bool.and_eq_false_imp, decide_eq_true_eq, decide_eq_false_iff_not, Bool.not_eq_true', Bool.not_eq_false', Bool.not_eq_true, Bool.not_eq_false, Bool.not_true, Bool.not_false, ne_eq] at hc111'
      refine rc_skip ?_
      refine pn_seq ?_
      refine rc_seq ?_
      refine rc_block ?_
      refine rc_seq ?_
      refine rc_region ?_
      refine rd_op (ov_load rfl (TR.cnt api_Program.t r0) (TR.agg api_Program.t r0)) ?_
      refine rd_op (ov_move rfl) ?_
      refine rd_op (ov_move rfl) ?_
      obtain ⟨y112, hw112, hres⟩ := let_ex hres
      have f112 := f53_ok (x2 := x5_) r0 r109 (by first | assumption | omega) (by first | assumption | omega)
      rw [hw112] at f112
      refine rd_call (cv_fn rfl rfl (clL_cons (TR.clo api_Program.t r0) (clL_cons (TR.clo (tSl api_ControlNode.t) r109) (clL_cons rfl clL_nil))) f112) ?_
      refine rd_op (ov_move rfl) ?_
      refine rd_nil ?_
      refine pn_seq ?_
      refine rc_seq ?_
      refine rc_region ?_
      refine rd_op (ov_move rfl) ?_
      refine rd_op (ov_bin rfl rfl i_neq) ?_
      refine rd_nil ?_
      refine pn_seq ?_
      refine rc_cond rfl (fun hc113 => ?_) (fun hc113 => ?_)
      · replace hres := (ite_t hc113).symm.trans hres
        have hc113' := hc113
        try simp only [Bool.or_eq_true, Bool.or_eq_false_iff, Bool.and_eq_true, Bool.and_eq_false_imp, decide_eq_true_eq, decide_eq_false_iff_not, Bool.not_eq_true', Bool.not_eq_false', Bool.not_eq_true, Bool.not_eq_false, Bool.not_true, Bool.not_false, ne_eq] at hc113'
        refine rc_seq ?_
        refine rc_region ?_
        refine rd_op (ov_move rfl) ?_
        refine rd_op (ov_move rfl) ?_
        refine rd_op (ov_move rfl) ?_
        refine rd_op (ov_move rfl) ?_
        refine rd_nil ?_
        refine pn_seq ?_
        subst hres
        exact rc_retV (.tmp rfl (.tmp rfl .nil)) (deep_closed (show closed (.tup _) = true from (clL_cons rfl (clL_cons rfl clL_nil)))) rfl
      · replace hres := (ite_f hc113).symm.trans hres
        have hc113' := hc113
        try simp only [Bool.or_eq_true, Bool.or_eq_false_iff, Bool.and_eq_true, Bool.and_eq_false_imp, decide_eq_true_eq, decide_eq_false_iff_not, Bool.not_eq_true', Bool.not_eq_false', Bool.not_eq_true, Bool.not_eq_false, Bool.not_true, Bool.not_false, ne_eq] at hc113'
        refine rc_skip ?_
        refine pn_blk ?_
        refine pn_seq ?_
        refine rc_region ?_
        refine rd_op (ov_move rfl) ?_
        refine rd_op (ov_bin rfl rfl i_add) ?_
        refine rd_op (ov_move rfl) ?_
        refine rd_nil ?_
        refine pn_again ?_
        have hbd := sl_bound r109
        have hinc : wr (x5_ + 1) = x5_ + 1 := wr_of (by omega) (by omega)
        rw [hinc]
        refine rc_weak ?_ (ih (x5_ + 1)  (by omega) (by omega) hres)
        exact ((sub_cons rfl (sub_cons rfl (sub_cons rfl (sub_nil _)))))
    · exfalso
      try simp only [Bool.or_eq_true, Bool.or_eq_false_iff, Bool.and_eq_true, Bool.and_eq_false_imp, decide_eq_true_eq, decide_eq_false_iff_not, Bool.not_eq_true', Bool.not_eq_false', Bool.not_eq_true, Bool.not_eq_false, Bool.not_true, Bool.not_false, ne_eq] at hc111
      omega

theorem f17_ok {x0 : api_Program} {v0 : PV} (r0 : api_Program.t.R x0 v0) (hs : csl x0.Control ≤ 1000) : FnR Try.prog 17 [v0] (.tup [vi ((ref20_Check x0).1), vi ((ref20_Check x0).2)]) := by
  obtain ⟨res, hres⟩ : ∃ res, ref20_Check x0 = res := ⟨_, rfl⟩
  suffices H : RC Try.prog ac17 [] (QR Try.prog [(2, none), (3, none)] (RF17 res)) (argE 0 [v0]) ⟨0, []⟩ by
    obtain ⟨r, h1, h2⟩ := fnE text17 (by simp) H
    rw [hres]
    have h2 : r = .tup [vi res.1, vi res.2] := h2
    rw [← h2]; exact h1
  unfold ref20_Check at hres
  unfold ac17
  refine rc_seq ?_
  refine rc_region ?_
  refine rd_op (ov_box rfl (TR.cnt api_Program.t r0)) ?_
  refine rd_op (v := vi 0) (ov_move rfl) ?_
  refine rd_op (v := vi 0) (ov_move rfl) ?_
  refine rd_nil ?_
  refine pn_seq ?_
  refine rc_seq ?_
  refine rc_block ?_
  refine rc_seq ?_
  refine rc_region ?_
  obtain ⟨v101, e101, r101⟩ := api_Program.g_Control r0
  refine rd_op (ov_faddr rfl e101) ?_
  refine rd_op (ov_load rfl (TR.cnt (tSl api_ControlNode.t) r101) (TR.agg (tSl api_ControlNode.t) r101)) ?_
  obtain ⟨y102, hw102, hres⟩ := let_ex hres
  have f102 := f21_ok  r101 
  rw [hw102] at f102
  refine rd_call (cv_fn rfl rfl (clL_cons (TR.clo (tSl api_ControlNode.t) r101) clL_nil) f102) ?_
  refine rd_op (ov_bin rfl rfl i_gtr) ?_
  refine rd_op (ov_move rfl) ?_
  refine rd_nil ?_
  refine pn_seq ?_
  refine rc_cond rfl (fun hc103 => ?_) (fun hc103 => ?_)
  · replace hres := (ite_t hc103).symm.trans hres
    have hc103' := hc103
    try simp only [Bool.or_eq_true, Bool.or_eq_false_iff, Bool.and_eq_true, Bool.and_eq_false_imp, decide_eq_true_eq, decide_eq_false_iff_not, Bool.not_eq_true', Bool.not_eq_false', Bool.not_eq_true, Bool.not_eq_false, Bool.not_true, Bool.not_false, ne_eq] at hc103'
    refine rc_seq ?_
    refine rc_region ?_
    refine rd_op (v := vi (-1)) (ov_move rfl) ?_
    refine rd_op (v := vi 12) (ov_move rfl) ?_
    refine rd_nil ?_
    refine pn_seq ?_
    subst hres
    exact rc_retV (.tmp rfl (.tmp rfl .nil)) (deep_closed (show closed (.tup _) = true from (clL_cons rfl (clL_cons rfl clL_nil)))) rfl
  · replace hres := (ite_f hc103).symm.trans hres
    have hc103' := hc103
    try simp only [Bool.or_eq_true, Bool.or_eq_false_iff, Bool.and_eq_true, Bool.and_eq_false_imp, decide_eq_true_eq, decide_eq_false_iff_not, Bool.not_eq_true', Bool.not_eq_false', Bool.not_eq_true, Bool.not_eq_false, Bool.not_true, Bool.not_false, ne_eq] at hc103'
    refine rc_seq ?_
    refine rc_region ?_
    obtain ⟨v104, e104, r104⟩ := api_Program.g_Control r0
    refine rd_op (ov_faddr rfl e104) ?_
    refine rd_op (ov_load rfl (TR.cnt (tSl api_ControlNode.t) r104) (TR.agg (tSl api_ControlNode.t) r104)) ?_
    obtain ⟨y105, hw105, hres⟩ := let_ex hres
    have f105 := f23_ok  r104 
    rw [hw105] at f105
    refine rd_call (cv_fn rfl rfl (clL_cons (TR.clo (tSl api_ControlNode.t) r104) clL_nil) f105) ?_
    refine rd_op (ov_bin rfl rfl i_gtr) ?_
    refine rd_op (ov_move rfl) ?_
    refine rd_nil ?_
    refine pn_seq ?_
    refine rc_cond rfl (fun hc106 => ?_) (fun hc106 => ?_)
    · replace hres := (ite_t hc106).symm.trans hres
      have hc106' := hc106
      try simp only [Bool.or_eq_true, Bool.or_eq_false_iff, Bool.and_eq_true, Bool.and_eq_false_imp, decide_eq_true_eq, decide_eq_false_iff_not, Bool.not_eq_true', Bool.not_eq_false', Bool.not_eq_true, Bool.not_eq_false, Bool.not_true, Bool.not_false, ne_eq] at hc106'
      refine rc_seq ?_
      refine rc_region ?_
      refine rd_op (v := vi (-1)) (ov_move rfl) ?_
      refine rd_op (v := vi 14) (ov_move rfl) ?_
      refine rd_nil ?_
      refine pn_seq ?_
      subst hres
      exact rc_retV (.tmp rfl (.tmp rfl .nil)) (deep_closed (show closed (.tup _) = true from (clL_cons rfl (clL_cons rfl clL_nil)))) rfl
    · replace hres := (ite_f hc106).symm.trans hres
      have hc106' := hc106
      try simp only [Bool.or_eq_true, Bool.or_eq_false_iff, Bool.and_eq_true, Bool.and_eq_false_imp, decide_eq_true_eq, decide_eq_false_iff_not, Bool.not_eq_true', Bool.not_eq_false', Bool.not_eq_true, Bool.not_eq_false, Bool.not_true, Bool.not_false, ne_eq] at hc106'
      refine rc_skip ?_
      refine pn_blk ?_
      refine pn_seq ?_
      refine rc_seq ?_
      refine rc_region ?_
      obtain ⟨v107, e107, r107⟩ := api_Program.g_Control r0
      refine rd_op (ov_faddr rfl e107) ?_
      refine rd_op (ov_load rfl (TR.cnt (tSl api_ControlNode.t) r107) (TR.agg (tSl api_ControlNode.t) r107)) ?_
      obtain ⟨y108, hw108, hres⟩ := let_ex hres
      obtain ⟨v109, f108, r109⟩ := f52_ok  r107 (by first | assumption | omega)
      rw [hw108] at r109
      refine rd_call (cv_fn rfl rfl (clL_cons (TR.clo (tSl api_ControlNode.t) r107) clL_nil) f108) ?_
      refine rd_op (ov_move rfl) ?_
      refine rd_nil ?_
      refine pn_seq ?_
      refine rc_seq ?_
      refine rc_seq ?_
      refine rc_region ?_
      refine rd_op (v := vi 0) (ov_move rfl) ?_
      refine rd_nil ?_
      refine pn_seq ?_
      refine rc_block ?_
      refine rc_weak ?_ (ref20_Check_L1_ok (x0 := x0) (y102 := y102) (y105 := y105) (y108 := y108) (v0 := v0) (v109 := v109)  (r0 := r0) (hs := hs) (hw102 := hw102) (hc103 := hc103) (hw105 := hw105) (hc106 := hc106) (hw108 := hw108) (r109 := r109) ?_ (Int.toNat ((y108.length : Int) - 0)) 0 rfl (by omega) hres)
      · exact ((sub_cons rfl (sub_cons rfl (sub_cons rfl (sub_nil _)))))
      · intro  hres
        refine px_blk ?_
        refine pn_seq ?_
        refine rc_seq ?_
        refine rc_region ?_
        refine rd_op (v := vi 0) (ov_move rfl) ?_
        refine rd_op (v := vi 0) (ov_move rfl) ?_
        refine rd_nil ?_
        refine pn_seq ?_
        subst hres
        exact rc_retV (.tmp rfl (.tmp rfl .nil)) (deep_closed (show closed (.tup _) = true from (clL_cons rfl (clL_cons rfl clL_nil)))) rfl

/-- patchbay/patchbaylaw20.ControlChecks -/
def RF3 (res : Bool) (r : PV) : Prop := r = vb res
theorem f3_ok {x0 : api_Program} {v0 : PV} (r0 : api_Program.t.R x0 v0) : FnR Try.prog 3 [v0] (vb (law20_ControlChecks x0)) := by
  obtain ⟨res, hres⟩ : ∃ res, law20_ControlChecks x0 = res := ⟨_, rfl⟩
  suffices H : RC Try.prog ac3 [] (QR Try.prog [(2, none)] (RF3 res)) (argE 0 [v0]) ⟨0, []⟩ by
    obtain ⟨r, h1, h2⟩ := fnE text3 (by simp) H
    rw [hres]
    have h2 : r = vb res := h2
    rw [← h2]; exact h1
  unfold law20_ControlChecks at hres
  unfold ac3
  refine rc_seq ?_
  refine rc_region ?_
  refine rd_op (ov_box rfl (TR.cnt api_Program.t r0)) ?_
  refine rd_op (v := vb false) (ov_move rfl) ?_
  refine rd_nil ?_
  refine pn_seq ?_
  refine rc_seq ?_
  refine rc_seq ?_
  refine rc_region ?_
  refine rd_op (ov_load rfl (TR.cnt api_Program.t r0) (TR.agg api_Program.t r0)) ?_
  obtain ⟨y101, hw101, hres⟩ := let_ex hres
  have f101 := f13_ok  r0 
  rw [hw101] at f101
  refine rd_call (cv_fn rfl rfl (clL_cons (TR.clo api_Program.t r0) clL_nil) f101) ?_
  refine rd_op (ov_not rfl) ?_
  refine rd_op (ov_move rfl) ?_
  refine rd_cut (d := 15) (v := vb ((!y101) || (!(law20_Small x0.Control 40)))) ?_ ?_
  · intro S Q r
    simp only [ac3_G1, List.cons_append, List.nil_append, List.append_assoc]
    cases hb102 : (!y101)
    · intro k
      have hb102' := hb102
      try simp only [Bool.or_eq_true, Bool.or_eq_false_iff, Bool.and_eq_true, Bool.and_eq_false_imp, decide_eq_true_eq, decide_eq_false_iff_not, Bool.not_eq_true', Bool.not_eq_false', Bool.not_eq_true, Bool.not_eq_false, Bool.not_true, Bool.not_false, ne_eq] at hb102'
      obtain ⟨v103, e103, r103⟩ := api_Program.g_Control r0
      refine rd_yes rfl rfl (ov_faddr rfl e103) ?_
      refine rd_yes rfl rfl (ov_load rfl (TR.cnt (tSl api_ControlNode.t) r103) (TR.agg (tSl api_ControlNode.t) r103)) ?_
      have f104 := f14_ok (x1 := 40) r103 
      refine rd_ycall rfl rfl (cv_fn rfl rfl (clL_cons (TR.clo (tSl api_ControlNode.t) r103) (clL_cons rfl clL_nil)) f104) ?_
      refine rd_yes rfl rfl (ov_not rfl) ?_
      refine rd_op (v := vb (!(law20_Small x0.Control 40))) (ov_pick rfl rfl rfl rfl) ?_
      exact rd_weak (sub_cons rfl (sub_skip rfl (sub_skip rfl (sub_skip rfl (sub_skip rfl (sub_skip rfl (sub_refl _))))))) k
    · intro k
      refine rd_skip rfl rfl ?_
      refine rd_skip rfl rfl ?_
      refine rd_skip rfl rfl ?_
      refine rd_skip rfl rfl ?_
      refine rd_op (v := vb true) (ov_pick rfl rfl rfl rfl) ?_
      exact rd_weak (sub_cons rfl (sub_skip rfl (sub_skip rfl (sub_skip rfl (sub_skip rfl (sub_skip rfl (sub_refl _))))))) k
  refine rd_nil ?_
  refine pn_seq ?_
  refine rc_cond rfl (fun hc105 => ?_) (fun hc105 => ?_)
  · replace hres := (ite_t hc105).symm.trans hres
    have hc105' := hc105
    try simp only [Bool.or_eq_true, Bool.or_eq_false_iff, Bool.and_eq_true, Bool.and_eq_false_imp, decide_eq_true_eq, decide_eq_false_iff_not, Bool.not_eq_true', Bool.not_eq_false', Bool.not_eq_true, Bool.not_eq_false, Bool.not_true, Bool.not_false, ne_eq] at hc105'
    refine rc_seq ?_
    refine rc_region ?_
    obtain ⟨y106, hw106, hres⟩ := let_ex hres
    have f106 := f15_ok   
    rw [hw106] at f106
    refine rd_call (cv_fn rfl rfl clL_nil f106) ?_
    refine rd_op (ov_move rfl) ?_
    refine rd_nil ?_
    refine pn_seq ?_
    subst hres
    exact rc_retV (.tmp rfl .nil) (deep_closed rfl) rfl
  · replace hres := (ite_f hc105).symm.trans hres
    have hc105' := hc105
    try simp only [Bool.or_eq_true, Bool.or_eq_false_iff, Bool.and_eq_true, Bool.and_eq_false_imp, decide_eq_true_eq, decide_eq_false_iff_not, Bool.not_eq_true', Bool.not_eq_false', Bool.not_eq_true, Bool.not_eq_false, Bool.not_true, Bool.not_false, ne_eq] at hc105'
    refine rc_skip ?_
    refine pn_seq ?_
    refine rc_seq ?_
    refine rc_region ?_
    refine rd_op (ov_load rfl (TR.cnt api_Program.t r0) (TR.agg api_Program.t r0)) ?_
    obtain ⟨y107, hw107, hres⟩ := let_ex hres
    have f107 := f16_ok  r0 (by (have hk := small_csl rfl (And.right (by assumption)) (by omega); omega))
    rw [hw107] at f107
    refine rd_call (cv_fn rfl rfl (clL_cons (TR.clo api_Program.t r0) clL_nil) f107) ?_
    refine rd_op (ov_move rfl) ?_
    refine rd_op (ov_extract rfl rfl) ?_
    refine rd_op (ov_extract rfl rfl) ?_
    refine rd_op (ov_move rfl) ?_
    refine rd_op (ov_move rfl) ?_
    refine rd_nil ?_
    refine pn_seq ?_
    refine rc_seq ?_
    refine rc_region ?_
    refine rd_op (ov_load rfl (TR.cnt api_Program.t r0) (TR.agg api_Program.t r0)) ?_
    obtain ⟨y108, hw108, hres⟩ := let_ex hres
    have f108 := f17_ok  r0 (by (have hk := small_csl rfl (And.right (by assumption)) (by omega); omega))
    rw [hw108] at f108
    refine rd_call (cv_fn rfl rfl (clL_cons (TR.clo api_Program.t r0) clL_nil) f108) ?_
    refine rd_op (ov_move rfl) ?_
    refine rd_op (ov_extract rfl rfl) ?_
    refine rd_op (ov_extract rfl rfl) ?_
    refine rd_op (ov_move rfl) ?_
    refine rd_op (ov_move rfl) ?_
    refine rd_nil ?_
    refine pn_seq ?_
    refine rc_seq ?_
    refine rc_region ?_
    refine rd_op (ov_move rfl) ?_
    refine rd_op (ov_move rfl) ?_
    refine rd_op (ov_bin rfl rfl i_eql) ?_
    refine rd_op (ov_move rfl) ?_
    refine rd_cut (d := 34) (v := vb ((decide (y107.1 = y108.1)) && (decide (y107.2 = y108.2)))) ?_ ?_
    · intro S Q r
      simp only [ac3_G2, List.cons_append, List.nil_append, List.append_assoc]
      cases hb109 : (decide (y107.1 = y108.1))
      · intro k
        refine rd_skip rfl rfl ?_
        refine rd_skip rfl rfl ?_
        refine rd_skip rfl rfl ?_
        refine rd_op (v := vb false) (ov_pick rfl rfl rfl rfl) ?_
        exact rd_weak (sub_cons rfl (sub_skip rfl (sub_skip rfl (sub_skip rfl (sub_skip rfl (sub_refl _)))))) k
      · intro k
        have hb109' := hb109
        try simp only [Bool.or_eq_true, Bool.or_eq_false_iff, Bool.and_eq_true, Bool.and_eq_false_imp, decide_eq_true_eq, decide_eq_false_iff_not, Bool.not_eq_true', Bool.not_eq_false', Bool.not_eq_true, Bool.not_eq_false, Bool.not_true, Bool.not_false, ne_eq] at hb109'
        refine rd_yes rfl rfl (ov_move rfl) ?_
        refine rd_yes rfl rfl (ov_move rfl) ?_
        refine rd_yes rfl rfl (ov_bin rfl rfl i_eql) ?_
        refine rd_op (v := vb (decide (y107.2 = y108.2))) (ov_pick rfl rfl rfl rfl) ?_
        exact rd_weak (sub_cons rfl (sub_skip rfl (sub_skip rfl (sub_skip rfl (sub_skip rfl (sub_refl _)))))) k
    refine rd_op (ov_move rfl) ?_
    refine rd_cut (d := 37) (v := vb (((decide (y107.1 = y108.1)) && (decide (y107.2 = y108.2))) && (law20_works))) ?_ ?_
    · intro S Q r
      simp only [ac3_G3, List.cons_append, List.nil_append, List.append_assoc]
      cases hb110 : ((decide (y107.1 = y108.1)) && (decide (y107.2 = y108.2)))
      · intro k
        refine rd_skip rfl rfl ?_
        refine rd_op (v := vb false) (ov_pick rfl rfl rfl rfl) ?_
        exact rd_weak (sub_cons rfl (sub_skip rfl (sub_skip rfl (sub_refl _)))) k
      · intro k
        have hb110' := hb110
        try simp only [Bool.or_eq_true, Bool.or_eq_false_iff, Bool.and_eq_true, Bool.and_eq_false_imp, decide_eq_true_eq, decide_eq_false_iff_not, Bool.not_eq_true', Bool.not_eq_false', Bool.not_eq_true, Bool.not_eq_false, Bool.not_true, Bool.not_false, ne_eq] at hb110'
        have f111 := f15_ok   
        refine rd_ycall rfl rfl (cv_fn rfl rfl clL_nil f111) ?_
        refine rd_op (v := vb (law20_works)) (ov_pick rfl rfl rfl rfl) ?_
        exact rd_weak (sub_cons rfl (sub_skip rfl (sub_skip rfl (sub_refl _)))) k
    refine rd_op (ov_move rfl) ?_
    refine rd_nil ?_
    refine pn_seq ?_
    subst hres
    exact rc_retV (.tmp rfl .nil) (deep_closed rfl) rfl

end Go.Proofs.Ytkgnjpoafilicaa
