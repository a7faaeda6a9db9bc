/-
  The code of each function does what its plain program says.
-/
import Derived.Test.YtkgnjpoafilicaaL3W1
set_option linter.unusedVariables false
set_option linter.unusedSimpArgs false
set_option maxRecDepth 100000
namespace Go.Proofs.Ytkgnjpoafilicaa
open Go Go.Pb Go.RowKit
/-- (patchbay/expr.Scope).check -/
def RF84 (res : Int × Int × Int) (r : PV) : Prop := r = .tup [vi res.1, vi res.2.1, vi res.2.2]
theorem m1_expr_Scope__check_L1_ok {S : List Fr} {res : Int × Int × Int} {x0 : expr_Scope} {x1 : List api_ExprNode} {x2 : Int} {rec_ : expr_Scope → (List api_ExprNode) → Int → (Int × Int × Int)} {mu_ : Nat} {y103 : Int} {v0 : PV} {v1 : PV} {i108 : Nat} {w108 : Nat} (r0 : expr_Scope.t.R x0 v0) (r1 : (tSl api_ExprNode.t).R x1 v1) (h0 : 0 ≤ x2) (hb : x1.length ≤ 1000000) (ihR : ∀ {z0 : expr_Scope} {z1 : List api_ExprNode} {z2 : Int} {zv0 : PV} {zv1 : PV} (zr0 : expr_Scope.t.R z0 zv0) (zr1 : (tSl api_ExprNode.t).R z1 zv1) (h0 : 0 ≤ z2) (hb : z1.length ≤ 1000000), (z1.length - z2.toNat) < mu_ → FnR Try.prog 84 [zv0, zv1, vi z2] (.tup [vi ((rec_ z0 z1 z2).1), vi ((rec_ z0 z1 z2).2.1), vi ((rec_ z0 z1 z2).2.2)])) (hmu : mu_ = (x1.length - x2.toNat)) (hrec : ∀ (z0 : expr_Scope) (z1 : List api_ExprNode) (z2 : Int), 0 ≤ z2 → z1.length ≤ 1000000 → (rec_ z0 z1 z2).2.2 = 0 → z2 < (rec_ z0 z1 z2).2.1) (hc101 : (decide ((x1.length : Int) ≤ x2)) = false) (hw103 : expr_arity ((ix x1 x2).Op) = y103) (hc104 : (decide (y103 < 0)) = false) (hc105 : (decide (y103 = 0)) = false) {K1 : Int → (List Int) → (Int × Int × Int)}
    (hK1 : ∀ (x7_ : Int) (zE109 : List Int) (uE109 : PV) (qE109 : (tAr 3 tI).R zE109 uE109) (h : Heap) (M0 : Mem h [⟨.op i108 w108 0, 142, 3, [uE109]⟩]), K1 x7_ zE109 = res → PX Try.prog 1 S (QR Try.prog [(6, none), (7, none), (8, none)] (RF84 res)) [(1, v1), (2, vi x2), (7, vi x7_), (10, .op i108 w108 0)] h) :
    ∀ (m : Nat) (x7_ : Int) (x44_ : Int) (zE109 : List Int) (uE109 : PV) (qE109 : (tAr 3 tI).R zE109 uE109) (hm1 : m = Int.toNat (y103 - x44_)) (hlo1 : 0 ≤ x44_) (iv1_0 : x2 < x7_) (h : Heap) (M0 : Mem h [⟨.op i108 w108 0, 142, 3, [uE109]⟩]), m1_expr_Scope__check_L1 x0 x1 rec_ K1 m x7_ x44_ zE109 = res → RC Try.prog (.loop ac84_L1) S (QR Try.prog [(6, none), (7, none), (8, none)] (RF84 res)) [(44, vi x44_), (43, vi y103), (10, .op i108 w108 0), (7, vi x7_), (3, .fp v0), (2, vi x2), (1, v1)] h := by
  have hb' := hb
  try simp only [Bool.or_eq_true, Bool.or_eq_false_iff, Bool.and_eq_true, Bool.and_eq_false_imp, decide_eq_true_eq, decide_eq_false_iff_not, Bool.not_eq_true', Bool.not_eq_false', Bool.not_eq_true, Bool.not_eq_false, Bool.not_true, Bool.not_false, ne_eq] at hb'
  have hc101' := hc101
  try simp only [Bool.or_eq_true, Bool.or_eq_false_iff, Bool.and_eq_true, Bool.and_eq_false_imp, decide_eq_true_eq, decide_eq_false_iff_not, Bool.not_eq_true', Bool.not_eq_false', Bool.not_eq_true, Bool.not_eq_false, Bool.not_true, Bool.not_false, ne_eq] at hc101'
  have hc104' := hc104
  try simp only [Bool.or_eq_true, Bool.or_eq_false_iff, Bool.and_eq_true, Bool.and_eq_false_imp, decide_eq_true_eq, decide_eq_false_iff_not, Bool.not_eq_true', Bool.not_eq_false', Bool.not_eq_true, Bool.not_eq_false, Bool.not_true, Bool.not_false, ne_eq] at hc104'
  have hc105' := hc105
  try simp only [Bool.or_eq_true, Bool.or_eq_false_iff, Bool.and_eq_true, Bool.and_eq_false_imp, decide_eq_true_eq, decide_eq_false_iff_not, Bool.not_eq_true', Bool.not_eq_false', Bool.not_eq_true, Bool.not_eq_false, Bool.not_true, Bool.not_false, ne_eq] at hc105'
  intro m
  induction m with
  | zero =>
    intro x7_ x44_ zE109 uE109 qE109 hm1 hlo1 iv1_0 h M0 hres
    rw [m1_expr_Scope__check_L1] at hres
    refine rc_loop ?_
    unfold ac84_L1
    refine rc_seq ?_
    refine rc_region ?_
    refine rd_op (ov_bin rfl rfl i_lss) ?_
    refine rd_nil ?_
    refine pn_seq ?_
    refine rc_seq ?_
    refine rc_cond rfl (fun hc110 => ?_) (fun hc110 => ?_)
    · exfalso
      try simp only [Bool.or_eq_true, Bool.or_eq_false_iff, Bool.and_eq_true, Bool.and_eq_false_imp, decide_eq_true_eq, decide_eq_false_iff_not, Bool.not_eq_true', Bool.not_eq_false', Bool.not_eq_true, Bool.not_eq_false, Bool.not_true, Bool.not_false, ne_eq] at hc110
      omega
    · have hend := hres
      have hc110' := hc110
      try simp only [Bool.or_eq_true, Bool.or_eq_false_iff, Bool.and_eq_true, Bool.and_eq_false_imp, decide_eq_true_eq, decide_eq_false_iff_not, Bool.not_eq_true', Bool.not_eq_false', Bool.not_eq_true, Bool.not_eq_false, Bool.not_true, Bool.not_false, ne_eq] at hc110'
      refine rc_exit ?_
      refine px_seq ?_
      refine px_again ?_
      exact px_weak ((sub_cons rfl (sub_cons rfl (sub_cons rfl (sub_cons rfl (sub_nil _)))))) (hK1 x7_ zE109 uE109 (show (tAr 3 tI).R zE109 uE109 from qE109) _ (Mem.sub M0 (.cons_cons _ .slnil)) hres)
  | succ m ih =>
    intro x7_ x44_ zE109 uE109 qE109 hm1 hlo1 iv1_0 h M0 hres
    rw [m1_expr_Scope__check_L1] at hres
    refine rc_loop ?_
    unfold ac84_L1
    refine rc_seq ?_
    refine rc_region ?_
    refine rd_op (ov_bin rfl rfl i_lss) ?_
    refine rd_nil ?_
    refine pn_seq ?_
    refine rc_seq ?_
    refine rc_cond rfl (fun hc111 => ?_) (fun hc111 => ?_)
    · have hgo := hres
      have hc111' := hc111
      try simp only [Bool.or_eq_true, Bool.or_eq_false_iff, Bool.and_eq_true, Bool.and_eq_false_imp, decide_eq_true_eq, decide_eq_false_iff_not, Bool.not_eq_true', Bool.not_eq_false', Bool.not_eq_true, Bool.not_eq_false, Bool.not_true, Bool.not_false, ne_eq] at hc111'
      refine rc_skip ?_
      refine pn_seq ?_
      refine rc_seq ?_
      refine rc_block ?_
      refine rc_seq ?_
      refine rc_region ?_
      refine rd_op (ov_move rfl) ?_
      refine rd_op (ov_move rfl) ?_
      refine rd_nil ?_
      refine pn_seq ?_
      refine rc_seq ?_
      refine rc_region ?_
      refine rd_op (ov_move rfl) ?_
      refine rd_op (ov_load rfl (TR.cnt expr_Scope.t r0) (TR.agg expr_Scope.t r0)) ?_
      refine rd_op (ov_move rfl) ?_
      refine rd_op (ov_move rfl) ?_
      obtain ⟨y112, hw112, hres⟩ := let_ex hres
      have f112 := ihR (z0 := x0) (z1 := x1) (z2 := x7_) r0 r1 (by first | assumption | omega) (by first | assumption | omega) (by first | omega | (rw [wr_of (by omega) (by omega)]; omega))
      rw [hw112] at f112
      have ek112 : y112.2.2 = 0 → x7_ < y112.2.1 := by rw [← hw112]; exact hrec _ _ _ (by omega) (by omega)
      refine rd_call (cv_fn rfl rfl (clL_cons (TR.clo expr_Scope.t r0) (clL_cons (TR.clo (tSl api_ExprNode.t) r1) (clL_cons rfl clL_nil))) f112) ?_
      refine rd_op (ov_move rfl) ?_
      refine rd_op (ov_extract rfl rfl) ?_
      refine rd_op (ov_extract rfl rfl) ?_
      refine rd_op (ov_extract rfl rfl) ?_
      have h0_113 : 0 ≤ x44_ := by first | omega | (have hk := ar (by assumption); omega)
      have h1_113 : x44_ < 3 := by first | omega | (have hk := ar (by assumption); omega)
      refine rd_op (ov_iaddrAO rfl rfl h0_113 h1_113) ?_
      obtain ⟨cs114, ec114, ln114, sr114⟩ := arr_store (t := tI) (i := x44_) qE109 h0_113 h1_113 (show tI.R y112.1 (vi y112.1) from rfl) rfl
      refine rd_storeFA (k := 0) (v := vi y112.1) M0 rfl rfl rfl ec114 rfl ln114.1 ln114.2 (fun h114 M114 => ?_)
      replace M114 : Mem h114 [⟨.op i108 w108 0, 142, 3, [.agg (spl cs114 (x44_.toNat * 1) [vi y112.1])]⟩] := M114
      refine rd_op (ov_move rfl) ?_
      refine rd_op (ov_move rfl) ?_
      refine rd_nil ?_
      refine pn_seq ?_
      refine rc_seq ?_
      refine rc_region ?_
      refine rd_op (ov_move rfl) ?_
      refine rd_op (ov_bin rfl rfl i_neq) ?_
      refine rd_nil ?_
      refine pn_seq ?_
      refine rc_cond rfl (fun hc115 => ?_) (fun hc115 => ?_)
      · replace hres := (ite_t hc115).symm.trans hres
        have hc115' := hc115
        try simp only [Bool.or_eq_true, Bool.or_eq_false_iff, Bool.and_eq_true, Bool.and_eq_false_imp, decide_eq_true_eq, decide_eq_false_iff_not, Bool.not_eq_true', Bool.not_eq_false', Bool.not_eq_true, Bool.not_eq_false, Bool.not_true, Bool.not_false, ne_eq] at hc115'
        refine rc_seq ?_
        refine rc_region ?_
        refine rd_op (ov_move rfl) ?_
        refine rd_op (v := vi 0) (ov_move rfl) ?_
        refine rd_op (v := vi 0) (ov_move rfl) ?_
        refine rd_op (ov_move rfl) ?_
        refine rd_nil ?_
        refine pn_seq ?_
        subst hres
        exact rc_retV (.tmp rfl (.tmp rfl (.tmp rfl .nil))) (deep_closed (show closed (.tup _) = true from (clL_cons rfl (clL_cons rfl (clL_cons rfl clL_nil))))) rfl
      · replace hres := (ite_f hc115).symm.trans hres
        have hc115' := hc115
        try simp only [Bool.or_eq_true, Bool.or_eq_false_iff, Bool.and_eq_true, Bool.and_eq_false_imp, decide_eq_true_eq, decide_eq_false_iff_not, Bool.not_eq_true', Bool.not_eq_false', Bool.not_eq_true, Bool.not_eq_false, Bool.not_true, Bool.not_false, ne_eq] at hc115'
        refine rc_skip ?_
        refine pn_blk ?_
        refine pn_seq ?_
        refine rc_region ?_
        refine rd_op (ov_bin rfl rfl i_add) ?_
        refine rd_op (ov_move rfl) ?_
        refine rd_nil ?_
        refine pn_again ?_
        have hinc : wr (x44_ + 1) = x44_ + 1 := wr_of (by omega) (by first | omega | (have hk := ar (by assumption); omega))
        rw [hinc]
        refine rc_weak ?_ (ih y112.2.1 (x44_ + 1) (zE109.set x44_.toNat y112.1) (.agg (spl cs114 (x44_.toNat * 1) [vi y112.1])) (show (tAr 3 tI).R (zE109.set x44_.toNat y112.1) (.agg (spl cs114 (x44_.toNat * 1) [vi y112.1])) from sr114) (by omega) (by omega) (by first | omega | (simp; done) | (simp only [List.length_append, List.length_cons, List.length_nil, List.length_set]; omega)) _ (Mem.sub M114 (.cons_cons _ .slnil)) hres)
        exact ((sub_cons rfl (sub_cons rfl (sub_cons rfl (sub_cons rfl (sub_cons rfl (sub_cons rfl (sub_cons rfl (sub_nil _)))))))))
    · exfalso
      try simp only [Bool.or_eq_true, Bool.or_eq_false_iff, Bool.and_eq_true, Bool.and_eq_false_imp, decide_eq_true_eq, decide_eq_false_iff_not, Bool.not_eq_true', Bool.not_eq_false', Bool.not_eq_true, Bool.not_eq_false, Bool.not_true, Bool.not_false, ne_eq] at hc111
      omega

theorem f84_okB {rec_ : expr_Scope → (List api_ExprNode) → Int → (Int × Int × Int)} {mu_ : Nat} {x0 : expr_Scope} {x1 : List api_ExprNode} {x2 : Int} {v0 : PV} {v1 : PV} (r0 : expr_Scope.t.R x0 v0) (r1 : (tSl api_ExprNode.t).R x1 v1) (h0 : 0 ≤ x2) (hb : x1.length ≤ 1000000) (hmu : mu_ = (x1.length - x2.toNat)) (hrec : ∀ (z0 : expr_Scope) (z1 : List api_ExprNode) (z2 : Int), 0 ≤ z2 → z1.length ≤ 1000000 → (rec_ z0 z1 z2).2.2 = 0 → z2 < (rec_ z0 z1 z2).2.1) (ihR : ∀ {z0 : expr_Scope} {z1 : List api_ExprNode} {z2 : Int} {zv0 : PV} {zv1 : PV} (zr0 : expr_Scope.t.R z0 zv0) (zr1 : (tSl api_ExprNode.t).R z1 zv1) (h0 : 0 ≤ z2) (hb : z1.length ≤ 1000000), (z1.length - z2.toNat) < mu_ → FnR Try.prog 84 [zv0, zv1, vi z2] (.tup [vi ((rec_ z0 z1 z2).1), vi ((rec_ z0 z1 z2).2.1), vi ((rec_ z0 z1 z2).2.2)])) : FnR Try.prog 84 [v0, v1, vi x2] (.tup [vi ((m1_expr_Scope__check_B rec_ x0 x1 x2).1), vi ((m1_expr_Scope__check_B rec_ x0 x1 x2).2.1), vi ((m1_expr_Scope__check_B rec_ x0 x1 x2).2.2)]) := by
  obtain ⟨res, hres⟩ : ∃ res, m1_expr_Scope__check_B rec_ x0 x1 x2 = res := ⟨_, rfl⟩
  suffices H : RC Try.prog ac84 [] (QR Try.prog [(6, none), (7, none), (8, none)] (RF84 res)) (argE 0 [v0, v1, vi x2]) ⟨0, []⟩ by
    obtain ⟨r, h1, h2⟩ := fnE text84 (by simp) H
    rw [hres]
    have h2 : r = .tup [vi res.1, vi res.2.1, vi res.2.2] := h2
    rw [← h2]; exact h1
  unfold m1_expr_Scope__check_B at hres
  unfold ac84
  refine rc_seq ?_
  refine rc_region ?_
  refine rd_op (ov_box rfl (TR.cnt expr_Scope.t r0)) ?_
  refine rd_op (v := vi 0) (ov_move rfl) ?_
  refine rd_op (v := vi 0) (ov_move rfl) ?_
  refine rd_op (v := vi 0) (ov_move rfl) ?_
  refine rd_nil ?_
  refine pn_seq ?_
  refine rc_seq ?_
  refine rc_seq ?_
  refine rc_region ?_
  refine rd_op (ov_move rfl) ?_
  refine rd_op (ov_move rfl) ?_
  refine rd_op (ov_bi rfl (sl_len r1 Try.underlying38 _)) ?_
  refine rd_op (ov_bin rfl rfl i_geq) ?_
  refine rd_nil ?_
  refine pn_seq ?_
  refine rc_cond rfl (fun hc101 => ?_) (fun hc101 => ?_)
  · replace hres := (ite_t hc101).symm.trans hres
    have hc101' := hc101
    try simp only [Bool.or_eq_true, Bool.or_eq_false_iff, Bool.and_eq_true, Bool.and_eq_false_imp, decide_eq_true_eq, decide_eq_false_iff_not, Bool.not_eq_true', Bool.not_eq_false', Bool.not_eq_true, Bool.not_eq_false, Bool.not_true, Bool.not_false, ne_eq] at hc101'
    refine rc_seq ?_
    refine rc_region ?_
    refine rd_op (v := vi 0) (ov_move rfl) ?_
    refine rd_op (v := vi 0) (ov_move rfl) ?_
    refine rd_op (v := vi 3) (ov_move rfl) ?_
    refine rd_nil ?_
    refine pn_seq ?_
    subst hres
    exact rc_retV (.tmp rfl (.tmp rfl (.tmp rfl .nil))) (deep_closed (show closed (.tup _) = true from (clL_cons rfl (clL_cons rfl (clL_cons rfl clL_nil))))) rfl
  · replace hres := (ite_f hc101).symm.trans hres
    have hc101' := hc101
    try simp only [Bool.or_eq_true, Bool.or_eq_false_iff, Bool.and_eq_true, Bool.and_eq_false_imp, decide_eq_true_eq, decide_eq_false_iff_not, Bool.not_eq_true', Bool.not_eq_false', Bool.not_eq_true, Bool.not_eq_false, Bool.not_true, Bool.not_false, ne_eq] at hc101'
    refine rc_skip ?_
    refine pn_seq ?_
    refine rc_seq ?_
    refine rc_region ?_
    refine rd_op (ov_move rfl) ?_
    refine rd_op (ov_move rfl) ?_
    obtain ⟨v102, e102, r102⟩ := sl_idx (i := x2) r1 (by omega) (by omega)
    refine rd_op (ov_iaddr rfl rfl e102) ?_
    refine rd_op (ov_faddr rfl (api_ExprNode.g_Op r102)) ?_
    refine rd_op (ov_load rfl rfl rfl) ?_
    obtain ⟨y103, hw103, hres⟩ := let_ex hres
    have f103 := f86_ok (x0 := (ix x1 x2).Op)  
    rw [hw103] at f103
    refine rd_call (cv_fn rfl rfl (clL_cons rfl clL_nil) f103) ?_
    refine rd_op (ov_move rfl) ?_
    refine rd_nil ?_
    refine pn_seq ?_
    refine rc_seq ?_
    refine rc_block ?_
    refine rc_seq ?_
    refine rc_region ?_
    refine rd_op (ov_move rfl) ?_
    refine rd_op (ov_bin rfl rfl i_lss) ?_
    refine rd_op (ov_move rfl) ?_
    refine rd_nil ?_
    refine pn_seq ?_
    refine rc_cond rfl (fun hc104 => ?_) (fun hc104 => ?_)
    · replace hres := (ite_t hc104).symm.trans hres
      have hc104' := hc104
      try simp only [Bool.or_eq_true, Bool.or_eq_false_iff, Bool.and_eq_true, Bool.and_eq_false_imp, decide_eq_true_eq, decide_eq_false_iff_not, Bool.not_eq_true', Bool.not_eq_false', Bool.not_eq_true, Bool.not_eq_false, Bool.not_true, Bool.not_false, ne_eq] at hc104'
      refine rc_seq ?_
      refine rc_region ?_
      refine rd_op (v := vi 0) (ov_move rfl) ?_
      refine rd_op (v := vi 0) (ov_move rfl) ?_
      refine rd_op (v := vi 11) (ov_move rfl) ?_
      refine rd_nil ?_
      refine pn_seq ?_
      subst hres
      exact rc_retV (.tmp rfl (.tmp rfl (.tmp rfl .nil))) (deep_closed (show closed (.tup _) = true from (clL_cons rfl (clL_cons rfl (clL_cons rfl clL_nil))))) rfl
    · replace hres := (ite_f hc104).symm.trans hres
      have hc104' := hc104
      try simp only [Bool.or_eq_true, Bool.or_eq_false_iff, Bool.and_eq_true, Bool.and_eq_false_imp, decide_eq_true_eq, decide_eq_false_iff_not, Bool.not_eq_true', Bool.not_eq_false', Bool.not_eq_true, Bool.not_eq_false, Bool.not_true, Bool.not_false, ne_eq] at hc104'
      refine rc_seq ?_
      refine rc_region ?_
      refine rd_op (ov_move rfl) ?_
      refine rd_op (ov_bin rfl rfl i_eql) ?_
      refine rd_op (ov_move rfl) ?_
      refine rd_nil ?_
      refine pn_seq ?_
      refine rc_cond rfl (fun hc105 => ?_) (fun hc105 => ?_)
      · replace hres := (ite_t hc105).symm.trans hres
        have hc105' := hc105
        try simp only [Bool.or_eq_true, Bool.or_eq_false_iff, Bool.and_eq_true, Bool.and_eq_false_imp, decide_eq_true_eq, decide_eq_false_iff_not, Bool.not_eq_true', Bool.not_eq_false', Bool.not_eq_true, Bool.not_eq_false, Bool.not_true, Bool.not_false, ne_eq] at hc105'
        refine rc_seq ?_
        refine rc_region ?_
        refine rd_op (ov_load rfl (TR.cnt expr_Scope.t r0) (TR.agg expr_Scope.t r0)) ?_
        refine rd_op (ov_move rfl) ?_
        refine rd_op (ov_move rfl) ?_
        obtain ⟨v106, e106, r106⟩ := sl_idx (i := x2) r1 (by omega) (by omega)
        refine rd_op (ov_iaddr rfl rfl e106) ?_
        refine rd_op (ov_load rfl (TR.cnt api_ExprNode.t r106) (TR.agg api_ExprNode.t r106)) ?_
        obtain ⟨y107, hw107, hres⟩ := let_ex hres
        have f107 := f87_ok  r0 r106 
        rw [hw107] at f107
        refine rd_call (cv_fn rfl rfl (clL_cons (TR.clo expr_Scope.t r0) (clL_cons (TR.clo api_ExprNode.t r106) clL_nil)) f107) ?_
        refine rd_op (ov_move rfl) ?_
        refine rd_op (ov_extract rfl rfl) ?_
        refine rd_op (ov_extract rfl rfl) ?_
        refine rd_op (ov_move rfl) ?_
        refine rd_op (ov_move rfl) ?_
        refine rd_nil ?_
        refine pn_seq ?_
        refine rc_seq ?_
        refine rc_region ?_
        refine rd_op (ov_move rfl) ?_
        refine rd_op (ov_move rfl) ?_
        refine rd_op (ov_bin rfl rfl i_add) ?_
        refine rd_op (ov_move rfl) ?_
        refine rd_op (ov_move rfl) ?_
        refine rd_op (ov_move rfl) ?_
        refine rd_op (ov_move rfl) ?_
        refine rd_nil ?_
        refine pn_seq ?_
        subst hres
        exact rc_retV (.tmp rfl (.tmp rfl (.tmp rfl .nil))) (deep_closed (show closed (.tup _) = true from (clL_cons rfl (clL_cons rfl (clL_cons rfl clL_nil))))) rfl
      · replace hres := (ite_f hc105).symm.trans hres
        have hc105' := hc105
        try simp only [Bool.or_eq_true, Bool.or_eq_false_iff, Bool.and_eq_true, Bool.and_eq_false_imp, decide_eq_true_eq, decide_eq_false_iff_not, Bool.not_eq_true', Bool.not_eq_false', Bool.not_eq_true, Bool.not_eq_false, Bool.not_true, Bool.not_false, ne_eq] at hc105'
        refine rc_skip ?_
        refine pn_blk ?_
        refine pn_seq ?_
        refine rc_seq ?_
        refine rc_region ?_
        refine rd_allocO (x := .agg [vi 0, vi 0, vi 0]) (Mem.nil ⟨0, []⟩) rfl rfl (fun i108 w108 h108 M108 => ?_)
        refine rd_nil ?_
        refine pn_seq ?_
        refine rc_seq ?_
        refine rc_region ?_
        refine rd_op (ov_move rfl) ?_
        refine rd_op (ov_bin rfl rfl i_add) ?_
        refine rd_op (ov_move rfl) ?_
        refine rd_nil ?_
        refine pn_seq ?_
        refine rc_seq ?_
        refine rc_seq ?_
        refine rc_region ?_
        refine rd_op (ov_move rfl) ?_
        refine rd_op (v := vi 0) (ov_move rfl) ?_
        refine rd_nil ?_
        refine pn_seq ?_
        refine rc_block ?_
        refine rc_weak ?_ (m1_expr_Scope__check_L1_ok (x0 := x0) (x1 := x1) (x2 := x2) (rec_ := rec_) (mu_ := mu_) (y103 := y103) (v0 := v0) (v1 := v1) (i108 := i108) (w108 := w108) (r0 := r0) (r1 := r1) (h0 := h0) (hb := hb) (ihR := ihR) (hmu := hmu) (hrec := hrec) (hc101 := hc101) (hw103 := hw103) (hc104 := hc104) (hc105 := hc105) ?_ (Int.toNat (y103 - 0)) (wr (x2 + 1)) 0 ([0, 0, 0] : List Int) (.agg [vi 0, vi 0, vi 0]) (show (tAr 3 tI).R ([0, 0, 0] : List Int) (.agg [vi 0, vi 0, vi 0]) from ⟨rfl, [vi 0, vi 0, vi 0], [vi 0, vi 0, vi 0], ⟨rfl, ⟨rfl, ⟨rfl, trivial⟩⟩⟩, rfl, rfl⟩) rfl (by omega) (by (rw [wr_of (by omega) (by omega)]; omega)) _ (Mem.sub M108 (.cons_cons _ .slnil)) hres)
        · exact ((sub_cons rfl (sub_cons rfl (sub_cons rfl (sub_cons rfl (sub_cons rfl (sub_cons rfl (sub_cons rfl (sub_nil _)))))))))
        · intro x7_116 zE109_116 u116E109 q116E109 h116 M116 hres
          refine px_blk ?_
          refine pn_seq ?_
          refine rc_seq ?_
          refine rc_region ?_
          refine rd_op (ov_move rfl) ?_
          refine rd_op (ov_move rfl) ?_
          obtain ⟨v117, e117, r117⟩ := sl_idx (i := x2) r1 (by omega) (by omega)
          refine rd_op (ov_iaddr rfl rfl e117) ?_
          refine rd_op (ov_load rfl (TR.cnt api_ExprNode.t r117) (TR.agg api_ExprNode.t r117)) ?_
          refine rd_op (ov_load0 (k := 0) M116 rfl rfl (TR.agg (tAr 3 tI) q116E109)) ?_
          obtain ⟨y118, hw118, hres⟩ := let_ex hres
          have f118 := f88_ok  r117 q116E109 
          rw [hw118] at f118
          refine rd_call (cv_fn rfl rfl (clL_cons (TR.clo api_ExprNode.t r117) (clL_cons (TR.clo (tAr 3 tI) q116E109) clL_nil)) f118) ?_
          refine rd_op (ov_move rfl) ?_
          refine rd_op (ov_extract rfl rfl) ?_
          refine rd_op (ov_extract rfl rfl) ?_
          refine rd_op (ov_move rfl) ?_
          refine rd_op (ov_move rfl) ?_
          refine rd_nil ?_
          refine pn_seq ?_
          refine rc_seq ?_
          refine rc_region ?_
          refine rd_op (ov_move rfl) ?_
          refine rd_op (ov_move rfl) ?_
          refine rd_op (ov_move rfl) ?_
          refine rd_op (ov_move rfl) ?_
          refine rd_op (ov_move rfl) ?_
          refine rd_op (ov_move rfl) ?_
          refine rd_nil ?_
          refine pn_seq ?_
          subst hres
          exact rc_retV (.tmp rfl (.tmp rfl (.tmp rfl .nil))) (deep_closed (show closed (.tup _) = true from (clL_cons rfl (clL_cons rfl (clL_cons rfl clL_nil))))) rfl
theorem f84_okR : ∀ (n_ : Nat) {x0 : expr_Scope} {x1 : List api_ExprNode} {x2 : Int} {v0 : PV} {v1 : PV} (r0 : expr_Scope.t.R x0 v0) (r1 : (tSl api_ExprNode.t).R x1 v1) (h0 : 0 ≤ x2) (hb : x1.length ≤ 1000000), (x1.length - x2.toNat) < n_ → FnR Try.prog 84 [v0, v1, vi x2] (.tup [vi ((m1_expr_Scope__check_R n_ x0 x1 x2).1), vi ((m1_expr_Scope__check_R n_ x0 x1 x2).2.1), vi ((m1_expr_Scope__check_R n_ x0 x1 x2).2.2)]) := by
  intro n_
  induction n_ with
  | zero => intros; rename_i hlt; exact absurd hlt (Nat.not_lt_zero _)
  | succ n_ ihn =>
    intro x0 x1 x2 v0 v1 r0 r1 h0 hb hlt
    have e_ : m1_expr_Scope__check_R (n_ + 1) x0 x1 x2 = m1_expr_Scope__check_B (m1_expr_Scope__check_R n_) x0 x1 x2 := by rw [m1_expr_Scope__check_R]
    rw [e_]
    exact f84_okB r0 r1 h0 hb rfl (check_next n_) (fun {z0} {z1} {z2} {zv0} {zv1} zr0 zr1 h0 hb hz => ihn zr0 zr1 h0 hb (by omega))
theorem f84_ok {x0 : expr_Scope} {x1 : List api_ExprNode} {x2 : Int} {v0 : PV} {v1 : PV} (r0 : expr_Scope.t.R x0 v0) (r1 : (tSl api_ExprNode.t).R x1 v1) (h0 : 0 ≤ x2) (hb : x1.length ≤ 1000000) : FnR Try.prog 84 [v0, v1, vi x2] (.tup [vi ((m1_expr_Scope__check x0 x1 x2).1), vi ((m1_expr_Scope__check x0 x1 x2).2.1), vi ((m1_expr_Scope__check x0 x1 x2).2.2)]) := f84_okR _ r0 r1 h0 hb (Nat.lt_succ_self _)

/-- patchbay/expr.Check -/
def RF75 (res : Int × Int) (r : PV) : Prop := r = .tup [vi res.1, vi res.2]
theorem f75_ok {x0 : List api_ExprNode} {x1 : expr_Scope} {v0 : PV} {v1 : PV} (r0 : (tSl api_ExprNode.t).R x0 v0) (r1 : expr_Scope.t.R x1 v1) : FnR Try.prog 75 [v0, v1] (.tup [vi ((expr_Check x0 x1).1), vi ((expr_Check x0 x1).2)]) := by
  obtain ⟨res, hres⟩ : ∃ res, expr_Check x0 x1 = res := ⟨_, rfl⟩
  suffices H : RC Try.prog ac75 [] (QR Try.prog [(4, none), (5, none)] (RF75 res)) (argE 0 [v0, v1]) ⟨0, []⟩ by
    obtain ⟨r, h1, h2⟩ := fnE text75 (by simp) H
    rw [hres]
    have h2 : r = .tup [vi res.1, vi res.2] := h2
    rw [← h2]; exact h1
  unfold expr_Check at hres
  unfold ac75
  refine rc_seq ?_
  refine rc_region ?_
  refine rd_op (ov_box rfl (TR.cnt expr_Scope.t r1)) ?_
  refine rd_op (v := vi 0) (ov_move rfl) ?_
  refine rd_op (v := vi 0) (ov_move rfl) ?_
  refine rd_nil ?_
  refine pn_seq ?_
  refine rc_seq ?_
  refine rc_seq ?_
  refine rc_region ?_
  refine rd_op (ov_move rfl) ?_
  refine rd_op (ov_bi rfl (sl_len r0 Try.underlying38 _)) ?_
  refine rd_op (ov_bin rfl rfl i_gtr) ?_
  refine rd_nil ?_
  refine pn_seq ?_
  refine rc_cond rfl (fun hc101 => ?_) (fun hc101 => ?_)
  · replace hres := (ite_t hc101).symm.trans hres
    have hc101' := hc101
    try simp only [Bool.or_eq_true, Bool.or_eq_false_iff, Bool.and_eq_true, Bool.and_eq_false_imp, decide_eq_true_eq, decide_eq_false_iff_not, Bool.not_eq_true', Bool.not_eq_false', Bool.not_eq_true, Bool.not_eq_false, Bool.not_true, Bool.not_false, ne_eq] at hc101'
    refine rc_seq ?_
    refine rc_region ?_
    refine rd_op (v := vi 0) (ov_move rfl) ?_
    refine rd_op (v := vi 12) (ov_move rfl) ?_
    refine rd_nil ?_
    refine pn_seq ?_
    subst hres
    exact rc_retV (.tmp rfl (.tmp rfl .nil)) (deep_closed (show closed (.tup _) = true from (clL_cons rfl (clL_cons rfl clL_nil)))) rfl
  · replace hres := (ite_f hc101).symm.trans hres
    have hc101' := hc101
    try simp only [Bool.or_eq_true, Bool.or_eq_false_iff, Bool.and_eq_true, Bool.and_eq_false_imp, decide_eq_true_eq, decide_eq_false_iff_not, Bool.not_eq_true', Bool.not_eq_false', Bool.not_eq_true, Bool.not_eq_false, Bool.not_true, Bool.not_false, ne_eq] at hc101'
    refine rc_skip ?_
    refine pn_seq ?_
    refine rc_seq ?_
    refine rc_region ?_
    refine rd_op (ov_load rfl (TR.cnt expr_Scope.t r1) (TR.agg expr_Scope.t r1)) ?_
    refine rd_op (ov_move rfl) ?_
    obtain ⟨y102, hw102, hres⟩ := let_ex hres
    have f102 := f84_ok (x2 := 0) r1 r0 (by first | assumption | omega) (by first | assumption | omega)
    rw [hw102] at f102
    refine rd_call (cv_fn rfl rfl (clL_cons (TR.clo expr_Scope.t r1) (clL_cons (TR.clo (tSl api_ExprNode.t) r0) (clL_cons rfl clL_nil))) f102) ?_
    refine rd_op (ov_move rfl) ?_
    refine rd_op (ov_extract rfl rfl) ?_
    refine rd_op (ov_extract rfl rfl) ?_
    refine rd_op (ov_extract rfl rfl) ?_
    refine rd_op (ov_move rfl) ?_
    refine rd_op (ov_move rfl) ?_
    refine rd_op (ov_move rfl) ?_
    refine rd_nil ?_
    refine pn_seq ?_
    refine rc_seq ?_
    refine rc_block ?_
    refine rc_seq ?_
    refine rc_region ?_
    refine rd_op (ov_move rfl) ?_
    refine rd_op (ov_bin rfl rfl i_neq) ?_
    refine rd_op (ov_move rfl) ?_
    refine rd_nil ?_
    refine pn_seq ?_
    refine rc_cond rfl (fun hc103 => ?_) (fun hc103 => ?_)
    · replace hres := (ite_t hc103).symm.trans hres
      have hc103' := hc103
      try simp only [Bool.or_eq_true, Bool.or_eq_false_iff, Bool.and_eq_true, Bool.and_eq_false_imp, decide_eq_true_eq, decide_eq_false_iff_not, Bool.not_eq_true', Bool.not_eq_false', Bool.not_eq_true, Bool.not_eq_false, Bool.not_true, Bool.not_false, ne_eq] at hc103'
      refine rc_seq ?_
      refine rc_region ?_
      refine rd_op (ov_move rfl) ?_
      refine rd_op (v := vi 0) (ov_move rfl) ?_
      refine rd_op (ov_move rfl) ?_
      refine rd_nil ?_
      refine pn_seq ?_
      subst hres
      exact rc_retV (.tmp rfl (.tmp rfl .nil)) (deep_closed (show closed (.tup _) = true from (clL_cons rfl (clL_cons rfl clL_nil)))) rfl
    · replace hres := (ite_f hc103).symm.trans hres
      have hc103' := hc103
      try simp only [Bool.or_eq_true, Bool.or_eq_false_iff, Bool.and_eq_true, Bool.and_eq_false_imp, decide_eq_true_eq, decide_eq_false_iff_not, Bool.not_eq_true', Bool.not_eq_false', Bool.not_eq_true, Bool.not_eq_false, Bool.not_true, Bool.not_false, ne_eq] at hc103'
      refine rc_seq ?_
      refine rc_region ?_
      refine rd_op (ov_move rfl) ?_
      refine rd_op (ov_move rfl) ?_
      refine rd_op (ov_bi rfl (sl_len r0 Try.underlying38 _)) ?_
      refine rd_op (ov_bin rfl rfl i_lss) ?_
      refine rd_op (ov_move rfl) ?_
      refine rd_nil ?_
      refine pn_seq ?_
      refine rc_cond rfl (fun hc104 => ?_) (fun hc104 => ?_)
      · replace hres := (ite_t hc104).symm.trans hres
        have hc104' := hc104
        try simp only [Bool.or_eq_true, Bool.or_eq_false_iff, Bool.and_eq_true, Bool.and_eq_false_imp, decide_eq_true_eq, decide_eq_false_iff_not, Bool.not_eq_true', Bool.not_eq_false', Bool.not_eq_true, Bool.not_eq_false, Bool.not_true, Bool.not_false, ne_eq] at hc104'
        refine rc_seq ?_
        refine rc_region ?_
        refine rd_op (v := vi 0) (ov_move rfl) ?_
        refine rd_op (v := vi 4) (ov_move rfl) ?_
        refine rd_nil ?_
        refine pn_seq ?_
        subst hres
        exact rc_retV (.tmp rfl (.tmp rfl .nil)) (deep_closed (show closed (.tup _) = true from (clL_cons rfl (clL_cons rfl clL_nil)))) rfl
      · replace hres := (ite_f hc104).symm.trans hres
        have hc104' := hc104
        try simp only [Bool.or_eq_true, Bool.or_eq_false_iff, Bool.and_eq_true, Bool.and_eq_false_imp, decide_eq_true_eq, decide_eq_false_iff_not, Bool.not_eq_true', Bool.not_eq_false', Bool.not_eq_true, Bool.not_eq_false, Bool.not_true, Bool.not_false, ne_eq] at hc104'
        refine rc_skip ?_
        refine pn_blk ?_
        refine pn_seq ?_
        refine rc_seq ?_
        refine rc_region ?_
        refine rd_op (ov_move rfl) ?_
        refine rd_op (ov_move rfl) ?_
        refine rd_op (v := vi 0) (ov_move rfl) ?_
        refine rd_nil ?_
        refine pn_seq ?_
        subst hres
        exact rc_retV (.tmp rfl (.tmp rfl .nil)) (deep_closed (show closed (.tup _) = true from (clL_cons rfl (clL_cons rfl clL_nil)))) rfl

/-- patchbay/control.checkNode -/
def RF50 (res : Int) (r : PV) : Prop := r = vi res
theorem control_checkNode_L1_ok {S : List Fr} {res : Int} {x0 : api_Program} {x1 : api_ControlNode} {x2 : List Int} {x13_102 : Bool} {v1 : PV} {v2 : PV} (r1 : api_ControlNode.t.R x1 v1) (r2 : (tSl tI).R x2 v2) (hc103 : x13_102 = true) (hc106 : ((decide (x1.Table < 0)) || (decide ((x0.Tables.length : Int) ≤ x1.Table))) = false) {K1 : Unit → Int}
    (hK1 : ∀ (h : Heap) (M0 : Mem h []), K1 () = res → PX Try.prog 1 S (QR Try.prog [(6, none)] (RF50 res)) [(4, .fp v1)] h) :
    ∀ (m : Nat) (x29_ : Int) (hm1 : m = Int.toNat ((x2.length : Int) - x29_)) (hlo1 : 0 ≤ x29_) (h : Heap) (M0 : Mem h []), control_checkNode_L1 x1 x2 K1 m x29_ = res → RC Try.prog (.loop ac50_L1) S (QR Try.prog [(6, none)] (RF50 res)) [(29, vi x29_), (28, vi (x2.length : Int)), (27, v2), (4, .fp v1)] h := by
  have hc103' := hc103
  try simp only [Bool.or_eq_true, Bool.or_eq_false_iff, Bool.and_eq_true, Bool.and_eq_false_imp, decide_eq_true_eq, decide_eq_false_iff_not, Bool.not_eq_true', Bool.not_eq_false', Bool.not_eq_true, Bool.not_eq_false, Bool.not_true, Bool.not_false, ne_eq] at hc103'
  have hc106' := hc106
  try simp only [Bool.or_eq_true, Bool.or_eq_false_iff, Bool.and_eq_true, Bool.and_eq_false_imp, decide_eq_true_eq, decide_eq_false_iff_not, Bool.not_eq_true', Bool.not_eq_false', Bool.not_eq_true, Bool.not_eq_false, Bool.not_true, Bool.not_false, ne_eq] at hc106'
  intro m
  induction m with
  | zero =>
    intro x29_ hm1 hlo1 h M0 hres
    rw [control_checkNode_L1] at hres
    refine rc_loop ?_
    unfold ac50_L1
    refine rc_seq ?_
    refine rc_region ?_
    refine rd_op (ov_bin rfl rfl i_lss) ?_
    refine rd_nil ?_
    refine pn_seq ?_
    refine rc_seq ?_
    refine rc_cond rfl (fun hc107 => ?_) (fun hc107 => ?_)
    · exfalso
      try simp only [Bool.or_eq_true, Bool.or_eq_false_iff, Bool.and_eq_true, Bool.and_eq_false_imp, decide_eq_true_eq, decide_eq_false_iff_not, Bool.not_eq_true', Bool.not_eq_false', Bool.not_eq_true, Bool.not_eq_false, Bool.not_true, Bool.not_false, ne_eq] at hc107
      omega
    · have hend := hres
      have hc107' := hc107
      try simp only [Bool.or_eq_true, Bool.or_eq_false_iff, Bool.and_eq_true, Bool.and_eq_false_imp, decide_eq_true_eq, decide_eq_false_iff_not, Bool.not_eq_true', Bool.not_eq_false', Bool.not_eq_true, Bool.not_eq_false, Bool.not_true, Bool.not_false, ne_eq] at hc107'
      refine rc_exit ?_
      refine px_seq ?_
      refine px_again ?_
      exact px_weak ((sub_cons rfl (sub_nil _))) (hK1 _ (Mem.sub M0 .slnil) hres)
  | succ m ih =>
    intro x29_ hm1 hlo1 h M0 hres
    rw [control_checkNode_L1] at hres
    refine rc_loop ?_
    unfold ac50_L1
    refine rc_seq ?_
    refine rc_region ?_
    refine rd_op (ov_bin rfl rfl i_lss) ?_
    refine rd_nil ?_
    refine pn_seq ?_
    refine rc_seq ?_
    refine rc_cond rfl (fun hc108 => ?_) (fun hc108 => ?_)
    · have hgo := hres
      have hc108' := hc108
      try simp only [Bool.or_eq_true, Bool.or_eq_false_iff, Bool.and_eq_true, Bool.and_eq_false_imp, decide_eq_true_eq, decide_eq_false_iff_not, Bool.not_eq_true', Bool.not_eq_false', Bool.not_eq_true, Bool.not_eq_false, Bool.not_true, Bool.not_false, ne_eq] at hc108'
      refine rc_skip ?_
      refine pn_seq ?_
      refine rc_seq ?_
      refine rc_block ?_
      refine rc_seq ?_
      refine rc_region ?_
      refine rd_op (ov_iaddr rfl rfl (slI r2 (by omega) (by omega))) ?_
      refine rd_op (ov_load rfl rfl rfl) ?_
      refine rd_op (ov_move rfl) ?_
      refine rd_nil ?_
      refine pn_seq ?_
      refine rc_seq ?_
      refine rc_region ?_
      refine rd_op (ov_move rfl) ?_
      refine rd_op (ov_faddr rfl (api_ControlNode.g_Table r1)) ?_
      refine rd_op (ov_load rfl rfl rfl) ?_
      refine rd_op (ov_bin rfl rfl i_eql) ?_
      refine rd_nil ?_
      refine pn_seq ?_
      refine rc_cond rfl (fun hc109 => ?_) (fun hc109 => ?_)
      · replace hres := (ite_t hc109).symm.trans hres
        have hc109' := hc109
        try simp only [Bool.or_eq_true, Bool.or_eq_false_iff, Bool.and_eq_true, Bool.and_eq_false_imp, decide_eq_true_eq, decide_eq_false_iff_not, Bool.not_eq_true', Bool.not_eq_false', Bool.not_eq_true, Bool.not_eq_false, Bool.not_true, Bool.not_false, ne_eq] at hc109'
        refine rc_seq ?_
        refine rc_region ?_
        refine rd_op (v := vi 7) (ov_move rfl) ?_
        refine rd_nil ?_
        refine pn_seq ?_
        subst hres
        exact rc_retV (.tmp rfl .nil) (deep_closed rfl) rfl
      · replace hres := (ite_f hc109).symm.trans hres
        have hc109' := hc109
        try simp only [Bool.or_eq_true, Bool.or_eq_false_iff, Bool.and_eq_true, Bool.and_eq_false_imp, decide_eq_true_eq, decide_eq_false_iff_not, Bool.not_eq_true', Bool.not_eq_false', Bool.not_eq_true, Bool.not_eq_false, Bool.not_true, Bool.not_false, ne_eq] at hc109'
        refine rc_skip ?_
        refine pn_blk ?_
        refine pn_seq ?_
        refine rc_region ?_
        refine rd_op (ov_bin rfl rfl i_add) ?_
        refine rd_op (ov_move rfl) ?_
        refine rd_nil ?_
        refine pn_again ?_
        have hbd := sl_bound r2
        have hinc : wr (x29_ + 1) = x29_ + 1 := wr_of (by omega) (by omega)
        rw [hinc]
        refine rc_weak ?_ (ih (x29_ + 1)  (by omega) (by omega) _ (Mem.sub M0 .slnil) hres)
        exact ((sub_cons rfl (sub_cons rfl (sub_cons rfl (sub_cons rfl (sub_nil _))))))
    · exfalso
      try simp only [Bool.or_eq_true, Bool.or_eq_false_iff, Bool.and_eq_true, Bool.and_eq_false_imp, decide_eq_true_eq, decide_eq_false_iff_not, Bool.not_eq_true', Bool.not_eq_false', Bool.not_eq_true, Bool.not_eq_false, Bool.not_true, Bool.not_false, ne_eq] at hc108
      omega

theorem f50_ok {x0 : api_Program} {x1 : api_ControlNode} {x2 : List Int} {v0 : PV} {v1 : PV} {v2 : PV} (r0 : api_Program.t.R x0 v0) (r1 : api_ControlNode.t.R x1 v1) (r2 : (tSl tI).R x2 v2) : FnR Try.prog 50 [v0, v1, v2] (vi (control_checkNode x0 x1 x2)) := by
  obtain ⟨res, hres⟩ : ∃ res, control_checkNode x0 x1 x2 = res := ⟨_, rfl⟩
  suffices H : RC Try.prog ac50 [] (QR Try.prog [(6, none)] (RF50 res)) (argE 0 [v0, v1, v2]) ⟨0, []⟩ by
    obtain ⟨r, h1, h2⟩ := fnE text50 (by simp) H
    rw [hres]
    have h2 : r = vi res := h2
    rw [← h2]; exact h1
  unfold control_checkNode at hres
  unfold ac50
  refine rc_seq ?_
  refine rc_region ?_
  refine rd_op (ov_box rfl (TR.cnt api_Program.t r0)) ?_
  refine rd_op (ov_box rfl (TR.cnt api_ControlNode.t r1)) ?_
  refine rd_op (v := vi 0) (ov_move rfl) ?_
  refine rd_nil ?_
  refine pn_seq ?_
  refine rc_seq ?_
  refine rc_seq ?_
  refine rc_region ?_
  refine rd_op (ov_faddr rfl (api_ControlNode.g_Kind r1)) ?_
  refine rd_op (ov_load rfl rfl rfl) ?_
  refine rd_nil ?_
  refine pn_seq ?_
  refine rc_block ?_
  refine rc_seq ?_
  refine rc_seq ?_
  refine rc_region ?_
  refine rd_op (ov_bin rfl rfl i_eql) ?_
  refine rd_op (ov_move rfl) ?_
  refine rd_nil ?_
  refine pn_seq ?_
  obtain ⟨k102, hk102, hres⟩ := let_ex hres
  refine rc_join (F := fun b S Q => ∀ (x13_102 : Bool) (hj102 : Heap) (Mj102 : Mem hj102 []), k102 x13_102 = res → RC Try.prog b S Q [(13, vb x13_102), (12, vi x1.Kind), (4, .fp v1), (3, .fp v0), (2, v2)] hj102) ?_ ?_
  · intro x13_102 hj102 Mj102 hres
    rw [← hk102] at hres
    refine rc_cond rfl (fun hc103 => ?_) (fun hc103 => ?_)
    · replace hres := (ite_t hc103).symm.trans hres
      have hc103' := hc103
      try simp only [Bool.or_eq_true, Bool.or_eq_false_iff, Bool.and_eq_true, Bool.and_eq_false_imp, decide_eq_true_eq, decide_eq_false_iff_not, Bool.not_eq_true', Bool.not_eq_false', Bool.not_eq_true, Bool.not_eq_false, Bool.not_true, Bool.not_false, ne_eq] at hc103'
      refine rc_seq ?_
      refine rc_seq ?_
      refine rc_region ?_
      refine rd_op (ov_faddr rfl (api_ControlNode.g_Table r1)) ?_
      refine rd_op (ov_load rfl rfl rfl) ?_
      refine rd_op (ov_bin rfl rfl i_lss) ?_
      refine rd_op (ov_move rfl) ?_
      refine rd_cut (d := 26) (v := vb ((decide (x1.Table < 0)) || (decide ((x0.Tables.length : Int) ≤ x1.Table)))) ?_ ?_
      · intro S Q r
        simp only [ac50_G1, List.cons_append, List.nil_append, List.append_assoc]
        cases hb104 : (decide (x1.Table < 0))
        · intro k
          have hb104' := hb104
          try simp only [Bool.or_eq_true, Bool.or_eq_false_iff, Bool.and_eq_true, Bool.and_eq_false_imp, decide_eq_true_eq, decide_eq_false_iff_not, Bool.not_eq_true', Bool.not_eq_false', Bool.not_eq_true, Bool.not_eq_false, Bool.not_true, Bool.not_false, ne_eq] at hb104'
          refine rd_yes rfl rfl (ov_faddr rfl (api_ControlNode.g_Table r1)) ?_
          refine rd_yes rfl rfl (ov_load rfl rfl rfl) ?_
          obtain ⟨v105, e105, r105⟩ := api_Program.g_Tables r0
          refine rd_yes rfl rfl (ov_faddr rfl e105) ?_
          refine rd_yes rfl rfl (ov_load rfl (TR.cnt (tSl api_Table.t) r105) (TR.agg (tSl api_Table.t) r105)) ?_
          refine rd_yes rfl rfl (ov_bi rfl (sl_len r105 Try.underlying26 _)) ?_
          refine rd_yes rfl rfl (ov_bin rfl rfl i_geq) ?_
          refine rd_op (v := vb (decide ((x0.Tables.length : Int) ≤ x1.Table))) (ov_pick rfl rfl rfl rfl) ?_
          exact rd_weak (sub_cons rfl (sub_skip rfl (sub_skip rfl (sub_skip rfl (sub_skip rfl (sub_skip rfl (sub_skip rfl (sub_skip rfl (sub_refl _))))))))) k
        · intro k
          refine rd_skip rfl rfl ?_
          refine rd_skip rfl rfl ?_
          refine rd_skip rfl rfl ?_
          refine rd_skip rfl rfl ?_
          refine rd_skip rfl rfl ?_
          refine rd_skip rfl rfl ?_
          refine rd_op (v := vb true) (ov_pick rfl rfl rfl rfl) ?_
          exact rd_weak (sub_cons rfl (sub_skip rfl (sub_skip rfl (sub_skip rfl (sub_skip rfl (sub_skip rfl (sub_skip rfl (sub_skip rfl (sub_refl _))))))))) k
      refine rd_nil ?_
      refine pn_seq ?_
      refine rc_cond rfl (fun hc106 => ?_) (fun hc106 => ?_)
      · replace hres := (ite_t hc106).symm.trans hres
        have hc106' := hc106
        try simp only [Bool.or_eq_true, Bool.or_eq_false_iff, Bool.and_eq_true, Bool.and_eq_false_imp, decide_eq_true_eq, decide_eq_false_iff_not, Bool.not_eq_true', Bool.not_eq_false', Bool.not_eq_true, Bool.not_eq_false, Bool.not_true, Bool.not_false, ne_eq] at hc106'
        refine rc_seq ?_
        refine rc_region ?_
        refine rd_op (v := vi 8) (ov_move rfl) ?_
        refine rd_nil ?_
        refine pn_seq ?_
        subst hres
        exact rc_retV (.tmp rfl .nil) (deep_closed rfl) rfl
      · replace hres := (ite_f hc106).symm.trans hres
        have hc106' := hc106
        try simp only [Bool.or_eq_true, Bool.or_eq_false_iff, Bool.and_eq_true, Bool.and_eq_false_imp, decide_eq_true_eq, decide_eq_false_iff_not, Bool.not_eq_true', Bool.not_eq_false', Bool.not_eq_true, Bool.not_eq_false, Bool.not_true, Bool.not_false, ne_eq] at hc106'
        refine rc_skip ?_
        refine pn_seq ?_
        refine rc_seq ?_
        refine rc_seq ?_
        refine rc_region ?_
        refine rd_op (ov_move rfl) ?_
        refine rd_op (ov_bi rfl (sl_len r2 Try.underlying29 _)) ?_
        refine rd_op (v := vi 0) (ov_move rfl) ?_
        refine rd_nil ?_
        refine pn_seq ?_
        refine rc_block ?_
        refine rc_weak ?_ (control_checkNode_L1_ok (x0 := x0) (x1 := x1) (x2 := x2) (x13_102 := x13_102) (v1 := v1) (v2 := v2)  (r1 := r1) (r2 := r2) (hc103 := hc103) (hc106 := hc106) ?_ (Int.toNat ((x2.length : Int) - 0)) 0 rfl (by omega) _ (Mem.sub Mj102 .slnil) hres)
        · exact ((sub_cons rfl (sub_cons rfl (sub_cons rfl (sub_cons rfl (sub_nil _))))))
        · intro h110 M110 hres
          refine px_blk ?_
          refine pn_seq ?_
          refine rc_seq ?_
          refine rc_region ?_
          refine rd_op (ov_faddr rfl (api_ControlNode.g_Kind r1)) ?_
          refine rd_op (ov_load rfl rfl rfl) ?_
          refine rd_op (ov_bin rfl rfl i_eql) ?_
          refine rd_op (ov_move rfl) ?_
          refine rd_cut (d := 50) (v := vb ((decide (x1.Kind = 1)) && (decide (0 < (wr ((x1.Then.length : Int) + (x1.Else.length : Int))))))) ?_ ?_
          · intro S Q r
            simp only [ac50_G2, List.cons_append, List.nil_append, List.append_assoc]
            cases hb111 : (decide (x1.Kind = 1))
            · intro k
              refine rd_skip rfl rfl ?_
              refine rd_skip rfl rfl ?_
              refine rd_skip rfl rfl ?_
              refine rd_skip rfl rfl ?_
              refine rd_skip rfl rfl ?_
              refine rd_skip rfl rfl ?_
              refine rd_skip rfl rfl ?_
              refine rd_skip rfl rfl ?_
              refine rd_op (v := vb false) (ov_pick rfl rfl rfl rfl) ?_
              exact rd_weak (sub_cons rfl (sub_skip rfl (sub_skip rfl (sub_skip rfl (sub_skip rfl (sub_skip rfl (sub_skip rfl (sub_skip rfl (sub_skip rfl (sub_skip rfl (sub_refl _))))))))))) k
            · intro k
              have hb111' := hb111
              try simp only [Bool.or_eq_true, Bool.or_eq_false_iff, Bool.and_eq_true, Bool.and_eq_false_imp, decide_eq_true_eq, decide_eq_false_iff_not, Bool.not_eq_true', Bool.not_eq_false', Bool.not_eq_true, Bool.not_eq_false, Bool.not_true, Bool.not_false, ne_eq] at hb111'
              obtain ⟨v112, e112, r112⟩ := api_ControlNode.g_Then r1
              refine rd_yes rfl rfl (ov_faddr rfl e112) ?_
              refine rd_yes rfl rfl (ov_load rfl (TR.cnt (tSl api_ControlNode.t) r112) (TR.agg (tSl api_ControlNode.t) r112)) ?_
              refine rd_yes rfl rfl (ov_bi rfl (sl_len r112 Try.underlying28 _)) ?_
              obtain ⟨v113, e113, r113⟩ := api_ControlNode.g_Else r1
              refine rd_yes rfl rfl (ov_faddr rfl e113) ?_
              refine rd_yes rfl rfl (ov_load rfl (TR.cnt (tSl api_ControlNode.t) r113) (TR.agg (tSl api_ControlNode.t) r113)) ?_
              refine rd_yes rfl rfl (ov_bi rfl (sl_len r113 Try.underlying28 _)) ?_
              refine rd_yes rfl rfl (ov_bin rfl rfl i_add) ?_
              refine rd_yes rfl rfl (ov_bin rfl rfl i_gtr) ?_
              refine rd_op (v := vb (decide (0 < (wr ((x1.Then.length : Int) + (x1.Else.length : Int)))))) (ov_pick rfl rfl rfl rfl) ?_
              exact rd_weak (sub_cons rfl (sub_skip rfl (sub_skip rfl (sub_skip rfl (sub_skip rfl (sub_skip rfl (sub_skip rfl (sub_skip rfl (sub_skip rfl (sub_skip rfl (sub_refl _))))))))))) k
          refine rd_nil ?_
          refine pn_seq ?_
          refine rc_cond rfl (fun hc114 => ?_) (fun hc114 => ?_)
          · replace hres := (ite_t hc114).symm.trans hres
            have hc114' := hc114
            try simp only [Bool.or_eq_true, Bool.or_eq_false_iff, Bool.and_eq_true, Bool.and_eq_false_imp, decide_eq_true_eq, decide_eq_false_iff_not, Bool.not_eq_true', Bool.not_eq_false', Bool.not_eq_true, Bool.not_eq_false, Bool.not_true, Bool.not_false, ne_eq] at hc114'
            refine rc_seq ?_
            refine rc_region ?_
            refine rd_op (v := vi 5) (ov_move rfl) ?_
            refine rd_nil ?_
            refine pn_seq ?_
            subst hres
            exact rc_retV (.tmp rfl .nil) (deep_closed rfl) rfl
          · replace hres := (ite_f hc114).symm.trans hres
            have hc114' := hc114
            try simp only [Bool.or_eq_true, Bool.or_eq_false_iff, Bool.and_eq_true, Bool.and_eq_false_imp, decide_eq_true_eq, decide_eq_false_iff_not, Bool.not_eq_true', Bool.not_eq_false', Bool.not_eq_true, Bool.not_eq_false, Bool.not_true, Bool.not_false, ne_eq] at hc114'
            refine rc_skip ?_
            refine pn_blk ?_
            refine pn_seq ?_
            refine rc_seq ?_
            refine rc_region ?_
            refine rd_op (v := vi 0) (ov_move rfl) ?_
            refine rd_nil ?_
            refine pn_seq ?_
            subst hres
            exact rc_retV (.tmp rfl .nil) (deep_closed rfl) rfl
    · replace hres := (ite_f hc103).symm.trans hres
      have hc103' := hc103
      try simp only [Bool.or_eq_true, Bool.or_eq_false_iff, Bool.and_eq_true, Bool.and_eq_false_imp, decide_eq_true_eq, decide_eq_false_iff_not, Bool.not_eq_true', Bool.not_eq_false', Bool.not_eq_true, Bool.not_eq_false, Bool.not_true, Bool.not_false, ne_eq] at hc103'
      refine rc_seq ?_
      refine rc_region ?_
      refine rd_op (ov_bin rfl rfl i_eql) ?_
      refine rd_op (ov_move rfl) ?_
      refine rd_nil ?_
      refine pn_seq ?_
      refine rc_cond rfl (fun hc115 => ?_) (fun hc115 => ?_)
      · replace hres := (ite_t hc115).symm.trans hres
        have hc115' := hc115
        try simp only [Bool.or_eq_true, Bool.or_eq_false_iff, Bool.and_eq_true, Bool.and_eq_false_imp, decide_eq_true_eq, decide_eq_false_iff_not, Bool.not_eq_true', Bool.not_eq_false', Bool.not_eq_true, Bool.not_eq_false, Bool.not_true, Bool.not_false, ne_eq] at hc115'
        refine rc_seq ?_
        refine rc_region ?_
        obtain ⟨v116, e116, r116⟩ := api_ControlNode.g_Cond r1
        refine rd_op (ov_faddr rfl e116) ?_
        refine rd_op (ov_load rfl (TR.cnt (tSl api_ExprNode.t) r116) (TR.agg (tSl api_ExprNode.t) r116)) ?_
        refine rd_op (ov_load rfl (TR.cnt api_Program.t r0) (TR.agg api_Program.t r0)) ?_
        obtain ⟨v117_c1, v117_c2, v117_c3, v117_c4, v117_c5, v117_c6, v117_c7, v117_c8, e117, r117_c1, r117_c2, r117_c3, r117_c4, r117_c5, r117_c6, r117_c7, r117_c8⟩ := r0
        subst e117
        refine rd_op (v := .agg [vs x0.Name, v117_c1, v117_c2, v117_c3, v117_c4, v117_c5, v117_c6, v117_c7, v117_c8, nilS]) (ov_build (cs := [vs x0.Name, v117_c1, v117_c2, v117_c3, v117_c4, v117_c5, v117_c6, v117_c7, v117_c8, nilS]) rfl rfl) ?_
        obtain ⟨y118, hw118, hres⟩ := let_ex hres
        have f118 := f75_ok  r116 (show expr_Scope.t.R ({ Program := x0, Params := ([] : List api_Field) } : expr_Scope) (.agg [vs x0.Name, v117_c1, v117_c2, v117_c3, v117_c4, v117_c5, v117_c6, v117_c7, v117_c8, nilS]) from ⟨v117_c1, v117_c2, v117_c3, v117_c4, v117_c5, v117_c6, v117_c7, v117_c8, nilS, rfl, r117_c1, r117_c2, r117_c3, r117_c4, r117_c5, r117_c6, r117_c7, r117_c8, sl_nil⟩) 
        rw [hw118] at f118
        refine rd_call (cv_fn rfl rfl (clL_cons (TR.clo (tSl api_ExprNode.t) r116) (clL_cons (TR.clo expr_Scope.t (show expr_Scope.t.R ({ Program := x0, Params := ([] : List api_Field) } : expr_Scope) (.agg [vs x0.Name, v117_c1, v117_c2, v117_c3, v117_c4, v117_c5, v117_c6, v117_c7, v117_c8, nilS]) from ⟨v117_c1, v117_c2, v117_c3, v117_c4, v117_c5, v117_c6, v117_c7, v117_c8, nilS, rfl, r117_c1, r117_c2, r117_c3, r117_c4, r117_c5, r117_c6, r117_c7, r117_c8, sl_nil⟩)) clL_nil)) f118) ?_
        refine rd_op (ov_move rfl) ?_
        refine rd_op (ov_extract rfl rfl) ?_
        refine rd_op (ov_extract rfl rfl) ?_
        refine rd_op (ov_move rfl) ?_
        refine rd_op (ov_move rfl) ?_
        refine rd_nil ?_
        refine pn_seq ?_
        refine rc_seq ?_
        refine rc_seq ?_
        refine rc_region ?_
        refine rd_op (ov_move rfl) ?_
        refine rd_op (ov_bin rfl rfl i_neq) ?_
        refine rd_nil ?_
        refine pn_seq ?_
        refine rc_cond rfl (fun hc119 => ?_) (fun hc119 => ?_)
        · replace hres := (ite_t hc119).symm.trans hres
          have hc119' := hc119
          try simp only [Bool.or_eq_true, Bool.or_eq_false_iff, Bool.and_eq_true, Bool.and_eq_false_imp, decide_eq_true_eq, decide_eq_false_iff_not, Bool.not_eq_true', Bool.not_eq_false', Bool.not_eq_true, Bool.not_eq_false, Bool.not_true, Bool.not_false, ne_eq] at hc119'
          refine rc_seq ?_
          refine rc_region ?_
          refine rd_op (ov_move rfl) ?_
          refine rd_op (ov_move rfl) ?_
          refine rd_nil ?_
          refine pn_seq ?_
          subst hres
          exact rc_retV (.tmp rfl .nil) (deep_closed rfl) rfl
        · replace hres := (ite_f hc119).symm.trans hres
          have hc119' := hc119
          try simp only [Bool.or_eq_true, Bool.or_eq_false_iff, Bool.and_eq_true, Bool.and_eq_false_imp, decide_eq_true_eq, decide_eq_false_iff_not, Bool.not_eq_true', Bool.not_eq_false', Bool.not_eq_true, Bool.not_eq_false, Bool.not_true, Bool.not_false, ne_eq] at hc119'
          refine rc_skip ?_
          refine pn_seq ?_
          refine rc_seq ?_
          refine rc_region ?_
          refine rd_op (ov_move rfl) ?_
          refine rd_op (ov_bin rfl rfl i_neq) ?_
          refine rd_nil ?_
          refine pn_seq ?_
          refine rc_cond rfl (fun hc120 => ?_) (fun hc120 => ?_)
          · replace hres := (ite_t hc120).symm.trans hres
            have hc120' := hc120
            try simp only [Bool.or_eq_true, Bool.or_eq_false_iff, Bool.and_eq_true, Bool.and_eq_false_imp, decide_eq_true_eq, decide_eq_false_iff_not, Bool.not_eq_true', Bool.not_eq_false', Bool.not_eq_true, Bool.not_eq_false, Bool.not_true, Bool.not_false, ne_eq] at hc120'
            refine rc_seq ?_
            refine rc_region ?_
            refine rd_op (v := vi 10) (ov_move rfl) ?_
            refine rd_nil ?_
            refine pn_seq ?_
            subst hres
            exact rc_retV (.tmp rfl .nil) (deep_closed rfl) rfl
          · replace hres := (ite_f hc120).symm.trans hres
            have hc120' := hc120
            try simp only [Bool.or_eq_true, Bool.or_eq_false_iff, Bool.and_eq_true, Bool.and_eq_false_imp, decide_eq_true_eq, decide_eq_false_iff_not, Bool.not_eq_true', Bool.not_eq_false', Bool.not_eq_true, Bool.not_eq_false, Bool.not_true, Bool.not_false, ne_eq] at hc120'
            refine rc_skip ?_
            refine pn_blk ?_
            refine pn_seq ?_
            refine rc_seq ?_
            refine rc_region ?_
            refine rd_op (v := vi 0) (ov_move rfl) ?_
            refine rd_nil ?_
            refine pn_seq ?_
            subst hres
            exact rc_retV (.tmp rfl .nil) (deep_closed rfl) rfl
      · replace hres := (ite_f hc115).symm.trans hres
        have hc115' := hc115
        try simp only [Bool.or_eq_true, Bool.or_eq_false_iff, Bool.and_eq_true, Bool.and_eq_false_imp, decide_eq_true_eq, decide_eq_false_iff_not, Bool.not_eq_true', Bool.not_eq_false', Bool.not_eq_true, Bool.not_eq_false, Bool.not_true, Bool.not_false, ne_eq] at hc115'
        refine rc_seq ?_
        refine rc_region ?_
        refine rd_op (v := vi 11) (ov_move rfl) ?_
        refine rd_nil ?_
        refine pn_seq ?_
        subst hres
        exact rc_retV (.tmp rfl .nil) (deep_closed rfl) rfl
  · intro J
    refine rc_cond rfl (fun hc121 => ?_) (fun hc121 => ?_)
    · replace hres := (ite_t hc121).symm.trans hres
      have hc121' := hc121
      try simp only [Bool.or_eq_true, Bool.or_eq_false_iff, Bool.and_eq_true, Bool.and_eq_false_imp, decide_eq_true_eq, decide_eq_false_iff_not, Bool.not_eq_true', Bool.not_eq_false', Bool.not_eq_true, Bool.not_eq_false, Bool.not_true, Bool.not_false, ne_eq] at hc121'
      refine rc_skip ?_
      refine pn_seq (rc_weak ((sub_cons rfl (sub_cons rfl (sub_cons rfl (sub_cons rfl (sub_cons rfl (sub_nil _))))))) (J _ _ (Mem.sub (Mem.nil ⟨0, []⟩) .slnil) hres))
    · replace hres := (ite_f hc121).symm.trans hres
      have hc121' := hc121
      try simp only [Bool.or_eq_true, Bool.or_eq_false_iff, Bool.and_eq_true, Bool.and_eq_false_imp, decide_eq_true_eq, decide_eq_false_iff_not, Bool.not_eq_true', Bool.not_eq_false', Bool.not_eq_true, Bool.not_eq_false, Bool.not_true, Bool.not_false, ne_eq] at hc121'
      refine rc_region ?_
      refine rd_op (ov_bin rfl rfl i_eql) ?_
      refine rd_op (ov_move rfl) ?_
      refine rd_nil ?_
      refine pn_seq (rc_weak ((sub_cons rfl (sub_cons rfl (sub_cons rfl (sub_cons rfl (sub_cons rfl (sub_nil _))))))) (J _ _ (Mem.sub (Mem.nil ⟨0, []⟩) .slnil) hres))

/-- patchbay/control.applies -/
def RF51 (res : Bool) (r : PV) : Prop := r = vb res
theorem f51_ok {x0 : api_ControlNode} {v0 : PV} (r0 : api_ControlNode.t.R x0 v0) : FnR Try.prog 51 [v0] (vb (control_applies x0)) := by
  obtain ⟨res, hres⟩ : ∃ res, control_applies x0 = res := ⟨_, rfl⟩
  suffices H : RC Try.prog ac51 [] (QR Try.prog [(2, none)] (RF51 res)) (argE 0 [v0]) ⟨0, []⟩ by
    obtain ⟨r, h1, h2⟩ := fnE text51 (by simp) H
    rw [hres]
    have h2 : r = vb res := h2
    rw [← h2]; exact h1
  unfold control_applies at hres
  unfold ac51
  refine rc_seq ?_
  refine rc_region ?_
  refine rd_op (ov_box rfl (TR.cnt api_ControlNode.t r0)) ?_
  refine rd_op (v := vb false) (ov_move rfl) ?_
  refine rd_nil ?_
  refine pn_seq ?_
  refine rc_seq ?_
  refine rc_region ?_
  refine rd_op (ov_faddr rfl (api_ControlNode.g_Kind r0)) ?_
  refine rd_op (ov_load rfl rfl rfl) ?_
  refine rd_op (ov_bin rfl rfl i_eql) ?_
  refine rd_op (ov_move rfl) ?_
  refine rd_cut (d := 10) (v := vb ((decide (x0.Kind = 1)) || (decide (x0.Kind = 3)))) ?_ ?_
  · intro S Q r
    simp only [ac51_G1, List.cons_append, List.nil_append, List.append_assoc]
    cases hb101 : (decide (x0.Kind = 1))
    · intro k
      have hb101' := hb101
      try simp only [Bool.or_eq_true, Bool.or_eq_false_iff, Bool.and_eq_true, Bool.and_eq_false_imp, decide_eq_true_eq, decide_eq_false_iff_not, Bool.not_eq_true', Bool.not_eq_false', Bool.not_eq_true, Bool.not_eq_false, Bool.not_true, Bool.not_false, ne_eq] at hb101'
      refine rd_yes rfl rfl (ov_faddr rfl (api_ControlNode.g_Kind r0)) ?_
      refine rd_yes rfl rfl (ov_load rfl rfl rfl) ?_
      refine rd_yes rfl rfl (ov_bin rfl rfl i_eql) ?_
      refine rd_op (v := vb (decide (x0.Kind = 3))) (ov_pick rfl rfl rfl rfl) ?_
      exact rd_weak (sub_cons rfl (sub_skip rfl (sub_skip rfl (sub_skip rfl (sub_skip rfl (sub_refl _)))))) k
    · intro k
      refine rd_skip rfl rfl ?_
      refine rd_skip rfl rfl ?_
      refine rd_skip rfl rfl ?_
      refine rd_op (v := vb true) (ov_pick rfl rfl rfl rfl) ?_
      exact rd_weak (sub_cons rfl (sub_skip rfl (sub_skip rfl (sub_skip rfl (sub_skip rfl (sub_refl _)))))) k
  refine rd_op (ov_move rfl) ?_
  refine rd_nil ?_
  refine pn_seq ?_
  subst hres
  exact rc_retV (.tmp rfl .nil) (deep_closed rfl) rfl

/-- patchbay/control.Check$1 -/
def RF49 (i2_ w2_ i3_ w3_ i4_ w4_ : Nat) (R_ : List Ent) (res : Bool × (List Int) × Int × Int) (r : PV) (h : Heap) : Prop := ∃ aF0_0 : PV, ∃ esF0_0 : List PV, Mem h (⟨.op i2_ w2_ 0, 29, 1, [aF0_0]⟩ :: ⟨aF0_0, 3, 1, esF0_0⟩ :: ⟨.op i3_ w3_ 0, 35, 1, [vi res.2.2.1]⟩ :: ⟨.op i4_ w4_ 0, 3, 1, [vi res.2.2.2]⟩ :: R_) ∧ (All2 tI.R res.2.1 esF0_0) ∧ (isL aF0_0 = true) ∧ (res.2.1.length ≤ 4611686018427387904) ∧ r = vb res.1
theorem f49_ok {x0 : api_ControlNode} {c0 : api_Program} {c1 : List Int} {c2 : Int} {c3 : Int} {v0 : PV} {w0 : PV} {a2__0 : PV} {es2__0 : List PV} {R_ : List Ent} {h_ : Heap} {i2_ w2_ i3_ w3_ i4_ w4_ : Nat} (r0 : api_ControlNode.t.R x0 v0) (rc0 : api_Program.t.R c0 w0) (qs2__0 : All2 tI.R c1 es2__0) (ne2__0 : isL a2__0 = true) (hl2__0 : c1.length ≤ 4611686018427387904) (M_ : Mem h_ (⟨.op i2_ w2_ 0, 29, 1, [a2__0]⟩ :: ⟨a2__0, 3, 1, es2__0⟩ :: ⟨.op i3_ w3_ 0, 35, 1, [vi c2]⟩ :: ⟨.op i4_ w4_ 0, 3, 1, [vi c3]⟩ :: R_)) (hb : c1.length ≤ 1000000) : ∃ r h2_, FnX Try.prog 49 [v0, .fp w0, .op i2_ w2_ 0, .op i3_ w3_ 0, .op i4_ w4_ 0] h_ r h2_ ∧ RF49 i2_ w2_ i3_ w3_ i4_ w4_ R_ (control_Check_1 x0 c0 c1 c2 c3) r h2_ := by
  obtain ⟨res, hres⟩ : ∃ res, control_Check_1 x0 c0 c1 c2 c3 = res := ⟨_, rfl⟩
  suffices H : RC Try.prog ac49 [] (retPost Try.prog [(6, none)] (RF49 i2_ w2_ i3_ w3_ i4_ w4_ R_ res)) (argE 0 [v0, .fp w0, .op i2_ w2_ 0, .op i3_ w3_ 0, .op i4_ w4_ 0]) h_ by
    rw [hres]
    exact fnX text49 (by simp) H
  unfold control_Check_1 at hres
  unfold ac49
  refine rc_seq ?_
  refine rc_region ?_
  refine rd_op (ov_box rfl (TR.cnt api_ControlNode.t r0)) ?_
  refine rd_op (v := vb false) (ov_move rfl) ?_
  refine rd_nil ?_
  refine pn_seq ?_
  refine rc_seq ?_
  refine rc_seq ?_
  refine rc_region ?_
  refine rd_op (ov_load rfl (TR.cnt api_Program.t rc0) (TR.agg api_Program.t rc0)) ?_
  refine rd_op (ov_load rfl (TR.cnt api_ControlNode.t r0) (TR.agg api_ControlNode.t r0)) ?_
  refine rd_op (ov_load0 (k := 0) M_ rfl rfl (mem_one (k := 1) M_ rfl ne2__0).2) ?_
  obtain ⟨v106, d106, r106⟩ := own_sl (P := Try.prog) (k := 1) (t := tI) M_ rfl ne2__0 qs2__0 (Nat.le_trans hl2__0 (by decide))
  obtain ⟨y105, hw105, hres⟩ := let_ex hres
  have f105 := f50_ok  rc0 r0 r106 
  rw [hw105] at f105
  refine rd_call (cv_lend rfl rfl (dl_cons (deep_closed (TR.clo api_Program.t rc0)) (dl_cons (deep_closed (TR.clo api_ControlNode.t r0)) (dl_cons d106 dl_nil))) f105 rfl) ?_
  refine rd_storeO (k := 2) (v := vi y105) M_ rfl rfl rfl rfl (fun h107 M107 => ?_)
  replace M107 : Mem h107 (⟨.op i2_ w2_ 0, 29, 1, [a2__0]⟩ :: ⟨a2__0, 3, 1, es2__0⟩ :: ⟨.op i3_ w3_ 0, 35, 1, [vi y105]⟩ :: ⟨.op i4_ w4_ 0, 3, 1, [vi c3]⟩ :: R_) := M107
  refine rd_nil ?_
  refine pn_seq ?_
  refine rc_seq ?_
  refine rc_region ?_
  refine rd_op (ov_load0 (k := 2) M107 rfl rfl rfl) ?_
  refine rd_op (ov_bin rfl rfl i_neq) ?_
  refine rd_nil ?_
  refine pn_seq ?_
  refine rc_cond rfl (fun hc108 => ?_) (fun hc108 => ?_)
  · replace hres := (ite_t hc108).symm.trans hres
    have hc108' := hc108
    try simp only [Bool.or_eq_true, Bool.or_eq_false_iff, Bool.and_eq_true, Bool.and_eq_false_imp, decide_eq_true_eq, decide_eq_false_iff_not, Bool.not_eq_true', Bool.not_eq_false', Bool.not_eq_true, Bool.not_eq_false, Bool.not_true, Bool.not_false, ne_eq] at hc108'
    refine rc_seq ?_
    refine rc_region ?_
    refine rd_op (v := vb false) (ov_move rfl) ?_
    refine rd_nil ?_
    refine pn_seq ?_
    have MZ109 : Mem h107 (⟨.op i2_ w2_ 0, 29, 1, [a2__0]⟩ :: ⟨a2__0, 3, 1, es2__0⟩ :: ⟨.op i3_ w3_ 0, 35, 1, [vi y105]⟩ :: ⟨.op i4_ w4_ 0, 3, 1, [vi c3]⟩ :: R_) := (Mem.front (k := 3) (Mem.front (k := 3) (Mem.front (k := 3) (Mem.front (k := 3) M107 rfl) rfl) rfl) rfl)
    subst hres
    exact rc_retX (.tmp rfl .nil) ⟨a2__0, es2__0, Mem.sub MZ109 (.cons_cons _ (.cons_cons _ (.cons_cons _ (.cons_cons _ (List.Sublist.refl R_))))), qs2__0, ne2__0, hl2__0, rfl⟩
  · replace hres := (ite_f hc108).symm.trans hres
    have hc108' := hc108
    try simp only [Bool.or_eq_true, Bool.or_eq_false_iff, Bool.and_eq_true, Bool.and_eq_false_imp, decide_eq_true_eq, decide_eq_false_iff_not, Bool.not_eq_true', Bool.not_eq_false', Bool.not_eq_true, Bool.not_eq_false, Bool.not_true, Bool.not_false, ne_eq] at hc108'
    refine rc_skip ?_
    refine pn_seq ?_
    refine rc_seq ?_
    refine rc_seq ?_
    refine rc_region ?_
    refine rd_op (ov_load rfl (TR.cnt api_ControlNode.t r0) (TR.agg api_ControlNode.t r0)) ?_
    obtain ⟨y110, hw110, hres⟩ := let_ex hres
    have f110 := f51_ok  r0 
    rw [hw110] at f110
    refine rd_call (cv_fn rfl rfl (clL_cons (TR.clo api_ControlNode.t r0) clL_nil) f110) ?_
    refine rd_nil ?_
    refine pn_seq ?_
    refine rc_cond rfl (fun hc111 => ?_) (fun hc111 => ?_)
    · replace hres := (ite_t hc111).symm.trans hres
      have hc111' := hc111
      try simp only [Bool.or_eq_true, Bool.or_eq_false_iff, Bool.and_eq_true, Bool.and_eq_false_imp, decide_eq_true_eq, decide_eq_false_iff_not, Bool.not_eq_true', Bool.not_eq_false', Bool.not_eq_true, Bool.not_eq_false, Bool.not_true, Bool.not_false, ne_eq] at hc111'
      refine rc_region ?_
      refine rd_op (ov_load0 (k := 0) M107 rfl rfl (mem_one (k := 1) M107 rfl ne2__0).2) ?_
      refine rd_op (ov_faddr rfl (api_ControlNode.g_Table r0)) ?_
      refine rd_op (ov_load rfl rfl rfl) ?_
      refine rd_op (v := .fs true [vi x0.Table]) (ov_bslice rfl (all_cons rfl all_nil)) ?_
      have r112 : (tSl tI).R ([x0.Table] : List Int) (.fs true [vi x0.Table]) := sl_fs ⟨rfl, trivial⟩ (by simp)
      obtain ⟨nw113, sr113, ar113⟩ := src_of (t := tI) (h := h107) r112
      have f113 : fits (es2__0.length + nw113.length) 8 = true := by rw [All2.length_eq qs2__0, All2.length_eq ar113]; (try simp only [List.length_cons, List.length_nil]); exact fits_of (by first | omega | (simp only [List.length_append, List.length_cons, List.length_nil] at *; omega)) (by first | omega | (simp only [List.length_append, List.length_cons, List.length_nil] at *; omega))
      refine rd_appO (k := 1) (es := es2__0) (news := nw113) M107 rfl rfl rfl ne2__0 sr113 f113 (fun a113 h113 n113 M113 => ?_)
      have q113 : All2 tI.R (c1 ++ ([x0.Table] : List Int)) (es2__0 ++ nw113) := All2.app qs2__0 ar113
      have hl113 : (c1 ++ ([x0.Table] : List Int)).length ≤ 4611686018427387904 := by rw [← All2.length_eq q113, List.length_append]; exact fits_len f113
      refine rd_storeO (k := 0) (v := a113) M113 rfl rfl rfl (mem_cnt1 (k := 1) M113 rfl n113) (fun h114 M114 => ?_)
      replace M114 : Mem h114 (⟨.op i2_ w2_ 0, 29, 1, [a113]⟩ :: ⟨a113, 3, 1, (es2__0 ++ nw113)⟩ :: ⟨.op i3_ w3_ 0, 35, 1, [vi y105]⟩ :: ⟨.op i4_ w4_ 0, 3, 1, [vi c3]⟩ :: R_) := M114
      refine rd_nil ?_
      refine pn_seq ?_
      refine rc_seq ?_
      refine rc_region ?_
      refine rd_op (ov_load0 (k := 3) M114 rfl rfl rfl) ?_
      refine rd_op (ov_bin rfl rfl i_add) ?_
      refine rd_storeO (k := 3) (v := vi (wr (c3 + 1))) M114 rfl rfl rfl rfl (fun h115 M115 => ?_)
      replace M115 : Mem h115 (⟨.op i2_ w2_ 0, 29, 1, [a113]⟩ :: ⟨a113, 3, 1, (es2__0 ++ nw113)⟩ :: ⟨.op i3_ w3_ 0, 35, 1, [vi y105]⟩ :: ⟨.op i4_ w4_ 0, 3, 1, [vi (wr (c3 + 1))]⟩ :: R_) := M115
      refine rd_nil ?_
      refine pn_seq ?_
      refine rc_seq ?_
      refine rc_region ?_
      refine rd_op (v := vb true) (ov_move rfl) ?_
      refine rd_nil ?_
      refine pn_seq ?_
      have MZ116 : Mem h115 (⟨.op i2_ w2_ 0, 29, 1, [a113]⟩ :: ⟨a113, 3, 1, (es2__0 ++ nw113)⟩ :: ⟨.op i3_ w3_ 0, 35, 1, [vi y105]⟩ :: ⟨.op i4_ w4_ 0, 3, 1, [vi (wr (c3 + 1))]⟩ :: R_) := (Mem.front (k := 3) (Mem.front (k := 3) (Mem.front (k := 3) (Mem.front (k := 3) M115 rfl) rfl) rfl) rfl)
      subst hres
      exact rc_retX (.tmp rfl .nil) ⟨a113, (es2__0 ++ nw113), Mem.sub MZ116 (.cons_cons _ (.cons_cons _ (.cons_cons _ (.cons_cons _ (List.Sublist.refl R_))))), q113, n113, hl113, rfl⟩
    · replace hres := (ite_f hc111).symm.trans hres
      have hc111' := hc111
      try simp only [Bool.or_eq_true, Bool.or_eq_false_iff, Bool.and_eq_true, Bool.and_eq_false_imp, decide_eq_true_eq, decide_eq_false_iff_not, Bool.not_eq_true', Bool.not_eq_false', Bool.not_eq_true, Bool.not_eq_false, Bool.not_true, Bool.not_false, ne_eq] at hc111'
      refine rc_skip ?_
      refine pn_seq ?_
      refine rc_seq ?_
      refine rc_region ?_
      refine rd_op (ov_load0 (k := 3) M107 rfl rfl rfl) ?_
      refine rd_op (ov_bin rfl rfl i_add) ?_
      refine rd_storeO (k := 3) (v := vi (wr (c3 + 1))) M107 rfl rfl rfl rfl (fun h117 M117 => ?_)
      replace M117 : Mem h117 (⟨.op i2_ w2_ 0, 29, 1, [a2__0]⟩ :: ⟨a2__0, 3, 1, es2__0⟩ :: ⟨.op i3_ w3_ 0, 35, 1, [vi y105]⟩ :: ⟨.op i4_ w4_ 0, 3, 1, [vi (wr (c3 + 1))]⟩ :: R_) := M117
      refine rd_nil ?_
      refine pn_seq ?_
      refine rc_seq ?_
      refine rc_region ?_
      refine rd_op (v := vb true) (ov_move rfl) ?_
      refine rd_nil ?_
      refine pn_seq ?_
      have MZ118 : Mem h117 (⟨.op i2_ w2_ 0, 29, 1, [a2__0]⟩ :: ⟨a2__0, 3, 1, es2__0⟩ :: ⟨.op i3_ w3_ 0, 35, 1, [vi y105]⟩ :: ⟨.op i4_ w4_ 0, 3, 1, [vi (wr (c3 + 1))]⟩ :: R_) := (Mem.front (k := 3) (Mem.front (k := 3) (Mem.front (k := 3) (Mem.front (k := 3) M117 rfl) rfl) rfl) rfl)
      subst hres
      exact rc_retX (.tmp rfl .nil) ⟨a2__0, es2__0, Mem.sub MZ118 (.cons_cons _ (.cons_cons _ (.cons_cons _ (.cons_cons _ (List.Sublist.refl R_))))), qs2__0, ne2__0, hl2__0, rfl⟩
def ME49 (i2_ w2_ i3_ w3_ i4_ w4_ : Nat) (k_ : Nat) (s_ : (List Int) × Int × Int) (L_ : List Ent) : Prop := (∃ aV0_0 : PV, ∃ esV0_0 : List PV, L_ = (⟨.op i2_ w2_ 0, 29, 1, [aV0_0]⟩ :: ⟨aV0_0, 3, 1, esV0_0⟩ :: ⟨.op i3_ w3_ 0, 35, 1, [vi s_.2.1]⟩ :: ⟨.op i4_ w4_ 0, 3, 1, [vi s_.2.2]⟩ :: []) ∧ (All2 tI.R s_.1 esV0_0) ∧ (isL aV0_0 = true) ∧ (s_.1.length ≤ 4611686018427387904)) ∧ (s_.1.length + k_ ≤ 1000000)
theorem mono49 (i2_ w2_ i3_ w3_ i4_ w4_ : Nat) : ∀ k_ s_ L_, ME49 i2_ w2_ i3_ w3_ i4_ w4_ (k_ + 1) s_ L_ → ME49 i2_ w2_ i3_ w3_ i4_ w4_ k_ s_ L_ := fun k_ s_ L_ h_ => ⟨h_.1, by have hi_ := h_.2; omega⟩
theorem hv49 {c0 : api_Program} {w0 : PV} {i2_ w2_ i3_ w3_ i4_ w4_ : Nat} (rc0 : api_Program.t.R c0 w0) : VIS Try.prog 49 [.fp w0, .op i2_ w2_ 0, .op i3_ w3_ 0, .op i4_ w4_ 0] (fun a_ s_ => control_Check_1 a_ c0 s_.1 s_.2.1 s_.2.2) (ME49 i2_ w2_ i3_ w3_ i4_ w4_) (fun _ => True) := by
  intro k_ a_ va_ s_ L_ R_ h_ hg_ ra_ hE_ M_
  obtain ⟨⟨aV0_0, esV0_0, hL_, qsV0_0, neV0_0, hlV0_0⟩, hi_⟩ := hE_
  subst hL_
  obtain ⟨r_, h2_, hX_, hZ_⟩ := f49_ok (x0 := a_) (c0 := c0) (c1 := s_.1) (c2 := s_.2.1) (c3 := s_.2.2) ra_ rc0 qsV0_0 neV0_0 hlV0_0 M_ (by omega)
  obtain ⟨aV0_0n, esV0_0n, M2_, qsV0_0n, neV0_0n, hlV0_0n, hr_⟩ := hZ_
  subst hr_
  exact ⟨h2_, _, hX_, ⟨⟨aV0_0n, esV0_0n, rfl, qsV0_0n, neV0_0n, hlV0_0n⟩, by (have hk := check_step a_ c0 s_.1 s_.2.1 s_.2.2; show (control_Check_1 a_ c0 s_.1 s_.2.1 s_.2.2).2.1.length + k_ ≤ 1000000; omega)⟩, M2_⟩

/-- patchbay/control.Check -/
def RF16 (res : Int × Int) (r : PV) : Prop := r = .tup [vi res.1, vi res.2]
theorem f16_ok {x0 : api_Program} {v0 : PV} (r0 : api_Program.t.R x0 v0) (hs : csl x0.Control ≤ 1000) : FnR Try.prog 16 [v0] (.tup [vi ((control_Check x0).1), vi ((control_Check x0).2)]) := by
  obtain ⟨res, hres⟩ : ∃ res, control_Check x0 = res := ⟨_, rfl⟩
  suffices H : RC Try.prog ac16 [] (QR Try.prog [(2, none), (3, some (1, false))] (RF16 res)) (argE 0 [v0]) ⟨0, []⟩ by
    obtain ⟨r, h1, h2⟩ := fnE text16 (by simp) H
    rw [hres]
    have h2 : r = .tup [vi res.1, vi res.2] := h2
    rw [← h2]; exact h1
  unfold control_Check at hres
  unfold ac16
  refine rc_seq ?_
  refine rc_region ?_
  refine rd_op (ov_box rfl (TR.cnt api_Program.t r0)) ?_
  refine rd_op (v := vi 0) (ov_move rfl) ?_
  refine rd_allocO (x := vi 0) (Mem.nil ⟨0, []⟩) rfl rfl (fun i101 w101 h101 M101 => ?_)
  refine rd_nil ?_
  refine pn_seq ?_
  refine rc_seq ?_
  refine rc_seq ?_
  refine rc_region ?_
  obtain ⟨v103, e103, r103⟩ := api_Program.g_Control r0
  refine rd_op (ov_faddr rfl e103) ?_
  refine rd_op (ov_load rfl (TR.cnt (tSl api_ControlNode.t) r103) (TR.agg (tSl api_ControlNode.t) r103)) ?_
  obtain ⟨y104, hw104, hres⟩ := let_ex hres
  have f104 := f20_ok  r103 
  rw [hw104] at f104
  refine rd_call (cv_fn rfl rfl (clL_cons (TR.clo (tSl api_ControlNode.t) r103) clL_nil) f104) ?_
  refine rd_op (ov_bin rfl rfl i_gtr) ?_
  refine rd_nil ?_
  refine pn_seq ?_
  refine rc_cond rfl (fun hc105 => ?_) (fun hc105 => ?_)
  · replace hres := (ite_t hc105).symm.trans hres
    have hc105' := hc105
    try simp only [Bool.or_eq_true, Bool.or_eq_false_iff, Bool.and_eq_true, Bool.and_eq_false_imp, decide_eq_true_eq, decide_eq_false_iff_not, Bool.not_eq_true', Bool.not_eq_false', Bool.not_eq_true, Bool.not_eq_false, Bool.not_true, Bool.not_false, ne_eq] at hc105'
    refine rc_seq ?_
    refine rc_region ?_
    refine rd_op (v := vi (-1)) (ov_move rfl) ?_
    refine rd_storeO (k := 0) (v := vi 12) M101 rfl rfl rfl rfl (fun h106 M106 => ?_)
    replace M106 : Mem h106 [⟨.op i101 w101 0, 35, 1, [vi 12]⟩] := M106
    refine rd_nil ?_
    refine pn_seq ?_
    subst hres
    exact rc_retV (.tmp rfl (.cell rfl (load_whole (k := 0) M106 rfl rfl) .nil)) (deep_closed (show closed (.tup _) = true from (clL_cons rfl (clL_cons rfl clL_nil)))) rfl
  · replace hres := (ite_f hc105).symm.trans hres
    have hc105' := hc105
    try simp only [Bool.or_eq_true, Bool.or_eq_false_iff, Bool.and_eq_true, Bool.and_eq_false_imp, decide_eq_true_eq, decide_eq_false_iff_not, Bool.not_eq_true', Bool.not_eq_false', Bool.not_eq_true, Bool.not_eq_false, Bool.not_true, Bool.not_false, ne_eq] at hc105'
    refine rc_skip ?_
    refine pn_seq ?_
    refine rc_seq ?_
    refine rc_seq ?_
    refine rc_region ?_
    obtain ⟨v107, e107, r107⟩ := api_Program.g_Control r0
    refine rd_op (ov_faddr rfl e107) ?_
    refine rd_op (ov_load rfl (TR.cnt (tSl api_ControlNode.t) r107) (TR.agg (tSl api_ControlNode.t) r107)) ?_
    obtain ⟨y108, hw108, hres⟩ := let_ex hres
    have f108 := f22_ok  r107 
    rw [hw108] at f108
    refine rd_call (cv_fn rfl rfl (clL_cons (TR.clo (tSl api_ControlNode.t) r107) clL_nil) f108) ?_
    refine rd_op (ov_bin rfl rfl i_gtr) ?_
    refine rd_nil ?_
    refine pn_seq ?_
    refine rc_cond rfl (fun hc109 => ?_) (fun hc109 => ?_)
    · replace hres := (ite_t hc109).symm.trans hres
      have hc109' := hc109
      try simp only [Bool.or_eq_true, Bool.or_eq_false_iff, Bool.and_eq_true, Bool.and_eq_false_imp, decide_eq_true_eq, decide_eq_false_iff_not, Bool.not_eq_true', Bool.not_eq_false', Bool.not_eq_true, Bool.not_eq_false, Bool.not_true, Bool.not_false, ne_eq] at hc109'
      refine rc_seq ?_
      refine rc_region ?_
      refine rd_op (v := vi (-1)) (ov_move rfl) ?_
      refine rd_storeO (k := 0) (v := vi 14) M101 rfl rfl rfl rfl (fun h110 M110 => ?_)
      replace M110 : Mem h110 [⟨.op i101 w101 0, 35, 1, [vi 14]⟩] := M110
      refine rd_nil ?_
      refine pn_seq ?_
      subst hres
      exact rc_retV (.tmp rfl (.cell rfl (load_whole (k := 0) M110 rfl rfl) .nil)) (deep_closed (show closed (.tup _) = true from (clL_cons rfl (clL_cons rfl clL_nil)))) rfl
    · replace hres := (ite_f hc109).symm.trans hres
      have hc109' := hc109
      try simp only [Bool.or_eq_true, Bool.or_eq_false_iff, Bool.and_eq_true, Bool.and_eq_false_imp, decide_eq_true_eq, decide_eq_false_iff_not, Bool.not_eq_true', Bool.not_eq_false', Bool.not_eq_true, Bool.not_eq_false, Bool.not_true, Bool.not_false, ne_eq] at hc109'
      refine rc_skip ?_
      refine pn_seq ?_
      refine rc_seq ?_
      refine rc_region ?_
      refine rd_allocO (x := vi 0) M101 rfl rfl (fun i111 w111 h111 M111 => ?_)
      refine rd_storeO (k := 0) (v := vi 0) M111 rfl rfl rfl rfl (fun h113 M113 => ?_)
      replace M113 : Mem h113 [⟨.op i111 w111 0, 3, 1, [vi 0]⟩, ⟨.op i101 w101 0, 35, 1, [vi 0]⟩] := M113
      refine rd_nil ?_
      refine pn_seq ?_
      refine rc_seq ?_
      refine rc_region ?_
      refine rd_allocO (x := nilS) M113 rfl rfl (fun i114 w114 h114 M114 => ?_)
      refine rd_nil ?_
      refine pn_seq ?_
      refine rc_seq ?_
      refine rc_regionS ?_
      refine rs_step ?_
      obtain ⟨v117, e117, r117⟩ := api_Program.g_Control r0
      refine rd_op (ov_faddr rfl e117) ?_
      refine rs_back ?_
      refine rs_step ?_
      refine rd_op (ov_load rfl (TR.cnt (tSl api_ControlNode.t) r117) (TR.agg (tSl api_ControlNode.t) r117)) ?_
      refine rs_back ?_
      refine rs_step ?_
      refine rd_op (v := .fn (.func 49) [] [.fp v0, .op i114 w114 0, .op i101 w101 0, .op i111 w111 0]) (ov_mkFunc rfl rfl) ?_
      refine rs_back ?_
      have M119 := mem_acc (sz := 1) (es := []) M114 3 (.inl ⟨none, rfl, rfl⟩) (by simp)
      have M118 : Mem h114 [⟨.op i114 w114 0, 29, 1, [nilS]⟩, ⟨nilS, 3, 1, ([] : List PV)⟩, ⟨.op i101 w101 0, 35, 1, [vi 0]⟩, ⟨.op i111 w111 0, 3, 1, [vi 0]⟩] := (Mem.front (k := 3) (Mem.front (k := 2) (Mem.front (k := 3) (Mem.front (k := 2) M119 rfl) rfl) rfl) rfl)
      obtain ⟨y118, hw118, hres⟩ := let_ex hres
      obtain ⟨h118, L118, hX118, hE118, M118v⟩ : ∃ h2 L2, FnX Try.prog 48 [v117, .fn (.func 49) [] [.fp v0, .op i114 w114 0, .op i101 w101 0, .op i111 w111 0]] h114 (vb y118.1) h2 ∧ ME49 i114 w114 i101 w101 i111 w111 0 y118.2 L2 ∧ Mem h2 (L2 ++ []) := by
        rw [← hw118]
        exact f48_pre (mono49 i114 w114 i101 w101 i111 w111) (hv49 (c0 := x0) r0 ) _ _ (Nat.lt_succ_self _) (by exact fun _ _ => trivial) 0 _ (([] : List Int), 0, 0) [⟨.op i114 w114 0, 29, 1, [nilS]⟩, ⟨nilS, 3, 1, ([] : List PV)⟩, ⟨.op i101 w101 0, 35, 1, [vi 0]⟩, ⟨.op i111 w111 0, 3, 1, [vi 0]⟩] [] _ r117 (show ME49 i114 w114 i101 w101 i111 w111 (csl x0.Control + 0) (([] : List Int), 0, 0) [⟨.op i114 w114 0, 29, 1, [nilS]⟩, ⟨nilS, 3, 1, ([] : List PV)⟩, ⟨.op i101 w101 0, 35, 1, [vi 0]⟩, ⟨.op i111 w111 0, 3, 1, [vi 0]⟩] from ⟨⟨nilS, ([] : List PV), rfl, (show All2 tI.R ([] : List Int) [] from trivial), rfl, (by decide)⟩, by (simp; omega)⟩) M118
      obtain ⟨⟨a118_0_0, es118_0_0, hL118, qs118_0_0, ne118_0_0, hl118_0_0⟩, hi118⟩ := hE118
      subst hL118
      replace M118v : Mem h118 [⟨.op i114 w114 0, 29, 1, [a118_0_0]⟩, ⟨a118_0_0, 3, 1, es118_0_0⟩, ⟨.op i101 w101 0, 35, 1, [vi y118.2.2.1]⟩, ⟨.op i111 w111 0, 3, 1, [vi y118.2.2.2]⟩] := M118v
      refine rs_callX rfl rfl hX118 ?_
      refine rs_nil ?_
      refine pn_seq ?_
      refine rc_seq ?_
      refine rc_seq ?_
      refine rc_region ?_
      refine rd_op (ov_load0 (k := 2) M118v rfl rfl rfl) ?_
      refine rd_op (ov_bin rfl rfl i_neq) ?_
      refine rd_nil ?_
      refine pn_seq ?_
      refine rc_cond rfl (fun hc121 => ?_) (fun hc121 => ?_)
      · replace hres := (ite_t hc121).symm.trans hres
        have hc121' := hc121
        try simp only [Bool.or_eq_true, Bool.or_eq_false_iff, Bool.and_eq_true, Bool.and_eq_false_imp, decide_eq_true_eq, decide_eq_false_iff_not, Bool.not_eq_true', Bool.not_eq_false', Bool.not_eq_true, Bool.not_eq_false, Bool.not_true, Bool.not_false, ne_eq] at hc121'
        refine rc_seq ?_
        refine rc_region ?_
        refine rd_op (ov_load0 (k := 3) M118v rfl rfl rfl) ?_
        refine rd_op (ov_load0 (k := 2) M118v rfl rfl rfl) ?_
        refine rd_op (ov_move rfl) ?_
        refine rd_storeO (k := 2) (v := vi y118.2.2.1) M118v rfl rfl rfl rfl (fun h122 M122 => ?_)
        replace M122 : Mem h122 [⟨.op i114 w114 0, 29, 1, [a118_0_0]⟩, ⟨a118_0_0, 3, 1, es118_0_0⟩, ⟨.op i101 w101 0, 35, 1, [vi y118.2.2.1]⟩, ⟨.op i111 w111 0, 3, 1, [vi y118.2.2.2]⟩] := M122
        refine rd_nil ?_
        refine pn_seq ?_
        subst hres
        exact rc_retV (.tmp rfl (.cell rfl (load_whole (k := 2) M122 rfl rfl) .nil)) (deep_closed (show closed (.tup _) = true from (clL_cons rfl (clL_cons rfl clL_nil)))) rfl
      · replace hres := (ite_f hc121).symm.trans hres
        have hc121' := hc121
        try simp only [Bool.or_eq_true, Bool.or_eq_false_iff, Bool.and_eq_true, Bool.and_eq_false_imp, decide_eq_true_eq, decide_eq_false_iff_not, Bool.not_eq_true', Bool.not_eq_false', Bool.not_eq_true, Bool.not_eq_false, Bool.not_true, Bool.not_false, ne_eq] at hc121'
        refine rc_skip ?_
        refine pn_seq ?_
        refine rc_seq ?_
        refine rc_region ?_
        refine rd_op (v := vi 0) (ov_move rfl) ?_
        refine rd_storeO (k := 2) (v := vi 0) M118v rfl rfl rfl rfl (fun h123 M123 => ?_)
        replace M123 : Mem h123 [⟨.op i114 w114 0, 29, 1, [a118_0_0]⟩, ⟨a118_0_0, 3, 1, es118_0_0⟩, ⟨.op i101 w101 0, 35, 1, [vi 0]⟩, ⟨.op i111 w111 0, 3, 1, [vi y118.2.2.2]⟩] := M123
        refine rd_nil ?_
        refine pn_seq ?_
        subst hres
        exact rc_retV (.tmp rfl (.cell rfl (load_whole (k := 2) M123 rfl rfl) .nil)) (deep_closed (show closed (.tup _) = true from (clL_cons rfl (clL_cons rfl clL_nil)))) rfl

/-- patchbay/patchbayref20.Count -/
def RF21 (res : Int) (r : PV) : Prop := r = vi res
theorem ref20_Count_L1_ok {S : List Fr} {res : Int} {x0 : List api_ControlNode} {rec_ : (List api_ControlNode) → Int} {mu_ : Nat} {v0 : PV} (r0 : (tSl api_ControlNode.t).R x0 v0) (ihR : ∀ {z0 : List api_ControlNode} {zv0 : PV} (zr0 : (tSl api_ControlNode.t).R z0 zv0), csl z0 < mu_ → FnR Try.prog 21 [zv0] (vi (rec_ z0))) (hmu : mu_ = csl x0) {K0 : Int → Int}
    (hK0 : ∀ (x3_ : Int), K0 x3_ = res → PX Try.prog 0 S (QR Try.prog [(2, none)] (RF21 res)) [(3, vi x3_)] ⟨0, []⟩) :
    ∀ (m : Nat) (x3_ : Int) (x4_ : Int) (hm1 : m = Int.toNat ((x0.length : Int) - x4_)) (hlo1 : 0 ≤ x4_), ref20_Count_L1 x0 rec_ K0 m x3_ x4_ = res → RC Try.prog (.loop ac21_L1) S (QR Try.prog [(2, none)] (RF21 res)) [(4, vi x4_), (3, vi x3_), (0, v0)] ⟨0, []⟩ := by
  intro m
  induction m with
  | zero =>
    intro x3_ x4_ hm1 hlo1 hres
    rw [ref20_Count_L1] at hres
    refine rc_loop ?_
    unfold ac21_L1
    refine rc_seq ?_
    refine rc_seq ?_
    refine rc_region ?_
    refine rd_op (ov_move rfl) ?_
    refine rd_op (ov_move rfl) ?_
    refine rd_op (ov_bi rfl (sl_len r0 Try.underlying28 _)) ?_
    refine rd_op (ov_bin rfl rfl i_lss) ?_
    refine rd_nil ?_
    refine pn_seq ?_
    refine rc_cond rfl (fun hc101 => ?_) (fun hc101 => ?_)
    · exfalso
      try simp only [Bool.or_eq_true, Bool.or_eq_false_iff, Bool.and_eq_true, Bool.and_eq_false_imp, decide_eq_true_eq, decide_eq_false_iff_not, Bool.not_eq_true', Bool.not_eq_false', Bool.not_eq_true, Bool.not_eq_false, Bool.not_true, Bool.not_false, ne_eq] at hc101
      omega
    · have hend := hres
      have hc101' := hc101
      try simp only [Bool.or_eq_true, Bool.or_eq_false_iff, Bool.and_eq_true, Bool.and_eq_false_imp, decide_eq_true_eq, decide_eq_false_iff_not, Bool.not_eq_true', Bool.not_eq_false', Bool.not_eq_true, Bool.not_eq_false, Bool.not_true, Bool.not_false, ne_eq] at hc101'
      refine rc_exit ?_
      refine px_seq ?_
      refine px_again ?_
      exact px_weak ((sub_cons rfl (sub_nil _))) (hK0 x3_ hres)
  | succ m ih =>
    intro x3_ x4_ hm1 hlo1 hres
    rw [ref20_Count_L1] at hres
    refine rc_loop ?_
    unfold ac21_L1
    refine rc_seq ?_
    refine rc_seq ?_
    refine rc_region ?_
    refine rd_op (ov_move rfl) ?_
    refine rd_op (ov_move rfl) ?_
    refine rd_op (ov_bi rfl (sl_len r0 Try.underlying28 _)) ?_
    refine rd_op (ov_bin rfl rfl i_lss) ?_
    refine rd_nil ?_
    refine pn_seq ?_
    refine rc_cond rfl (fun hc102 => ?_) (fun hc102 => ?_)
    · have hgo := hres
      have hc102' := hc102
      try simp only [Bool.or_eq_true, Bool.or_eq_false_iff, Bool.and_eq_true, Bool.and_eq_false_imp, decide_eq_true_eq, decide_eq_false_iff_not, Bool.not_eq_true', Bool.not_eq_false', Bool.not_eq_true, Bool.not_eq_false, Bool.not_true, Bool.not_false, ne_eq] at hc102'
      refine rc_skip ?_
      refine pn_seq ?_
      refine rc_seq ?_
      refine rc_block ?_
      refine rc_region ?_
      refine rd_op (ov_move rfl) ?_
      refine rd_op (ov_move rfl) ?_
      refine rd_op (ov_move rfl) ?_
      obtain ⟨v103, e103, r103⟩ := sl_idx (i := x4_) r0 (by omega) (by omega)
      refine rd_op (ov_iaddr rfl rfl e103) ?_
      obtain ⟨v104, e104, r104⟩ := api_ControlNode.g_Then r103
      refine rd_op (ov_faddr rfl e104) ?_
      refine rd_op (ov_load rfl (TR.cnt (tSl api_ControlNode.t) r104) (TR.agg (tSl api_ControlNode.t) r104)) ?_
      obtain ⟨y105, hw105, hres⟩ := let_ex hres
      have f105 := ihR (z0 := (ix x0 x4_).Then) r104  (by (have hk := csl_ix (l := x0) (by omega) (by omega); omega))
      rw [hw105] at f105
      refine rd_call (cv_fn rfl rfl (clL_cons (TR.clo (tSl api_ControlNode.t) r104) clL_nil) f105) ?_
      refine rd_op (ov_bin rfl rfl i_add) ?_
      refine rd_op (ov_move rfl) ?_
      refine rd_op (ov_move rfl) ?_
      obtain ⟨v106, e106, r106⟩ := sl_idx (i := x4_) r0 (by omega) (by omega)
      refine rd_op (ov_iaddr rfl rfl e106) ?_
      obtain ⟨v107, e107, r107⟩ := api_ControlNode.g_Else r106
      refine rd_op (ov_faddr rfl e107) ?_
      refine rd_op (ov_load rfl (TR.cnt (tSl api_ControlNode.t) r107) (TR.agg (tSl api_ControlNode.t) r107)) ?_
      obtain ⟨y108, hw108, hres⟩ := let_ex hres
      have f108 := ihR (z0 := (ix x0 x4_).Else) r107  (by (have hk := csl_ix (l := x0) (by omega) (by omega); omega))
      rw [hw108] at f108
      refine rd_call (cv_fn rfl rfl (clL_cons (TR.clo (tSl api_ControlNode.t) r107) clL_nil) f108) ?_
      refine rd_op (ov_bin rfl rfl i_add) ?_
      refine rd_op (ov_bin rfl rfl i_add) ?_
      refine rd_op (ov_move rfl) ?_
      refine rd_nil ?_
      refine pn_blk ?_
      refine pn_seq ?_
      refine rc_region ?_
      refine rd_op (ov_move rfl) ?_
      refine rd_op (ov_bin rfl rfl i_add) ?_
      refine rd_op (ov_move rfl) ?_
      refine rd_nil ?_
      refine pn_again ?_
      have hbd := sl_bound r0
      have hinc : wr (x4_ + 1) = x4_ + 1 := wr_of (by omega) (by omega)
      rw [hinc]
      refine rc_weak ?_ (ih (wr (x3_ + (wr ((wr (1 + y105)) + y108)))) (x4_ + 1)  (by omega) (by omega) hres)
      exact ((sub_cons rfl (sub_cons rfl (sub_cons rfl (sub_nil _)))))
    · exfalso
      try simp only [Bool.or_eq_true, Bool.or_eq_false_iff, Bool.and_eq_true, Bool.and_eq_false_imp, decide_eq_true_eq, decide_eq_false_iff_not, Bool.not_eq_true', Bool.not_eq_false', Bool.not_eq_true, Bool.not_eq_false, Bool.not_true, Bool.not_false, ne_eq] at hc102
      omega

theorem f21_okB {rec_ : (List api_ControlNode) → Int} {mu_ : Nat} {x0 : List api_ControlNode} {v0 : PV} (r0 : (tSl api_ControlNode.t).R x0 v0) (hmu : mu_ = csl x0) (ihR : ∀ {z0 : List api_ControlNode} {zv0 : PV} (zr0 : (tSl api_ControlNode.t).R z0 zv0), csl z0 < mu_ → FnR Try.prog 21 [zv0] (vi (rec_ z0))) : FnR Try.prog 21 [v0] (vi (ref20_Count_B rec_ x0)) := by
  obtain ⟨res, hres⟩ : ∃ res, ref20_Count_B rec_ x0 = res := ⟨_, rfl⟩
  suffices H : RC Try.prog ac21 [] (QR Try.prog [(2, none)] (RF21 res)) (argE 0 [v0]) ⟨0, []⟩ by
    obtain ⟨r, h1, h2⟩ := fnE text21 (by simp) H
    rw [hres]
    have h2 : r = vi res := h2
    rw [← h2]; exact h1
  unfold ref20_Count_B at hres
  unfold ac21
  refine rc_seq ?_
  refine rc_region ?_
  refine rd_op (v := vi 0) (ov_move rfl) ?_
  refine rd_nil ?_
  refine pn_seq ?_
  refine rc_seq ?_
  refine rc_region ?_
  refine rd_op (v := vi 0) (ov_move rfl) ?_
  refine rd_nil ?_
  refine pn_seq ?_
  refine rc_seq ?_
  refine rc_seq ?_
  refine rc_region ?_
  refine rd_op (v := vi 0) (ov_move rfl) ?_
  refine rd_nil ?_
  refine pn_seq ?_
  refine rc_block ?_
  refine rc_weak ?_ (ref20_Count_L1_ok (x0 := x0) (rec_ := rec_) (mu_ := mu_) (v0 := v0)  (r0 := r0) (ihR := ihR) (hmu := hmu) ?_ (Int.toNat ((x0.length : Int) - 0)) 0 0 rfl (by omega) hres)
  · exact ((sub_cons rfl (sub_cons rfl (sub_cons rfl (sub_nil _)))))
  · intro x3_109 hres
    refine px_blk ?_
    refine pn_seq ?_
    refine rc_seq ?_
    refine rc_region ?_
    refine rd_op (ov_move rfl) ?_
    refine rd_op (ov_move rfl) ?_
    refine rd_nil ?_
    refine pn_seq ?_
    subst hres
    exact rc_retV (.tmp rfl .nil) (deep_closed rfl) rfl
theorem f21_okR : ∀ (n_ : Nat) {x0 : List api_ControlNode} {v0 : PV} (r0 : (tSl api_ControlNode.t).R x0 v0), csl x0 < n_ → FnR Try.prog 21 [v0] (vi (ref20_Count_R n_ x0)) := by
  intro n_
  induction n_ with
  | zero => intros; rename_i hlt; exact absurd hlt (Nat.not_lt_zero _)
  | succ n_ ihn =>
    intro x0 v0 r0 hlt
    have e_ : ref20_Count_R (n_ + 1) x0 = ref20_Count_B (ref20_Count_R n_) x0 := by rw [ref20_Count_R]
    rw [e_]
    exact f21_okB r0 rfl (fun {z0} {zv0} zr0 hz => ihn zr0 (by omega))
theorem f21_ok {x0 : List api_ControlNode} {v0 : PV} (r0 : (tSl api_ControlNode.t).R x0 v0) : FnR Try.prog 21 [v0] (vi (ref20_Count x0)) := f21_okR _ r0 (Nat.lt_succ_self _)

/-- patchbay/patchbayref20.Nesting -/
def RF23 (res : Int) (r : PV) : Prop := r = vi res
theorem ref20_Nesting_L1_ok {S : List Fr} {res : Int} {x0 : List api_ControlNode} {rec_ : (List api_ControlNode) → Int} {mu_ : Nat} {v0 : PV} (r0 : (tSl api_ControlNode.t).R x0 v0) (ihR : ∀ {z0 : List api_ControlNode} {zv0 : PV} (zr0 : (tSl api_ControlNode.t).R z0 zv0), csl z0 < mu_ → FnR Try.prog 23 [zv0] (vi (rec_ z0))) (hmu : mu_ = csl x0) {K0 : Int → Int}
    (hK0 : ∀ (x3_ : Int), K0 x3_ = res → PX Try.prog 0 S (QR Try.prog [(2, none)] (RF23 res)) [(3, vi x3_)] ⟨0, []⟩) :
    ∀ (m : Nat) (x3_ : Int) (x4_ : Int) (hm1 : m = Int.toNat ((x0.length : Int) - x4_)) (hlo1 : 0 ≤ x4_), ref20_Nesting_L1 x0 rec_ K0 m x3_ x4_ = res → RC Try.prog (.loop ac23_L1) S (QR Try.prog [(2, none)] (RF23 res)) [(4, vi x4_), (3, vi x3_), (0, v0)] ⟨0, []⟩ := by
  intro m
  induction m with
  | zero =>
    intro x3_ x4_ hm1 hlo1 hres
    rw [ref20_Nesting_L1] at hres
    refine rc_loop ?_
    unfold ac23_L1
    refine rc_seq ?_
    refine rc_seq ?_
    refine rc_region ?_
    refine rd_op (ov_move rfl) ?_
    refine rd_op (ov_move rfl) ?_
    refine rd_op (ov_bi rfl (sl_len r0 Try.underlying28 _)) ?_
    refine rd_op (ov_bin rfl rfl i_lss) ?_
    refine rd_nil ?_
    refine pn_seq ?_
    refine rc_cond rfl (fun hc101 => ?_) (fun hc101 => ?_)
    · exfalso
      try simp only [Bool.or_eq_true, Bool.or_eq_false_iff, Bool.and_eq_true, Bool.and_eq_false_imp, decide_eq_true_eq, decide_eq_false_iff_not, Bool.not_eq_true', Bool.not_eq_false', Bool.not_eq_true, Bool.not_eq_false, Bool.not_true, Bool.not_false, ne_eq] at hc101
      omega
    · have hend := hres
      have hc101' := hc101
      try simp only [Bool.or_eq_true, Bool.or_eq_false_iff, Bool.and_eq_true, Bool.and_eq_false_imp, decide_eq_true_eq, decide_eq_false_iff_not, Bool.not_eq_true', Bool.not_eq_false', Bool.not_eq_true, Bool.not_eq_false, Bool.not_true, Bool.not_false, ne_eq] at hc101'
      refine rc_exit ?_
      refine px_seq ?_
      refine px_again ?_
      exact px_weak ((sub_cons rfl (sub_nil _))) (hK0 x3_ hres)
  | succ m ih =>
    intro x3_ x4_ hm1 hlo1 hres
    rw [ref20_Nesting_L1] at hres
    refine rc_loop ?_
    unfold ac23_L1
    refine rc_seq ?_
    refine rc_seq ?_
    refine rc_region ?_
    refine rd_op (ov_move rfl) ?_
    refine rd_op (ov_move rfl) ?_
    refine rd_op (ov_bi rfl (sl_len r0 Try.underlying28 _)) ?_
    refine rd_op (ov_bin rfl rfl i_lss) ?_
    refine rd_nil ?_
    refine pn_seq ?_
    refine rc_cond rfl (fun hc102 => ?_) (fun hc102 => ?_)
    · have hgo := hres
      have hc102' := hc102
      try simp only [Bool.or_eq_true, Bool.or_eq_false_iff, Bool.and_eq_true, Bool.and_eq_false_imp, decide_eq_true_eq, decide_eq_false_iff_not, Bool.not_eq_true', Bool.not_eq_false', Bool.not_eq_true, Bool.not_eq_false, Bool.not_true, Bool.not_false, ne_eq] at hc102'
      refine rc_skip ?_
      refine pn_seq ?_
      refine rc_seq ?_
      refine rc_block ?_
      refine rc_region ?_
      refine rd_op (ov_move rfl) ?_
      refine rd_op (ov_move rfl) ?_
      refine rd_op (ov_move rfl) ?_
      obtain ⟨v103, e103, r103⟩ := sl_idx (i := x4_) r0 (by omega) (by omega)
      refine rd_op (ov_iaddr rfl rfl e103) ?_
      obtain ⟨v104, e104, r104⟩ := api_ControlNode.g_Then r103
      refine rd_op (ov_faddr rfl e104) ?_
      refine rd_op (ov_load rfl (TR.cnt (tSl api_ControlNode.t) r104) (TR.agg (tSl api_ControlNode.t) r104)) ?_
      obtain ⟨y105, hw105, hres⟩ := let_ex hres
      have f105 := ihR (z0 := (ix x0 x4_).Then) r104  (by (have hk := csl_ix (l := x0) (by omega) (by omega); omega))
      rw [hw105] at f105
      refine rd_call (cv_fn rfl rfl (clL_cons (TR.clo (tSl api_ControlNode.t) r104) clL_nil) f105) ?_
      refine rd_op (ov_bin rfl rfl i_add) ?_
      refine rd_op (ov_move rfl) ?_
      refine rd_op (ov_move rfl) ?_
      obtain ⟨v106, e106, r106⟩ := sl_idx (i := x4_) r0 (by omega) (by omega)
      refine rd_op (ov_iaddr rfl rfl e106) ?_
      obtain ⟨v107, e107, r107⟩ := api_ControlNode.g_Else r106
      refine rd_op (ov_faddr rfl e107) ?_
      refine rd_op (ov_load rfl (TR.cnt (tSl api_ControlNode.t) r107) (TR.agg (tSl api_ControlNode.t) r107)) ?_
      obtain ⟨y108, hw108, hres⟩ := let_ex hres
      have f108 := ihR (z0 := (ix x0 x4_).Else) r107  (by (have hk := csl_ix (l := x0) (by omega) (by omega); omega))
      rw [hw108] at f108
      refine rd_call (cv_fn rfl rfl (clL_cons (TR.clo (tSl api_ControlNode.t) r107) clL_nil) f108) ?_
      refine rd_op (ov_bin rfl rfl i_add) ?_
      refine rd_op (ov_bi rfl (max_int3 _ _)) ?_
      refine rd_op (ov_move rfl) ?_
      refine rd_nil ?_
      refine pn_blk ?_
      refine pn_seq ?_
      refine rc_region ?_
      refine rd_op (ov_move rfl) ?_
      refine rd_op (ov_bin rfl rfl i_add) ?_
      refine rd_op (ov_move rfl) ?_
      refine rd_nil ?_
      refine pn_again ?_
      have hbd := sl_bound r0
      have hinc : wr (x4_ + 1) = x4_ + 1 := wr_of (by omega) (by omega)
      rw [hinc]
      refine rc_weak ?_ (ih (max (max x3_ (wr (1 + y105))) (wr (1 + y108))) (x4_ + 1)  (by omega) (by omega) hres)
      exact ((sub_cons rfl (sub_cons rfl (sub_cons rfl (sub_nil _)))))
    · exfalso
      try simp only [Bool.or_eq_true, Bool.or_eq_false_iff, Bool.and_eq_true, Bool.and_eq_false_imp, decide_eq_true_eq, decide_eq_false_iff_not, Bool.not_eq_true', Bool.not_eq_false', Bool.not_eq_true, Bool.not_eq_false, Bool.not_true, Bool.not_false, ne_eq] at hc102
      omega

theorem f23_okB {rec_ : (List api_ControlNode) → Int} {mu_ : Nat} {x0 : List api_ControlNode} {v0 : PV} (r0 : (tSl api_ControlNode.t).R x0 v0) (hmu : mu_ = csl x0) (ihR : ∀ {z0 : List api_ControlNode} {zv0 : PV} (zr0 : (tSl api_ControlNode.t).R z0 zv0), csl z0 < mu_ → FnR Try.prog 23 [zv0] (vi (rec_ z0))) : FnR Try.prog 23 [v0] (vi (ref20_Nesting_B rec_ x0)) := by
  obtain ⟨res, hres⟩ : ∃ res, ref20_Nesting_B rec_ x0 = res := ⟨_, rfl⟩
  suffices H : RC Try.prog ac23 [] (QR Try.prog [(2, none)] (RF23 res)) (argE 0 [v0]) ⟨0, []⟩ by
    obtain ⟨r, h1, h2⟩ := fnE text23 (by simp) H
    rw [hres]
    have h2 : r = vi res := h2
    rw [← h2]; exact h1
  unfold ref20_Nesting_B at hres
  unfold ac23
  refine rc_seq ?_
  refine rc_region ?_
  refine rd_op (v := vi 0) (ov_move rfl) ?_
  refine rd_nil ?_
  refine pn_seq ?_
  refine rc_seq ?_
  refine rc_region ?_
  refine rd_op (v := vi 0) (ov_move rfl) ?_
  refine rd_nil ?_
  refine pn_seq ?_
  refine rc_seq ?_
  refine rc_seq ?_
  refine rc_region ?_
  refine rd_op (v := vi 0) (ov_move rfl) ?_
  refine rd_nil ?_
  refine pn_seq ?_
  refine rc_block ?_
  refine rc_weak ?_ (ref20_Nesting_L1_ok (x0 := x0) (rec_ := rec_) (mu_ := mu_) (v0 := v0)  (r0 := r0) (ihR := ihR) (hmu := hmu) ?_ (Int.toNat ((x0.length : Int) - 0)) 0 0 rfl (by omega) hres)
  · exact ((sub_cons rfl (sub_cons rfl (sub_cons rfl (sub_nil _)))))
  · intro x3_109 hres
    refine px_blk ?_
    refine pn_seq ?_
    refine rc_seq ?_
    refine rc_region ?_
    refine rd_op (ov_move rfl) ?_
    refine rd_op (ov_move rfl) ?_
    refine rd_nil ?_
    refine pn_seq ?_
    subst hres
    exact rc_retV (.tmp rfl .nil) (deep_closed rfl) rfl
theorem f23_okR : ∀ (n_ : Nat) {x0 : List api_ControlNode} {v0 : PV} (r0 : (tSl api_ControlNode.t).R x0 v0), csl x0 < n_ → FnR Try.prog 23 [v0] (vi (ref20_Nesting_R n_ x0)) := by
  intro n_
  induction n_ with
  | zero => intros; rename_i hlt; exact absurd hlt (Nat.not_lt_zero _)
  | succ n_ ihn =>
    intro x0 v0 r0 hlt
    have e_ : ref20_Nesting_R (n_ + 1) x0 = ref20_Nesting_B (ref20_Nesting_R n_) x0 := by rw [ref20_Nesting_R]
    rw [e_]
    exact f23_okB r0 rfl (fun {z0} {zv0} zr0 hz => ihn zr0 (by omega))
theorem f23_ok {x0 : List api_ControlNode} {v0 : PV} (r0 : (tSl api_ControlNode.t).R x0 v0) : FnR Try.prog 23 [v0] (vi (ref20_Nesting x0)) := f23_okR _ r0 (Nat.lt_succ_self _)

/-- patchbay/patchbayref20.Preorder -/
def RF52 (res : (List api_ControlNode)) (r : PV) : Prop := (tSl api_ControlNode.t).R res r
theorem ref20_Preorder_L1_ok {S : List Fr} {res : (List api_ControlNode)} {x0 : List api_ControlNode} {rec_ : (List api_ControlNode) → (List api_ControlNode)} {mu_ : Nat} {v0 : PV} (r0 : (tSl api_ControlNode.t).R x0 v0) (hs : csl x0 ≤ 1000) (ihR : ∀ {z0 : List api_ControlNode} {zv0 : PV} (zr0 : (tSl api_ControlNode.t).R z0 zv0) (hs : csl z0 ≤ 1000), csl z0 < mu_ → ∃ r, FnR Try.prog 52 [zv0] r ∧ (tSl api_ControlNode.t).R (rec_ z0) r) (hmu : mu_ = csl x0) (hrec : ∀ z, (rec_ z).length ≤ csl z) {K0 : (List api_ControlNode) → (List api_ControlNode)}
    (hK0 : ∀ (zE102 : List api_ControlNode) (esE102 : List PV) (aE102 : PV) (qE102 : All2 api_ControlNode.t.R zE102 esE102) (nE102 : isL aE102 = true) (wrE102 : Wri aE102 esE102) (hlE102 : zE102.length ≤ 4611686018427387904) (h : Heap) (M0 : Mem h [⟨aE102, 40, 5, esE102⟩]), K0 zE102 = res → PX Try.prog 0 S (QR Try.prog [(2, none)] (RF52 res)) [(3, aE102)] h) :
    ∀ (m : Nat) (x4_ : Int) (zE102 : List api_ControlNode) (esE102 : List PV) (aE102 : PV) (qE102 : All2 api_ControlNode.t.R zE102 esE102) (nE102 : isL aE102 = true) (wrE102 : Wri aE102 esE102) (hlE102 : zE102.length ≤ 4611686018427387904) (hm1 : m = Int.toNat ((x0.length : Int) - x4_)) (hlo1 : 0 ≤ x4_) (iv1_0 : zE102.length + csl (x0.drop x4_.toNat) ≤ csl x0) (h : Heap) (M0 : Mem h [⟨aE102, 40, 5, esE102⟩]), ref20_Preorder_L1 x0 rec_ K0 m x4_ zE102 = res → RC Try.prog (.loop ac52_L1) S (QR Try.prog [(2, none)] (RF52 res)) [(4, vi x4_), (3, aE102), (0, v0)] h := by
  intro m
  induction m with
  | zero =>
    intro x4_ zE102 esE102 aE102 qE102 nE102 wrE102 hlE102 hm1 hlo1 iv1_0 h M0 hres
    rw [ref20_Preorder_L1] at hres
    refine rc_loop ?_
    unfold ac52_L1
    refine rc_seq ?_
    refine rc_seq ?_
    refine rc_region ?_
    refine rd_op (ov_move rfl) ?_
    refine rd_op (ov_move rfl) ?_
    refine rd_op (ov_bi rfl (sl_len r0 Try.underlying28 _)) ?_
    refine rd_op (ov_bin rfl rfl i_lss) ?_
    refine rd_nil ?_
    refine pn_seq ?_
    refine rc_cond rfl (fun hc103 => ?_) (fun hc103 => ?_)
    · exfalso
      try simp only [Bool.or_eq_true, Bool.or_eq_false_iff, Bool.and_eq_true, Bool.and_eq_false_imp, decide_eq_true_eq, decide_eq_false_iff_not, Bool.not_eq_true', Bool.not_eq_false', Bool.not_eq_true, Bool.not_eq_false, Bool.not_true, Bool.not_false, ne_eq] at hc103
      omega
    · have hend := hres
      have hc103' := hc103
      try simp only [Bool.or_eq_true, Bool.or_eq_false_iff, Bool.and_eq_true, Bool.and_eq_false_imp, decide_eq_true_eq, decide_eq_false_iff_not, Bool.not_eq_true', Bool.not_eq_false', Bool.not_eq_true, Bool.not_eq_false, Bool.not_true, Bool.not_false, ne_eq] at hc103'
      refine rc_exit ?_
      refine px_seq ?_
      refine px_again ?_
      exact px_weak ((sub_cons rfl (sub_nil _))) (hK0 zE102 esE102 aE102 qE102 nE102 wrE102 hlE102 _ (Mem.sub M0 (.cons_cons _ .slnil)) hres)
  | succ m ih =>
    intro x4_ zE102 esE102 aE102 qE102 nE102 wrE102 hlE102 hm1 hlo1 iv1_0 h M0 hres
    rw [ref20_Preorder_L1] at hres
    refine rc_loop ?_
    unfold ac52_L1
    refine rc_seq ?_
    refine rc_seq ?_
    refine rc_region ?_
    refine rd_op (ov_move rfl) ?_
    refine rd_op (ov_move rfl) ?_
    refine rd_op (ov_bi rfl (sl_len r0 Try.underlying28 _)) ?_
    refine rd_op (ov_bin rfl rfl i_lss) ?_
    refine rd_nil ?_
    refine pn_seq ?_
    refine rc_cond rfl (fun hc104 => ?_) (fun hc104 => ?_)
    · have hgo := hres
      have hc104' := hc104
      try simp only [Bool.or_eq_true, Bool.or_eq_false_iff, Bool.and_eq_true, Bool.and_eq_false_imp, decide_eq_true_eq, decide_eq_false_iff_not, Bool.not_eq_true', Bool.not_eq_false', Bool.not_eq_true, Bool.not_eq_false, Bool.not_true, Bool.not_false, ne_eq] at hc104'
      refine rc_skip ?_
      refine pn_seq ?_
      refine rc_seq ?_
      refine rc_block ?_
      refine rc_seq ?_
      refine rc_region ?_
      refine rd_op (ov_move rfl) ?_
      refine rd_op (ov_move rfl) ?_
      refine rd_op (ov_move rfl) ?_
      obtain ⟨v105, e105, r105⟩ := sl_idx (i := x4_) r0 (by omega) (by omega)
      refine rd_op (ov_iaddr rfl rfl e105) ?_
      refine rd_op (ov_load rfl (TR.cnt api_ControlNode.t r105) (TR.agg api_ControlNode.t r105)) ?_
      refine rd_op (v := .fs true [v105]) (ov_bslice rfl (all_cons (TR.cnt api_ControlNode.t r105) all_nil)) ?_
      have r106 : (tSl api_ControlNode.t).R ([(ix x0 x4_)] : List api_ControlNode) (.fs true [v105]) := sl_fs ⟨r105, trivial⟩ (by simp)
      obtain ⟨nw107, sr107, ar107⟩ := src_of (t := api_ControlNode.t) (h := h) r106
      have f107 : fits (esE102.length + nw107.length) 88 = true := by rw [All2.length_eq qE102, All2.length_eq ar107]; (try simp only [List.length_cons, List.length_nil]); exact fits_of (by first | omega | (have hk := csl_drop (l := x0) (i := x4_) (by omega) (by omega); simp only [List.length_append, List.length_cons, List.length_nil]; omega)) (by first | omega | (have hk := csl_drop (l := x0) (i := x4_) (by omega) (by omega); simp only [List.length_append, List.length_cons, List.length_nil]; omega))
      refine rd_appW (k := 0) (es := esE102) (news := nw107) M0 rfl rfl rfl nE102 wrE102 sr107 f107 (fun a107 h107 n107 wr107 M107 => ?_)
      have q107 : All2 api_ControlNode.t.R (zE102 ++ ([(ix x0 x4_)] : List api_ControlNode)) (esE102 ++ nw107) := All2.app qE102 ar107
      have hl107 : (zE102 ++ ([(ix x0 x4_)] : List api_ControlNode)).length ≤ 4611686018427387904 := by rw [← All2.length_eq q107, List.length_append]; exact fits_len f107
      refine rd_op (ov_move rfl) ?_
      refine rd_nil ?_
      refine pn_seq ?_
      refine rc_seq ?_
      refine rc_region ?_
      refine rd_op (ov_move rfl) ?_
      refine rd_op (ov_move rfl) ?_
      refine rd_op (ov_move rfl) ?_
      obtain ⟨v108, e108, r108⟩ := sl_idx (i := x4_) r0 (by omega) (by omega)
      refine rd_op (ov_iaddr rfl rfl e108) ?_
      obtain ⟨v109, e109, r109⟩ := api_ControlNode.g_Then r108
      refine rd_op (ov_faddr rfl e109) ?_
      refine rd_op (ov_load rfl (TR.cnt (tSl api_ControlNode.t) r109) (TR.agg (tSl api_ControlNode.t) r109)) ?_
      obtain ⟨y110, hw110, hres⟩ := let_ex hres
      obtain ⟨v111, f110, r111⟩ := ihR (z0 := (ix x0 x4_).Then) r109 (by (have hk := csl_ix (l := x0) (by omega) (by omega); omega)) (by (have hk := csl_ix (l := x0) (by omega) (by omega); omega))
      rw [hw110] at r111
      have ek110 := lenle hrec hw110
      refine rd_call (cv_fn rfl rfl (clL_cons (TR.clo (tSl api_ControlNode.t) r109) clL_nil) f110) ?_
      obtain ⟨nw112, sr112, ar112⟩ := src_of (t := api_ControlNode.t) (h := h107) r111
      have f112 : fits ((esE102 ++ nw107).length + nw112.length) 88 = true := by rw [All2.length_eq q107, All2.length_eq ar112]; (try simp only [List.length_cons, List.length_nil]); exact fits_of (by first | omega | (have hk := csl_drop (l := x0) (i := x4_) (by omega) (by omega); simp only [List.length_append, List.length_cons, List.length_nil]; omega)) (by first | omega | (have hk := csl_drop (l := x0) (i := x4_) (by omega) (by omega); simp only [List.length_append, List.length_cons, List.length_nil]; omega))
      refine rd_appW (k := 0) (es := (esE102 ++ nw107)) (news := nw112) M107 rfl rfl rfl n107 wr107 sr112 f112 (fun a112 h112 n112 wr112 M112 => ?_)
      have q112 : All2 api_ControlNode.t.R ((zE102 ++ ([(ix x0 x4_)] : List api_ControlNode)) ++ y110) ((esE102 ++ nw107) ++ nw112) := All2.app q107 ar112
      have hl112 : ((zE102 ++ ([(ix x0 x4_)] : List api_ControlNode)) ++ y110).length ≤ 4611686018427387904 := by rw [← All2.length_eq q112, List.length_append]; exact fits_len f112
      refine rd_op (ov_move rfl) ?_
      refine rd_nil ?_
      refine pn_seq ?_
      refine rc_region ?_
      refine rd_op (ov_move rfl) ?_
      refine rd_op (ov_move rfl) ?_
      refine rd_op (ov_move rfl) ?_
      obtain ⟨v113, e113, r113⟩ := sl_idx (i := x4_) r0 (by omega) (by omega)
      refine rd_op (ov_iaddr rfl rfl e113) ?_
      obtain ⟨v114, e114, r114⟩ := api_ControlNode.g_Else r113
      refine rd_op (ov_faddr rfl e114) ?_
      refine rd_op (ov_load rfl (TR.cnt (tSl api_ControlNode.t) r114) (TR.agg (tSl api_ControlNode.t) r114)) ?_
      obtain ⟨y115, hw115, hres⟩ := let_ex hres
      obtain ⟨v116, f115, r116⟩ := ihR (z0 := (ix x0 x4_).Else) r114 (by (have hk := csl_ix (l := x0) (by omega) (by omega); omega)) (by (have hk := csl_ix (l := x0) (by omega) (by omega); omega))
      rw [hw115] at r116
      have ek115 := lenle hrec hw115
      refine rd_call (cv_fn rfl rfl (clL_cons (TR.clo (tSl api_ControlNode.t) r114) clL_nil) f115) ?_
      obtain ⟨nw117, sr117, ar117⟩ := src_of (t := api_ControlNode.t) (h := h112) r116
      have f117 : fits (((esE102 ++ nw107) ++ nw112).length + nw117.length) 88 = true := by rw [All2.length_eq q112, All2.length_eq ar117]; (try simp only [List.length_cons, List.length_nil]); exact fits_of (by first | omega | (have hk := csl_drop (l := x0) (i := x4_) (by omega) (by omega); simp only [List.length_append, List.length_cons, List.length_nil]; omega)) (by first | omega | (have hk := csl_drop (l := x0) (i := x4_) (by omega) (by omega); simp only [List.length_append, List.length_cons, List.length_nil]; omega))
      refine rd_appW (k := 0) (es := ((esE102 ++ nw107) ++ nw112)) (news := nw117) M112 rfl rfl rfl n112 wr112 sr117 f117 (fun a117 h117 n117 wr117 M117 => ?_)
      have q117 : All2 api_ControlNode.t.R (((zE102 ++ ([(ix x0 x4_)] : List api_ControlNode)) ++ y110) ++ y115) (((esE102 ++ nw107) ++ nw112) ++ nw117) := All2.app q112 ar117
      have hl117 : (((zE102 ++ ([(ix x0 x4_)] : List api_ControlNode)) ++ y110) ++ y115).length ≤ 4611686018427387904 := by rw [← All2.length_eq q117, List.length_append]; exact fits_len f117
      refine rd_op (ov_move rfl) ?_
      refine rd_nil ?_
      refine pn_blk ?_
      refine pn_seq ?_
      refine rc_region ?_
      refine rd_op (ov_move rfl) ?_
      refine rd_op (ov_bin rfl rfl i_add) ?_
      refine rd_op (ov_move rfl) ?_
      refine rd_nil ?_
      refine pn_again ?_
      have hbd := sl_bound r0
      have hinc : wr (x4_ + 1) = x4_ + 1 := wr_of (by omega) (by omega)
      rw [hinc]
      refine rc_weak ?_ (ih (x4_ + 1) (((zE102 ++ ([(ix x0 x4_)] : List api_ControlNode)) ++ y110) ++ y115) (((esE102 ++ nw107) ++ nw112) ++ nw117) a117 q117 n117 wr117 hl117 (by omega) (by omega) (by (have hk := csl_drop (l := x0) (i := x4_) (by omega) (by omega); simp only [List.length_append, List.length_cons, List.length_nil]; omega)) _ (Mem.sub M117 (.cons_cons _ .slnil)) hres)
      exact ((sub_cons rfl (sub_cons rfl (sub_cons rfl (sub_nil _)))))
    · exfalso
      try simp only [Bool.or_eq_true, Bool.or_eq_false_iff, Bool.and_eq_true, Bool.and_eq_false_imp, decide_eq_true_eq, decide_eq_false_iff_not, Bool.not_eq_true', Bool.not_eq_false', Bool.not_eq_true, Bool.not_eq_false, Bool.not_true, Bool.not_false, ne_eq] at hc104
      omega

theorem f52_okB {rec_ : (List api_ControlNode) → (List api_ControlNode)} {mu_ : Nat} {x0 : List api_ControlNode} {v0 : PV} (r0 : (tSl api_ControlNode.t).R x0 v0) (hs : csl x0 ≤ 1000) (hmu : mu_ = csl x0) (hrec : ∀ z, (rec_ z).length ≤ csl z) (ihR : ∀ {z0 : List api_ControlNode} {zv0 : PV} (zr0 : (tSl api_ControlNode.t).R z0 zv0) (hs : csl z0 ≤ 1000), csl z0 < mu_ → ∃ r, FnR Try.prog 52 [zv0] r ∧ (tSl api_ControlNode.t).R (rec_ z0) r) : ∃ r, FnR Try.prog 52 [v0] r ∧ (tSl api_ControlNode.t).R (ref20_Preorder_B rec_ x0) r := by
  obtain ⟨res, hres⟩ : ∃ res, ref20_Preorder_B rec_ x0 = res := ⟨_, rfl⟩
  suffices H : RC Try.prog ac52 [] (QR Try.prog [(2, none)] (RF52 res)) (argE 0 [v0]) ⟨0, []⟩ by
    rw [hres]
    exact fnE text52 (by simp) H
  unfold ref20_Preorder_B at hres
  unfold ac52
  refine rc_seq ?_
  refine rc_region ?_
  refine rd_op (v := nilS) (ov_move rfl) ?_
  refine rd_nil ?_
  refine pn_seq ?_
  refine rc_seq ?_
  refine rc_region ?_
  refine rd_op (v := nilS) (ov_move rfl) ?_
  refine rd_nil ?_
  refine pn_seq ?_
  refine rc_seq ?_
  refine rc_seq ?_
  refine rc_region ?_
  refine rd_op (v := vi 0) (ov_move rfl) ?_
  refine rd_nil ?_
  refine pn_seq ?_
  refine rc_block ?_
  have M101 := mem_acc (sz := 5) (es := []) (Mem.nil ⟨0, []⟩) 40 (.inl ⟨none, rfl, rfl⟩) (by simp)
  refine rc_weak ?_ (ref20_Preorder_L1_ok (x0 := x0) (rec_ := rec_) (mu_ := mu_) (v0 := v0)  (r0 := r0) (hs := hs) (ihR := ihR) (hmu := hmu) (hrec := hrec) ?_ (Int.toNat ((x0.length : Int) - 0)) 0 ([] : List api_ControlNode) ([] : List PV) nilS (show All2 api_ControlNode.t.R ([] : List api_ControlNode) [] from trivial) rfl (.inl rfl) (by decide) rfl (by omega) (by simp) _ (Mem.sub M101 (.cons_cons _ .slnil)) hres)
  · exact ((sub_cons rfl (sub_cons rfl (sub_cons rfl (sub_nil _)))))
  · intro zE102_118 es118E102 a118E102 q118E102 n118E102 wr118E102 hl118E102 h118 M118 hres
    refine px_blk ?_
    refine pn_seq ?_
    refine rc_seq ?_
    refine rc_region ?_
    refine rd_op (ov_move rfl) ?_
    refine rd_op (ov_move rfl) ?_
    refine rd_nil ?_
    refine pn_seq ?_
    obtain ⟨v119, d119, r119⟩ := own_sl (P := Try.prog) (k := 0) (t := api_ControlNode.t) M118 rfl n118E102 q118E102 (Nat.le_trans hl118E102 (by decide))
    subst hres
    exact rc_retV (.tmp rfl .nil) d119 r119
theorem f52_okR : ∀ (n_ : Nat) {x0 : List api_ControlNode} {v0 : PV} (r0 : (tSl api_ControlNode.t).R x0 v0) (hs : csl x0 ≤ 1000), csl x0 < n_ → ∃ r, FnR Try.prog 52 [v0] r ∧ (tSl api_ControlNode.t).R (ref20_Preorder_R n_ x0) r := by
  intro n_
  induction n_ with
  | zero => intros; rename_i hlt; exact absurd hlt (Nat.not_lt_zero _)
  | succ n_ ihn =>
    intro x0 v0 r0 hs hlt
    have e_ : ref20_Preorder_R (n_ + 1) x0 = ref20_Preorder_B (ref20_Preorder_R n_) x0 := by rw [ref20_Preorder_R]
    rw [e_]
    exact f52_okB r0 hs rfl (preorder_len n_) (fun {z0} {zv0} zr0 hs hz => ihn zr0 hs (by omega))
theorem f52_ok {x0 : List api_ControlNode} {v0 : PV} (r0 : (tSl api_ControlNode.t).R x0 v0) (hs : csl x0 ≤ 1000) : ∃ r, FnR Try.prog 52 [v0] r ∧ (tSl api_ControlNode.t).R (ref20_Preorder x0) r := f52_okR _ r0 hs (Nat.lt_succ_self _)

end Go.Proofs.Ytkgnjpoafilicaa
