/-
 The code of each function does what its plain program says.
-/
import Derived.Test.YtfekghenlhoamaaGreatL3W0
set_option linter.unusedVariables false
set_option linter.unusedSimpArgs false
set_option maxRecDepth 100000
namespace Go.Proofs.YtfekghenlhoamaaGreat
open Go Go.Pb Go.RowKit
/-- (patchbay/expr.Scope).check -/
def RF18 (res : Int × Int × Int) (r : PV) : Prop := r = .tup [vi res.1, vi res.2.1, vi res.2.2]
theorem m1_expr_Scope__check_L1_ok {S : List Fr} {res : Int × Int × Int} {x0 : expr_Scope} {x1 : List api_ExprNode} {x2 : Int} {rec_ : expr_Scope → (List api_ExprNode) → Int → (Int × Int × Int)} {mu_ : Nat} {y103 : Int} {v0 : PV} {v1 : PV} {i108 : Nat} {w108 : Nat} (r0 : expr_Scope.t.R x0 v0) (r1 : (tSl api_ExprNode.t).R x1 v1) (h0 : 0 ≤ x2) (hb : x1.length ≤ 1000000) (ihR : ∀ {z0 : expr_Scope} {z1 : List api_ExprNode} {z2 : Int} {zv0 : PV} {zv1 : PV} (zr0 : expr_Scope.t.R z0 zv0) (zr1 : (tSl api_ExprNode.t).R z1 zv1) (h0 : 0 ≤ z2) (hb : z1.length ≤ 1000000), (z1.length - z2.toNat) < mu_ → FnR Tryz.prog 18 [zv0, zv1, vi z2] (.tup [vi ((rec_ z0 z1 z2).1), vi ((rec_ z0 z1 z2).2.1), vi ((rec_ z0 z1 z2).2.2)])) (hmu : mu_ = (x1.length - x2.toNat)) (hrec : ∀ (z0 : expr_Scope) (z1 : List api_ExprNode) (z2 : Int), 0 ≤ z2 → z1.length ≤ 1000000 → (rec_ z0 z1 z2).2.2 = 0 → z2 < (rec_ z0 z1 z2).2.1) (hc101 : (decide ((x1.length : Int) ≤ x2)) = false) (hw103 : expr_arity ((ix x1 x2).Op) = y103) (hc104 : (decide (y103 < 0)) = false) (hc105 : (decide (y103 = 0)) = false) {K1 : Int → (List Int) → (Int × Int × Int)}
  (hK1 : ∀ (x7_ : Int) (zE109 : List Int) (uE109 : PV) (qE109 : (tAr 3 tI).R zE109 uE109) (h : Heap) (M0 : Mem h [⟨.op i108 w108 0, 99, 3, [uE109]⟩]), K1 x7_ zE109 = res → PX Tryz.prog 1 S (QR Tryz.prog [(6, none), (7, none), (8, none)] (RF18 res)) [(1, v1), (2, vi x2), (7, vi x7_), (10, .op i108 w108 0)] h) :
  ∀ (m : Nat) (x7_ : Int) (x44_ : Int) (zE109 : List Int) (uE109 : PV) (qE109 : (tAr 3 tI).R zE109 uE109) (hm1 : m = Int.toNat (y103 - x44_)) (hlo1 : 0 ≤ x44_) (iv1_0 : x2 < x7_) (h : Heap) (M0 : Mem h [⟨.op i108 w108 0, 99, 3, [uE109]⟩]), m1_expr_Scope__check_L1 x0 x1 rec_ K1 m x7_ x44_ zE109 = res → RC Tryz.prog (.loop ac18_L1) S (QR Tryz.prog [(6, none), (7, none), (8, none)] (RF18 res)) [(44, vi x44_), (43, vi y103), (10, .op i108 w108 0), (7, vi x7_), (3, .fp v0), (2, vi x2), (1, v1)] h := by
 have hb' := hb
 try simp only [qa1, qa2, qa3, qa4, qa5, qa6, qa7, qa8, qa9, qaA, qaB, qaC, qaD] at hb'
 have hc101' := hc101
 try simp only [qa1, qa2, qa3, qa4, qa5, qa6, qa7, qa8, qa9, qaA, qaB, qaC, qaD] at hc101'
 have hc104' := hc104
 try simp only [qa1, qa2, qa3, qa4, qa5, qa6, qa7, qa8, qa9, qaA, qaB, qaC, qaD] at hc104'
 have hc105' := hc105
 try simp only [qa1, qa2, qa3, qa4, qa5, qa6, qa7, qa8, qa9, qaA, qaB, qaC, qaD] at hc105'
 intro m
 induction m with
 | zero =>
  intro x7_ x44_ zE109 uE109 qE109 hm1 hlo1 iv1_0 h M0 hres
  rw [m1_expr_Scope__check_L1] at hres
  refine rc_loop ?_
  unfold ac18_L1
  refine rc_seq ?_
  refine rc_region ?_
  refine rd_op (ov_bin rfl rfl i_lss) ?_
  refine rd_nil ?_
  refine pn_seq ?_
  refine rc_seq ?_
  refine rc_cond rfl (fun hc110 => ?_) (fun hc110 => ?_)
  ·exfalso
   try simp only [qa1, qa2, qa3, qa4, qa5, qa6, qa7, qa8, qa9, qaA, qaB, qaC, qaD] at hc110
   omega
  ·have hend := hres
   have hc110' := hc110
   try simp only [qa1, qa2, qa3, qa4, qa5, qa6, qa7, qa8, qa9, qaA, qaB, qaC, qaD] at hc110'
   refine rc_exit ?_
   refine px_seq ?_
   refine px_again ?_
   exact px_weak ((sub_cons rfl (sub_cons rfl (sub_cons rfl (sub_cons rfl (sub_nil _)))))) (hK1 x7_ zE109 uE109 (show (tAr 3 tI).R zE109 uE109 from qE109) _ (Mem.sub M0 (.cons_cons _ .slnil)) hres)
 | succ m ih =>
  intro x7_ x44_ zE109 uE109 qE109 hm1 hlo1 iv1_0 h M0 hres
  rw [m1_expr_Scope__check_L1] at hres
  refine rc_loop ?_
  unfold ac18_L1
  refine rc_seq ?_
  refine rc_region ?_
  refine rd_op (ov_bin rfl rfl i_lss) ?_
  refine rd_nil ?_
  refine pn_seq ?_
  refine rc_seq ?_
  refine rc_cond rfl (fun hc111 => ?_) (fun hc111 => ?_)
  ·have hgo := hres
   have hc111' := hc111
   try simp only [qa1, qa2, qa3, qa4, qa5, qa6, qa7, qa8, qa9, qaA, qaB, qaC, qaD] at hc111'
   refine rc_skip ?_
   refine pn_seq ?_
   refine rc_seq ?_
   refine rc_block ?_
   refine rc_seq ?_
   refine rc_region ?_
   refine rd_op (ov_move rfl) ?_
   refine rd_op (ov_move rfl) ?_
   refine rd_nil ?_
   refine pn_seq ?_
   refine rc_seq ?_
   refine rc_region ?_
   refine rd_op (ov_move rfl) ?_
   refine rd_op (ov_load rfl (TR.cnt expr_Scope.t r0) (TR.agg expr_Scope.t r0)) ?_
   refine rd_op (ov_move rfl) ?_
   refine rd_op (ov_move rfl) ?_
   obtain ⟨y112, hw112, hres⟩ := let_ex hres
   have f112 := ihR (z0 := x0) (z1 := x1) (z2 := x7_) r0 r1 (by first | assumption | omega | (rw [wr_of (by omega) (by omega)]; omega) | (have hk := rval rfl (And.right (And.left (by assumption))); omega) | (have hk := rval (by assumption) (by assumption); omega) | (have hk := rval (by assumption) (And.left (by assumption)); omega) | (have hk := rval (by assumption) (And.left (And.left (by assumption))); have hz := rslc (by assumption); omega) | (simp; done) | (simp only [List.length_append, List.length_nil, List.length_cons]; omega) | (have hk := (chk_ok (by assumption) (by assumption)).1; omega) | (simp only [List.length_cons, List.length_nil]; omega) | (simp only [List.length_append]; have hk := (chk_ok (by assumption) (by assumption)).1; omega) | (simp only [List.length_append, List.length_nil]; have hk := (chk_ok (by assumption) (by assumption)).1; omega)) (by first | assumption | omega | (rw [wr_of (by omega) (by omega)]; omega) | (have hk := rval rfl (And.right (And.left (by assumption))); omega) | (have hk := rval (by assumption) (by assumption); omega) | (have hk := rval (by assumption) (And.left (by assumption)); omega) | (have hk := rval (by assumption) (And.left (And.left (by assumption))); have hz := rslc (by assumption); omega) | (simp; done) | (simp only [List.length_append, List.length_nil, List.length_cons]; omega) | (have hk := (chk_ok (by assumption) (by assumption)).1; omega) | (simp only [List.length_cons, List.length_nil]; omega) | (simp only [List.length_append]; have hk := (chk_ok (by assumption) (by assumption)).1; omega) | (simp only [List.length_append, List.length_nil]; have hk := (chk_ok (by assumption) (by assumption)).1; omega)) (by first | omega | (rw [wr_of (by omega) (by omega)]; omega))
   rw [hw112] at f112
   have ek112 : y112.2.2 = 0 → x7_ < y112.2.1 := by rw [← hw112]; exact hrec _ _ _ (by omega) (by omega)
   refine rd_call (cv_fn rfl rfl (clL_cons (TR.clo expr_Scope.t r0) (clL_cons (TR.clo (tSl api_ExprNode.t) r1) (clL_cons rfl clL_nil))) f112) ?_
   refine rd_op (ov_move rfl) ?_
   refine rd_op (ov_extract rfl rfl) ?_
   refine rd_op (ov_extract rfl rfl) ?_
   refine rd_op (ov_extract rfl rfl) ?_
   have h0_113 : 0 ≤ x44_ := by first | omega | (have hk := ar (by assumption); omega)
   have h1_113 : x44_ < 3 := by first | omega | (have hk := ar (by assumption); omega)
   refine rd_op (ov_iaddrAO rfl rfl h0_113 h1_113) ?_
   obtain ⟨cs114, ec114, ln114, sr114⟩ := arr_store (t := tI) (i := x44_) qE109 h0_113 h1_113 (show tI.R y112.1 (vi y112.1) from rfl) rfl
   refine rd_storeFA (k := 0) (v := vi y112.1) M0 rfl rfl rfl ec114 rfl ln114.1 ln114.2 (fun h114 M114 => ?_)
   replace M114 : Mem h114 [⟨.op i108 w108 0, 99, 3, [.agg (spl cs114 (x44_.toNat * 1) [vi y112.1])]⟩] := M114
   refine rd_op (ov_move rfl) ?_
   refine rd_op (ov_move rfl) ?_
   refine rd_nil ?_
   refine pn_seq ?_
   refine rc_seq ?_
   refine rc_region ?_
   refine rd_op (ov_move rfl) ?_
   refine rd_op (ov_bin rfl rfl i_neq) ?_
   refine rd_nil ?_
   refine pn_seq ?_
   refine rc_cond rfl (fun hc115 => ?_) (fun hc115 => ?_)
   ·replace hres := (ite_t hc115).symm.trans hres
    have hc115' := hc115
    try simp only [qa1, qa2, qa3, qa4, qa5, qa6, qa7, qa8, qa9, qaA, qaB, qaC, qaD] at hc115'
    refine rc_seq ?_
    refine rc_region ?_
    refine rd_op (ov_move rfl) ?_
    refine rd_op (v := vi 0) (ov_move rfl) ?_
    refine rd_op (v := vi 0) (ov_move rfl) ?_
    refine rd_op (ov_move rfl) ?_
    refine rd_nil ?_
    refine pn_seq ?_
    subst hres
    exact rc_retV (.tmp rfl (.tmp rfl (.tmp rfl .nil))) (deep_closed (show closed (.tup _) = true from (clL_cons rfl (clL_cons rfl (clL_cons rfl clL_nil))))) rfl
   ·replace hres := (ite_f hc115).symm.trans hres
    have hc115' := hc115
    try simp only [qa1, qa2, qa3, qa4, qa5, qa6, qa7, qa8, qa9, qaA, qaB, qaC, qaD] at hc115'
    refine rc_skip ?_
    refine pn_blk ?_
    refine pn_seq ?_
    refine rc_region ?_
    refine rd_op (ov_bin rfl rfl i_add) ?_
    refine rd_op (ov_move rfl) ?_
    refine rd_nil ?_
    refine pn_again ?_
    have hinc : wr (x44_ + 1) = x44_ + 1 := wr_of (by omega) (by first | omega | (have hk := ar (by assumption); omega))
    rw [hinc]
    refine rc_weak ?_ (ih y112.2.1 (x44_ + 1) (zE109.set x44_.toNat y112.1) (.agg (spl cs114 (x44_.toNat * 1) [vi y112.1])) (show (tAr 3 tI).R (zE109.set x44_.toNat y112.1) (.agg (spl cs114 (x44_.toNat * 1) [vi y112.1])) from sr114) (by omega) (by omega) (by first | omega | (simp; done) | (simp only [List.length_append, List.length_cons, List.length_nil, List.length_set]; omega)) _ (Mem.sub M114 (.cons_cons _ .slnil)) hres)
    exact ((sub_cons rfl (sub_cons rfl (sub_cons rfl (sub_cons rfl (sub_cons rfl (sub_cons rfl (sub_cons rfl (sub_nil _)))))))))
  ·exfalso
   try simp only [qa1, qa2, qa3, qa4, qa5, qa6, qa7, qa8, qa9, qaA, qaB, qaC, qaD] at hc111
   omega

theorem f18_okB {rec_ : expr_Scope → (List api_ExprNode) → Int → (Int × Int × Int)} {mu_ : Nat} {x0 : expr_Scope} {x1 : List api_ExprNode} {x2 : Int} {v0 : PV} {v1 : PV} (r0 : expr_Scope.t.R x0 v0) (r1 : (tSl api_ExprNode.t).R x1 v1) (h0 : 0 ≤ x2) (hb : x1.length ≤ 1000000) (hmu : mu_ = (x1.length - x2.toNat)) (hrec : ∀ (z0 : expr_Scope) (z1 : List api_ExprNode) (z2 : Int), 0 ≤ z2 → z1.length ≤ 1000000 → (rec_ z0 z1 z2).2.2 = 0 → z2 < (rec_ z0 z1 z2).2.1) (ihR : ∀ {z0 : expr_Scope} {z1 : List api_ExprNode} {z2 : Int} {zv0 : PV} {zv1 : PV} (zr0 : expr_Scope.t.R z0 zv0) (zr1 : (tSl api_ExprNode.t).R z1 zv1) (h0 : 0 ≤ z2) (hb : z1.length ≤ 1000000), (z1.length - z2.toNat) < mu_ → FnR Tryz.prog 18 [zv0, zv1, vi z2] (.tup [vi ((rec_ z0 z1 z2).1), vi ((rec_ z0 z1 z2).2.1), vi ((rec_ z0 z1 z2).2.2)])) : FnR Tryz.prog 18 [v0, v1, vi x2] (.tup [vi ((m1_expr_Scope__check_B rec_ x0 x1 x2).1), vi ((m1_expr_Scope__check_B rec_ x0 x1 x2).2.1), vi ((m1_expr_Scope__check_B rec_ x0 x1 x2).2.2)]) := by
 obtain ⟨res, hres⟩ : ∃ res, m1_expr_Scope__check_B rec_ x0 x1 x2 = res := ⟨_, rfl⟩
 suffices H : RC Tryz.prog ac18 [] (QR Tryz.prog [(6, none), (7, none), (8, none)] (RF18 res)) (argE 0 [v0, v1, vi x2]) ⟨0, []⟩ by
  obtain ⟨r, h1, h2⟩ := fnE text18 (by simp) H
  rw [hres]
  have h2 : r = .tup [vi res.1, vi res.2.1, vi res.2.2] := h2
  rw [← h2]; exact h1
 unfold m1_expr_Scope__check_B at hres
 unfold ac18
 refine rc_seq ?_
 refine rc_region ?_
 refine rd_op (ov_box rfl (TR.cnt expr_Scope.t r0)) ?_
 refine rd_op (v := vi 0) (ov_move rfl) ?_
 refine rd_op (v := vi 0) (ov_move rfl) ?_
 refine rd_op (v := vi 0) (ov_move rfl) ?_
 refine rd_nil ?_
 refine pn_seq ?_
 refine rc_seq ?_
 refine rc_seq ?_
 refine rc_region ?_
 refine rd_op (ov_move rfl) ?_
 refine rd_op (ov_move rfl) ?_
 refine rd_op (ov_bi rfl (sl_len r1 Tryz.underlying32 _)) ?_
 refine rd_op (ov_bin rfl rfl i_geq) ?_
 refine rd_nil ?_
 refine pn_seq ?_
 refine rc_cond rfl (fun hc101 => ?_) (fun hc101 => ?_)
 ·replace hres := (ite_t hc101).symm.trans hres
  have hc101' := hc101
  try simp only [qa1, qa2, qa3, qa4, qa5, qa6, qa7, qa8, qa9, qaA, qaB, qaC, qaD] at hc101'
  refine rc_seq ?_
  refine rc_region ?_
  refine rd_op (v := vi 0) (ov_move rfl) ?_
  refine rd_op (v := vi 0) (ov_move rfl) ?_
  refine rd_op (v := vi 3) (ov_move rfl) ?_
  refine rd_nil ?_
  refine pn_seq ?_
  subst hres
  exact rc_retV (.tmp rfl (.tmp rfl (.tmp rfl .nil))) (deep_closed (show closed (.tup _) = true from (clL_cons rfl (clL_cons rfl (clL_cons rfl clL_nil))))) rfl
 ·replace hres := (ite_f hc101).symm.trans hres
  have hc101' := hc101
  try simp only [qa1, qa2, qa3, qa4, qa5, qa6, qa7, qa8, qa9, qaA, qaB, qaC, qaD] at hc101'
  refine rc_skip ?_
  refine pn_seq ?_
  refine rc_seq ?_
  refine rc_region ?_
  refine rd_op (ov_move rfl) ?_
  refine rd_op (ov_move rfl) ?_
  obtain ⟨v102, e102, r102⟩ := sl_idx (i := x2) r1 (by omega) (by omega)
  refine rd_op (ov_iaddr rfl rfl e102) ?_
  refine rd_op (ov_faddr rfl (api_ExprNode.g_Op r102)) ?_
  refine rd_op (ov_load rfl rfl rfl) ?_
  obtain ⟨y103, hw103, hres⟩ := let_ex hres
  have f103 := f19_ok (x0 := (ix x1 x2).Op)  
  rw [hw103] at f103
  refine rd_call (cv_fn rfl rfl (clL_cons rfl clL_nil) f103) ?_
  refine rd_op (ov_move rfl) ?_
  refine rd_nil ?_
  refine pn_seq ?_
  refine rc_seq ?_
  refine rc_block ?_
  refine rc_seq ?_
  refine rc_region ?_
  refine rd_op (ov_move rfl) ?_
  refine rd_op (ov_bin rfl rfl i_lss) ?_
  refine rd_op (ov_move rfl) ?_
  refine rd_nil ?_
  refine pn_seq ?_
  refine rc_cond rfl (fun hc104 => ?_) (fun hc104 => ?_)
  ·replace hres := (ite_t hc104).symm.trans hres
   have hc104' := hc104
   try simp only [qa1, qa2, qa3, qa4, qa5, qa6, qa7, qa8, qa9, qaA, qaB, qaC, qaD] at hc104'
   refine rc_seq ?_
   refine rc_region ?_
   refine rd_op (v := vi 0) (ov_move rfl) ?_
   refine rd_op (v := vi 0) (ov_move rfl) ?_
   refine rd_op (v := vi 11) (ov_move rfl) ?_
   refine rd_nil ?_
   refine pn_seq ?_
   subst hres
   exact rc_retV (.tmp rfl (.tmp rfl (.tmp rfl .nil))) (deep_closed (show closed (.tup _) = true from (clL_cons rfl (clL_cons rfl (clL_cons rfl clL_nil))))) rfl
  ·replace hres := (ite_f hc104).symm.trans hres
   have hc104' := hc104
   try simp only [qa1, qa2, qa3, qa4, qa5, qa6, qa7, qa8, qa9, qaA, qaB, qaC, qaD] at hc104'
   refine rc_seq ?_
   refine rc_region ?_
   refine rd_op (ov_move rfl) ?_
   refine rd_op (ov_bin rfl rfl i_eql) ?_
   refine rd_op (ov_move rfl) ?_
   refine rd_nil ?_
   refine pn_seq ?_
   refine rc_cond rfl (fun hc105 => ?_) (fun hc105 => ?_)
   ·replace hres := (ite_t hc105).symm.trans hres
    have hc105' := hc105
    try simp only [qa1, qa2, qa3, qa4, qa5, qa6, qa7, qa8, qa9, qaA, qaB, qaC, qaD] at hc105'
    refine rc_seq ?_
    refine rc_region ?_
    refine rd_op (ov_load rfl (TR.cnt expr_Scope.t r0) (TR.agg expr_Scope.t r0)) ?_
    refine rd_op (ov_move rfl) ?_
    refine rd_op (ov_move rfl) ?_
    obtain ⟨v106, e106, r106⟩ := sl_idx (i := x2) r1 (by omega) (by omega)
    refine rd_op (ov_iaddr rfl rfl e106) ?_
    refine rd_op (ov_load rfl (TR.cnt api_ExprNode.t r106) (TR.agg api_ExprNode.t r106)) ?_
    obtain ⟨y107, hw107, hres⟩ := let_ex hres
    have f107 := f36_ok  r0 r106 
    rw [hw107] at f107
    refine rd_call (cv_fn rfl rfl (clL_cons (TR.clo expr_Scope.t r0) (clL_cons (TR.clo api_ExprNode.t r106) clL_nil)) f107) ?_
    refine rd_op (ov_move rfl) ?_
    refine rd_op (ov_extract rfl rfl) ?_
    refine rd_op (ov_extract rfl rfl) ?_
    refine rd_op (ov_move rfl) ?_
    refine rd_op (ov_move rfl) ?_
    refine rd_nil ?_
    refine pn_seq ?_
    refine rc_seq ?_
    refine rc_region ?_
    refine rd_op (ov_move rfl) ?_
    refine rd_op (ov_move rfl) ?_
    refine rd_op (ov_bin rfl rfl i_add) ?_
    refine rd_op (ov_move rfl) ?_
    refine rd_op (ov_move rfl) ?_
    refine rd_op (ov_move rfl) ?_
    refine rd_op (ov_move rfl) ?_
    refine rd_nil ?_
    refine pn_seq ?_
    subst hres
    exact rc_retV (.tmp rfl (.tmp rfl (.tmp rfl .nil))) (deep_closed (show closed (.tup _) = true from (clL_cons rfl (clL_cons rfl (clL_cons rfl clL_nil))))) rfl
   ·replace hres := (ite_f hc105).symm.trans hres
    have hc105' := hc105
    try simp only [qa1, qa2, qa3, qa4, qa5, qa6, qa7, qa8, qa9, qaA, qaB, qaC, qaD] at hc105'
    refine rc_skip ?_
    refine pn_blk ?_
    refine pn_seq ?_
    refine rc_seq ?_
    refine rc_region ?_
    refine rd_allocO (x := .agg [vi 0, vi 0, vi 0]) (Mem.nil ⟨0, []⟩) rfl rfl (fun i108 w108 h108 M108 => ?_)
    refine rd_nil ?_
    refine pn_seq ?_
    refine rc_seq ?_
    refine rc_region ?_
    refine rd_op (ov_move rfl) ?_
    refine rd_op (ov_bin rfl rfl i_add) ?_
    refine rd_op (ov_move rfl) ?_
    refine rd_nil ?_
    refine pn_seq ?_
    refine rc_seq ?_
    refine rc_seq ?_
    refine rc_region ?_
    refine rd_op (ov_move rfl) ?_
    refine rd_op (v := vi 0) (ov_move rfl) ?_
    refine rd_nil ?_
    refine pn_seq ?_
    refine rc_block ?_
    refine rc_weak ?_ (m1_expr_Scope__check_L1_ok (x0 := x0) (x1 := x1) (x2 := x2) (rec_ := rec_) (mu_ := mu_) (y103 := y103) (v0 := v0) (v1 := v1) (i108 := i108) (w108 := w108) (r0 := r0) (r1 := r1) (h0 := h0) (hb := hb) (ihR := ihR) (hmu := hmu) (hrec := hrec) (hc101 := hc101) (hw103 := hw103) (hc104 := hc104) (hc105 := hc105) ?_ (Int.toNat (y103 - 0)) (wr (x2 + 1)) 0 ([0, 0, 0] : List Int) (.agg [vi 0, vi 0, vi 0]) (show (tAr 3 tI).R ([0, 0, 0] : List Int) (.agg [vi 0, vi 0, vi 0]) from ⟨rfl, [vi 0, vi 0, vi 0], [vi 0, vi 0, vi 0], ⟨rfl, ⟨rfl, ⟨rfl, trivial⟩⟩⟩, rfl, rfl⟩) rfl (by omega) (by (rw [wr_of (by omega) (by omega)]; omega)) _ (Mem.sub M108 (.cons_cons _ .slnil)) hres)
    ·exact ((sub_cons rfl (sub_cons rfl (sub_cons rfl (sub_cons rfl (sub_cons rfl (sub_cons rfl (sub_cons rfl (sub_nil _)))))))))
    ·intro x7_116 zE109_116 u116E109 q116E109 h116 M116 hres
     refine px_blk ?_
     refine pn_seq ?_
     refine rc_seq ?_
     refine rc_region ?_
     refine rd_op (ov_move rfl) ?_
     refine rd_op (ov_move rfl) ?_
     obtain ⟨v117, e117, r117⟩ := sl_idx (i := x2) r1 (by omega) (by omega)
     refine rd_op (ov_iaddr rfl rfl e117) ?_
     refine rd_op (ov_load rfl (TR.cnt api_ExprNode.t r117) (TR.agg api_ExprNode.t r117)) ?_
     refine rd_op (ov_load0 (k := 0) M116 rfl rfl (TR.agg (tAr 3 tI) q116E109)) ?_
     obtain ⟨y118, hw118, hres⟩ := let_ex hres
     have f118 := f37_ok  r117 q116E109 
     rw [hw118] at f118
     refine rd_call (cv_fn rfl rfl (clL_cons (TR.clo api_ExprNode.t r117) (clL_cons (TR.clo (tAr 3 tI) q116E109) clL_nil)) f118) ?_
     refine rd_op (ov_move rfl) ?_
     refine rd_op (ov_extract rfl rfl) ?_
     refine rd_op (ov_extract rfl rfl) ?_
     refine rd_op (ov_move rfl) ?_
     refine rd_op (ov_move rfl) ?_
     refine rd_nil ?_
     refine pn_seq ?_
     refine rc_seq ?_
     refine rc_region ?_
     refine rd_op (ov_move rfl) ?_
     refine rd_op (ov_move rfl) ?_
     refine rd_op (ov_move rfl) ?_
     refine rd_op (ov_move rfl) ?_
     refine rd_op (ov_move rfl) ?_
     refine rd_op (ov_move rfl) ?_
     refine rd_nil ?_
     refine pn_seq ?_
     subst hres
     exact rc_retV (.tmp rfl (.tmp rfl (.tmp rfl .nil))) (deep_closed (show closed (.tup _) = true from (clL_cons rfl (clL_cons rfl (clL_cons rfl clL_nil))))) rfl
theorem f18_okR : ∀ (n_ : Nat) {x0 : expr_Scope} {x1 : List api_ExprNode} {x2 : Int} {v0 : PV} {v1 : PV} (r0 : expr_Scope.t.R x0 v0) (r1 : (tSl api_ExprNode.t).R x1 v1) (h0 : 0 ≤ x2) (hb : x1.length ≤ 1000000), (x1.length - x2.toNat) < n_ → FnR Tryz.prog 18 [v0, v1, vi x2] (.tup [vi ((m1_expr_Scope__check_R n_ x0 x1 x2).1), vi ((m1_expr_Scope__check_R n_ x0 x1 x2).2.1), vi ((m1_expr_Scope__check_R n_ x0 x1 x2).2.2)]) := by
 intro n_
 induction n_ with
 | zero => intros; rename_i hlt; exact absurd hlt (Nat.not_lt_zero _)
 | succ n_ ihn =>
  intro x0 x1 x2 v0 v1 r0 r1 h0 hb hlt
  have e_ : m1_expr_Scope__check_R (n_ + 1) x0 x1 x2 = m1_expr_Scope__check_B (m1_expr_Scope__check_R n_) x0 x1 x2 := by rw [m1_expr_Scope__check_R]
  rw [e_]
  exact f18_okB r0 r1 h0 hb rfl (check_next n_) (fun {z0} {z1} {z2} {zv0} {zv1} zr0 zr1 h0 hb hz => ihn zr0 zr1 h0 hb (by omega))
theorem f18_ok {x0 : expr_Scope} {x1 : List api_ExprNode} {x2 : Int} {v0 : PV} {v1 : PV} (r0 : expr_Scope.t.R x0 v0) (r1 : (tSl api_ExprNode.t).R x1 v1) (h0 : 0 ≤ x2) (hb : x1.length ≤ 1000000) : FnR Tryz.prog 18 [v0, v1, vi x2] (.tup [vi ((m1_expr_Scope__check x0 x1 x2).1), vi ((m1_expr_Scope__check x0 x1 x2).2.1), vi ((m1_expr_Scope__check x0 x1 x2).2.2)]) := f18_okR _ r0 r1 h0 hb (Nat.lt_succ_self _)

/-- patchbay/expr.Check -/
def RF9 (res : Int × Int) (r : PV) : Prop := r = .tup [vi res.1, vi res.2]
theorem f9_ok {x0 : List api_ExprNode} {x1 : expr_Scope} {v0 : PV} {v1 : PV} (r0 : (tSl api_ExprNode.t).R x0 v0) (r1 : expr_Scope.t.R x1 v1) : FnR Tryz.prog 9 [v0, v1] (.tup [vi ((expr_Check x0 x1).1), vi ((expr_Check x0 x1).2)]) := by
 obtain ⟨res, hres⟩ : ∃ res, expr_Check x0 x1 = res := ⟨_, rfl⟩
 suffices H : RC Tryz.prog ac9 [] (QR Tryz.prog [(4, none), (5, none)] (RF9 res)) (argE 0 [v0, v1]) ⟨0, []⟩ by
  obtain ⟨r, h1, h2⟩ := fnE text9 (by simp) H
  rw [hres]
  have h2 : r = .tup [vi res.1, vi res.2] := h2
  rw [← h2]; exact h1
 unfold expr_Check at hres
 unfold ac9
 refine rc_seq ?_
 refine rc_region ?_
 refine rd_op (ov_box rfl (TR.cnt expr_Scope.t r1)) ?_
 refine rd_op (v := vi 0) (ov_move rfl) ?_
 refine rd_op (v := vi 0) (ov_move rfl) ?_
 refine rd_nil ?_
 refine pn_seq ?_
 refine rc_seq ?_
 refine rc_seq ?_
 refine rc_region ?_
 refine rd_op (ov_move rfl) ?_
 refine rd_op (ov_bi rfl (sl_len r0 Tryz.underlying32 _)) ?_
 refine rd_op (ov_bin rfl rfl i_gtr) ?_
 refine rd_nil ?_
 refine pn_seq ?_
 refine rc_cond rfl (fun hc101 => ?_) (fun hc101 => ?_)
 ·replace hres := (ite_t hc101).symm.trans hres
  have hc101' := hc101
  try simp only [qa1, qa2, qa3, qa4, qa5, qa6, qa7, qa8, qa9, qaA, qaB, qaC, qaD] at hc101'
  refine rc_seq ?_
  refine rc_region ?_
  refine rd_op (v := vi 0) (ov_move rfl) ?_
  refine rd_op (v := vi 12) (ov_move rfl) ?_
  refine rd_nil ?_
  refine pn_seq ?_
  subst hres
  exact rc_retV (.tmp rfl (.tmp rfl .nil)) (deep_closed (show closed (.tup _) = true from (clL_cons rfl (clL_cons rfl clL_nil)))) rfl
 ·replace hres := (ite_f hc101).symm.trans hres
  have hc101' := hc101
  try simp only [qa1, qa2, qa3, qa4, qa5, qa6, qa7, qa8, qa9, qaA, qaB, qaC, qaD] at hc101'
  refine rc_skip ?_
  refine pn_seq ?_
  refine rc_seq ?_
  refine rc_region ?_
  refine rd_op (ov_load rfl (TR.cnt expr_Scope.t r1) (TR.agg expr_Scope.t r1)) ?_
  refine rd_op (ov_move rfl) ?_
  obtain ⟨y102, hw102, hres⟩ := let_ex hres
  have f102 := f18_ok (x2 := 0) r1 r0 (by first | assumption | omega | (rw [wr_of (by omega) (by omega)]; omega) | (have hk := rval rfl (And.right (And.left (by assumption))); omega) | (have hk := rval (by assumption) (by assumption); omega) | (have hk := rval (by assumption) (And.left (by assumption)); omega) | (have hk := rval (by assumption) (And.left (And.left (by assumption))); have hz := rslc (by assumption); omega) | (simp; done) | (simp only [List.length_append, List.length_nil, List.length_cons]; omega) | (have hk := (chk_ok (by assumption) (by assumption)).1; omega) | (simp only [List.length_cons, List.length_nil]; omega) | (simp only [List.length_append]; have hk := (chk_ok (by assumption) (by assumption)).1; omega) | (simp only [List.length_append, List.length_nil]; have hk := (chk_ok (by assumption) (by assumption)).1; omega)) (by first | assumption | omega | (rw [wr_of (by omega) (by omega)]; omega) | (have hk := rval rfl (And.right (And.left (by assumption))); omega) | (have hk := rval (by assumption) (by assumption); omega) | (have hk := rval (by assumption) (And.left (by assumption)); omega) | (have hk := rval (by assumption) (And.left (And.left (by assumption))); have hz := rslc (by assumption); omega) | (simp; done) | (simp only [List.length_append, List.length_nil, List.length_cons]; omega) | (have hk := (chk_ok (by assumption) (by assumption)).1; omega) | (simp only [List.length_cons, List.length_nil]; omega) | (simp only [List.length_append]; have hk := (chk_ok (by assumption) (by assumption)).1; omega) | (simp only [List.length_append, List.length_nil]; have hk := (chk_ok (by assumption) (by assumption)).1; omega))
  rw [hw102] at f102
  refine rd_call (cv_fn rfl rfl (clL_cons (TR.clo expr_Scope.t r1) (clL_cons (TR.clo (tSl api_ExprNode.t) r0) (clL_cons rfl clL_nil))) f102) ?_
  refine rd_op (ov_move rfl) ?_
  refine rd_op (ov_extract rfl rfl) ?_
  refine rd_op (ov_extract rfl rfl) ?_
  refine rd_op (ov_extract rfl rfl) ?_
  refine rd_op (ov_move rfl) ?_
  refine rd_op (ov_move rfl) ?_
  refine rd_op (ov_move rfl) ?_
  refine rd_nil ?_
  refine pn_seq ?_
  refine rc_seq ?_
  refine rc_block ?_
  refine rc_seq ?_
  refine rc_region ?_
  refine rd_op (ov_move rfl) ?_
  refine rd_op (ov_bin rfl rfl i_neq) ?_
  refine rd_op (ov_move rfl) ?_
  refine rd_nil ?_
  refine pn_seq ?_
  refine rc_cond rfl (fun hc103 => ?_) (fun hc103 => ?_)
  ·replace hres := (ite_t hc103).symm.trans hres
   have hc103' := hc103
   try simp only [qa1, qa2, qa3, qa4, qa5, qa6, qa7, qa8, qa9, qaA, qaB, qaC, qaD] at hc103'
   refine rc_seq ?_
   refine rc_region ?_
   refine rd_op (ov_move rfl) ?_
   refine rd_op (v := vi 0) (ov_move rfl) ?_
   refine rd_op (ov_move rfl) ?_
   refine rd_nil ?_
   refine pn_seq ?_
   subst hres
   exact rc_retV (.tmp rfl (.tmp rfl .nil)) (deep_closed (show closed (.tup _) = true from (clL_cons rfl (clL_cons rfl clL_nil)))) rfl
  ·replace hres := (ite_f hc103).symm.trans hres
   have hc103' := hc103
   try simp only [qa1, qa2, qa3, qa4, qa5, qa6, qa7, qa8, qa9, qaA, qaB, qaC, qaD] at hc103'
   refine rc_seq ?_
   refine rc_region ?_
   refine rd_op (ov_move rfl) ?_
   refine rd_op (ov_move rfl) ?_
   refine rd_op (ov_bi rfl (sl_len r0 Tryz.underlying32 _)) ?_
   refine rd_op (ov_bin rfl rfl i_lss) ?_
   refine rd_op (ov_move rfl) ?_
   refine rd_nil ?_
   refine pn_seq ?_
   refine rc_cond rfl (fun hc104 => ?_) (fun hc104 => ?_)
   ·replace hres := (ite_t hc104).symm.trans hres
    have hc104' := hc104
    try simp only [qa1, qa2, qa3, qa4, qa5, qa6, qa7, qa8, qa9, qaA, qaB, qaC, qaD] at hc104'
    refine rc_seq ?_
    refine rc_region ?_
    refine rd_op (v := vi 0) (ov_move rfl) ?_
    refine rd_op (v := vi 4) (ov_move rfl) ?_
    refine rd_nil ?_
    refine pn_seq ?_
    subst hres
    exact rc_retV (.tmp rfl (.tmp rfl .nil)) (deep_closed (show closed (.tup _) = true from (clL_cons rfl (clL_cons rfl clL_nil)))) rfl
   ·replace hres := (ite_f hc104).symm.trans hres
    have hc104' := hc104
    try simp only [qa1, qa2, qa3, qa4, qa5, qa6, qa7, qa8, qa9, qaA, qaB, qaC, qaD] at hc104'
    refine rc_skip ?_
    refine pn_blk ?_
    refine pn_seq ?_
    refine rc_seq ?_
    refine rc_region ?_
    refine rd_op (ov_move rfl) ?_
    refine rd_op (ov_move rfl) ?_
    refine rd_op (v := vi 0) (ov_move rfl) ?_
    refine rd_nil ?_
    refine pn_seq ?_
    subst hres
    exact rc_retV (.tmp rfl (.tmp rfl .nil)) (deep_closed (show closed (.tup _) = true from (clL_cons rfl (clL_cons rfl clL_nil)))) rfl

/-- patchbay/env.in[uint32] -/
def RF99 (res : Bool) (r : PV) : Prop := r = vb res
theorem f99_ok {x0 : List (BitVec 32)} {x1 : Int} {v0 : PV} (r0 : (tSl tU32).R x0 v0) : FnR Tryz.prog 99 [v0, vi x1] (vb (env_in_uint32 x0 x1)) := by
 obtain ⟨res, hres⟩ : ∃ res, env_in_uint32 x0 x1 = res := ⟨_, rfl⟩
 suffices H : RC Tryz.prog ac99 [] (QR Tryz.prog [(4, none)] (RF99 res)) (argE 0 [v0, vi x1]) ⟨0, []⟩ by
  obtain ⟨r, h1, h2⟩ := fnE text99 (by simp) H
  rw [hres]
  have h2 : r = vb res := h2
  rw [← h2]; exact h1
 unfold env_in_uint32 at hres
 unfold ac99
 refine rc_seq ?_
 refine rc_region ?_
 refine rd_op (v := vb false) (ov_move rfl) ?_
 refine rd_nil ?_
 refine pn_seq ?_
 refine rc_seq ?_
 refine rc_region ?_
 refine rd_op (ov_move rfl) ?_
 refine rd_op (ov_bin rfl rfl i_geq) ?_
 refine rd_op (ov_move rfl) ?_
 refine rd_cut (d := 12) (v := vb ((decide (0 ≤ x1)) && (decide (x1 < (x0.length : Int))))) ?_ ?_
 ·intro S Q r
  simp only [ac99_G1, List.cons_append, List.nil_append, List.append_assoc]
  cases hb101 : (decide (0 ≤ x1))
  ·intro k
   refine rd_skip rfl rfl ?_
   refine rd_skip rfl rfl ?_
   refine rd_skip rfl rfl ?_
   refine rd_skip rfl rfl ?_
   refine rd_op (v := vb false) (ov_pick rfl rfl rfl rfl) ?_
   exact rd_weak (sub_cons rfl (sub_skip rfl (sub_skip rfl (sub_skip rfl (sub_skip rfl (sub_skip rfl (sub_refl _))))))) k
  ·intro k
   have hb101' := hb101
   try simp only [qa1, qa2, qa3, qa4, qa5, qa6, qa7, qa8, qa9, qaA, qaB, qaC, qaD] at hb101'
   refine rd_yes rfl rfl (ov_move rfl) ?_
   refine rd_yes rfl rfl (ov_move rfl) ?_
   refine rd_yes rfl rfl (ov_bi rfl (sl_len r0 Tryz.underlying35 _)) ?_
   refine rd_yes rfl rfl (ov_bin rfl rfl i_lss) ?_
   refine rd_op (v := vb (decide (x1 < (x0.length : Int)))) (ov_pick rfl rfl rfl rfl) ?_
   exact rd_weak (sub_cons rfl (sub_skip rfl (sub_skip rfl (sub_skip rfl (sub_skip rfl (sub_skip rfl (sub_refl _))))))) k
 refine rd_op (ov_move rfl) ?_
 refine rd_nil ?_
 refine pn_seq ?_
 subst hres
 exact rc_retV (.tmp rfl .nil) (deep_closed rfl) rfl

/-- patchbay/env.at[[]uint32] -/
def RF100 (res : (List (BitVec 32))) (r : PV) : Prop := (tSl tU32).R res r
theorem f100_ok {x0 : List (List (BitVec 32))} {x1 : Int} {v0 : PV} (r0 : (tSl (tSl tU32)).R x0 v0) : ∃ r, FnR Tryz.prog 100 [v0, vi x1] r ∧ (tSl tU32).R (env_at__uint32_ x0 x1) r := by
 obtain ⟨res, hres⟩ : ∃ res, env_at__uint32_ x0 x1 = res := ⟨_, rfl⟩
 suffices H : RC Tryz.prog ac100 [] (QR Tryz.prog [(4, none)] (RF100 res)) (argE 0 [v0, vi x1]) ⟨0, []⟩ by
  rw [hres]
  exact fnE text100 (by simp) H
 unfold env_at__uint32_ at hres
 unfold ac100
 refine rc_seq ?_
 refine rc_region ?_
 refine rd_op (v := nilS) (ov_move rfl) ?_
 refine rd_nil ?_
 refine pn_seq ?_
 refine rc_seq ?_
 refine rc_region ?_
 refine rd_op (v := nilS) (ov_move rfl) ?_
 refine rd_nil ?_
 refine pn_seq ?_
 refine rc_seq ?_
 refine rc_seq ?_
 refine rc_region ?_
 refine rd_op (ov_move rfl) ?_
 refine rd_op (ov_bin rfl rfl i_lss) ?_
 refine rd_op (ov_move rfl) ?_
 refine rd_cut (d := 13) (v := vb ((decide (x1 < 0)) || (decide ((x0.length : Int) ≤ x1)))) ?_ ?_
 ·intro S Q r
  simp only [ac100_G1, List.cons_append, List.nil_append, List.append_assoc]
  cases hb101 : (decide (x1 < 0))
  ·intro k
   have hb101' := hb101
   try simp only [qa1, qa2, qa3, qa4, qa5, qa6, qa7, qa8, qa9, qaA, qaB, qaC, qaD] at hb101'
   refine rd_yes rfl rfl (ov_move rfl) ?_
   refine rd_yes rfl rfl (ov_move rfl) ?_
   refine rd_yes rfl rfl (ov_bi rfl (sl_len r0 Tryz.underlying34 _)) ?_
   refine rd_yes rfl rfl (ov_bin rfl rfl i_geq) ?_
   refine rd_op (v := vb (decide ((x0.length : Int) ≤ x1))) (ov_pick rfl rfl rfl rfl) ?_
   exact rd_weak (sub_cons rfl (sub_skip rfl (sub_skip rfl (sub_skip rfl (sub_skip rfl (sub_skip rfl (sub_refl _))))))) k
  ·intro k
   refine rd_skip rfl rfl ?_
   refine rd_skip rfl rfl ?_
   refine rd_skip rfl rfl ?_
   refine rd_skip rfl rfl ?_
   refine rd_op (v := vb true) (ov_pick rfl rfl rfl rfl) ?_
   exact rd_weak (sub_cons rfl (sub_skip rfl (sub_skip rfl (sub_skip rfl (sub_skip rfl (sub_skip rfl (sub_refl _))))))) k
 refine rd_nil ?_
 refine pn_seq ?_
 refine rc_cond rfl (fun hc102 => ?_) (fun hc102 => ?_)
 ·replace hres := (ite_t hc102).symm.trans hres
  have hc102' := hc102
  try simp only [qa1, qa2, qa3, qa4, qa5, qa6, qa7, qa8, qa9, qaA, qaB, qaC, qaD] at hc102'
  refine rc_seq ?_
  refine rc_region ?_
  refine rd_op (ov_move rfl) ?_
  refine rd_op (ov_move rfl) ?_
  refine rd_nil ?_
  refine pn_seq ?_
  subst hres
  exact rc_retV (.tmp rfl .nil) (deep_closed (TR.clo (tSl tU32) sl_nil)) sl_nil
 ·replace hres := (ite_f hc102).symm.trans hres
  have hc102' := hc102
  try simp only [qa1, qa2, qa3, qa4, qa5, qa6, qa7, qa8, qa9, qaA, qaB, qaC, qaD] at hc102'
  refine rc_skip ?_
  refine pn_seq ?_
  refine rc_seq ?_
  refine rc_region ?_
  refine rd_op (ov_move rfl) ?_
  refine rd_op (ov_move rfl) ?_
  obtain ⟨v103, e103, r103⟩ := sl_idx (i := x1) r0 (by omega) (by omega)
  refine rd_op (ov_iaddr rfl rfl e103) ?_
  refine rd_op (ov_load rfl (TR.cnt (tSl tU32) r103) (TR.agg (tSl tU32) r103)) ?_
  refine rd_op (ov_move rfl) ?_
  refine rd_nil ?_
  refine pn_seq ?_
  subst hres
  exact rc_retV (.tmp rfl .nil) (deep_closed (TR.clo (tSl tU32) r103)) r103

/-- patchbay/env.at[bool] -/
def RF101 (res : Bool) (r : PV) : Prop := r = vb res
theorem f101_ok {x0 : List Bool} {x1 : Int} {v0 : PV} (r0 : (tSl tB).R x0 v0) : FnR Tryz.prog 101 [v0, vi x1] (vb (env_at_bool x0 x1)) := by
 obtain ⟨res, hres⟩ : ∃ res, env_at_bool x0 x1 = res := ⟨_, rfl⟩
 suffices H : RC Tryz.prog ac101 [] (QR Tryz.prog [(4, none)] (RF101 res)) (argE 0 [v0, vi x1]) ⟨0, []⟩ by
  obtain ⟨r, h1, h2⟩ := fnE text101 (by simp) H
  rw [hres]
  have h2 : r = vb res := h2
  rw [← h2]; exact h1
 unfold env_at_bool at hres
 unfold ac101
 refine rc_seq ?_
 refine rc_region ?_
 refine rd_op (v := vb false) (ov_move rfl) ?_
 refine rd_nil ?_
 refine pn_seq ?_
 refine rc_seq ?_
 refine rc_region ?_
 refine rd_op (v := vb false) (ov_move rfl) ?_
 refine rd_nil ?_
 refine pn_seq ?_
 refine rc_seq ?_
 refine rc_seq ?_
 refine rc_region ?_
 refine rd_op (ov_move rfl) ?_
 refine rd_op (ov_bin rfl rfl i_lss) ?_
 refine rd_op (ov_move rfl) ?_
 refine rd_cut (d := 13) (v := vb ((decide (x1 < 0)) || (decide ((x0.length : Int) ≤ x1)))) ?_ ?_
 ·intro S Q r
  simp only [ac101_G1, List.cons_append, List.nil_append, List.append_assoc]
  cases hb101 : (decide (x1 < 0))
  ·intro k
   have hb101' := hb101
   try simp only [qa1, qa2, qa3, qa4, qa5, qa6, qa7, qa8, qa9, qaA, qaB, qaC, qaD] at hb101'
   refine rd_yes rfl rfl (ov_move rfl) ?_
   refine rd_yes rfl rfl (ov_move rfl) ?_
   refine rd_yes rfl rfl (ov_bi rfl (sl_len r0 Tryz.underlying33 _)) ?_
   refine rd_yes rfl rfl (ov_bin rfl rfl i_geq) ?_
   refine rd_op (v := vb (decide ((x0.length : Int) ≤ x1))) (ov_pick rfl rfl rfl rfl) ?_
   exact rd_weak (sub_cons rfl (sub_skip rfl (sub_skip rfl (sub_skip rfl (sub_skip rfl (sub_skip rfl (sub_refl _))))))) k
  ·intro k
   refine rd_skip rfl rfl ?_
   refine rd_skip rfl rfl ?_
   refine rd_skip rfl rfl ?_
   refine rd_skip rfl rfl ?_
   refine rd_op (v := vb true) (ov_pick rfl rfl rfl rfl) ?_
   exact rd_weak (sub_cons rfl (sub_skip rfl (sub_skip rfl (sub_skip rfl (sub_skip rfl (sub_skip rfl (sub_refl _))))))) k
 refine rd_nil ?_
 refine pn_seq ?_
 refine rc_cond rfl (fun hc102 => ?_) (fun hc102 => ?_)
 ·replace hres := (ite_t hc102).symm.trans hres
  have hc102' := hc102
  try simp only [qa1, qa2, qa3, qa4, qa5, qa6, qa7, qa8, qa9, qaA, qaB, qaC, qaD] at hc102'
  refine rc_seq ?_
  refine rc_region ?_
  refine rd_op (ov_move rfl) ?_
  refine rd_op (ov_move rfl) ?_
  refine rd_nil ?_
  refine pn_seq ?_
  subst hres
  exact rc_retV (.tmp rfl .nil) (deep_closed rfl) rfl
 ·replace hres := (ite_f hc102).symm.trans hres
  have hc102' := hc102
  try simp only [qa1, qa2, qa3, qa4, qa5, qa6, qa7, qa8, qa9, qaA, qaB, qaC, qaD] at hc102'
  refine rc_skip ?_
  refine pn_seq ?_
  refine rc_seq ?_
  refine rc_region ?_
  refine rd_op (ov_move rfl) ?_
  refine rd_op (ov_move rfl) ?_
  refine rd_op (ov_iaddr rfl rfl (slB r0 (by omega) (by omega))) ?_
  refine rd_op (ov_load rfl rfl rfl) ?_
  refine rd_op (ov_move rfl) ?_
  refine rd_nil ?_
  refine pn_seq ?_
  subst hres
  exact rc_retV (.tmp rfl .nil) (deep_closed rfl) rfl

/-- patchbay/env.element -/
def RF86 (res : (List (BitVec 32)) × Bool) (r : PV) : Prop := ∃ c0, r = .tup [c0, vb res.2] ∧ (tSl tU32).R res.1 c0
theorem f86_ok {x0 : api_Env} {x1 : api_FieldRef} {v0 : PV} {v1 : PV} (r0 : api_Env.t.R x0 v0) (r1 : api_FieldRef.t.R x1 v1) : ∃ c0, FnR Tryz.prog 86 [v0, v1] (.tup [c0, vb ((env_element x0 x1).2)]) ∧ (tSl tU32).R (env_element x0 x1).1 c0 := by
 obtain ⟨res, hres⟩ : ∃ res, env_element x0 x1 = res := ⟨_, rfl⟩
 suffices H : RC Tryz.prog ac86 [] (QR Tryz.prog [(4, none), (5, none)] (RF86 res)) (argE 0 [v0, v1]) ⟨0, []⟩ by
  rw [hres]
  obtain ⟨r, h1, c0, rfl, qc0⟩ := fnE text86 (by simp) H
  exact ⟨c0, h1, qc0⟩
 unfold env_element at hres
 unfold ac86
 refine rc_seq ?_
 refine rc_region ?_
 refine rd_op (ov_box rfl (TR.cnt api_Env.t r0)) ?_
 refine rd_op (ov_box rfl (TR.cnt api_FieldRef.t r1)) ?_
 refine rd_op (v := nilS) (ov_move rfl) ?_
 refine rd_op (v := vb false) (ov_move rfl) ?_
 refine rd_nil ?_
 refine pn_seq ?_
 refine rc_seq ?_
 refine rc_seq ?_
 refine rc_region ?_
 refine rd_op (ov_load rfl (TR.cnt api_FieldRef.t r1) (TR.agg api_FieldRef.t r1)) ?_
 refine rd_op (ov_faddr rfl (api_FieldRef.g_Field r1)) ?_
 refine rd_op (ov_load rfl rfl rfl) ?_
 refine rd_op (v := .agg [vi (-1), vi x1.Field]) (ov_build (cs := [vi (-1), vi x1.Field]) rfl rfl) ?_
 refine rd_op (ov_bin rfl rfl (api_FieldRef.eql_65 r1 (show api_FieldRef.t.R ({ Header := (-1), Field := x1.Field } : api_FieldRef) (.agg [vi (-1), vi x1.Field]) from rfl))) ?_
 refine rd_nil ?_
 refine pn_seq ?_
 refine rc_cond rfl (fun hc101 => ?_) (fun hc101 => ?_)
 ·replace hres := (ite_t hc101).symm.trans hres
  have hc101' := hc101
  try simp only [qa1, qa2, qa3, qa4, qa5, qa6, qa7, qa8, qa9, qaA, qaB, qaC, qaD] at hc101'
  refine rc_seq ?_
  refine rc_region ?_
  obtain ⟨v102, e102, r102⟩ := api_Env.g_Meta r0
  refine rd_op (ov_faddr rfl e102) ?_
  refine rd_op (ov_load rfl (TR.cnt (tSl tU32) r102) (TR.agg (tSl tU32) r102)) ?_
  obtain ⟨v103, e103, r103⟩ := api_Env.g_Meta r0
  refine rd_op (ov_faddr rfl e103) ?_
  refine rd_op (ov_load rfl (TR.cnt (tSl tU32) r103) (TR.agg (tSl tU32) r103)) ?_
  refine rd_op (ov_faddr rfl (api_FieldRef.g_Field r1)) ?_
  refine rd_op (ov_load rfl rfl rfl) ?_
  obtain ⟨y104, hw104, hres⟩ := let_ex hres
  have f104 := f99_ok (x1 := x1.Field) r103 
  rw [hw104] at f104
  refine rd_call (cv_fn rfl rfl (clL_cons (TR.clo (tSl tU32) r103) (clL_cons rfl clL_nil)) f104) ?_
  refine rd_op (ov_move rfl) ?_
  refine rd_op (ov_move rfl) ?_
  refine rd_nil ?_
  refine pn_seq ?_
  subst hres
  exact rc_retV (.tmp rfl (.tmp rfl .nil)) (deep_closed (show closed (.tup _) = true from (clL_cons (TR.clo (tSl tU32) r102) (clL_cons rfl clL_nil)))) ⟨v102, rfl, r102⟩
 ·replace hres := (ite_f hc101).symm.trans hres
  have hc101' := hc101
  try simp only [qa1, qa2, qa3, qa4, qa5, qa6, qa7, qa8, qa9, qaA, qaB, qaC, qaD] at hc101'
  refine rc_skip ?_
  refine pn_seq ?_
  refine rc_seq ?_
  refine rc_region ?_
  obtain ⟨v105, e105, r105⟩ := api_Env.g_Fields r0
  refine rd_op (ov_faddr rfl e105) ?_
  refine rd_op (ov_load rfl (TR.cnt (tSl (tSl tU32)) r105) (TR.agg (tSl (tSl tU32)) r105)) ?_
  refine rd_op (ov_faddr rfl (api_FieldRef.g_Header r1)) ?_
  refine rd_op (ov_load rfl rfl rfl) ?_
  obtain ⟨y106, hw106, hres⟩ := let_ex hres
  obtain ⟨v107, f106, r107⟩ := f100_ok (x1 := x1.Header) r105 
  rw [hw106] at r107
  refine rd_call (cv_fn rfl rfl (clL_cons (TR.clo (tSl (tSl tU32)) r105) (clL_cons rfl clL_nil)) f106) ?_
  refine rd_op (ov_move rfl) ?_
  refine rd_nil ?_
  refine pn_seq ?_
  refine rc_seq ?_
  refine rc_region ?_
  refine rd_op (ov_move rfl) ?_
  obtain ⟨v108, e108, r108⟩ := api_Env.g_Valid r0
  refine rd_op (ov_faddr rfl e108) ?_
  refine rd_op (ov_load rfl (TR.cnt (tSl tB) r108) (TR.agg (tSl tB) r108)) ?_
  refine rd_op (ov_faddr rfl (api_FieldRef.g_Header r1)) ?_
  refine rd_op (ov_load rfl rfl rfl) ?_
  obtain ⟨y109, hw109, hres⟩ := let_ex hres
  have f109 := f101_ok (x1 := x1.Header) r108 
  rw [hw109] at f109
  refine rd_call (cv_fn rfl rfl (clL_cons (TR.clo (tSl tB) r108) (clL_cons rfl clL_nil)) f109) ?_
  refine rd_op (ov_move rfl) ?_
  refine rd_cut (d := 35) (v := vb (y109 && (env_in_uint32 y106 x1.Field))) ?_ ?_
  ·intro S Q r
   simp only [ac86_G1, List.cons_append, List.nil_append, List.append_assoc]
   cases hb110 : y109
   ·intro k
    refine rd_skip rfl rfl ?_
    refine rd_skip rfl rfl ?_
    refine rd_skip rfl rfl ?_
    refine rd_skip rfl rfl ?_
    refine rd_op (v := vb false) (ov_pick rfl rfl rfl rfl) ?_
    exact rd_weak (sub_cons rfl (sub_skip rfl (sub_skip rfl (sub_skip rfl (sub_skip rfl (sub_skip rfl (sub_refl _))))))) k
   ·intro k
    have hb110' := hb110
    try simp only [qa1, qa2, qa3, qa4, qa5, qa6, qa7, qa8, qa9, qaA, qaB, qaC, qaD] at hb110'
    refine rd_yes rfl rfl (ov_move rfl) ?_
    refine rd_yes rfl rfl (ov_faddr rfl (api_FieldRef.g_Field r1)) ?_
    refine rd_yes rfl rfl (ov_load rfl rfl rfl) ?_
    have f111 := f99_ok (x1 := x1.Field) r107 
    refine rd_ycall rfl rfl (cv_fn rfl rfl (clL_cons (TR.clo (tSl tU32) r107) (clL_cons rfl clL_nil)) f111) ?_
    refine rd_op (v := vb (env_in_uint32 y106 x1.Field)) (ov_pick rfl rfl rfl rfl) ?_
    exact rd_weak (sub_cons rfl (sub_skip rfl (sub_skip rfl (sub_skip rfl (sub_skip rfl (sub_skip rfl (sub_refl _))))))) k
  refine rd_op (ov_move rfl) ?_
  refine rd_op (ov_move rfl) ?_
  refine rd_nil ?_
  refine pn_seq ?_
  subst hres
  exact rc_retV (.tmp rfl (.tmp rfl .nil)) (deep_closed (show closed (.tup _) = true from (clL_cons (TR.clo (tSl tU32) r107) (clL_cons rfl clL_nil)))) ⟨v107, rfl, r107⟩

/-- patchbay/env.Get -/
def RF42 (res : (BitVec 32)) (r : PV) : Prop := r = vu32 res
theorem f42_ok {x0 : api_Env} {x1 : api_FieldRef} {v0 : PV} {v1 : PV} (r0 : api_Env.t.R x0 v0) (r1 : api_FieldRef.t.R x1 v1) : FnR Tryz.prog 42 [v0, v1] (vu32 (env_Get x0 x1)) := by
 obtain ⟨res, hres⟩ : ∃ res, env_Get x0 x1 = res := ⟨_, rfl⟩
 suffices H : RC Tryz.prog ac42 [] (QR Tryz.prog [(4, none)] (RF42 res)) (argE 0 [v0, v1]) ⟨0, []⟩ by
  obtain ⟨r, h1, h2⟩ := fnE text42 (by simp) H
  rw [hres]
  have h2 : r = vu32 res := h2
  rw [← h2]; exact h1
 unfold env_Get at hres
 unfold ac42
 refine rc_seq ?_
 refine rc_region ?_
 refine rd_op (ov_box rfl (TR.cnt api_Env.t r0)) ?_
 refine rd_op (ov_box rfl (TR.cnt api_FieldRef.t r1)) ?_
 refine rd_op (v := vu32 0#32) (ov_move rfl) ?_
 refine rd_nil ?_
 refine pn_seq ?_
 refine rc_seq ?_
 refine rc_region ?_
 refine rd_op (ov_load rfl (TR.cnt api_Env.t r0) (TR.agg api_Env.t r0)) ?_
 refine rd_op (ov_load rfl (TR.cnt api_FieldRef.t r1) (TR.agg api_FieldRef.t r1)) ?_
 obtain ⟨y101, hw101, hres⟩ := let_ex hres
 obtain ⟨v102, f101, r102⟩ := f86_ok  r0 r1 
 rw [hw101] at f101 r102
 refine rd_call (cv_fn rfl rfl (clL_cons (TR.clo api_Env.t r0) (clL_cons (TR.clo api_FieldRef.t r1) clL_nil)) f101) ?_
 refine rd_op (ov_move rfl) ?_
 refine rd_op (ov_extract rfl rfl) ?_
 refine rd_op (ov_extract rfl rfl) ?_
 refine rd_op (ov_move rfl) ?_
 refine rd_op (ov_move rfl) ?_
 refine rd_nil ?_
 refine pn_seq ?_
 refine rc_seq ?_
 refine rc_seq ?_
 refine rc_region ?_
 refine rd_op (ov_move rfl) ?_
 refine rd_op (ov_not rfl) ?_
 refine rd_nil ?_
 refine pn_seq ?_
 refine rc_cond rfl (fun hc103 => ?_) (fun hc103 => ?_)
 ·replace hres := (ite_t hc103).symm.trans hres
  have hc103' := hc103
  try simp only [qa1, qa2, qa3, qa4, qa5, qa6, qa7, qa8, qa9, qaA, qaB, qaC, qaD] at hc103'
  refine rc_seq ?_
  refine rc_region ?_
  refine rd_op (v := vu32 0#32) (ov_move rfl) ?_
  refine rd_nil ?_
  refine pn_seq ?_
  subst hres
  exact rc_retV (.tmp rfl .nil) (deep_closed rfl) rfl
 ·replace hres := (ite_f hc103).symm.trans hres
  have hc103' := hc103
  try simp only [qa1, qa2, qa3, qa4, qa5, qa6, qa7, qa8, qa9, qaA, qaB, qaC, qaD] at hc103'
  refine rc_skip ?_
  refine pn_seq ?_
  refine rc_seq ?_
  refine rc_region ?_
  refine rd_op (ov_move rfl) ?_
  refine rd_op (ov_faddr rfl (api_FieldRef.g_Field r1)) ?_
  refine rd_op (ov_load rfl rfl rfl) ?_
  refine rd_op (ov_iaddr rfl rfl (slU32 r102 (by first | omega | exact (el_ok (by assumption) (by assumption)).1 | exact (el_ok (by assumption) (by assumption)).2) (by first | omega | exact (el_ok (by assumption) (by assumption)).1 | exact (el_ok (by assumption) (by assumption)).2))) ?_
  refine rd_op (ov_load rfl rfl rfl) ?_
  refine rd_op (ov_move rfl) ?_
  refine rd_nil ?_
  refine pn_seq ?_
  subst hres
  exact rc_retV (.tmp rfl .nil) (deep_closed rfl) rfl

/-- (*patchbay/expr.machine).load -/
def RF27 (i0_ w0_ : Nat) (R_ : List Ent) (res : expr_value × expr_machine) (r : PV) (h : Heap) : Prop := ∃ uF0 : PV, ∃ c0_ : PV, Mem h (⟨.op i0_ w0_ 0, 69, 17, [uF0]⟩ :: R_) ∧ (expr_machine.t.R res.2 uF0) ∧ r = c0_ ∧ expr_value.t.R res.1 c0_
theorem f27_ok {x0 : expr_machine} {x1 : api_ExprNode} {v1 : PV} {u0_ : PV} {R_ : List Ent} {h_ : Heap} {i0_ w0_ : Nat} (r1 : api_ExprNode.t.R x1 v1) (ru0_ : expr_machine.t.R x0 u0_) (M_ : Mem h_ (⟨.op i0_ w0_ 0, 69, 17, [u0_]⟩ :: R_)) (hp : (m1_expr_Scope__primary x0.scope x1).2 = 0) : ∃ r h2_, FnX Tryz.prog 27 [.op i0_ w0_ 0, v1] h_ r h2_ ∧ RF27 i0_ w0_ R_ (m2_expr_machine__load x0 x1) r h2_ := by
 obtain ⟨res, hres⟩ : ∃ res, m2_expr_machine__load x0 x1 = res := ⟨_, rfl⟩
 suffices H : RC Tryz.prog ac27 [] (retPost Tryz.prog [(4, some (2, true))] (RF27 i0_ w0_ R_ res)) (argE 0 [.op i0_ w0_ 0, v1]) h_ by
  rw [hres]
  exact fnX text27 (by simp) H
 unfold m2_expr_machine__load at hres
 unfold ac27
 refine rc_seq ?_
 refine rc_region ?_
 refine rd_op (ov_box rfl (TR.cnt api_ExprNode.t r1)) ?_
 refine rd_allocO (x := .agg [vu32 0#32, vi 0]) M_ rfl rfl (fun i101 w101 h101 M101 => ?_)
 refine rd_nil ?_
 refine pn_seq ?_
 refine rc_seq ?_
 refine rc_region ?_
 refine rd_op (ov_move rfl) ?_
 refine rd_op (ov_nilCheck rfl rfl) ?_
 refine rd_op (ov_faddrO rfl) ?_
 obtain ⟨v103, e103, r103⟩ := expr_machine.g_scope ru0_
 refine rd_op (ov_loadf (k := 1) M101 rfl rfl e103) ?_
 refine rd_op (ov_load rfl (TR.cnt api_ExprNode.t r1) (TR.agg api_ExprNode.t r1)) ?_
 obtain ⟨y104, hw104, hres⟩ := let_ex hres
 have f104 := f36_ok  r103 r1 
 rw [hw104] at f104
 refine rd_call (cv_fn rfl rfl (clL_cons (TR.clo expr_Scope.t r103) (clL_cons (TR.clo api_ExprNode.t r1) clL_nil)) f104) ?_
 refine rd_op (ov_move rfl) ?_
 refine rd_op (ov_extract rfl rfl) ?_
 refine rd_op (ov_extract rfl rfl) ?_
 refine rd_op (ov_move rfl) ?_
 refine rd_op (ov_move rfl) ?_
 refine rd_nil ?_
 refine pn_seq ?_
 refine rc_seq ?_
 refine rc_region ?_
 refine rd_op (v := vu32 0#32) (ov_move rfl) ?_
 refine rd_nil ?_
 refine pn_seq ?_
 refine rc_seq ?_
 refine rc_seq ?_
 refine rc_region ?_
 refine rd_op (ov_faddr rfl (api_ExprNode.g_Op r1)) ?_
 refine rd_op (ov_load rfl rfl rfl) ?_
 refine rd_nil ?_
 refine pn_seq ?_
 refine rc_block ?_
 refine rc_seq ?_
 refine rc_region ?_
 refine rd_op (ov_bin rfl rfl i_eql) ?_
 refine rd_op (ov_move rfl) ?_
 refine rd_nil ?_
 refine pn_seq ?_
 refine rc_cond rfl (fun hc105 => ?_) (fun hc105 => ?_)
 ·replace hres := (ite_t hc105).symm.trans hres
  have hc105' := hc105
  try simp only [qa1, qa2, qa3, qa4, qa5, qa6, qa7, qa8, qa9, qaA, qaB, qaC, qaD] at hc105'
  refine rc_region ?_
  refine rd_op (ov_faddr rfl (api_ExprNode.g_N r1)) ?_
  refine rd_op (ov_load rfl rfl rfl) ?_
  refine rd_op (ov_conv (a := vi x1.N) rfl (c_iw Tryz.underlying3 Tryz.underlying42)) ?_
  refine rd_op (ov_move rfl) ?_
  refine rd_nil ?_
  refine pn_blk ?_
  refine pn_seq ?_
  refine rc_seq ?_
  refine rc_region ?_
  refine rd_op (ov_move rfl) ?_
  refine rd_op (ov_move rfl) ?_
  obtain ⟨y106, hw106, hres⟩ := let_ex hres
  have f106 := f43_ok (x0 := y104.1)  
  rw [hw106] at f106
  refine rd_call (cv_fn rfl rfl (clL_cons rfl clL_nil) f106) ?_
  refine rd_op (ov_bin (a := vu32 (BitVec.ofInt 32 x1.N)) (b := vu32 y106) rfl rfl w_and) ?_
  refine rd_op (ov_move rfl) ?_
  refine rd_op (v := .agg [vu32 ((BitVec.ofInt 32 x1.N) &&& y106), vi y104.1]) (ov_build (cs := [vu32 ((BitVec.ofInt 32 x1.N) &&& y106), vi y104.1]) rfl rfl) ?_
  refine rd_storeO (k := 0) (v := .agg [vu32 ((BitVec.ofInt 32 x1.N) &&& y106), vi y104.1]) M101 rfl rfl rfl rfl (fun h107 M107 => ?_)
  replace M107 : Mem h107 (⟨.op i101 w101 0, 71, 2, [.agg [vu32 ((BitVec.ofInt 32 x1.N) &&& y106), vi y104.1]]⟩ :: ⟨.op i0_ w0_ 0, 69, 17, [u0_]⟩ :: R_) := M107
  refine rd_nil ?_
  refine pn_seq ?_
  have MZ108 : Mem h107 (⟨.op i0_ w0_ 0, 69, 17, [u0_]⟩ :: ⟨.op i101 w101 0, 71, 2, [.agg [vu32 ((BitVec.ofInt 32 x1.N) &&& y106), vi y104.1]]⟩ :: R_) := (Mem.front (k := 1) M107 rfl)
  subst hres
  exact rc_retX (.cell rfl (load_whole (k := 0) M107 rfl rfl) .nil) ⟨u0_, (.agg [vu32 ((BitVec.ofInt 32 x1.N) &&& y106), vi y104.1]), Mem.sub MZ108 (.cons_cons _ (.cons _ (List.Sublist.refl R_))), ru0_, rfl, (show expr_value.t.R ({ v := ((BitVec.ofInt 32 x1.N) &&& y106), w := y104.1 } : expr_value) (.agg [vu32 ((BitVec.ofInt 32 x1.N) &&& y106), vi y104.1]) from rfl)⟩
 ·replace hres := (ite_f hc105).symm.trans hres
  have hc105' := hc105
  try simp only [qa1, qa2, qa3, qa4, qa5, qa6, qa7, qa8, qa9, qaA, qaB, qaC, qaD] at hc105'
  refine rc_seq ?_
  refine rc_region ?_
  refine rd_op (ov_bin rfl rfl i_eql) ?_
  refine rd_op (ov_move rfl) ?_
  refine rd_nil ?_
  refine pn_seq ?_
  refine rc_cond rfl (fun hc109 => ?_) (fun hc109 => ?_)
  ·replace hres := (ite_t hc109).symm.trans hres
   have hc109' := hc109
   try simp only [qa1, qa2, qa3, qa4, qa5, qa6, qa7, qa8, qa9, qaA, qaB, qaC, qaD] at hc109'
   refine rc_region ?_
   refine rd_op (ov_move rfl) ?_
   refine rd_op (ov_nilCheck rfl rfl) ?_
   refine rd_op (ov_faddrO rfl) ?_
   obtain ⟨v110, e110, r110⟩ := expr_machine.g_env ru0_
   refine rd_op (ov_loadf (k := 1) M101 rfl rfl e110) ?_
   refine rd_op (ov_faddr rfl (api_ExprNode.g_N r1)) ?_
   refine rd_op (ov_load rfl rfl rfl) ?_
   refine rd_op (ov_faddr rfl (api_ExprNode.g_W r1)) ?_
   refine rd_op (ov_load rfl rfl rfl) ?_
   refine rd_op (v := .agg [vi x1.N, vi x1.W]) (ov_build (cs := [vi x1.N, vi x1.W]) rfl rfl) ?_
   obtain ⟨y111, hw111, hres⟩ := let_ex hres
   have f111 := f42_ok  r110 (show api_FieldRef.t.R ({ Header := x1.N, Field := x1.W } : api_FieldRef) (.agg [vi x1.N, vi x1.W]) from rfl) 
   rw [hw111] at f111
   refine rd_call (cv_fn rfl rfl (clL_cons (TR.clo api_Env.t r110) (clL_cons (TR.clo api_FieldRef.t (show api_FieldRef.t.R ({ Header := x1.N, Field := x1.W } : api_FieldRef) (.agg [vi x1.N, vi x1.W]) from rfl)) clL_nil)) f111) ?_
   refine rd_op (ov_move rfl) ?_
   refine rd_nil ?_
   refine pn_blk ?_
   refine pn_seq ?_
   refine rc_seq ?_
   refine rc_region ?_
   refine rd_op (ov_move rfl) ?_
   refine rd_op (ov_move rfl) ?_
   obtain ⟨y112, hw112, hres⟩ := let_ex hres
   have f112 := f43_ok (x0 := y104.1)  
   rw [hw112] at f112
   refine rd_call (cv_fn rfl rfl (clL_cons rfl clL_nil) f112) ?_
   refine rd_op (ov_bin (a := vu32 y111) (b := vu32 y112) rfl rfl w_and) ?_
   refine rd_op (ov_move rfl) ?_
   refine rd_op (v := .agg [vu32 (y111 &&& y112), vi y104.1]) (ov_build (cs := [vu32 (y111 &&& y112), vi y104.1]) rfl rfl) ?_
   refine rd_storeO (k := 0) (v := .agg [vu32 (y111 &&& y112), vi y104.1]) M101 rfl rfl rfl rfl (fun h113 M113 => ?_)
   replace M113 : Mem h113 (⟨.op i101 w101 0, 71, 2, [.agg [vu32 (y111 &&& y112), vi y104.1]]⟩ :: ⟨.op i0_ w0_ 0, 69, 17, [u0_]⟩ :: R_) := M113
   refine rd_nil ?_
   refine pn_seq ?_
   have MZ114 : Mem h113 (⟨.op i0_ w0_ 0, 69, 17, [u0_]⟩ :: ⟨.op i101 w101 0, 71, 2, [.agg [vu32 (y111 &&& y112), vi y104.1]]⟩ :: R_) := (Mem.front (k := 1) M113 rfl)
   subst hres
   exact rc_retX (.cell rfl (load_whole (k := 0) M113 rfl rfl) .nil) ⟨u0_, (.agg [vu32 (y111 &&& y112), vi y104.1]), Mem.sub MZ114 (.cons_cons _ (.cons _ (List.Sublist.refl R_))), ru0_, rfl, (show expr_value.t.R ({ v := (y111 &&& y112), w := y104.1 } : expr_value) (.agg [vu32 (y111 &&& y112), vi y104.1]) from rfl)⟩
  ·replace hres := (ite_f hc109).symm.trans hres
   have hc109' := hc109
   try simp only [qa1, qa2, qa3, qa4, qa5, qa6, qa7, qa8, qa9, qaA, qaB, qaC, qaD] at hc109'
   refine rc_seq ?_
   refine rc_region ?_
   refine rd_op (ov_bin rfl rfl i_eql) ?_
   refine rd_op (ov_move rfl) ?_
   refine rd_nil ?_
   refine pn_seq ?_
   refine rc_cond rfl (fun hc115 => ?_) (fun hc115 => ?_)
   ·replace hres := (ite_t hc115).symm.trans hres
    have hc115' := hc115
    try simp only [qa1, qa2, qa3, qa4, qa5, qa6, qa7, qa8, qa9, qaA, qaB, qaC, qaD] at hc115'
    refine rc_seq ?_
    refine rc_region ?_
    refine rd_op (ov_faddr rfl (api_ExprNode.g_N r1)) ?_
    refine rd_op (ov_load rfl rfl rfl) ?_
    refine rd_op (ov_move rfl) ?_
    refine rd_op (ov_nilCheck rfl rfl) ?_
    refine rd_op (ov_faddrO rfl) ?_
    obtain ⟨v116, e116, r116⟩ := expr_machine.g_args ru0_
    refine rd_op (ov_loadf (k := 1) M101 rfl rfl e116) ?_
    refine rd_op (ov_bi rfl (sl_len r116 Tryz.underlying35 _)) ?_
    refine rd_op (ov_bin rfl rfl i_lss) ?_
    refine rd_nil ?_
    refine pn_seq ?_
    refine rc_cond rfl (fun hc117 => ?_) (fun hc117 => ?_)
    ·replace hres := (ite_t hc117).symm.trans hres
     have hc117' := hc117
     try simp only [qa1, qa2, qa3, qa4, qa5, qa6, qa7, qa8, qa9, qaA, qaB, qaC, qaD] at hc117'
     refine rc_region ?_
     refine rd_op (ov_move rfl) ?_
     refine rd_op (ov_nilCheck rfl rfl) ?_
     refine rd_op (ov_faddrO rfl) ?_
     obtain ⟨v118, e118, r118⟩ := expr_machine.g_args ru0_
     refine rd_op (ov_loadf (k := 1) M101 rfl rfl e118) ?_
     refine rd_op (ov_faddr rfl (api_ExprNode.g_N r1)) ?_
     refine rd_op (ov_load rfl rfl rfl) ?_
     refine rd_op (ov_iaddr rfl rfl (slU32 r118 (by first | omega | (have hk := pr3 hp (by assumption); omega) | (have hk := pr4 hp (by assumption); omega)) (by first | omega | (have hk := pr3 hp (by assumption); omega) | (have hk := pr4 hp (by assumption); omega)))) ?_
     refine rd_op (ov_load rfl rfl rfl) ?_
     refine rd_op (ov_move rfl) ?_
     refine rd_nil ?_
     refine pn_blk ?_
     refine pn_seq ?_
     refine rc_seq ?_
     refine rc_region ?_
     refine rd_op (ov_move rfl) ?_
     refine rd_op (ov_move rfl) ?_
     obtain ⟨y119, hw119, hres⟩ := let_ex hres
     have f119 := f43_ok (x0 := y104.1)  
     rw [hw119] at f119
     refine rd_call (cv_fn rfl rfl (clL_cons rfl clL_nil) f119) ?_
     refine rd_op (ov_bin (a := vu32 (ix x0.args x1.N)) (b := vu32 y119) rfl rfl w_and) ?_
     refine rd_op (ov_move rfl) ?_
     refine rd_op (v := .agg [vu32 ((ix x0.args x1.N) &&& y119), vi y104.1]) (ov_build (cs := [vu32 ((ix x0.args x1.N) &&& y119), vi y104.1]) rfl rfl) ?_
     refine rd_storeO (k := 0) (v := .agg [vu32 ((ix x0.args x1.N) &&& y119), vi y104.1]) M101 rfl rfl rfl rfl (fun h120 M120 => ?_)
     replace M120 : Mem h120 (⟨.op i101 w101 0, 71, 2, [.agg [vu32 ((ix x0.args x1.N) &&& y119), vi y104.1]]⟩ :: ⟨.op i0_ w0_ 0, 69, 17, [u0_]⟩ :: R_) := M120
     refine rd_nil ?_
     refine pn_seq ?_
     have MZ121 : Mem h120 (⟨.op i0_ w0_ 0, 69, 17, [u0_]⟩ :: ⟨.op i101 w101 0, 71, 2, [.agg [vu32 ((ix x0.args x1.N) &&& y119), vi y104.1]]⟩ :: R_) := (Mem.front (k := 1) M120 rfl)
     subst hres
     exact rc_retX (.cell rfl (load_whole (k := 0) M120 rfl rfl) .nil) ⟨u0_, (.agg [vu32 ((ix x0.args x1.N) &&& y119), vi y104.1]), Mem.sub MZ121 (.cons_cons _ (.cons _ (List.Sublist.refl R_))), ru0_, rfl, (show expr_value.t.R ({ v := ((ix x0.args x1.N) &&& y119), w := y104.1 } : expr_value) (.agg [vu32 ((ix x0.args x1.N) &&& y119), vi y104.1]) from rfl)⟩
    ·replace hres := (ite_f hc117).symm.trans hres
     have hc117' := hc117
     try simp only [qa1, qa2, qa3, qa4, qa5, qa6, qa7, qa8, qa9, qaA, qaB, qaC, qaD] at hc117'
     refine rc_skip ?_
     refine pn_blk ?_
     refine pn_seq ?_
     refine rc_seq ?_
     refine rc_region ?_
     refine rd_op (ov_move rfl) ?_
     refine rd_op (ov_move rfl) ?_
     obtain ⟨y122, hw122, hres⟩ := let_ex hres
     have f122 := f43_ok (x0 := y104.1)  
     rw [hw122] at f122
     refine rd_call (cv_fn rfl rfl (clL_cons rfl clL_nil) f122) ?_
     refine rd_op (ov_bin (a := vu32 0#32) (b := vu32 y122) rfl rfl w_and) ?_
     refine rd_op (ov_move rfl) ?_
     refine rd_op (v := .agg [vu32 (0#32 &&& y122), vi y104.1]) (ov_build (cs := [vu32 (0#32 &&& y122), vi y104.1]) rfl rfl) ?_
     refine rd_storeO (k := 0) (v := .agg [vu32 (0#32 &&& y122), vi y104.1]) M101 rfl rfl rfl rfl (fun h123 M123 => ?_)
     replace M123 : Mem h123 (⟨.op i101 w101 0, 71, 2, [.agg [vu32 (0#32 &&& y122), vi y104.1]]⟩ :: ⟨.op i0_ w0_ 0, 69, 17, [u0_]⟩ :: R_) := M123
     refine rd_nil ?_
     refine pn_seq ?_
     have MZ124 : Mem h123 (⟨.op i0_ w0_ 0, 69, 17, [u0_]⟩ :: ⟨.op i101 w101 0, 71, 2, [.agg [vu32 (0#32 &&& y122), vi y104.1]]⟩ :: R_) := (Mem.front (k := 1) M123 rfl)
     subst hres
     exact rc_retX (.cell rfl (load_whole (k := 0) M123 rfl rfl) .nil) ⟨u0_, (.agg [vu32 (0#32 &&& y122), vi y104.1]), Mem.sub MZ124 (.cons_cons _ (.cons _ (List.Sublist.refl R_))), ru0_, rfl, (show expr_value.t.R ({ v := (0#32 &&& y122), w := y104.1 } : expr_value) (.agg [vu32 (0#32 &&& y122), vi y104.1]) from rfl)⟩
   ·replace hres := (ite_f hc115).symm.trans hres
    have hc115' := hc115
    try simp only [qa1, qa2, qa3, qa4, qa5, qa6, qa7, qa8, qa9, qaA, qaB, qaC, qaD] at hc115'
    refine rc_seq ?_
    refine rc_region ?_
    refine rd_op (ov_bin rfl rfl i_eql) ?_
    refine rd_op (ov_move rfl) ?_
    refine rd_nil ?_
    refine pn_seq ?_
    refine rc_cond rfl (fun hc125 => ?_) (fun hc125 => ?_)
    ·replace hres := (ite_t hc125).symm.trans hres
     have hc125' := hc125
     try simp only [qa1, qa2, qa3, qa4, qa5, qa6, qa7, qa8, qa9, qaA, qaB, qaC, qaD] at hc125'
     refine rc_seq ?_
     refine rc_region ?_
     refine rd_op (ov_faddr rfl (api_ExprNode.g_N r1)) ?_
     refine rd_op (ov_load rfl rfl rfl) ?_
     refine rd_op (ov_move rfl) ?_
     refine rd_op (ov_nilCheck rfl rfl) ?_
     refine rd_op (ov_faddrO rfl) ?_
     refine rd_op (ov_faddrO rfl) ?_
     obtain ⟨v126, e126, r126⟩ := expr_machine.g_env ru0_
     obtain ⟨v127, e127, r127⟩ := api_Env.g_Valid r126
     refine rd_op (ov_loadf (k := 1) M101 rfl rfl (field_field e126 e127)) ?_
     refine rd_op (ov_bi rfl (sl_len r127 Tryz.underlying33 _)) ?_
     refine rd_op (ov_bin rfl rfl i_lss) ?_
     refine rd_op (ov_move rfl) ?_
     refine rd_cut (d := 75) (v := vb ((decide (x1.N < (x0.env.Valid.length : Int))) && (ix x0.env.Valid x1.N))) ?_ ?_
     ·intro S Q r
      simp only [ac27_G1, List.cons_append, List.nil_append, List.append_assoc]
      cases hb128 : (decide (x1.N < (x0.env.Valid.length : Int)))
      ·intro k
       refine rd_skip rfl rfl ?_
       refine rd_skip rfl rfl ?_
       refine rd_skip rfl rfl ?_
       refine rd_skip rfl rfl ?_
       refine rd_skip rfl rfl ?_
       refine rd_skip rfl rfl ?_
       refine rd_skip rfl rfl ?_
       refine rd_skip rfl rfl ?_
       refine rd_skip rfl rfl ?_
       refine rd_op (v := vb false) (ov_pick rfl rfl rfl rfl) ?_
       exact rd_weak (sub_cons rfl (sub_skip rfl (sub_skip rfl (sub_skip rfl (sub_skip rfl (sub_skip rfl (sub_skip rfl (sub_skip rfl (sub_skip rfl (sub_skip rfl (sub_skip rfl (sub_refl _)))))))))))) k
      ·intro k
       have hb128' := hb128
       try simp only [qa1, qa2, qa3, qa4, qa5, qa6, qa7, qa8, qa9, qaA, qaB, qaC, qaD] at hb128'
       refine rd_yes rfl rfl (ov_move rfl) ?_
       refine rd_yes rfl rfl (ov_nilCheck rfl rfl) ?_
       refine rd_yes rfl rfl (ov_faddrO rfl) ?_
       refine rd_yes rfl rfl (ov_faddrO rfl) ?_
       obtain ⟨v129, e129, r129⟩ := expr_machine.g_env ru0_
       obtain ⟨v130, e130, r130⟩ := api_Env.g_Valid r129
       refine rd_yes rfl rfl (ov_loadf (k := 1) M101 rfl rfl (field_field e129 e130)) ?_
       refine rd_yes rfl rfl (ov_faddr rfl (api_ExprNode.g_N r1)) ?_
       refine rd_yes rfl rfl (ov_load rfl rfl rfl) ?_
       refine rd_yes rfl rfl (ov_iaddr rfl rfl (slB r130 (by first | omega | (have hk := pr3 hp (by assumption); omega) | (have hk := pr4 hp (by assumption); omega)) (by first | omega | (have hk := pr3 hp (by assumption); omega) | (have hk := pr4 hp (by assumption); omega)))) ?_
       refine rd_yes rfl rfl (ov_load rfl rfl rfl) ?_
       refine rd_op (v := vb (ix x0.env.Valid x1.N)) (ov_pick rfl rfl rfl rfl) ?_
       exact rd_weak (sub_cons rfl (sub_skip rfl (sub_skip rfl (sub_skip rfl (sub_skip rfl (sub_skip rfl (sub_skip rfl (sub_skip rfl (sub_skip rfl (sub_skip rfl (sub_skip rfl (sub_refl _)))))))))))) k
     refine rd_nil ?_
     refine pn_seq ?_
     refine rc_cond rfl (fun hc131 => ?_) (fun hc131 => ?_)
     ·replace hres := (ite_t hc131).symm.trans hres
      have hc131' := hc131
      try simp only [qa1, qa2, qa3, qa4, qa5, qa6, qa7, qa8, qa9, qaA, qaB, qaC, qaD] at hc131'
      refine rc_region ?_
      refine rd_op (v := vu32 1#32) (ov_move rfl) ?_
      refine rd_nil ?_
      refine pn_blk ?_
      refine pn_seq ?_
      refine rc_seq ?_
      refine rc_region ?_
      refine rd_op (ov_move rfl) ?_
      refine rd_op (ov_move rfl) ?_
      obtain ⟨y132, hw132, hres⟩ := let_ex hres
      have f132 := f43_ok (x0 := y104.1)  
      rw [hw132] at f132
      refine rd_call (cv_fn rfl rfl (clL_cons rfl clL_nil) f132) ?_
      refine rd_op (ov_bin (a := vu32 1#32) (b := vu32 y132) rfl rfl w_and) ?_
      refine rd_op (ov_move rfl) ?_
      refine rd_op (v := .agg [vu32 (1#32 &&& y132), vi y104.1]) (ov_build (cs := [vu32 (1#32 &&& y132), vi y104.1]) rfl rfl) ?_
      refine rd_storeO (k := 0) (v := .agg [vu32 (1#32 &&& y132), vi y104.1]) M101 rfl rfl rfl rfl (fun h133 M133 => ?_)
      replace M133 : Mem h133 (⟨.op i101 w101 0, 71, 2, [.agg [vu32 (1#32 &&& y132), vi y104.1]]⟩ :: ⟨.op i0_ w0_ 0, 69, 17, [u0_]⟩ :: R_) := M133
      refine rd_nil ?_
      refine pn_seq ?_
      have MZ134 : Mem h133 (⟨.op i0_ w0_ 0, 69, 17, [u0_]⟩ :: ⟨.op i101 w101 0, 71, 2, [.agg [vu32 (1#32 &&& y132), vi y104.1]]⟩ :: R_) := (Mem.front (k := 1) M133 rfl)
      subst hres
      exact rc_retX (.cell rfl (load_whole (k := 0) M133 rfl rfl) .nil) ⟨u0_, (.agg [vu32 (1#32 &&& y132), vi y104.1]), Mem.sub MZ134 (.cons_cons _ (.cons _ (List.Sublist.refl R_))), ru0_, rfl, (show expr_value.t.R ({ v := (1#32 &&& y132), w := y104.1 } : expr_value) (.agg [vu32 (1#32 &&& y132), vi y104.1]) from rfl)⟩
     ·replace hres := (ite_f hc131).symm.trans hres
      have hc131' := hc131
      try simp only [qa1, qa2, qa3, qa4, qa5, qa6, qa7, qa8, qa9, qaA, qaB, qaC, qaD] at hc131'
      refine rc_skip ?_
      refine pn_blk ?_
      refine pn_seq ?_
      refine rc_seq ?_
      refine rc_region ?_
      refine rd_op (ov_move rfl) ?_
      refine rd_op (ov_move rfl) ?_
      obtain ⟨y135, hw135, hres⟩ := let_ex hres
      have f135 := f43_ok (x0 := y104.1)  
      rw [hw135] at f135
      refine rd_call (cv_fn rfl rfl (clL_cons rfl clL_nil) f135) ?_
      refine rd_op (ov_bin (a := vu32 0#32) (b := vu32 y135) rfl rfl w_and) ?_
      refine rd_op (ov_move rfl) ?_
      refine rd_op (v := .agg [vu32 (0#32 &&& y135), vi y104.1]) (ov_build (cs := [vu32 (0#32 &&& y135), vi y104.1]) rfl rfl) ?_
      refine rd_storeO (k := 0) (v := .agg [vu32 (0#32 &&& y135), vi y104.1]) M101 rfl rfl rfl rfl (fun h136 M136 => ?_)
      replace M136 : Mem h136 (⟨.op i101 w101 0, 71, 2, [.agg [vu32 (0#32 &&& y135), vi y104.1]]⟩ :: ⟨.op i0_ w0_ 0, 69, 17, [u0_]⟩ :: R_) := M136
      refine rd_nil ?_
      refine pn_seq ?_
      have MZ137 : Mem h136 (⟨.op i0_ w0_ 0, 69, 17, [u0_]⟩ :: ⟨.op i101 w101 0, 71, 2, [.agg [vu32 (0#32 &&& y135), vi y104.1]]⟩ :: R_) := (Mem.front (k := 1) M136 rfl)
      subst hres
      exact rc_retX (.cell rfl (load_whole (k := 0) M136 rfl rfl) .nil) ⟨u0_, (.agg [vu32 (0#32 &&& y135), vi y104.1]), Mem.sub MZ137 (.cons_cons _ (.cons _ (List.Sublist.refl R_))), ru0_, rfl, (show expr_value.t.R ({ v := (0#32 &&& y135), w := y104.1 } : expr_value) (.agg [vu32 (0#32 &&& y135), vi y104.1]) from rfl)⟩
    ·replace hres := (ite_f hc125).symm.trans hres
     have hc125' := hc125
     try simp only [qa1, qa2, qa3, qa4, qa5, qa6, qa7, qa8, qa9, qaA, qaB, qaC, qaD] at hc125'
     refine rc_skip ?_
     refine pn_blk ?_
     refine pn_seq ?_
     refine rc_seq ?_
     refine rc_region ?_
     refine rd_op (ov_move rfl) ?_
     refine rd_op (ov_move rfl) ?_
     obtain ⟨y138, hw138, hres⟩ := let_ex hres
     have f138 := f43_ok (x0 := y104.1)  
     rw [hw138] at f138
     refine rd_call (cv_fn rfl rfl (clL_cons rfl clL_nil) f138) ?_
     refine rd_op (ov_bin (a := vu32 0#32) (b := vu32 y138) rfl rfl w_and) ?_
     refine rd_op (ov_move rfl) ?_
     refine rd_op (v := .agg [vu32 (0#32 &&& y138), vi y104.1]) (ov_build (cs := [vu32 (0#32 &&& y138), vi y104.1]) rfl rfl) ?_
     refine rd_storeO (k := 0) (v := .agg [vu32 (0#32 &&& y138), vi y104.1]) M101 rfl rfl rfl rfl (fun h139 M139 => ?_)
     replace M139 : Mem h139 (⟨.op i101 w101 0, 71, 2, [.agg [vu32 (0#32 &&& y138), vi y104.1]]⟩ :: ⟨.op i0_ w0_ 0, 69, 17, [u0_]⟩ :: R_) := M139
     refine rd_nil ?_
     refine pn_seq ?_
     have MZ140 : Mem h139 (⟨.op i0_ w0_ 0, 69, 17, [u0_]⟩ :: ⟨.op i101 w101 0, 71, 2, [.agg [vu32 (0#32 &&& y138), vi y104.1]]⟩ :: R_) := (Mem.front (k := 1) M139 rfl)
     subst hres
     exact rc_retX (.cell rfl (load_whole (k := 0) M139 rfl rfl) .nil) ⟨u0_, (.agg [vu32 (0#32 &&& y138), vi y104.1]), Mem.sub MZ140 (.cons_cons _ (.cons _ (List.Sublist.refl R_))), ru0_, rfl, (show expr_value.t.R ({ v := (0#32 &&& y138), w := y104.1 } : expr_value) (.agg [vu32 (0#32 &&& y138), vi y104.1]) from rfl)⟩

/-- patchbay/bitvec.Not -/
def RF44 (res : (BitVec 32)) (r : PV) : Prop := r = vu32 res
theorem f44_ok {x0 : BitVec 32} {x1 : Int} : FnR Tryz.prog 44 [vu32 x0, vi x1] (vu32 (bitvec_Not x0 x1)) := by
 obtain ⟨res, hres⟩ : ∃ res, bitvec_Not x0 x1 = res := ⟨_, rfl⟩
 suffices H : RC Tryz.prog ac44 [] (QR Tryz.prog [(4, none)] (RF44 res)) (argE 0 [vu32 x0, vi x1]) ⟨0, []⟩ by
  obtain ⟨r, h1, h2⟩ := fnE text44 (by simp) H
  rw [hres]
  have h2 : r = vu32 res := h2
  rw [← h2]; exact h1
 unfold bitvec_Not at hres
 unfold ac44
 refine rc_seq ?_
 refine rc_region ?_
 refine rd_op (v := vu32 0#32) (ov_move rfl) ?_
 refine rd_nil ?_
 refine pn_seq ?_
 refine rc_seq ?_
 refine rc_region ?_
 refine rd_op (ov_move rfl) ?_
 refine rd_op (ov_un (a := vu32 x0) rfl w_not) ?_
 refine rd_op (ov_move rfl) ?_
 obtain ⟨y101, hw101, hres⟩ := let_ex hres
 have f101 := f43_ok (x0 := x1)  
 rw [hw101] at f101
 refine rd_call (cv_fn rfl rfl (clL_cons rfl clL_nil) f101) ?_
 refine rd_op (ov_bin (a := vu32 (~~~x0)) (b := vu32 y101) rfl rfl w_and) ?_
 refine rd_op (ov_move rfl) ?_
 refine rd_nil ?_
 refine pn_seq ?_
 subst hres
 exact rc_retV (.tmp rfl .nil) (deep_closed rfl) rfl

/-- patchbay/bitvec.Shl -/
def RF45 (res : (BitVec 32)) (r : PV) : Prop := r = vu32 res
theorem f45_ok {x0 : BitVec 32} {x1 : Int} {x2 : Int} : FnR Tryz.prog 45 [vu32 x0, vi x1, vi x2] (vu32 (bitvec_Shl x0 x1 x2)) := by
 obtain ⟨res, hres⟩ : ∃ res, bitvec_Shl x0 x1 x2 = res := ⟨_, rfl⟩
 suffices H : RC Tryz.prog ac45 [] (QR Tryz.prog [(6, none)] (RF45 res)) (argE 0 [vu32 x0, vi x1, vi x2]) ⟨0, []⟩ by
  obtain ⟨r, h1, h2⟩ := fnE text45 (by simp) H
  rw [hres]
  have h2 : r = vu32 res := h2
  rw [← h2]; exact h1
 unfold bitvec_Shl at hres
 unfold ac45
 refine rc_seq ?_
 refine rc_region ?_
 refine rd_op (v := vu32 0#32) (ov_move rfl) ?_
 refine rd_nil ?_
 refine pn_seq ?_
 refine rc_seq ?_
 refine rc_region ?_
 refine rd_op (ov_move rfl) ?_
 refine rd_op (ov_move rfl) ?_
 refine rd_op (ov_bi rfl (max_int _ _)) ?_
 refine rd_op (ov_bin (a := vu32 x0) (b := vi (max x1 0)) rfl rfl (w_shl (by first | omega | exact mask_sh (by assumption) (by assumption) | (rw [wr_of (by omega) (by omega)]; omega) | (have hk := two_sh (by assumption) (And.left (by assumption)); omega)))) ?_
 refine rd_op (ov_move rfl) ?_
 obtain ⟨y101, hw101, hres⟩ := let_ex hres
 have f101 := f43_ok (x0 := x2)  
 rw [hw101] at f101
 refine rd_call (cv_fn rfl rfl (clL_cons rfl clL_nil) f101) ?_
 refine rd_op (ov_bin (a := vu32 (x0 <<< (max x1 0).toNat)) (b := vu32 y101) rfl rfl w_and) ?_
 refine rd_op (ov_move rfl) ?_
 refine rd_nil ?_
 refine pn_seq ?_
 subst hres
 exact rc_retV (.tmp rfl .nil) (deep_closed rfl) rfl

/-- patchbay/bitvec.Shr -/
def RF46 (res : (BitVec 32)) (r : PV) : Prop := r = vu32 res
theorem f46_ok {x0 : BitVec 32} {x1 : Int} {x2 : Int} : FnR Tryz.prog 46 [vu32 x0, vi x1, vi x2] (vu32 (bitvec_Shr x0 x1 x2)) := by
 obtain ⟨res, hres⟩ : ∃ res, bitvec_Shr x0 x1 x2 = res := ⟨_, rfl⟩
 suffices H : RC Tryz.prog ac46 [] (QR Tryz.prog [(6, none)] (RF46 res)) (argE 0 [vu32 x0, vi x1, vi x2]) ⟨0, []⟩ by
  obtain ⟨r, h1, h2⟩ := fnE text46 (by simp) H
  rw [hres]
  have h2 : r = vu32 res := h2
  rw [← h2]; exact h1
 unfold bitvec_Shr at hres
 unfold ac46
 refine rc_seq ?_
 refine rc_region ?_
 refine rd_op (v := vu32 0#32) (ov_move rfl) ?_
 refine rd_nil ?_
 refine pn_seq ?_
 refine rc_seq ?_
 refine rc_region ?_
 refine rd_op (ov_move rfl) ?_
 refine rd_op (ov_move rfl) ?_
 obtain ⟨y101, hw101, hres⟩ := let_ex hres
 have f101 := f43_ok (x0 := x2)  
 rw [hw101] at f101
 refine rd_call (cv_fn rfl rfl (clL_cons rfl clL_nil) f101) ?_
 refine rd_op (ov_bin (a := vu32 x0) (b := vu32 y101) rfl rfl w_and) ?_
 refine rd_op (ov_move rfl) ?_
 refine rd_op (ov_bi rfl (max_int _ _)) ?_
 refine rd_op (ov_bin (a := vu32 (x0 &&& y101)) (b := vi (max x1 0)) rfl rfl (w_shr (by first | omega | exact mask_sh (by assumption) (by assumption) | (rw [wr_of (by omega) (by omega)]; omega) | (have hk := two_sh (by assumption) (And.left (by assumption)); omega)))) ?_
 refine rd_op (ov_move rfl) ?_
 refine rd_nil ?_
 refine pn_seq ?_
 subst hres
 exact rc_retV (.tmp rfl .nil) (deep_closed rfl) rfl

/-- patchbay/bitvec.Slice -/
def RF47 (res : (BitVec 32)) (r : PV) : Prop := r = vu32 res
theorem f47_ok {x0 : BitVec 32} {x1 : Int} {x2 : Int} : FnR Tryz.prog 47 [vu32 x0, vi x1, vi x2] (vu32 (bitvec_Slice x0 x1 x2)) := by
 obtain ⟨res, hres⟩ : ∃ res, bitvec_Slice x0 x1 x2 = res := ⟨_, rfl⟩
 suffices H : RC Tryz.prog ac47 [] (QR Tryz.prog [(6, none)] (RF47 res)) (argE 0 [vu32 x0, vi x1, vi x2]) ⟨0, []⟩ by
  obtain ⟨r, h1, h2⟩ := fnE text47 (by simp) H
  rw [hres]
  have h2 : r = vu32 res := h2
  rw [← h2]; exact h1
 unfold bitvec_Slice at hres
 unfold ac47
 refine rc_seq ?_
 refine rc_region ?_
 refine rd_op (v := vu32 0#32) (ov_move rfl) ?_
 refine rd_nil ?_
 refine pn_seq ?_
 refine rc_seq ?_
 refine rc_seq ?_
 refine rc_region ?_
 refine rd_op (ov_move rfl) ?_
 refine rd_op (v := .fs true [vi x2]) (ov_bslice rfl (all_cons rfl all_nil)) ?_
 have r101 : (tSl tI).R ([x2] : List Int) (.fs true [vi x2]) := sl_fs ⟨rfl, trivial⟩ (by simp)
 obtain ⟨y102, hw102, hres⟩ := let_ex hres
 have f102 := f87_ok  r101 
 rw [hw102] at f102
 refine rd_call (cv_fn rfl rfl (clL_cons (TR.clo (tSl tI) r101) clL_nil) f102) ?_
 refine rd_op (ov_not rfl) ?_
 refine rd_op (ov_move rfl) ?_
 refine rd_cut (d := 14) (v := vb ((!y102) || (decide (x1 < 0)))) ?_ ?_
 ·intro S Q r
  simp only [ac47_G1, List.cons_append, List.nil_append, List.append_assoc]
  cases hb103 : (!y102)
  ·intro k
   have hb103' := hb103
   try simp only [qa1, qa2, qa3, qa4, qa5, qa6, qa7, qa8, qa9, qaA, qaB, qaC, qaD] at hb103'
   refine rd_yes rfl rfl (ov_move rfl) ?_
   refine rd_yes rfl rfl (ov_bin rfl rfl i_lss) ?_
   refine rd_op (v := vb (decide (x1 < 0))) (ov_pick rfl rfl rfl rfl) ?_
   exact rd_weak (sub_cons rfl (sub_skip rfl (sub_skip rfl (sub_skip rfl (sub_refl _))))) k
  ·intro k
   refine rd_skip rfl rfl ?_
   refine rd_skip rfl rfl ?_
   refine rd_op (v := vb true) (ov_pick rfl rfl rfl rfl) ?_
   exact rd_weak (sub_cons rfl (sub_skip rfl (sub_skip rfl (sub_skip rfl (sub_refl _))))) k
 refine rd_op (ov_move rfl) ?_
 refine rd_cut (d := 20) (v := vb (((!y102) || (decide (x1 < 0))) || (decide ((wr (32 - x2)) < x1)))) ?_ ?_
 ·intro S Q r
  simp only [ac47_G2, List.cons_append, List.nil_append, List.append_assoc]
  cases hb104 : ((!y102) || (decide (x1 < 0)))
  ·intro k
   have hb104' := hb104
   try simp only [qa1, qa2, qa3, qa4, qa5, qa6, qa7, qa8, qa9, qaA, qaB, qaC, qaD] at hb104'
   refine rd_yes rfl rfl (ov_move rfl) ?_
   refine rd_yes rfl rfl (ov_move rfl) ?_
   refine rd_yes rfl rfl (ov_bin rfl rfl i_sub) ?_
   refine rd_yes rfl rfl (ov_bin rfl rfl i_gtr) ?_
   refine rd_op (v := vb (decide ((wr (32 - x2)) < x1))) (ov_pick rfl rfl rfl rfl) ?_
   exact rd_weak (sub_cons rfl (sub_skip rfl (sub_skip rfl (sub_skip rfl (sub_skip rfl (sub_skip rfl (sub_refl _))))))) k
  ·intro k
   refine rd_skip rfl rfl ?_
   refine rd_skip rfl rfl ?_
   refine rd_skip rfl rfl ?_
   refine rd_skip rfl rfl ?_
   refine rd_op (v := vb true) (ov_pick rfl rfl rfl rfl) ?_
   exact rd_weak (sub_cons rfl (sub_skip rfl (sub_skip rfl (sub_skip rfl (sub_skip rfl (sub_skip rfl (sub_refl _))))))) k
 refine rd_nil ?_
 refine pn_seq ?_
 refine rc_cond rfl (fun hc105 => ?_) (fun hc105 => ?_)
 ·replace hres := (ite_t hc105).symm.trans hres
  have hc105' := hc105
  try simp only [qa1, qa2, qa3, qa4, qa5, qa6, qa7, qa8, qa9, qaA, qaB, qaC, qaD] at hc105'
  refine rc_seq ?_
  refine rc_region ?_
  refine rd_op (v := vu32 0#32) (ov_move rfl) ?_
  refine rd_nil ?_
  refine pn_seq ?_
  subst hres
  exact rc_retV (.tmp rfl .nil) (deep_closed rfl) rfl
 ·replace hres := (ite_f hc105).symm.trans hres
  have hc105' := hc105
  try simp only [qa1, qa2, qa3, qa4, qa5, qa6, qa7, qa8, qa9, qaA, qaB, qaC, qaD] at hc105'
  refine rc_skip ?_
  refine pn_seq ?_
  refine rc_seq ?_
  refine rc_region ?_
  refine rd_op (ov_move rfl) ?_
  refine rd_op (ov_move rfl) ?_
  refine rd_op (ov_bin (a := vu32 x0) (b := vi x1) rfl rfl (w_shr (by first | omega | exact mask_sh (by assumption) (by assumption) | (rw [wr_of (by omega) (by omega)]; omega) | (have hk := two_sh (by assumption) (And.left (by assumption)); omega)))) ?_
  refine rd_op (ov_move rfl) ?_
  obtain ⟨y106, hw106, hres⟩ := let_ex hres
  have f106 := f43_ok (x0 := x2)  
  rw [hw106] at f106
  refine rd_call (cv_fn rfl rfl (clL_cons rfl clL_nil) f106) ?_
  refine rd_op (ov_bin (a := vu32 (x0 >>> x1.toNat)) (b := vu32 y106) rfl rfl w_and) ?_
  refine rd_op (ov_move rfl) ?_
  refine rd_nil ?_
  refine pn_seq ?_
  subst hres
  exact rc_retV (.tmp rfl .nil) (deep_closed rfl) rfl

/-- patchbay/expr.unary -/
def RF28 (res : expr_value) (r : PV) : Prop := expr_value.t.R res r
theorem f28_ok {x0 : api_ExprNode} {x1 : expr_value} {v0 : PV} {v1 : PV} (r0 : api_ExprNode.t.R x0 v0) (r1 : expr_value.t.R x1 v1) : ∃ r, FnR Tryz.prog 28 [v0, v1] r ∧ expr_value.t.R (expr_unary x0 x1) r := by
 obtain ⟨res, hres⟩ : ∃ res, expr_unary x0 x1 = res := ⟨_, rfl⟩
 suffices H : RC Tryz.prog ac28 [] (QR Tryz.prog [(4, some (2, true))] (RF28 res)) (argE 0 [v0, v1]) ⟨0, []⟩ by
  rw [hres]
  exact fnE text28 (by simp) H
 unfold expr_unary at hres
 unfold ac28
 refine rc_seq ?_
 refine rc_region ?_
 refine rd_op (ov_box rfl (TR.cnt api_ExprNode.t r0)) ?_
 refine rd_op (ov_box rfl (TR.cnt expr_value.t r1)) ?_
 refine rd_allocO (x := .agg [vu32 0#32, vi 0]) (Mem.nil ⟨0, []⟩) rfl rfl (fun i101 w101 h101 M101 => ?_)
 refine rd_nil ?_
 refine pn_seq ?_
 refine rc_seq ?_
 refine rc_seq ?_
 refine rc_region ?_
 refine rd_op (ov_faddr rfl (api_ExprNode.g_Op r0)) ?_
 refine rd_op (ov_load rfl rfl rfl) ?_
 refine rd_nil ?_
 refine pn_seq ?_
 refine rc_block ?_
 refine rc_seq ?_
 refine rc_region ?_
 refine rd_op (ov_bin rfl rfl i_eql) ?_
 refine rd_op (ov_move rfl) ?_
 refine rd_nil ?_
 refine pn_seq ?_
 refine rc_cond rfl (fun hc103 => ?_) (fun hc103 => ?_)
 ·replace hres := (ite_t hc103).symm.trans hres
  have hc103' := hc103
  try simp only [qa1, qa2, qa3, qa4, qa5, qa6, qa7, qa8, qa9, qaA, qaB, qaC, qaD] at hc103'
  refine rc_seq ?_
  refine rc_region ?_
  refine rd_op (ov_faddr rfl (expr_value.g_v r1)) ?_
  refine rd_op (ov_load rfl rfl rfl) ?_
  refine rd_op (ov_faddr rfl (expr_value.g_w r1)) ?_
  refine rd_op (ov_load rfl rfl rfl) ?_
  obtain ⟨y104, hw104, hres⟩ := let_ex hres
  have f104 := f44_ok (x0 := x1.v) (x1 := x1.w)  
  rw [hw104] at f104
  refine rd_call (cv_fn rfl rfl (clL_cons rfl (clL_cons rfl clL_nil)) f104) ?_
  refine rd_op (ov_faddr rfl (expr_value.g_w r1)) ?_
  refine rd_op (ov_load rfl rfl rfl) ?_
  refine rd_op (v := .agg [vu32 y104, vi x1.w]) (ov_build (cs := [vu32 y104, vi x1.w]) rfl rfl) ?_
  refine rd_storeO (k := 0) (v := .agg [vu32 y104, vi x1.w]) M101 rfl rfl rfl rfl (fun h105 M105 => ?_)
  replace M105 : Mem h105 [⟨.op i101 w101 0, 71, 2, [.agg [vu32 y104, vi x1.w]]⟩] := M105
  refine rd_nil ?_
  refine pn_seq ?_
  subst hres
  exact rc_retV (.cell rfl (load_whole (k := 0) M105 rfl rfl) .nil) (deep_closed (TR.clo expr_value.t (show expr_value.t.R ({ v := y104, w := x1.w } : expr_value) (.agg [vu32 y104, vi x1.w]) from rfl))) (show expr_value.t.R ({ v := y104, w := x1.w } : expr_value) (.agg [vu32 y104, vi x1.w]) from rfl)
 ·replace hres := (ite_f hc103).symm.trans hres
  have hc103' := hc103
  try simp only [qa1, qa2, qa3, qa4, qa5, qa6, qa7, qa8, qa9, qaA, qaB, qaC, qaD] at hc103'
  refine rc_seq ?_
  refine rc_region ?_
  refine rd_op (ov_bin rfl rfl i_eql) ?_
  refine rd_op (ov_move rfl) ?_
  refine rd_nil ?_
  refine pn_seq ?_
  refine rc_cond rfl (fun hc106 => ?_) (fun hc106 => ?_)
  ·replace hres := (ite_t hc106).symm.trans hres
   have hc106' := hc106
   try simp only [qa1, qa2, qa3, qa4, qa5, qa6, qa7, qa8, qa9, qaA, qaB, qaC, qaD] at hc106'
   refine rc_seq ?_
   refine rc_region ?_
   refine rd_op (ov_faddr rfl (expr_value.g_v r1)) ?_
   refine rd_op (ov_load rfl rfl rfl) ?_
   refine rd_op (ov_faddr rfl (api_ExprNode.g_N r0)) ?_
   refine rd_op (ov_load rfl rfl rfl) ?_
   refine rd_op (ov_faddr rfl (expr_value.g_w r1)) ?_
   refine rd_op (ov_load rfl rfl rfl) ?_
   obtain ⟨y107, hw107, hres⟩ := let_ex hres
   have f107 := f45_ok (x0 := x1.v) (x1 := x0.N) (x2 := x1.w)  
   rw [hw107] at f107
   refine rd_call (cv_fn rfl rfl (clL_cons rfl (clL_cons rfl (clL_cons rfl clL_nil))) f107) ?_
   refine rd_op (ov_faddr rfl (expr_value.g_w r1)) ?_
   refine rd_op (ov_load rfl rfl rfl) ?_
   refine rd_op (v := .agg [vu32 y107, vi x1.w]) (ov_build (cs := [vu32 y107, vi x1.w]) rfl rfl) ?_
   refine rd_storeO (k := 0) (v := .agg [vu32 y107, vi x1.w]) M101 rfl rfl rfl rfl (fun h108 M108 => ?_)
   replace M108 : Mem h108 [⟨.op i101 w101 0, 71, 2, [.agg [vu32 y107, vi x1.w]]⟩] := M108
   refine rd_nil ?_
   refine pn_seq ?_
   subst hres
   exact rc_retV (.cell rfl (load_whole (k := 0) M108 rfl rfl) .nil) (deep_closed (TR.clo expr_value.t (show expr_value.t.R ({ v := y107, w := x1.w } : expr_value) (.agg [vu32 y107, vi x1.w]) from rfl))) (show expr_value.t.R ({ v := y107, w := x1.w } : expr_value) (.agg [vu32 y107, vi x1.w]) from rfl)
  ·replace hres := (ite_f hc106).symm.trans hres
   have hc106' := hc106
   try simp only [qa1, qa2, qa3, qa4, qa5, qa6, qa7, qa8, qa9, qaA, qaB, qaC, qaD] at hc106'
   refine rc_seq ?_
   refine rc_region ?_
   refine rd_op (ov_bin rfl rfl i_eql) ?_
   refine rd_op (ov_move rfl) ?_
   refine rd_nil ?_
   refine pn_seq ?_
   refine rc_cond rfl (fun hc109 => ?_) (fun hc109 => ?_)
   ·replace hres := (ite_t hc109).symm.trans hres
    have hc109' := hc109
    try simp only [qa1, qa2, qa3, qa4, qa5, qa6, qa7, qa8, qa9, qaA, qaB, qaC, qaD] at hc109'
    refine rc_seq ?_
    refine rc_region ?_
    refine rd_op (ov_faddr rfl (expr_value.g_v r1)) ?_
    refine rd_op (ov_load rfl rfl rfl) ?_
    refine rd_op (ov_faddr rfl (api_ExprNode.g_N r0)) ?_
    refine rd_op (ov_load rfl rfl rfl) ?_
    refine rd_op (ov_faddr rfl (expr_value.g_w r1)) ?_
    refine rd_op (ov_load rfl rfl rfl) ?_
    obtain ⟨y110, hw110, hres⟩ := let_ex hres
    have f110 := f46_ok (x0 := x1.v) (x1 := x0.N) (x2 := x1.w)  
    rw [hw110] at f110
    refine rd_call (cv_fn rfl rfl (clL_cons rfl (clL_cons rfl (clL_cons rfl clL_nil))) f110) ?_
    refine rd_op (ov_faddr rfl (expr_value.g_w r1)) ?_
    refine rd_op (ov_load rfl rfl rfl) ?_
    refine rd_op (v := .agg [vu32 y110, vi x1.w]) (ov_build (cs := [vu32 y110, vi x1.w]) rfl rfl) ?_
    refine rd_storeO (k := 0) (v := .agg [vu32 y110, vi x1.w]) M101 rfl rfl rfl rfl (fun h111 M111 => ?_)
    replace M111 : Mem h111 [⟨.op i101 w101 0, 71, 2, [.agg [vu32 y110, vi x1.w]]⟩] := M111
    refine rd_nil ?_
    refine pn_seq ?_
    subst hres
    exact rc_retV (.cell rfl (load_whole (k := 0) M111 rfl rfl) .nil) (deep_closed (TR.clo expr_value.t (show expr_value.t.R ({ v := y110, w := x1.w } : expr_value) (.agg [vu32 y110, vi x1.w]) from rfl))) (show expr_value.t.R ({ v := y110, w := x1.w } : expr_value) (.agg [vu32 y110, vi x1.w]) from rfl)
   ·replace hres := (ite_f hc109).symm.trans hres
    have hc109' := hc109
    try simp only [qa1, qa2, qa3, qa4, qa5, qa6, qa7, qa8, qa9, qaA, qaB, qaC, qaD] at hc109'
    refine rc_skip ?_
    refine pn_blk ?_
    refine pn_seq ?_
    refine rc_seq ?_
    refine rc_region ?_
    refine rd_op (ov_faddr rfl (expr_value.g_v r1)) ?_
    refine rd_op (ov_load rfl rfl rfl) ?_
    refine rd_op (ov_faddr rfl (api_ExprNode.g_N r0)) ?_
    refine rd_op (ov_load rfl rfl rfl) ?_
    refine rd_op (ov_faddr rfl (api_ExprNode.g_W r0)) ?_
    refine rd_op (ov_load rfl rfl rfl) ?_
    obtain ⟨y112, hw112, hres⟩ := let_ex hres
    have f112 := f47_ok (x0 := x1.v) (x1 := x0.N) (x2 := x0.W)  
    rw [hw112] at f112
    refine rd_call (cv_fn rfl rfl (clL_cons rfl (clL_cons rfl (clL_cons rfl clL_nil))) f112) ?_
    refine rd_op (ov_faddr rfl (api_ExprNode.g_W r0)) ?_
    refine rd_op (ov_load rfl rfl rfl) ?_
    refine rd_op (v := .agg [vu32 y112, vi x0.W]) (ov_build (cs := [vu32 y112, vi x0.W]) rfl rfl) ?_
    refine rd_storeO (k := 0) (v := .agg [vu32 y112, vi x0.W]) M101 rfl rfl rfl rfl (fun h113 M113 => ?_)
    replace M113 : Mem h113 [⟨.op i101 w101 0, 71, 2, [.agg [vu32 y112, vi x0.W]]⟩] := M113
    refine rd_nil ?_
    refine pn_seq ?_
    subst hres
    exact rc_retV (.cell rfl (load_whole (k := 0) M113 rfl rfl) .nil) (deep_closed (TR.clo expr_value.t (show expr_value.t.R ({ v := y112, w := x0.W } : expr_value) (.agg [vu32 y112, vi x0.W]) from rfl))) (show expr_value.t.R ({ v := y112, w := x0.W } : expr_value) (.agg [vu32 y112, vi x0.W]) from rfl)

/-- patchbay/bitvec.Add -/
def RF48 (res : (BitVec 32)) (r : PV) : Prop := r = vu32 res
theorem f48_ok {x0 : BitVec 32} {x1 : BitVec 32} {x2 : Int} : FnR Tryz.prog 48 [vu32 x0, vu32 x1, vi x2] (vu32 (bitvec_Add x0 x1 x2)) := by
 obtain ⟨res, hres⟩ : ∃ res, bitvec_Add x0 x1 x2 = res := ⟨_, rfl⟩
 suffices H : RC Tryz.prog ac48 [] (QR Tryz.prog [(6, none)] (RF48 res)) (argE 0 [vu32 x0, vu32 x1, vi x2]) ⟨0, []⟩ by
  obtain ⟨r, h1, h2⟩ := fnE text48 (by simp) H
  rw [hres]
  have h2 : r = vu32 res := h2
  rw [← h2]; exact h1
 unfold bitvec_Add at hres
 unfold ac48
 refine rc_seq ?_
 refine rc_region ?_
 refine rd_op (v := vu32 0#32) (ov_move rfl) ?_
 refine rd_nil ?_
 refine pn_seq ?_
 refine rc_seq ?_
 refine rc_region ?_
 refine rd_op (ov_move rfl) ?_
 refine rd_op (ov_move rfl) ?_
 refine rd_op (ov_bin (a := vu32 x0) (b := vu32 x1) rfl rfl w_add) ?_
 refine rd_op (ov_move rfl) ?_
 obtain ⟨y101, hw101, hres⟩ := let_ex hres
 have f101 := f43_ok (x0 := x2)  
 rw [hw101] at f101
 refine rd_call (cv_fn rfl rfl (clL_cons rfl clL_nil) f101) ?_
 refine rd_op (ov_bin (a := vu32 (x0 + x1)) (b := vu32 y101) rfl rfl w_and) ?_
 refine rd_op (ov_move rfl) ?_
 refine rd_nil ?_
 refine pn_seq ?_
 subst hres
 exact rc_retV (.tmp rfl .nil) (deep_closed rfl) rfl

/-- patchbay/bitvec.Sub -/
def RF49 (res : (BitVec 32)) (r : PV) : Prop := r = vu32 res
theorem f49_ok {x0 : BitVec 32} {x1 : BitVec 32} {x2 : Int} : FnR Tryz.prog 49 [vu32 x0, vu32 x1, vi x2] (vu32 (bitvec_Sub x0 x1 x2)) := by
 obtain ⟨res, hres⟩ : ∃ res, bitvec_Sub x0 x1 x2 = res := ⟨_, rfl⟩
 suffices H : RC Tryz.prog ac49 [] (QR Tryz.prog [(6, none)] (RF49 res)) (argE 0 [vu32 x0, vu32 x1, vi x2]) ⟨0, []⟩ by
  obtain ⟨r, h1, h2⟩ := fnE text49 (by simp) H
  rw [hres]
  have h2 : r = vu32 res := h2
  rw [← h2]; exact h1
 unfold bitvec_Sub at hres
 unfold ac49
 refine rc_seq ?_
 refine rc_region ?_
 refine rd_op (v := vu32 0#32) (ov_move rfl) ?_
 refine rd_nil ?_
 refine pn_seq ?_
 refine rc_seq ?_
 refine rc_region ?_
 refine rd_op (ov_move rfl) ?_
 refine rd_op (ov_move rfl) ?_
 refine rd_op (ov_bin (a := vu32 x0) (b := vu32 x1) rfl rfl w_sub) ?_
 refine rd_op (ov_move rfl) ?_
 obtain ⟨y101, hw101, hres⟩ := let_ex hres
 have f101 := f43_ok (x0 := x2)  
 rw [hw101] at f101
 refine rd_call (cv_fn rfl rfl (clL_cons rfl clL_nil) f101) ?_
 refine rd_op (ov_bin (a := vu32 (x0 - x1)) (b := vu32 y101) rfl rfl w_and) ?_
 refine rd_op (ov_move rfl) ?_
 refine rd_nil ?_
 refine pn_seq ?_
 subst hres
 exact rc_retV (.tmp rfl .nil) (deep_closed rfl) rfl

/-- patchbay/bitvec.Concat -/
def RF50 (res : (BitVec 32) × Bool) (r : PV) : Prop := r = .tup [vu32 res.1, vb res.2]
theorem f50_ok {x0 : BitVec 32} {x1 : Int} {x2 : BitVec 32} {x3 : Int} : FnR Tryz.prog 50 [vu32 x0, vi x1, vu32 x2, vi x3] (.tup [vu32 ((bitvec_Concat x0 x1 x2 x3).1), vb ((bitvec_Concat x0 x1 x2 x3).2)]) := by
 obtain ⟨res, hres⟩ : ∃ res, bitvec_Concat x0 x1 x2 x3 = res := ⟨_, rfl⟩
 suffices H : RC Tryz.prog ac50 [] (QR Tryz.prog [(8, none), (9, none)] (RF50 res)) (argE 0 [vu32 x0, vi x1, vu32 x2, vi x3]) ⟨0, []⟩ by
  obtain ⟨r, h1, h2⟩ := fnE text50 (by simp) H
  rw [hres]
  have h2 : r = .tup [vu32 res.1, vb res.2] := h2
  rw [← h2]; exact h1
 unfold bitvec_Concat at hres
 unfold ac50
 refine rc_seq ?_
 refine rc_region ?_
 refine rd_op (v := vu32 0#32) (ov_move rfl) ?_
 refine rd_op (v := vb false) (ov_move rfl) ?_
 refine rd_nil ?_
 refine pn_seq ?_
 refine rc_seq ?_
 refine rc_seq ?_
 refine rc_region ?_
 refine rd_op (ov_move rfl) ?_
 refine rd_op (ov_move rfl) ?_
 refine rd_op (v := .fs true [vi x1, vi x3]) (ov_bslice rfl (all_cons rfl (all_cons rfl all_nil))) ?_
 have r101 : (tSl tI).R ([x1, x3] : List Int) (.fs true [vi x1, vi x3]) := sl_fs ⟨rfl, ⟨rfl, trivial⟩⟩ (by simp)
 obtain ⟨y102, hw102, hres⟩ := let_ex hres
 have f102 := f87_ok  r101 
 rw [hw102] at f102
 refine rd_call (cv_fn rfl rfl (clL_cons (TR.clo (tSl tI) r101) clL_nil) f102) ?_
 refine rd_op (ov_not rfl) ?_
 refine rd_op (ov_move rfl) ?_
 refine rd_cut (d := 20) (v := vb ((!y102) || (decide (32 < (wr (x1 + x3)))))) ?_ ?_
 ·intro S Q r
  simp only [ac50_G1, List.cons_append, List.nil_append, List.append_assoc]
  cases hb103 : (!y102)
  ·intro k
   have hb103' := hb103
   try simp only [qa1, qa2, qa3, qa4, qa5, qa6, qa7, qa8, qa9, qaA, qaB, qaC, qaD] at hb103'
   refine rd_yes rfl rfl (ov_move rfl) ?_
   refine rd_yes rfl rfl (ov_move rfl) ?_
   refine rd_yes rfl rfl (ov_bin rfl rfl i_add) ?_
   refine rd_yes rfl rfl (ov_bin rfl rfl i_gtr) ?_
   refine rd_op (v := vb (decide (32 < (wr (x1 + x3))))) (ov_pick rfl rfl rfl rfl) ?_
   exact rd_weak (sub_cons rfl (sub_skip rfl (sub_skip rfl (sub_skip rfl (sub_skip rfl (sub_skip rfl (sub_refl _))))))) k
  ·intro k
   refine rd_skip rfl rfl ?_
   refine rd_skip rfl rfl ?_
   refine rd_skip rfl rfl ?_
   refine rd_skip rfl rfl ?_
   refine rd_op (v := vb true) (ov_pick rfl rfl rfl rfl) ?_
   exact rd_weak (sub_cons rfl (sub_skip rfl (sub_skip rfl (sub_skip rfl (sub_skip rfl (sub_skip rfl (sub_refl _))))))) k
 refine rd_nil ?_
 refine pn_seq ?_
 refine rc_cond rfl (fun hc104 => ?_) (fun hc104 => ?_)
 ·replace hres := (ite_t hc104).symm.trans hres
  have hc104' := hc104
  try simp only [qa1, qa2, qa3, qa4, qa5, qa6, qa7, qa8, qa9, qaA, qaB, qaC, qaD] at hc104'
  refine rc_seq ?_
  refine rc_region ?_
  refine rd_op (v := vu32 0#32) (ov_move rfl) ?_
  refine rd_op (v := vb false) (ov_move rfl) ?_
  refine rd_nil ?_
  refine pn_seq ?_
  subst hres
  exact rc_retV (.tmp rfl (.tmp rfl .nil)) (deep_closed (show closed (.tup _) = true from (clL_cons rfl (clL_cons rfl clL_nil)))) rfl
 ·replace hres := (ite_f hc104).symm.trans hres
  have hc104' := hc104
  try simp only [qa1, qa2, qa3, qa4, qa5, qa6, qa7, qa8, qa9, qaA, qaB, qaC, qaD] at hc104'
  refine rc_skip ?_
  refine pn_seq ?_
  refine rc_seq ?_
  refine rc_region ?_
  refine rd_op (ov_move rfl) ?_
  refine rd_op (ov_move rfl) ?_
  obtain ⟨y105, hw105, hres⟩ := let_ex hres
  have f105 := f43_ok (x0 := x1)  
  rw [hw105] at f105
  refine rd_call (cv_fn rfl rfl (clL_cons rfl clL_nil) f105) ?_
  refine rd_op (ov_bin (a := vu32 x0) (b := vu32 y105) rfl rfl w_and) ?_
  refine rd_op (ov_move rfl) ?_
  refine rd_op (ov_bin (a := vu32 (x0 &&& y105)) (b := vi x3) rfl rfl (w_shl (by first | omega | exact mask_sh (by assumption) (by assumption) | (rw [wr_of (by omega) (by omega)]; omega) | (have hk := two_sh (by assumption) (And.left (by assumption)); omega)))) ?_
  refine rd_op (ov_move rfl) ?_
  refine rd_op (ov_move rfl) ?_
  obtain ⟨y106, hw106, hres⟩ := let_ex hres
  have f106 := f43_ok (x0 := x3)  
  rw [hw106] at f106
  refine rd_call (cv_fn rfl rfl (clL_cons rfl clL_nil) f106) ?_
  refine rd_op (ov_bin (a := vu32 x2) (b := vu32 y106) rfl rfl w_and) ?_
  refine rd_op (ov_bin (a := vu32 ((x0 &&& y105) <<< x3.toNat)) (b := vu32 (x2 &&& y106)) rfl rfl w_or) ?_
  refine rd_op (ov_move rfl) ?_
  refine rd_op (v := vb true) (ov_move rfl) ?_
  refine rd_nil ?_
  refine pn_seq ?_
  subst hres
  exact rc_retV (.tmp rfl (.tmp rfl .nil)) (deep_closed (show closed (.tup _) = true from (clL_cons rfl (clL_cons rfl clL_nil)))) rfl

end Go.Proofs.YtfekghenlhoamaaGreat
