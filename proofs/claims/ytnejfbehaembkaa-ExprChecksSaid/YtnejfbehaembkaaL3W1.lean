/-
 The code of each function does what its plain program says.
-/
import Derived.Test.YtnejfbehaembkaaL3W0
set_option linter.unusedVariables false
set_option linter.unusedSimpArgs false
set_option maxRecDepth 100000
namespace Go.Proofs.Ytnejfbehaembkaa
open Go Go.Pb Go.RowKit
/-- (patchbay/expr.Scope).check -/
def RF21 (res : Int × Int × Int) (r : PV) : Prop := r = .tup [vi res.1, vi res.2.1, vi res.2.2]
theorem m1_expr_Scope__check_L1_ok {S : List Fr} {res : Int × Int × Int} {x0 : expr_Scope} {x1 : List api_ExprNode} {x2 : Int} {rec_ : expr_Scope → (List api_ExprNode) → Int → (Int × Int × Int)} {mu_ : Nat} {y103 : Int} {v0 : PV} {v1 : PV} {i108 : Nat} {w108 : Nat} (r0 : expr_Scope.t.R x0 v0) (r1 : (tSl api_ExprNode.t).R x1 v1) (h0 : 0 ≤ x2) (hb : x1.length ≤ 1000000) (ihR : ∀ {z0 : expr_Scope} {z1 : List api_ExprNode} {z2 : Int} {zv0 : PV} {zv1 : PV} (zr0 : expr_Scope.t.R z0 zv0) (zr1 : (tSl api_ExprNode.t).R z1 zv1) (h0 : 0 ≤ z2) (hb : z1.length ≤ 1000000), (z1.length - z2.toNat) < mu_ → FnR Try.prog 21 [zv0, zv1, vi z2] (.tup [vi ((rec_ z0 z1 z2).1), vi ((rec_ z0 z1 z2).2.1), vi ((rec_ z0 z1 z2).2.2)])) (hmu : mu_ = (x1.length - x2.toNat)) (hrec : ∀ (z0 : expr_Scope) (z1 : List api_ExprNode) (z2 : Int), 0 ≤ z2 → z1.length ≤ 1000000 → (rec_ z0 z1 z2).2.2 = 0 → z2 < (rec_ z0 z1 z2).2.1) (hc101 : (decide ((x1.length : Int) ≤ x2)) = false) (hw103 : expr_arity ((ix x1 x2).Op) = y103) (hc104 : (decide (y103 < 0)) = false) (hc105 : (decide (y103 = 0)) = false) {K1 : Int → (List Int) → (Int × Int × Int)}
  (hK1 : ∀ (x7_ : Int) (zE109 : List Int) (uE109 : PV) (qE109 : (tAr 3 tI).R zE109 uE109) (h : Heap) (M0 : Mem h [⟨.op i108 w108 0, 91, 3, [uE109]⟩]), K1 x7_ zE109 = res → PX Try.prog 1 S (QR Try.prog [(6, none), (7, none), (8, none)] (RF21 res)) [(1, v1), (2, vi x2), (7, vi x7_), (10, .op i108 w108 0)] h) :
  ∀ (m : Nat) (x7_ : Int) (x44_ : Int) (zE109 : List Int) (uE109 : PV) (qE109 : (tAr 3 tI).R zE109 uE109) (hm1 : m = Int.toNat (y103 - x44_)) (hlo1 : 0 ≤ x44_) (iv1_0 : x2 < x7_) (h : Heap) (M0 : Mem h [⟨.op i108 w108 0, 91, 3, [uE109]⟩]), m1_expr_Scope__check_L1 x0 x1 rec_ K1 m x7_ x44_ zE109 = res → RC Try.prog (.loop ac21_L1) S (QR Try.prog [(6, none), (7, none), (8, none)] (RF21 res)) [(44, vi x44_), (43, vi y103), (10, .op i108 w108 0), (7, vi x7_), (3, .fp v0), (2, vi x2), (1, v1)] h := by
 have hb' := hb
 try simp only [qa1, qa2, qa3, qa4, qa5, qa6, qa7, qa8, qa9, qaA, qaB, qaC, qaD] at hb'
 have hc101' := hc101
 try simp only [qa1, qa2, qa3, qa4, qa5, qa6, qa7, qa8, qa9, qaA, qaB, qaC, qaD] at hc101'
 have hc104' := hc104
 try simp only [qa1, qa2, qa3, qa4, qa5, qa6, qa7, qa8, qa9, qaA, qaB, qaC, qaD] at hc104'
 have hc105' := hc105
 try simp only [qa1, qa2, qa3, qa4, qa5, qa6, qa7, qa8, qa9, qaA, qaB, qaC, qaD] at hc105'
 intro m
 induction m with
 | zero =>
  intro x7_ x44_ zE109 uE109 qE109 hm1 hlo1 iv1_0 h M0 hres
  rw [m1_expr_Scope__check_L1] at hres
  refine rc_loop ?_
  unfold ac21_L1
  refine rc_seq ?_
  refine rc_region ?_
  refine rd_op (ov_bin rfl rfl i_lss) ?_
  refine rd_nil ?_
  refine pn_seq ?_
  refine rc_seq ?_
  refine rc_cond rfl (fun hc110 => ?_) (fun hc110 => ?_)
  ·exfalso
   try simp only [qa1, qa2, qa3, qa4, qa5, qa6, qa7, qa8, qa9, qaA, qaB, qaC, qaD] at hc110
   omega
  ·have hend := hres
   have hc110' := hc110
   try simp only [qa1, qa2, qa3, qa4, qa5, qa6, qa7, qa8, qa9, qaA, qaB, qaC, qaD] at hc110'
   refine rc_exit ?_
   refine px_seq ?_
   refine px_again ?_
   exact px_weak ((sub_cons rfl (sub_cons rfl (sub_cons rfl (sub_cons rfl (sub_nil _)))))) (hK1 x7_ zE109 uE109 (show (tAr 3 tI).R zE109 uE109 from qE109) _ (Mem.sub M0 (.cons_cons _ .slnil)) hres)
 | succ m ih =>
  intro x7_ x44_ zE109 uE109 qE109 hm1 hlo1 iv1_0 h M0 hres
  rw [m1_expr_Scope__check_L1] at hres
  refine rc_loop ?_
  unfold ac21_L1
  refine rc_seq ?_
  refine rc_region ?_
  refine rd_op (ov_bin rfl rfl i_lss) ?_
  refine rd_nil ?_
  refine pn_seq ?_
  refine rc_seq ?_
  refine rc_cond rfl (fun hc111 => ?_) (fun hc111 => ?_)
  ·have hgo := hres
   have hc111' := hc111
   try simp only [qa1, qa2, qa3, qa4, qa5, qa6, qa7, qa8, qa9, qaA, qaB, qaC, qaD] at hc111'
   refine rc_skip ?_
   refine pn_seq ?_
   refine rc_seq ?_
   refine rc_block ?_
   refine rc_seq ?_
   refine rc_region ?_
   refine rd_op (ov_move rfl) ?_
   refine rd_op (ov_move rfl) ?_
   refine rd_nil ?_
   refine pn_seq ?_
   refine rc_seq ?_
   refine rc_region ?_
   refine rd_op (ov_move rfl) ?_
   refine rd_op (ov_load rfl (TR.cnt expr_Scope.t r0) (TR.agg expr_Scope.t r0)) ?_
   refine rd_op (ov_move rfl) ?_
   refine rd_op (ov_move rfl) ?_
   obtain ⟨y112, hw112, hres⟩ := let_ex hres
   have f112 := ihR (z0 := x0) (z1 := x1) (z2 := x7_) r0 r1 (by first | assumption | omega | (rw [wr_of (by omega) (by omega)]; omega)) (by first | assumption | omega | (rw [wr_of (by omega) (by omega)]; omega)) (by first | omega | (rw [wr_of (by omega) (by omega)]; omega))
   rw [hw112] at f112
   have ek112 : y112.2.2 = 0 → x7_ < y112.2.1 := by rw [← hw112]; exact hrec _ _ _ (by omega) (by omega)
   refine rd_call (cv_fn rfl rfl (clL_cons (TR.clo expr_Scope.t r0) (clL_cons (TR.clo (tSl api_ExprNode.t) r1) (clL_cons rfl clL_nil))) f112) ?_
   refine rd_op (ov_move rfl) ?_
   refine rd_op (ov_extract rfl rfl) ?_
   refine rd_op (ov_extract rfl rfl) ?_
   refine rd_op (ov_extract rfl rfl) ?_
   have h0_113 : 0 ≤ x44_ := by first | omega | (have hk := ar (by assumption); omega)
   have h1_113 : x44_ < 3 := by first | omega | (have hk := ar (by assumption); omega)
   refine rd_op (ov_iaddrAO rfl rfl h0_113 h1_113) ?_
   obtain ⟨cs114, ec114, ln114, sr114⟩ := arr_store (t := tI) (i := x44_) qE109 h0_113 h1_113 (show tI.R y112.1 (vi y112.1) from rfl) rfl
   refine rd_storeFA (k := 0) (v := vi y112.1) M0 rfl rfl rfl ec114 rfl ln114.1 ln114.2 (fun h114 M114 => ?_)
   replace M114 : Mem h114 [⟨.op i108 w108 0, 91, 3, [.agg (spl cs114 (x44_.toNat * 1) [vi y112.1])]⟩] := M114
   refine rd_op (ov_move rfl) ?_
   refine rd_op (ov_move rfl) ?_
   refine rd_nil ?_
   refine pn_seq ?_
   refine rc_seq ?_
   refine rc_region ?_
   refine rd_op (ov_move rfl) ?_
   refine rd_op (ov_bin rfl rfl i_neq) ?_
   refine rd_nil ?_
   refine pn_seq ?_
   refine rc_cond rfl (fun hc115 => ?_) (fun hc115 => ?_)
   ·replace hres := (ite_t hc115).symm.trans hres
    have hc115' := hc115
    try simp only [qa1, qa2, qa3, qa4, qa5, qa6, qa7, qa8, qa9, qaA, qaB, qaC, qaD] at hc115'
    refine rc_seq ?_
    refine rc_region ?_
    refine rd_op (ov_move rfl) ?_
    refine rd_op (v := vi 0) (ov_move rfl) ?_
    refine rd_op (v := vi 0) (ov_move rfl) ?_
    refine rd_op (ov_move rfl) ?_
    refine rd_nil ?_
    refine pn_seq ?_
    subst hres
    exact rc_retV (.tmp rfl (.tmp rfl (.tmp rfl .nil))) (deep_closed (show closed (.tup _) = true from (clL_cons rfl (clL_cons rfl (clL_cons rfl clL_nil))))) rfl
   ·replace hres := (ite_f hc115).symm.trans hres
    have hc115' := hc115
    try simp only [qa1, qa2, qa3, qa4, qa5, qa6, qa7, qa8, qa9, qaA, qaB, qaC, qaD] at hc115'
    refine rc_skip ?_
    refine pn_blk ?_
    refine pn_seq ?_
    refine rc_region ?_
    refine rd_op (ov_bin rfl rfl i_add) ?_
    refine rd_op (ov_move rfl) ?_
    refine rd_nil ?_
    refine pn_again ?_
    have hinc : wr (x44_ + 1) = x44_ + 1 := wr_of (by omega) (by first | omega | (have hk := ar (by assumption); omega))
    rw [hinc]
    refine rc_weak ?_ (ih y112.2.1 (x44_ + 1) (zE109.set x44_.toNat y112.1) (.agg (spl cs114 (x44_.toNat * 1) [vi y112.1])) (show (tAr 3 tI).R (zE109.set x44_.toNat y112.1) (.agg (spl cs114 (x44_.toNat * 1) [vi y112.1])) from sr114) (by omega) (by omega) (by first | omega | (simp; done) | (simp only [List.length_append, List.length_cons, List.length_nil, List.length_set]; omega)) _ (Mem.sub M114 (.cons_cons _ .slnil)) hres)
    exact ((sub_cons rfl (sub_cons rfl (sub_cons rfl (sub_cons rfl (sub_cons rfl (sub_cons rfl (sub_cons rfl (sub_nil _)))))))))
  ·exfalso
   try simp only [qa1, qa2, qa3, qa4, qa5, qa6, qa7, qa8, qa9, qaA, qaB, qaC, qaD] at hc111
   omega

theorem f21_okB {rec_ : expr_Scope → (List api_ExprNode) → Int → (Int × Int × Int)} {mu_ : Nat} {x0 : expr_Scope} {x1 : List api_ExprNode} {x2 : Int} {v0 : PV} {v1 : PV} (r0 : expr_Scope.t.R x0 v0) (r1 : (tSl api_ExprNode.t).R x1 v1) (h0 : 0 ≤ x2) (hb : x1.length ≤ 1000000) (hmu : mu_ = (x1.length - x2.toNat)) (hrec : ∀ (z0 : expr_Scope) (z1 : List api_ExprNode) (z2 : Int), 0 ≤ z2 → z1.length ≤ 1000000 → (rec_ z0 z1 z2).2.2 = 0 → z2 < (rec_ z0 z1 z2).2.1) (ihR : ∀ {z0 : expr_Scope} {z1 : List api_ExprNode} {z2 : Int} {zv0 : PV} {zv1 : PV} (zr0 : expr_Scope.t.R z0 zv0) (zr1 : (tSl api_ExprNode.t).R z1 zv1) (h0 : 0 ≤ z2) (hb : z1.length ≤ 1000000), (z1.length - z2.toNat) < mu_ → FnR Try.prog 21 [zv0, zv1, vi z2] (.tup [vi ((rec_ z0 z1 z2).1), vi ((rec_ z0 z1 z2).2.1), vi ((rec_ z0 z1 z2).2.2)])) : FnR Try.prog 21 [v0, v1, vi x2] (.tup [vi ((m1_expr_Scope__check_B rec_ x0 x1 x2).1), vi ((m1_expr_Scope__check_B rec_ x0 x1 x2).2.1), vi ((m1_expr_Scope__check_B rec_ x0 x1 x2).2.2)]) := by
 obtain ⟨res, hres⟩ : ∃ res, m1_expr_Scope__check_B rec_ x0 x1 x2 = res := ⟨_, rfl⟩
 suffices H : RC Try.prog ac21 [] (QR Try.prog [(6, none), (7, none), (8, none)] (RF21 res)) (argE 0 [v0, v1, vi x2]) ⟨0, []⟩ by
  obtain ⟨r, h1, h2⟩ := fnE text21 (by simp) H
  rw [hres]
  have h2 : r = .tup [vi res.1, vi res.2.1, vi res.2.2] := h2
  rw [← h2]; exact h1
 unfold m1_expr_Scope__check_B at hres
 unfold ac21
 refine rc_seq ?_
 refine rc_region ?_
 refine rd_op (ov_box rfl (TR.cnt expr_Scope.t r0)) ?_
 refine rd_op (v := vi 0) (ov_move rfl) ?_
 refine rd_op (v := vi 0) (ov_move rfl) ?_
 refine rd_op (v := vi 0) (ov_move rfl) ?_
 refine rd_nil ?_
 refine pn_seq ?_
 refine rc_seq ?_
 refine rc_seq ?_
 refine rc_region ?_
 refine rd_op (ov_move rfl) ?_
 refine rd_op (ov_move rfl) ?_
 refine rd_op (ov_bi rfl (sl_len r1 Try.underlying32 _)) ?_
 refine rd_op (ov_bin rfl rfl i_geq) ?_
 refine rd_nil ?_
 refine pn_seq ?_
 refine rc_cond rfl (fun hc101 => ?_) (fun hc101 => ?_)
 ·replace hres := (ite_t hc101).symm.trans hres
  have hc101' := hc101
  try simp only [qa1, qa2, qa3, qa4, qa5, qa6, qa7, qa8, qa9, qaA, qaB, qaC, qaD] at hc101'
  refine rc_seq ?_
  refine rc_region ?_
  refine rd_op (v := vi 0) (ov_move rfl) ?_
  refine rd_op (v := vi 0) (ov_move rfl) ?_
  refine rd_op (v := vi 3) (ov_move rfl) ?_
  refine rd_nil ?_
  refine pn_seq ?_
  subst hres
  exact rc_retV (.tmp rfl (.tmp rfl (.tmp rfl .nil))) (deep_closed (show closed (.tup _) = true from (clL_cons rfl (clL_cons rfl (clL_cons rfl clL_nil))))) rfl
 ·replace hres := (ite_f hc101).symm.trans hres
  have hc101' := hc101
  try simp only [qa1, qa2, qa3, qa4, qa5, qa6, qa7, qa8, qa9, qaA, qaB, qaC, qaD] at hc101'
  refine rc_skip ?_
  refine pn_seq ?_
  refine rc_seq ?_
  refine rc_region ?_
  refine rd_op (ov_move rfl) ?_
  refine rd_op (ov_move rfl) ?_
  obtain ⟨v102, e102, r102⟩ := sl_idx (i := x2) r1 (by omega) (by omega)
  refine rd_op (ov_iaddr rfl rfl e102) ?_
  refine rd_op (ov_faddr rfl (api_ExprNode.g_Op r102)) ?_
  refine rd_op (ov_load rfl rfl rfl) ?_
  obtain ⟨y103, hw103, hres⟩ := let_ex hres
  have f103 := f23_ok (x0 := (ix x1 x2).Op)  
  rw [hw103] at f103
  refine rd_call (cv_fn rfl rfl (clL_cons rfl clL_nil) f103) ?_
  refine rd_op (ov_move rfl) ?_
  refine rd_nil ?_
  refine pn_seq ?_
  refine rc_seq ?_
  refine rc_block ?_
  refine rc_seq ?_
  refine rc_region ?_
  refine rd_op (ov_move rfl) ?_
  refine rd_op (ov_bin rfl rfl i_lss) ?_
  refine rd_op (ov_move rfl) ?_
  refine rd_nil ?_
  refine pn_seq ?_
  refine rc_cond rfl (fun hc104 => ?_) (fun hc104 => ?_)
  ·replace hres := (ite_t hc104).symm.trans hres
   have hc104' := hc104
   try simp only [qa1, qa2, qa3, qa4, qa5, qa6, qa7, qa8, qa9, qaA, qaB, qaC, qaD] at hc104'
   refine rc_seq ?_
   refine rc_region ?_
   refine rd_op (v := vi 0) (ov_move rfl) ?_
   refine rd_op (v := vi 0) (ov_move rfl) ?_
   refine rd_op (v := vi 11) (ov_move rfl) ?_
   refine rd_nil ?_
   refine pn_seq ?_
   subst hres
   exact rc_retV (.tmp rfl (.tmp rfl (.tmp rfl .nil))) (deep_closed (show closed (.tup _) = true from (clL_cons rfl (clL_cons rfl (clL_cons rfl clL_nil))))) rfl
  ·replace hres := (ite_f hc104).symm.trans hres
   have hc104' := hc104
   try simp only [qa1, qa2, qa3, qa4, qa5, qa6, qa7, qa8, qa9, qaA, qaB, qaC, qaD] at hc104'
   refine rc_seq ?_
   refine rc_region ?_
   refine rd_op (ov_move rfl) ?_
   refine rd_op (ov_bin rfl rfl i_eql) ?_
   refine rd_op (ov_move rfl) ?_
   refine rd_nil ?_
   refine pn_seq ?_
   refine rc_cond rfl (fun hc105 => ?_) (fun hc105 => ?_)
   ·replace hres := (ite_t hc105).symm.trans hres
    have hc105' := hc105
    try simp only [qa1, qa2, qa3, qa4, qa5, qa6, qa7, qa8, qa9, qaA, qaB, qaC, qaD] at hc105'
    refine rc_seq ?_
    refine rc_region ?_
    refine rd_op (ov_load rfl (TR.cnt expr_Scope.t r0) (TR.agg expr_Scope.t r0)) ?_
    refine rd_op (ov_move rfl) ?_
    refine rd_op (ov_move rfl) ?_
    obtain ⟨v106, e106, r106⟩ := sl_idx (i := x2) r1 (by omega) (by omega)
    refine rd_op (ov_iaddr rfl rfl e106) ?_
    refine rd_op (ov_load rfl (TR.cnt api_ExprNode.t r106) (TR.agg api_ExprNode.t r106)) ?_
    obtain ⟨y107, hw107, hres⟩ := let_ex hres
    have f107 := f37_ok  r0 r106 
    rw [hw107] at f107
    refine rd_call (cv_fn rfl rfl (clL_cons (TR.clo expr_Scope.t r0) (clL_cons (TR.clo api_ExprNode.t r106) clL_nil)) f107) ?_
    refine rd_op (ov_move rfl) ?_
    refine rd_op (ov_extract rfl rfl) ?_
    refine rd_op (ov_extract rfl rfl) ?_
    refine rd_op (ov_move rfl) ?_
    refine rd_op (ov_move rfl) ?_
    refine rd_nil ?_
    refine pn_seq ?_
    refine rc_seq ?_
    refine rc_region ?_
    refine rd_op (ov_move rfl) ?_
    refine rd_op (ov_move rfl) ?_
    refine rd_op (ov_bin rfl rfl i_add) ?_
    refine rd_op (ov_move rfl) ?_
    refine rd_op (ov_move rfl) ?_
    refine rd_op (ov_move rfl) ?_
    refine rd_op (ov_move rfl) ?_
    refine rd_nil ?_
    refine pn_seq ?_
    subst hres
    exact rc_retV (.tmp rfl (.tmp rfl (.tmp rfl .nil))) (deep_closed (show closed (.tup _) = true from (clL_cons rfl (clL_cons rfl (clL_cons rfl clL_nil))))) rfl
   ·replace hres := (ite_f hc105).symm.trans hres
    have hc105' := hc105
    try simp only [qa1, qa2, qa3, qa4, qa5, qa6, qa7, qa8, qa9, qaA, qaB, qaC, qaD] at hc105'
    refine rc_skip ?_
    refine pn_blk ?_
    refine pn_seq ?_
    refine rc_seq ?_
    refine rc_region ?_
    refine rd_allocO (x := .agg [vi 0, vi 0, vi 0]) (Mem.nil ⟨0, []⟩) rfl rfl (fun i108 w108 h108 M108 => ?_)
    refine rd_nil ?_
    refine pn_seq ?_
    refine rc_seq ?_
    refine rc_region ?_
    refine rd_op (ov_move rfl) ?_
    refine rd_op (ov_bin rfl rfl i_add) ?_
    refine rd_op (ov_move rfl) ?_
    refine rd_nil ?_
    refine pn_seq ?_
    refine rc_seq ?_
    refine rc_seq ?_
    refine rc_region ?_
    refine rd_op (ov_move rfl) ?_
    refine rd_op (v := vi 0) (ov_move rfl) ?_
    refine rd_nil ?_
    refine pn_seq ?_
    refine rc_block ?_
    refine rc_weak ?_ (m1_expr_Scope__check_L1_ok (x0 := x0) (x1 := x1) (x2 := x2) (rec_ := rec_) (mu_ := mu_) (y103 := y103) (v0 := v0) (v1 := v1) (i108 := i108) (w108 := w108) (r0 := r0) (r1 := r1) (h0 := h0) (hb := hb) (ihR := ihR) (hmu := hmu) (hrec := hrec) (hc101 := hc101) (hw103 := hw103) (hc104 := hc104) (hc105 := hc105) ?_ (Int.toNat (y103 - 0)) (wr (x2 + 1)) 0 ([0, 0, 0] : List Int) (.agg [vi 0, vi 0, vi 0]) (show (tAr 3 tI).R ([0, 0, 0] : List Int) (.agg [vi 0, vi 0, vi 0]) from ⟨rfl, [vi 0, vi 0, vi 0], [vi 0, vi 0, vi 0], ⟨rfl, ⟨rfl, ⟨rfl, trivial⟩⟩⟩, rfl, rfl⟩) rfl (by omega) (by (rw [wr_of (by omega) (by omega)]; omega)) _ (Mem.sub M108 (.cons_cons _ .slnil)) hres)
    ·exact ((sub_cons rfl (sub_cons rfl (sub_cons rfl (sub_cons rfl (sub_cons rfl (sub_cons rfl (sub_cons rfl (sub_nil _)))))))))
    ·intro x7_116 zE109_116 u116E109 q116E109 h116 M116 hres
     refine px_blk ?_
     refine pn_seq ?_
     refine rc_seq ?_
     refine rc_region ?_
     refine rd_op (ov_move rfl) ?_
     refine rd_op (ov_move rfl) ?_
     obtain ⟨v117, e117, r117⟩ := sl_idx (i := x2) r1 (by omega) (by omega)
     refine rd_op (ov_iaddr rfl rfl e117) ?_
     refine rd_op (ov_load rfl (TR.cnt api_ExprNode.t r117) (TR.agg api_ExprNode.t r117)) ?_
     refine rd_op (ov_load0 (k := 0) M116 rfl rfl (TR.agg (tAr 3 tI) q116E109)) ?_
     obtain ⟨y118, hw118, hres⟩ := let_ex hres
     have f118 := f38_ok  r117 q116E109 
     rw [hw118] at f118
     refine rd_call (cv_fn rfl rfl (clL_cons (TR.clo api_ExprNode.t r117) (clL_cons (TR.clo (tAr 3 tI) q116E109) clL_nil)) f118) ?_
     refine rd_op (ov_move rfl) ?_
     refine rd_op (ov_extract rfl rfl) ?_
     refine rd_op (ov_extract rfl rfl) ?_
     refine rd_op (ov_move rfl) ?_
     refine rd_op (ov_move rfl) ?_
     refine rd_nil ?_
     refine pn_seq ?_
     refine rc_seq ?_
     refine rc_region ?_
     refine rd_op (ov_move rfl) ?_
     refine rd_op (ov_move rfl) ?_
     refine rd_op (ov_move rfl) ?_
     refine rd_op (ov_move rfl) ?_
     refine rd_op (ov_move rfl) ?_
     refine rd_op (ov_move rfl) ?_
     refine rd_nil ?_
     refine pn_seq ?_
     subst hres
     exact rc_retV (.tmp rfl (.tmp rfl (.tmp rfl .nil))) (deep_closed (show closed (.tup _) = true from (clL_cons rfl (clL_cons rfl (clL_cons rfl clL_nil))))) rfl
theorem f21_okR : ∀ (n_ : Nat) {x0 : expr_Scope} {x1 : List api_ExprNode} {x2 : Int} {v0 : PV} {v1 : PV} (r0 : expr_Scope.t.R x0 v0) (r1 : (tSl api_ExprNode.t).R x1 v1) (h0 : 0 ≤ x2) (hb : x1.length ≤ 1000000), (x1.length - x2.toNat) < n_ → FnR Try.prog 21 [v0, v1, vi x2] (.tup [vi ((m1_expr_Scope__check_R n_ x0 x1 x2).1), vi ((m1_expr_Scope__check_R n_ x0 x1 x2).2.1), vi ((m1_expr_Scope__check_R n_ x0 x1 x2).2.2)]) := by
 intro n_
 induction n_ with
 | zero => intros; rename_i hlt; exact absurd hlt (Nat.not_lt_zero _)
 | succ n_ ihn =>
  intro x0 x1 x2 v0 v1 r0 r1 h0 hb hlt
  have e_ : m1_expr_Scope__check_R (n_ + 1) x0 x1 x2 = m1_expr_Scope__check_B (m1_expr_Scope__check_R n_) x0 x1 x2 := by rw [m1_expr_Scope__check_R]
  rw [e_]
  exact f21_okB r0 r1 h0 hb rfl (check_next n_) (fun {z0} {z1} {z2} {zv0} {zv1} zr0 zr1 h0 hb hz => ihn zr0 zr1 h0 hb (by omega))
theorem f21_ok {x0 : expr_Scope} {x1 : List api_ExprNode} {x2 : Int} {v0 : PV} {v1 : PV} (r0 : expr_Scope.t.R x0 v0) (r1 : (tSl api_ExprNode.t).R x1 v1) (h0 : 0 ≤ x2) (hb : x1.length ≤ 1000000) : FnR Try.prog 21 [v0, v1, vi x2] (.tup [vi ((m1_expr_Scope__check x0 x1 x2).1), vi ((m1_expr_Scope__check x0 x1 x2).2.1), vi ((m1_expr_Scope__check x0 x1 x2).2.2)]) := f21_okR _ r0 r1 h0 hb (Nat.lt_succ_self _)

/-- patchbay/expr.Check -/
def RF6 (res : Int × Int) (r : PV) : Prop := r = .tup [vi res.1, vi res.2]
theorem f6_ok {x0 : List api_ExprNode} {x1 : expr_Scope} {v0 : PV} {v1 : PV} (r0 : (tSl api_ExprNode.t).R x0 v0) (r1 : expr_Scope.t.R x1 v1) : FnR Try.prog 6 [v0, v1] (.tup [vi ((expr_Check x0 x1).1), vi ((expr_Check x0 x1).2)]) := by
 obtain ⟨res, hres⟩ : ∃ res, expr_Check x0 x1 = res := ⟨_, rfl⟩
 suffices H : RC Try.prog ac6 [] (QR Try.prog [(4, none), (5, none)] (RF6 res)) (argE 0 [v0, v1]) ⟨0, []⟩ by
  obtain ⟨r, h1, h2⟩ := fnE text6 (by simp) H
  rw [hres]
  have h2 : r = .tup [vi res.1, vi res.2] := h2
  rw [← h2]; exact h1
 unfold expr_Check at hres
 unfold ac6
 refine rc_seq ?_
 refine rc_region ?_
 refine rd_op (ov_box rfl (TR.cnt expr_Scope.t r1)) ?_
 refine rd_op (v := vi 0) (ov_move rfl) ?_
 refine rd_op (v := vi 0) (ov_move rfl) ?_
 refine rd_nil ?_
 refine pn_seq ?_
 refine rc_seq ?_
 refine rc_seq ?_
 refine rc_region ?_
 refine rd_op (ov_move rfl) ?_
 refine rd_op (ov_bi rfl (sl_len r0 Try.underlying32 _)) ?_
 refine rd_op (ov_bin rfl rfl i_gtr) ?_
 refine rd_nil ?_
 refine pn_seq ?_
 refine rc_cond rfl (fun hc101 => ?_) (fun hc101 => ?_)
 ·replace hres := (ite_t hc101).symm.trans hres
  have hc101' := hc101
  try simp only [qa1, qa2, qa3, qa4, qa5, qa6, qa7, qa8, qa9, qaA, qaB, qaC, qaD] at hc101'
  refine rc_seq ?_
  refine rc_region ?_
  refine rd_op (v := vi 0) (ov_move rfl) ?_
  refine rd_op (v := vi 12) (ov_move rfl) ?_
  refine rd_nil ?_
  refine pn_seq ?_
  subst hres
  exact rc_retV (.tmp rfl (.tmp rfl .nil)) (deep_closed (show closed (.tup _) = true from (clL_cons rfl (clL_cons rfl clL_nil)))) rfl
 ·replace hres := (ite_f hc101).symm.trans hres
  have hc101' := hc101
  try simp only [qa1, qa2, qa3, qa4, qa5, qa6, qa7, qa8, qa9, qaA, qaB, qaC, qaD] at hc101'
  refine rc_skip ?_
  refine pn_seq ?_
  refine rc_seq ?_
  refine rc_region ?_
  refine rd_op (ov_load rfl (TR.cnt expr_Scope.t r1) (TR.agg expr_Scope.t r1)) ?_
  refine rd_op (ov_move rfl) ?_
  obtain ⟨y102, hw102, hres⟩ := let_ex hres
  have f102 := f21_ok (x2 := 0) r1 r0 (by first | assumption | omega | (rw [wr_of (by omega) (by omega)]; omega)) (by first | assumption | omega | (rw [wr_of (by omega) (by omega)]; omega))
  rw [hw102] at f102
  refine rd_call (cv_fn rfl rfl (clL_cons (TR.clo expr_Scope.t r1) (clL_cons (TR.clo (tSl api_ExprNode.t) r0) (clL_cons rfl clL_nil))) f102) ?_
  refine rd_op (ov_move rfl) ?_
  refine rd_op (ov_extract rfl rfl) ?_
  refine rd_op (ov_extract rfl rfl) ?_
  refine rd_op (ov_extract rfl rfl) ?_
  refine rd_op (ov_move rfl) ?_
  refine rd_op (ov_move rfl) ?_
  refine rd_op (ov_move rfl) ?_
  refine rd_nil ?_
  refine pn_seq ?_
  refine rc_seq ?_
  refine rc_block ?_
  refine rc_seq ?_
  refine rc_region ?_
  refine rd_op (ov_move rfl) ?_
  refine rd_op (ov_bin rfl rfl i_neq) ?_
  refine rd_op (ov_move rfl) ?_
  refine rd_nil ?_
  refine pn_seq ?_
  refine rc_cond rfl (fun hc103 => ?_) (fun hc103 => ?_)
  ·replace hres := (ite_t hc103).symm.trans hres
   have hc103' := hc103
   try simp only [qa1, qa2, qa3, qa4, qa5, qa6, qa7, qa8, qa9, qaA, qaB, qaC, qaD] at hc103'
   refine rc_seq ?_
   refine rc_region ?_
   refine rd_op (ov_move rfl) ?_
   refine rd_op (v := vi 0) (ov_move rfl) ?_
   refine rd_op (ov_move rfl) ?_
   refine rd_nil ?_
   refine pn_seq ?_
   subst hres
   exact rc_retV (.tmp rfl (.tmp rfl .nil)) (deep_closed (show closed (.tup _) = true from (clL_cons rfl (clL_cons rfl clL_nil)))) rfl
  ·replace hres := (ite_f hc103).symm.trans hres
   have hc103' := hc103
   try simp only [qa1, qa2, qa3, qa4, qa5, qa6, qa7, qa8, qa9, qaA, qaB, qaC, qaD] at hc103'
   refine rc_seq ?_
   refine rc_region ?_
   refine rd_op (ov_move rfl) ?_
   refine rd_op (ov_move rfl) ?_
   refine rd_op (ov_bi rfl (sl_len r0 Try.underlying32 _)) ?_
   refine rd_op (ov_bin rfl rfl i_lss) ?_
   refine rd_op (ov_move rfl) ?_
   refine rd_nil ?_
   refine pn_seq ?_
   refine rc_cond rfl (fun hc104 => ?_) (fun hc104 => ?_)
   ·replace hres := (ite_t hc104).symm.trans hres
    have hc104' := hc104
    try simp only [qa1, qa2, qa3, qa4, qa5, qa6, qa7, qa8, qa9, qaA, qaB, qaC, qaD] at hc104'
    refine rc_seq ?_
    refine rc_region ?_
    refine rd_op (v := vi 0) (ov_move rfl) ?_
    refine rd_op (v := vi 4) (ov_move rfl) ?_
    refine rd_nil ?_
    refine pn_seq ?_
    subst hres
    exact rc_retV (.tmp rfl (.tmp rfl .nil)) (deep_closed (show closed (.tup _) = true from (clL_cons rfl (clL_cons rfl clL_nil)))) rfl
   ·replace hres := (ite_f hc104).symm.trans hres
    have hc104' := hc104
    try simp only [qa1, qa2, qa3, qa4, qa5, qa6, qa7, qa8, qa9, qaA, qaB, qaC, qaD] at hc104'
    refine rc_skip ?_
    refine pn_blk ?_
    refine pn_seq ?_
    refine rc_seq ?_
    refine rc_region ?_
    refine rd_op (ov_move rfl) ?_
    refine rd_op (ov_move rfl) ?_
    refine rd_op (v := vi 0) (ov_move rfl) ?_
    refine rd_nil ?_
    refine pn_seq ?_
    subst hres
    exact rc_retV (.tmp rfl (.tmp rfl .nil)) (deep_closed (show closed (.tup _) = true from (clL_cons rfl (clL_cons rfl clL_nil)))) rfl

/-- patchbay/patchbayref13.Arity -/
def RF24 (res : Int) (r : PV) : Prop := r = vi res
theorem f24_ok {x0 : Int} : FnR Try.prog 24 [vi x0] (vi (ref13_Arity x0)) := by
 obtain ⟨res, hres⟩ : ∃ res, ref13_Arity x0 = res := ⟨_, rfl⟩
 suffices H : RC Try.prog ac24 [] (QR Try.prog [(2, none)] (RF24 res)) (argE 0 [vi x0]) ⟨0, []⟩ by
  obtain ⟨r, h1, h2⟩ := fnE text24 (by simp) H
  rw [hres]
  have h2 : r = vi res := h2
  rw [← h2]; exact h1
 unfold ref13_Arity at hres
 unfold ac24
 refine rc_seq ?_
 refine rc_region ?_
 refine rd_op (v := vi 0) (ov_move rfl) ?_
 refine rd_nil ?_
 refine pn_seq ?_
 refine rc_seq ?_
 refine rc_block ?_
 refine rc_seq ?_
 refine rc_region ?_
 refine rd_op (ov_move rfl) ?_
 refine rd_op (ov_bin rfl rfl i_geq) ?_
 refine rd_op (ov_move rfl) ?_
 refine rd_cut (d := 9) (v := vb ((decide (1 ≤ x0)) && (decide (x0 ≤ 4)))) ?_ ?_
 ·intro S Q r
  simp only [ac24_G1, List.cons_append, List.nil_append, List.append_assoc]
  cases hb101 : (decide (1 ≤ x0))
  ·intro k
   refine rd_skip rfl rfl ?_
   refine rd_skip rfl rfl ?_
   refine rd_op (v := vb false) (ov_pick rfl rfl rfl rfl) ?_
   exact rd_weak (sub_cons rfl (sub_skip rfl (sub_skip rfl (sub_skip rfl (sub_refl _))))) k
  ·intro k
   have hb101' := hb101
   try simp only [qa1, qa2, qa3, qa4, qa5, qa6, qa7, qa8, qa9, qaA, qaB, qaC, qaD] at hb101'
   refine rd_yes rfl rfl (ov_move rfl) ?_
   refine rd_yes rfl rfl (ov_bin rfl rfl i_leq) ?_
   refine rd_op (v := vb (decide (x0 ≤ 4))) (ov_pick rfl rfl rfl rfl) ?_
   exact rd_weak (sub_cons rfl (sub_skip rfl (sub_skip rfl (sub_skip rfl (sub_refl _))))) k
 refine rd_op (ov_move rfl) ?_
 refine rd_nil ?_
 refine pn_seq ?_
 refine rc_cond rfl (fun hc102 => ?_) (fun hc102 => ?_)
 ·replace hres := (ite_t hc102).symm.trans hres
  have hc102' := hc102
  try simp only [qa1, qa2, qa3, qa4, qa5, qa6, qa7, qa8, qa9, qaA, qaB, qaC, qaD] at hc102'
  refine rc_seq ?_
  refine rc_region ?_
  refine rd_op (v := vi 0) (ov_move rfl) ?_
  refine rd_nil ?_
  refine pn_seq ?_
  subst hres
  exact rc_retV (.tmp rfl .nil) (deep_closed rfl) rfl
 ·replace hres := (ite_f hc102).symm.trans hres
  have hc102' := hc102
  try simp only [qa1, qa2, qa3, qa4, qa5, qa6, qa7, qa8, qa9, qaA, qaB, qaC, qaD] at hc102'
  refine rc_seq ?_
  refine rc_region ?_
  refine rd_op (ov_move rfl) ?_
  refine rd_op (ov_bin rfl rfl i_geq) ?_
  refine rd_op (ov_move rfl) ?_
  refine rd_cut (d := 16) (v := vb ((decide (5 ≤ x0)) && (decide (x0 ≤ 8)))) ?_ ?_
  ·intro S Q r
   simp only [ac24_G2, List.cons_append, List.nil_append, List.append_assoc]
   cases hb103 : (decide (5 ≤ x0))
   ·intro k
    refine rd_skip rfl rfl ?_
    refine rd_skip rfl rfl ?_
    refine rd_op (v := vb false) (ov_pick rfl rfl rfl rfl) ?_
    exact rd_weak (sub_cons rfl (sub_skip rfl (sub_skip rfl (sub_skip rfl (sub_refl _))))) k
   ·intro k
    have hb103' := hb103
    try simp only [qa1, qa2, qa3, qa4, qa5, qa6, qa7, qa8, qa9, qaA, qaB, qaC, qaD] at hb103'
    refine rd_yes rfl rfl (ov_move rfl) ?_
    refine rd_yes rfl rfl (ov_bin rfl rfl i_leq) ?_
    refine rd_op (v := vb (decide (x0 ≤ 8))) (ov_pick rfl rfl rfl rfl) ?_
    exact rd_weak (sub_cons rfl (sub_skip rfl (sub_skip rfl (sub_skip rfl (sub_refl _))))) k
  refine rd_op (ov_move rfl) ?_
  refine rd_nil ?_
  refine pn_seq ?_
  refine rc_cond rfl (fun hc104 => ?_) (fun hc104 => ?_)
  ·replace hres := (ite_t hc104).symm.trans hres
   have hc104' := hc104
   try simp only [qa1, qa2, qa3, qa4, qa5, qa6, qa7, qa8, qa9, qaA, qaB, qaC, qaD] at hc104'
   refine rc_seq ?_
   refine rc_region ?_
   refine rd_op (v := vi 1) (ov_move rfl) ?_
   refine rd_nil ?_
   refine pn_seq ?_
   subst hres
   exact rc_retV (.tmp rfl .nil) (deep_closed rfl) rfl
  ·replace hres := (ite_f hc104).symm.trans hres
   have hc104' := hc104
   try simp only [qa1, qa2, qa3, qa4, qa5, qa6, qa7, qa8, qa9, qaA, qaB, qaC, qaD] at hc104'
   refine rc_seq ?_
   refine rc_region ?_
   refine rd_op (ov_move rfl) ?_
   refine rd_op (ov_bin rfl rfl i_geq) ?_
   refine rd_op (ov_move rfl) ?_
   refine rd_cut (d := 23) (v := vb ((decide (9 ≤ x0)) && (decide (x0 ≤ 16)))) ?_ ?_
   ·intro S Q r
    simp only [ac24_G3, List.cons_append, List.nil_append, List.append_assoc]
    cases hb105 : (decide (9 ≤ x0))
    ·intro k
     refine rd_skip rfl rfl ?_
     refine rd_skip rfl rfl ?_
     refine rd_op (v := vb false) (ov_pick rfl rfl rfl rfl) ?_
     exact rd_weak (sub_cons rfl (sub_skip rfl (sub_skip rfl (sub_skip rfl (sub_refl _))))) k
    ·intro k
     have hb105' := hb105
     try simp only [qa1, qa2, qa3, qa4, qa5, qa6, qa7, qa8, qa9, qaA, qaB, qaC, qaD] at hb105'
     refine rd_yes rfl rfl (ov_move rfl) ?_
     refine rd_yes rfl rfl (ov_bin rfl rfl i_leq) ?_
     refine rd_op (v := vb (decide (x0 ≤ 16))) (ov_pick rfl rfl rfl rfl) ?_
     exact rd_weak (sub_cons rfl (sub_skip rfl (sub_skip rfl (sub_skip rfl (sub_refl _))))) k
   refine rd_op (ov_move rfl) ?_
   refine rd_nil ?_
   refine pn_seq ?_
   refine rc_cond rfl (fun hc106 => ?_) (fun hc106 => ?_)
   ·replace hres := (ite_t hc106).symm.trans hres
    have hc106' := hc106
    try simp only [qa1, qa2, qa3, qa4, qa5, qa6, qa7, qa8, qa9, qaA, qaB, qaC, qaD] at hc106'
    refine rc_seq ?_
    refine rc_region ?_
    refine rd_op (v := vi 2) (ov_move rfl) ?_
    refine rd_nil ?_
    refine pn_seq ?_
    subst hres
    exact rc_retV (.tmp rfl .nil) (deep_closed rfl) rfl
   ·replace hres := (ite_f hc106).symm.trans hres
    have hc106' := hc106
    try simp only [qa1, qa2, qa3, qa4, qa5, qa6, qa7, qa8, qa9, qaA, qaB, qaC, qaD] at hc106'
    refine rc_seq ?_
    refine rc_region ?_
    refine rd_op (ov_move rfl) ?_
    refine rd_op (ov_bin rfl rfl i_eql) ?_
    refine rd_op (ov_move rfl) ?_
    refine rd_nil ?_
    refine pn_seq ?_
    refine rc_cond rfl (fun hc107 => ?_) (fun hc107 => ?_)
    ·replace hres := (ite_t hc107).symm.trans hres
     have hc107' := hc107
     try simp only [qa1, qa2, qa3, qa4, qa5, qa6, qa7, qa8, qa9, qaA, qaB, qaC, qaD] at hc107'
     refine rc_seq ?_
     refine rc_region ?_
     refine rd_op (v := vi 3) (ov_move rfl) ?_
     refine rd_nil ?_
     refine pn_seq ?_
     subst hres
     exact rc_retV (.tmp rfl .nil) (deep_closed rfl) rfl
    ·replace hres := (ite_f hc107).symm.trans hres
     have hc107' := hc107
     try simp only [qa1, qa2, qa3, qa4, qa5, qa6, qa7, qa8, qa9, qaA, qaB, qaC, qaD] at hc107'
     refine rc_skip ?_
     refine pn_blk ?_
     refine pn_seq ?_
     refine rc_seq ?_
     refine rc_region ?_
     refine rd_op (v := vi (-1)) (ov_move rfl) ?_
     refine rd_nil ?_
     refine pn_seq ?_
     subst hres
     exact rc_retV (.tmp rfl .nil) (deep_closed rfl) rfl

/-- patchbay/patchbayref13.wide -/
def RF52 (res : Int × Int) (r : PV) : Prop := r = .tup [vi res.1, vi res.2]
theorem f52_ok {x0 : Int} : FnR Try.prog 52 [vi x0] (.tup [vi ((ref13_wide x0).1), vi ((ref13_wide x0).2)]) := by
 obtain ⟨res, hres⟩ : ∃ res, ref13_wide x0 = res := ⟨_, rfl⟩
 suffices H : RC Try.prog ac52 [] (QR Try.prog [(2, none), (3, none)] (RF52 res)) (argE 0 [vi x0]) ⟨0, []⟩ by
  obtain ⟨r, h1, h2⟩ := fnE text52 (by simp) H
  rw [hres]
  have h2 : r = .tup [vi res.1, vi res.2] := h2
  rw [← h2]; exact h1
 unfold ref13_wide at hres
 unfold ac52
 refine rc_seq ?_
 refine rc_region ?_
 refine rd_op (v := vi 0) (ov_move rfl) ?_
 refine rd_op (v := vi 0) (ov_move rfl) ?_
 refine rd_nil ?_
 refine pn_seq ?_
 refine rc_seq ?_
 refine rc_seq ?_
 refine rc_region ?_
 refine rd_op (ov_move rfl) ?_
 refine rd_op (ov_bin rfl rfl i_lss) ?_
 refine rd_op (ov_move rfl) ?_
 refine rd_cut (d := 9) (v := vb ((decide (x0 < 1)) || (decide (32 < x0)))) ?_ ?_
 ·intro S Q r
  simp only [ac52_G1, List.cons_append, List.nil_append, List.append_assoc]
  cases hb101 : (decide (x0 < 1))
  ·intro k
   have hb101' := hb101
   try simp only [qa1, qa2, qa3, qa4, qa5, qa6, qa7, qa8, qa9, qaA, qaB, qaC, qaD] at hb101'
   refine rd_yes rfl rfl (ov_move rfl) ?_
   refine rd_yes rfl rfl (ov_bin rfl rfl i_gtr) ?_
   refine rd_op (v := vb (decide (32 < x0))) (ov_pick rfl rfl rfl rfl) ?_
   exact rd_weak (sub_cons rfl (sub_skip rfl (sub_skip rfl (sub_skip rfl (sub_refl _))))) k
  ·intro k
   refine rd_skip rfl rfl ?_
   refine rd_skip rfl rfl ?_
   refine rd_op (v := vb true) (ov_pick rfl rfl rfl rfl) ?_
   exact rd_weak (sub_cons rfl (sub_skip rfl (sub_skip rfl (sub_skip rfl (sub_refl _))))) k
 refine rd_nil ?_
 refine pn_seq ?_
 refine rc_cond rfl (fun hc102 => ?_) (fun hc102 => ?_)
 ·replace hres := (ite_t hc102).symm.trans hres
  have hc102' := hc102
  try simp only [qa1, qa2, qa3, qa4, qa5, qa6, qa7, qa8, qa9, qaA, qaB, qaC, qaD] at hc102'
  refine rc_seq ?_
  refine rc_region ?_
  refine rd_op (v := vi 0) (ov_move rfl) ?_
  refine rd_op (v := vi 10) (ov_move rfl) ?_
  refine rd_nil ?_
  refine pn_seq ?_
  subst hres
  exact rc_retV (.tmp rfl (.tmp rfl .nil)) (deep_closed (show closed (.tup _) = true from (clL_cons rfl (clL_cons rfl clL_nil)))) rfl
 ·replace hres := (ite_f hc102).symm.trans hres
  have hc102' := hc102
  try simp only [qa1, qa2, qa3, qa4, qa5, qa6, qa7, qa8, qa9, qaA, qaB, qaC, qaD] at hc102'
  refine rc_skip ?_
  refine pn_seq ?_
  refine rc_seq ?_
  refine rc_region ?_
  refine rd_op (ov_move rfl) ?_
  refine rd_op (ov_move rfl) ?_
  refine rd_op (v := vi 0) (ov_move rfl) ?_
  refine rd_nil ?_
  refine pn_seq ?_
  subst hres
  exact rc_retV (.tmp rfl (.tmp rfl .nil)) (deep_closed (show closed (.tup _) = true from (clL_cons rfl (clL_cons rfl clL_nil)))) rfl

/-- patchbay/patchbayref01.valid -/
def RF84 (res : Bool) (r : PV) : Prop := r = vb res
theorem f84_ok {x0 : Int} : FnR Try.prog 84 [vi x0] (vb (ref01_valid x0)) := by
 obtain ⟨res, hres⟩ : ∃ res, ref01_valid x0 = res := ⟨_, rfl⟩
 suffices H : RC Try.prog ac84 [] (QR Try.prog [(2, none)] (RF84 res)) (argE 0 [vi x0]) ⟨0, []⟩ by
  obtain ⟨r, h1, h2⟩ := fnE text84 (by simp) H
  rw [hres]
  have h2 : r = vb res := h2
  rw [← h2]; exact h1
 unfold ref01_valid at hres
 unfold ac84
 refine rc_seq ?_
 refine rc_region ?_
 refine rd_op (v := vb false) (ov_move rfl) ?_
 refine rd_nil ?_
 refine pn_seq ?_
 refine rc_seq ?_
 refine rc_region ?_
 refine rd_op (ov_move rfl) ?_
 refine rd_op (ov_bin rfl rfl i_geq) ?_
 refine rd_op (ov_move rfl) ?_
 refine rd_cut (d := 8) (v := vb ((decide (1 ≤ x0)) && (decide (x0 ≤ 32)))) ?_ ?_
 ·intro S Q r
  simp only [ac84_G1, List.cons_append, List.nil_append, List.append_assoc]
  cases hb101 : (decide (1 ≤ x0))
  ·intro k
   refine rd_skip rfl rfl ?_
   refine rd_skip rfl rfl ?_
   refine rd_op (v := vb false) (ov_pick rfl rfl rfl rfl) ?_
   exact rd_weak (sub_cons rfl (sub_skip rfl (sub_skip rfl (sub_skip rfl (sub_refl _))))) k
  ·intro k
   have hb101' := hb101
   try simp only [qa1, qa2, qa3, qa4, qa5, qa6, qa7, qa8, qa9, qaA, qaB, qaC, qaD] at hb101'
   refine rd_yes rfl rfl (ov_move rfl) ?_
   refine rd_yes rfl rfl (ov_bin rfl rfl i_leq) ?_
   refine rd_op (v := vb (decide (x0 ≤ 32))) (ov_pick rfl rfl rfl rfl) ?_
   exact rd_weak (sub_cons rfl (sub_skip rfl (sub_skip rfl (sub_skip rfl (sub_refl _))))) k
 refine rd_op (ov_move rfl) ?_
 refine rd_nil ?_
 refine pn_seq ?_
 subst hres
 exact rc_retV (.tmp rfl .nil) (deep_closed rfl) rfl

/-- patchbay/patchbayref01.power -/
def RF85 (res : (BitVec 64)) (r : PV) : Prop := r = vu64 res
theorem ref01_power_L1_ok {S : List Fr} {res : (BitVec 64)} {x0 : Int} (hp : x0 ≤ 64) {K0 : (BitVec 64) → (BitVec 64)}
  (hK0 : ∀ (x3_ : BitVec 64), K0 x3_ = res → PX Try.prog 0 S (QR Try.prog [(2, none)] (RF85 res)) [(3, vu64 x3_)] ⟨0, []⟩) :
  ∀ (m : Nat) (x3_ : BitVec 64) (x4_ : Int) (hm1 : m = Int.toNat (x0 - x4_)) (hlo1 : 0 ≤ x4_), ref01_power_L1 K0 m x3_ x4_ = res → RC Try.prog (.loop ac85_L1) S (QR Try.prog [(2, none)] (RF85 res)) [(4, vi x4_), (3, vu64 x3_), (0, vi x0)] ⟨0, []⟩ := by
 intro m
 induction m with
 | zero =>
  intro x3_ x4_ hm1 hlo1 hres
  rw [ref01_power_L1] at hres
  refine rc_loop ?_
  unfold ac85_L1
  refine rc_seq ?_
  refine rc_seq ?_
  refine rc_region ?_
  refine rd_op (ov_move rfl) ?_
  refine rd_op (ov_move rfl) ?_
  refine rd_op (ov_bin rfl rfl i_lss) ?_
  refine rd_nil ?_
  refine pn_seq ?_
  refine rc_cond rfl (fun hc101 => ?_) (fun hc101 => ?_)
  ·exfalso
   try simp only [qa1, qa2, qa3, qa4, qa5, qa6, qa7, qa8, qa9, qaA, qaB, qaC, qaD] at hc101
   omega
  ·have hend := hres
   have hc101' := hc101
   try simp only [qa1, qa2, qa3, qa4, qa5, qa6, qa7, qa8, qa9, qaA, qaB, qaC, qaD] at hc101'
   refine rc_exit ?_
   refine px_seq ?_
   refine px_again ?_
   exact px_weak ((sub_cons rfl (sub_nil _))) (hK0 x3_ hres)
 | succ m ih =>
  intro x3_ x4_ hm1 hlo1 hres
  rw [ref01_power_L1] at hres
  refine rc_loop ?_
  unfold ac85_L1
  refine rc_seq ?_
  refine rc_seq ?_
  refine rc_region ?_
  refine rd_op (ov_move rfl) ?_
  refine rd_op (ov_move rfl) ?_
  refine rd_op (ov_bin rfl rfl i_lss) ?_
  refine rd_nil ?_
  refine pn_seq ?_
  refine rc_cond rfl (fun hc102 => ?_) (fun hc102 => ?_)
  ·have hgo := hres
   have hc102' := hc102
   try simp only [qa1, qa2, qa3, qa4, qa5, qa6, qa7, qa8, qa9, qaA, qaB, qaC, qaD] at hc102'
   refine rc_skip ?_
   refine pn_seq ?_
   refine rc_seq ?_
   refine rc_block ?_
   refine rc_region ?_
   refine rd_op (ov_move rfl) ?_
   refine rd_op (ov_bin (a := vu64 2#64) (b := vu64 x3_) rfl rfl d_mul) ?_
   refine rd_op (ov_move rfl) ?_
   refine rd_nil ?_
   refine pn_blk ?_
   refine pn_seq ?_
   refine rc_region ?_
   refine rd_op (ov_move rfl) ?_
   refine rd_op (ov_bin rfl rfl i_add) ?_
   refine rd_op (ov_move rfl) ?_
   refine rd_nil ?_
   refine pn_again ?_
   have hinc : wr (x4_ + 1) = x4_ + 1 := wr_of (by omega) (by omega)
   rw [hinc]
   refine rc_weak ?_ (ih (2#64 * x3_) (x4_ + 1)  (by omega) (by omega) hres)
   exact ((sub_cons rfl (sub_cons rfl (sub_cons rfl (sub_nil _)))))
  ·exfalso
   try simp only [qa1, qa2, qa3, qa4, qa5, qa6, qa7, qa8, qa9, qaA, qaB, qaC, qaD] at hc102
   omega

theorem f85_ok {x0 : Int} (hp : x0 ≤ 64) : FnR Try.prog 85 [vi x0] (vu64 (ref01_power x0)) := by
 obtain ⟨res, hres⟩ : ∃ res, ref01_power x0 = res := ⟨_, rfl⟩
 suffices H : RC Try.prog ac85 [] (QR Try.prog [(2, none)] (RF85 res)) (argE 0 [vi x0]) ⟨0, []⟩ by
  obtain ⟨r, h1, h2⟩ := fnE text85 (by simp) H
  rw [hres]
  have h2 : r = vu64 res := h2
  rw [← h2]; exact h1
 unfold ref01_power at hres
 unfold ac85
 refine rc_seq ?_
 refine rc_region ?_
 refine rd_op (v := vu64 0#64) (ov_move rfl) ?_
 refine rd_nil ?_
 refine pn_seq ?_
 refine rc_seq ?_
 refine rc_region ?_
 refine rd_op (v := vu64 1#64) (ov_move rfl) ?_
 refine rd_nil ?_
 refine pn_seq ?_
 refine rc_seq ?_
 refine rc_seq ?_
 refine rc_region ?_
 refine rd_op (v := vi 0) (ov_move rfl) ?_
 refine rd_nil ?_
 refine pn_seq ?_
 refine rc_block ?_
 refine rc_weak ?_ (ref01_power_L1_ok (x0 := x0)   (hp := hp) ?_ (Int.toNat (x0 - 0)) 1#64 0 rfl (by omega) hres)
 ·exact ((sub_cons rfl (sub_cons rfl (sub_cons rfl (sub_nil _)))))
 ·intro x3_103 hres
  refine px_blk ?_
  refine pn_seq ?_
  refine rc_seq ?_
  refine rc_region ?_
  refine rd_op (ov_move rfl) ?_
  refine rd_op (ov_move rfl) ?_
  refine rd_nil ?_
  refine pn_seq ?_
  subst hres
  exact rc_retV (.tmp rfl .nil) (deep_closed rfl) rfl

/-- patchbay/patchbayref01.Mask -/
def RF53 (res : (BitVec 32)) (r : PV) : Prop := r = vu32 res
theorem f53_ok {x0 : Int} : FnR Try.prog 53 [vi x0] (vu32 (ref01_Mask x0)) := by
 obtain ⟨res, hres⟩ : ∃ res, ref01_Mask x0 = res := ⟨_, rfl⟩
 suffices H : RC Try.prog ac53 [] (QR Try.prog [(2, none)] (RF53 res)) (argE 0 [vi x0]) ⟨0, []⟩ by
  obtain ⟨r, h1, h2⟩ := fnE text53 (by simp) H
  rw [hres]
  have h2 : r = vu32 res := h2
  rw [← h2]; exact h1
 unfold ref01_Mask at hres
 unfold ac53
 refine rc_seq ?_
 refine rc_region ?_
 refine rd_op (v := vu32 0#32) (ov_move rfl) ?_
 refine rd_nil ?_
 refine pn_seq ?_
 refine rc_seq ?_
 refine rc_seq ?_
 refine rc_region ?_
 refine rd_op (ov_move rfl) ?_
 obtain ⟨y101, hw101, hres⟩ := let_ex hres
 have f101 := f84_ok (x0 := x0)  
 rw [hw101] at f101
 refine rd_call (cv_fn rfl rfl (clL_cons rfl clL_nil) f101) ?_
 refine rd_op (ov_not rfl) ?_
 refine rd_nil ?_
 refine pn_seq ?_
 refine rc_cond rfl (fun hc102 => ?_) (fun hc102 => ?_)
 ·replace hres := (ite_t hc102).symm.trans hres
  have hc102' := hc102
  try simp only [qa1, qa2, qa3, qa4, qa5, qa6, qa7, qa8, qa9, qaA, qaB, qaC, qaD] at hc102'
  refine rc_seq ?_
  refine rc_region ?_
  refine rd_op (v := vu32 0#32) (ov_move rfl) ?_
  refine rd_nil ?_
  refine pn_seq ?_
  subst hres
  exact rc_retV (.tmp rfl .nil) (deep_closed rfl) rfl
 ·replace hres := (ite_f hc102).symm.trans hres
  have hc102' := hc102
  try simp only [qa1, qa2, qa3, qa4, qa5, qa6, qa7, qa8, qa9, qaA, qaB, qaC, qaD] at hc102'
  refine rc_skip ?_
  refine pn_seq ?_
  refine rc_seq ?_
  refine rc_region ?_
  refine rd_op (ov_move rfl) ?_
  obtain ⟨y103, hw103, hres⟩ := let_ex hres
  have f103 := f85_ok (x0 := x0)  (by (have hk := rval (by assumption) (by assumption); omega))
  rw [hw103] at f103
  refine rd_call (cv_fn rfl rfl (clL_cons rfl clL_nil) f103) ?_
  refine rd_op (ov_bin (a := vu64 y103) (b := vu64 1#64) rfl rfl d_sub) ?_
  refine rd_op (ov_conv (a := vu64 (y103 - 1#64)) rfl (c_dw Try.underlying120 Try.underlying57)) ?_
  refine rd_op (ov_move rfl) ?_
  refine rd_nil ?_
  refine pn_seq ?_
  subst hres
  exact rc_retV (.tmp rfl .nil) (deep_closed rfl) rfl

/-- patchbay/patchbayref13.Declared -/
def RF54 (res : Int × Bool) (r : PV) : Prop := r = .tup [vi res.1, vb res.2]
theorem f54_ok {x0 : api_Program} {x1 : api_FieldRef} {v0 : PV} {v1 : PV} (r0 : api_Program.t.R x0 v0) (r1 : api_FieldRef.t.R x1 v1) : FnR Try.prog 54 [v0, v1] (.tup [vi ((ref13_Declared x0 x1).1), vb ((ref13_Declared x0 x1).2)]) := by
 obtain ⟨res, hres⟩ : ∃ res, ref13_Declared x0 x1 = res := ⟨_, rfl⟩
 suffices H : RC Try.prog ac54 [] (QR Try.prog [(4, none), (5, none)] (RF54 res)) (argE 0 [v0, v1]) ⟨0, []⟩ by
  obtain ⟨r, h1, h2⟩ := fnE text54 (by simp) H
  rw [hres]
  have h2 : r = .tup [vi res.1, vb res.2] := h2
  rw [← h2]; exact h1
 unfold ref13_Declared at hres
 unfold ac54
 refine rc_seq ?_
 refine rc_region ?_
 refine rd_op (ov_box rfl (TR.cnt api_Program.t r0)) ?_
 refine rd_op (ov_box rfl (TR.cnt api_FieldRef.t r1)) ?_
 refine rd_op (v := vi 0) (ov_move rfl) ?_
 refine rd_op (v := vb false) (ov_move rfl) ?_
 refine rd_nil ?_
 refine pn_seq ?_
 refine rc_seq ?_
 refine rc_region ?_
 obtain ⟨v101, e101, r101⟩ := api_Program.g_Metadata r0
 refine rd_op (ov_faddr rfl e101) ?_
 refine rd_op (ov_load rfl (TR.cnt (tSl api_Field.t) r101) (TR.agg (tSl api_Field.t) r101)) ?_
 refine rd_op (ov_move rfl) ?_
 refine rd_nil ?_
 refine pn_seq ?_
 refine rc_seq ?_
 refine rc_seq ?_
 refine rc_region ?_
 refine rd_op (ov_faddr rfl (api_FieldRef.g_Header r1)) ?_
 refine rd_op (ov_load rfl rfl rfl) ?_
 refine rd_op (ov_bin rfl rfl i_neq) ?_
 refine rd_nil ?_
 refine pn_seq ?_
 obtain ⟨k109, hk109, hres⟩ := let_ex hres
 refine rc_join (F := fun b S Q => ∀ (x6_109 : List api_Field) (u6_109 : PV) (r6_109 : (tSl api_Field.t).R x6_109 u6_109), k109 x6_109 = res → RC Try.prog b S Q [(6, u6_109), (3, .fp v1)] ⟨0, []⟩) ?_ ?_
 ·intro x6_109 u6_109 r6_109  hres
  rw [← hk109] at hres
  refine rc_seq ?_
  refine rc_seq ?_
  refine rc_region ?_
  refine rd_op (ov_faddr rfl (api_FieldRef.g_Field r1)) ?_
  refine rd_op (ov_load rfl rfl rfl) ?_
  refine rd_op (ov_bin rfl rfl i_lss) ?_
  refine rd_op (ov_move rfl) ?_
  refine rd_cut (d := 39) (v := vb ((decide (x1.Field < 0)) || (decide ((x6_109.length : Int) ≤ x1.Field)))) ?_ ?_
  ·intro S Q r
   simp only [ac54_G2, List.cons_append, List.nil_append, List.append_assoc]
   cases hb110 : (decide (x1.Field < 0))
   ·intro k
    have hb110' := hb110
    try simp only [qa1, qa2, qa3, qa4, qa5, qa6, qa7, qa8, qa9, qaA, qaB, qaC, qaD] at hb110'
    refine rd_yes rfl rfl (ov_faddr rfl (api_FieldRef.g_Field r1)) ?_
    refine rd_yes rfl rfl (ov_load rfl rfl rfl) ?_
    refine rd_yes rfl rfl (ov_move rfl) ?_
    refine rd_yes rfl rfl (ov_bi rfl (sl_len r6_109 Try.underlying23 _)) ?_
    refine rd_yes rfl rfl (ov_bin rfl rfl i_geq) ?_
    refine rd_op (v := vb (decide ((x6_109.length : Int) ≤ x1.Field))) (ov_pick rfl rfl rfl rfl) ?_
    exact rd_weak (sub_cons rfl (sub_skip rfl (sub_skip rfl (sub_skip rfl (sub_skip rfl (sub_skip rfl (sub_skip rfl (sub_refl _)))))))) k
   ·intro k
    refine rd_skip rfl rfl ?_
    refine rd_skip rfl rfl ?_
    refine rd_skip rfl rfl ?_
    refine rd_skip rfl rfl ?_
    refine rd_skip rfl rfl ?_
    refine rd_op (v := vb true) (ov_pick rfl rfl rfl rfl) ?_
    exact rd_weak (sub_cons rfl (sub_skip rfl (sub_skip rfl (sub_skip rfl (sub_skip rfl (sub_skip rfl (sub_skip rfl (sub_refl _)))))))) k
  refine rd_nil ?_
  refine pn_seq ?_
  refine rc_cond rfl (fun hc111 => ?_) (fun hc111 => ?_)
  ·replace hres := (ite_t hc111).symm.trans hres
   have hc111' := hc111
   try simp only [qa1, qa2, qa3, qa4, qa5, qa6, qa7, qa8, qa9, qaA, qaB, qaC, qaD] at hc111'
   refine rc_seq ?_
   refine rc_region ?_
   refine rd_op (v := vi 0) (ov_move rfl) ?_
   refine rd_op (v := vb false) (ov_move rfl) ?_
   refine rd_nil ?_
   refine pn_seq ?_
   subst hres
   exact rc_retV (.tmp rfl (.tmp rfl .nil)) (deep_closed (show closed (.tup _) = true from (clL_cons rfl (clL_cons rfl clL_nil)))) rfl
  ·replace hres := (ite_f hc111).symm.trans hres
   have hc111' := hc111
   try simp only [qa1, qa2, qa3, qa4, qa5, qa6, qa7, qa8, qa9, qaA, qaB, qaC, qaD] at hc111'
   refine rc_skip ?_
   refine pn_seq ?_
   refine rc_seq ?_
   refine rc_region ?_
   refine rd_op (ov_move rfl) ?_
   refine rd_op (ov_faddr rfl (api_FieldRef.g_Field r1)) ?_
   refine rd_op (ov_load rfl rfl rfl) ?_
   obtain ⟨v112, e112, r112⟩ := sl_idx (i := x1.Field) r6_109 (by omega) (by omega)
   refine rd_op (ov_iaddr rfl rfl e112) ?_
   refine rd_op (ov_faddr rfl (api_Field.g_Width r112)) ?_
   refine rd_op (ov_load rfl rfl rfl) ?_
   refine rd_op (ov_move rfl) ?_
   refine rd_op (v := vb true) (ov_move rfl) ?_
   refine rd_nil ?_
   refine pn_seq ?_
   subst hres
   exact rc_retV (.tmp rfl (.tmp rfl .nil)) (deep_closed (show closed (.tup _) = true from (clL_cons rfl (clL_cons rfl clL_nil)))) rfl
 ·intro J
  refine rc_cond rfl (fun hc113 => ?_) (fun hc113 => ?_)
  ·replace hres := (ite_t hc113).symm.trans hres
   have hc113' := hc113
   try simp only [qa1, qa2, qa3, qa4, qa5, qa6, qa7, qa8, qa9, qaA, qaB, qaC, qaD] at hc113'
   refine rc_seq ?_
   refine rc_seq ?_
   refine rc_region ?_
   refine rd_op (ov_faddr rfl (api_FieldRef.g_Header r1)) ?_
   refine rd_op (ov_load rfl rfl rfl) ?_
   refine rd_op (ov_bin rfl rfl i_lss) ?_
   refine rd_op (ov_move rfl) ?_
   refine rd_cut (d := 22) (v := vb ((decide (x1.Header < 0)) || (decide ((x0.Headers.length : Int) ≤ x1.Header)))) ?_ ?_
   ·intro S Q r
    simp only [ac54_G1, List.cons_append, List.nil_append, List.append_assoc]
    cases hb114 : (decide (x1.Header < 0))
    ·intro k
     have hb114' := hb114
     try simp only [qa1, qa2, qa3, qa4, qa5, qa6, qa7, qa8, qa9, qaA, qaB, qaC, qaD] at hb114'
     refine rd_yes rfl rfl (ov_faddr rfl (api_FieldRef.g_Header r1)) ?_
     refine rd_yes rfl rfl (ov_load rfl rfl rfl) ?_
     obtain ⟨v115, e115, r115⟩ := api_Program.g_Headers r0
     refine rd_yes rfl rfl (ov_faddr rfl e115) ?_
     refine rd_yes rfl rfl (ov_load rfl (TR.cnt (tSl api_Header.t) r115) (TR.agg (tSl api_Header.t) r115)) ?_
     refine rd_yes rfl rfl (ov_bi rfl (sl_len r115 Try.underlying22 _)) ?_
     refine rd_yes rfl rfl (ov_bin rfl rfl i_geq) ?_
     refine rd_op (v := vb (decide ((x0.Headers.length : Int) ≤ x1.Header))) (ov_pick rfl rfl rfl rfl) ?_
     exact rd_weak (sub_cons rfl (sub_skip rfl (sub_skip rfl (sub_skip rfl (sub_skip rfl (sub_skip rfl (sub_skip rfl (sub_skip rfl (sub_refl _))))))))) k
    ·intro k
     refine rd_skip rfl rfl ?_
     refine rd_skip rfl rfl ?_
     refine rd_skip rfl rfl ?_
     refine rd_skip rfl rfl ?_
     refine rd_skip rfl rfl ?_
     refine rd_skip rfl rfl ?_
     refine rd_op (v := vb true) (ov_pick rfl rfl rfl rfl) ?_
     exact rd_weak (sub_cons rfl (sub_skip rfl (sub_skip rfl (sub_skip rfl (sub_skip rfl (sub_skip rfl (sub_skip rfl (sub_skip rfl (sub_refl _))))))))) k
   refine rd_nil ?_
   refine pn_seq ?_
   refine rc_cond rfl (fun hc116 => ?_) (fun hc116 => ?_)
   ·replace hres := (ite_t hc116).symm.trans hres
    have hc116' := hc116
    try simp only [qa1, qa2, qa3, qa4, qa5, qa6, qa7, qa8, qa9, qaA, qaB, qaC, qaD] at hc116'
    refine rc_seq ?_
    refine rc_region ?_
    refine rd_op (v := vi 0) (ov_move rfl) ?_
    refine rd_op (v := vb false) (ov_move rfl) ?_
    refine rd_nil ?_
    refine pn_seq ?_
    subst hres
    exact rc_retV (.tmp rfl (.tmp rfl .nil)) (deep_closed (show closed (.tup _) = true from (clL_cons rfl (clL_cons rfl clL_nil)))) rfl
   ·replace hres := (ite_f hc116).symm.trans hres
    have hc116' := hc116
    try simp only [qa1, qa2, qa3, qa4, qa5, qa6, qa7, qa8, qa9, qaA, qaB, qaC, qaD] at hc116'
    refine rc_skip ?_
    refine pn_seq ?_
    refine rc_region ?_
    obtain ⟨v117, e117, r117⟩ := api_Program.g_Headers r0
    refine rd_op (ov_faddr rfl e117) ?_
    refine rd_op (ov_load rfl (TR.cnt (tSl api_Header.t) r117) (TR.agg (tSl api_Header.t) r117)) ?_
    refine rd_op (ov_faddr rfl (api_FieldRef.g_Header r1)) ?_
    refine rd_op (ov_load rfl rfl rfl) ?_
    obtain ⟨v118, e118, r118⟩ := sl_idx (i := x1.Header) r117 (by omega) (by omega)
    refine rd_op (ov_iaddr rfl rfl e118) ?_
    obtain ⟨v119, e119, r119⟩ := api_Header.g_Fields r118
    refine rd_op (ov_faddr rfl e119) ?_
    refine rd_op (ov_load rfl (TR.cnt (tSl api_Field.t) r119) (TR.agg (tSl api_Field.t) r119)) ?_
    refine rd_op (ov_move rfl) ?_
    refine rd_nil ?_
    refine pn_seq (rc_weak ((sub_cons rfl (sub_cons rfl (sub_nil _)))) (J _ _ r119  hres))
  ·replace hres := (ite_f hc113).symm.trans hres
   have hc113' := hc113
   try simp only [qa1, qa2, qa3, qa4, qa5, qa6, qa7, qa8, qa9, qaA, qaB, qaC, qaD] at hc113'
   refine rc_skip ?_
   refine pn_seq (rc_weak ((sub_cons rfl (sub_cons rfl (sub_nil _)))) (J _ _ r101  hres))

/-- patchbay/patchbayref13.leaf -/
def RF39 (res : Int × Int) (r : PV) : Prop := r = .tup [vi res.1, vi res.2]
theorem f39_ok {x0 : api_ExprNode} {x1 : expr_Scope} {v0 : PV} {v1 : PV} (r0 : api_ExprNode.t.R x0 v0) (r1 : expr_Scope.t.R x1 v1) : FnR Try.prog 39 [v0, v1] (.tup [vi ((ref13_leaf x0 x1).1), vi ((ref13_leaf x0 x1).2)]) := by
 obtain ⟨res, hres⟩ : ∃ res, ref13_leaf x0 x1 = res := ⟨_, rfl⟩
 suffices H : RC Try.prog ac39 [] (QR Try.prog [(4, none), (5, none)] (RF39 res)) (argE 0 [v0, v1]) ⟨0, []⟩ by
  obtain ⟨r, h1, h2⟩ := fnE text39 (by simp) H
  rw [hres]
  have h2 : r = .tup [vi res.1, vi res.2] := h2
  rw [← h2]; exact h1
 unfold ref13_leaf at hres
 unfold ac39
 refine rc_seq ?_
 refine rc_region ?_
 refine rd_op (ov_box rfl (TR.cnt api_ExprNode.t r0)) ?_
 refine rd_op (ov_box rfl (TR.cnt expr_Scope.t r1)) ?_
 refine rd_op (v := vi 0) (ov_move rfl) ?_
 refine rd_op (v := vi 0) (ov_move rfl) ?_
 refine rd_nil ?_
 refine pn_seq ?_
 refine rc_seq ?_
 refine rc_seq ?_
 refine rc_region ?_
 refine rd_op (ov_faddr rfl (api_ExprNode.g_Op r0)) ?_
 refine rd_op (ov_load rfl rfl rfl) ?_
 refine rd_nil ?_
 refine pn_seq ?_
 refine rc_block ?_
 refine rc_seq ?_
 refine rc_region ?_
 refine rd_op (ov_bin rfl rfl i_eql) ?_
 refine rd_op (ov_move rfl) ?_
 refine rd_nil ?_
 refine pn_seq ?_
 refine rc_cond rfl (fun hc101 => ?_) (fun hc101 => ?_)
 ·replace hres := (ite_t hc101).symm.trans hres
  have hc101' := hc101
  try simp only [qa1, qa2, qa3, qa4, qa5, qa6, qa7, qa8, qa9, qaA, qaB, qaC, qaD] at hc101'
  refine rc_seq ?_
  refine rc_region ?_
  refine rd_op (ov_faddr rfl (api_ExprNode.g_W r0)) ?_
  refine rd_op (ov_load rfl rfl rfl) ?_
  obtain ⟨y102, hw102, hres⟩ := let_ex hres
  have f102 := f52_ok (x0 := x0.W)  
  rw [hw102] at f102
  refine rd_call (cv_fn rfl rfl (clL_cons rfl clL_nil) f102) ?_
  refine rd_op (ov_move rfl) ?_
  refine rd_op (ov_extract rfl rfl) ?_
  refine rd_op (ov_extract rfl rfl) ?_
  refine rd_op (ov_move rfl) ?_
  refine rd_op (ov_move rfl) ?_
  refine rd_nil ?_
  refine pn_seq ?_
  refine rc_seq ?_
  refine rc_seq ?_
  refine rc_region ?_
  refine rd_op (ov_move rfl) ?_
  refine rd_op (ov_bin rfl rfl i_eql) ?_
  refine rd_op (ov_move rfl) ?_
  refine rd_cut (d := 34) (v := vb ((decide (y102.2 = 0)) && ((decide (x0.N < 0)) || (decide (((ref01_Mask y102.1).toNat : Int) < x0.N))))) ?_ ?_
  ·intro S Q r
   simp only [ac39_G1, List.cons_append, List.nil_append, List.append_assoc]
   cases hb103 : (decide (y102.2 = 0))
   ·intro k
    simp only [ac39_G2, List.cons_append, List.nil_append, List.append_assoc]
    refine rd_skip rfl rfl ?_
    refine rd_skip rfl rfl ?_
    refine rd_skip rfl rfl ?_
    refine rd_skip rfl rfl ?_
    refine rd_skipU rfl ?_
    refine rd_skipU rfl ?_
    refine rd_skipU rfl ?_
    refine rd_skipU rfl ?_
    refine rd_skipU rfl ?_
    refine rd_skipU rfl ?_
    refine rd_skip rfl rfl ?_
    refine rd_op (v := vb false) (ov_pick rfl rfl rfl rfl) ?_
    exact rd_weak (sub_cons rfl (sub_skip rfl (sub_skip rfl (sub_skip rfl (sub_skip rfl (sub_skip rfl (sub_skip rfl (sub_skip rfl (sub_skip rfl (sub_skip rfl (sub_skip rfl (sub_skip rfl (sub_skip rfl (sub_refl _)))))))))))))) k
   ·intro k
    have hb103' := hb103
    try simp only [qa1, qa2, qa3, qa4, qa5, qa6, qa7, qa8, qa9, qaA, qaB, qaC, qaD] at hb103'
    refine rd_yes rfl rfl (ov_faddr rfl (api_ExprNode.g_N r0)) ?_
    refine rd_yes rfl rfl (ov_load rfl rfl rfl) ?_
    refine rd_yes rfl rfl (ov_bin rfl rfl i_lss) ?_
    refine rd_yes rfl rfl (ov_move rfl) ?_
    refine rd_cut (d := 33) (v := vb ((decide (x0.N < 0)) || (decide (((ref01_Mask y102.1).toNat : Int) < x0.N)))) ?_ ?_
    ·intro S Q r
     simp only [ac39_G2, List.cons_append, List.nil_append, List.append_assoc]
     cases hb104 : (decide (x0.N < 0))
     ·intro k
      have hb104' := hb104
      try simp only [qa1, qa2, qa3, qa4, qa5, qa6, qa7, qa8, qa9, qaA, qaB, qaC, qaD] at hb104'
      refine rd_yes rfl rfl (ov_faddr rfl (api_ExprNode.g_N r0)) ?_
      refine rd_yes rfl rfl (ov_load rfl rfl rfl) ?_
      refine rd_yes rfl rfl (ov_move rfl) ?_
      have f105 := f53_ok (x0 := y102.1)  
      refine rd_ycall rfl rfl (cv_fn rfl rfl (clL_cons rfl clL_nil) f105) ?_
      refine rd_yes rfl rfl (ov_conv (a := vu32 (ref01_Mask y102.1)) rfl (c_wi Try.underlying57 Try.underlying3)) ?_
      refine rd_yes rfl rfl (ov_bin rfl rfl i_gtr) ?_
      refine rd_yes (v := vb (decide (((ref01_Mask y102.1).toNat : Int) < x0.N))) rfl rfl (ov_pick rfl rfl rfl rfl) ?_
      exact rd_weak (sub_cons rfl (sub_skip rfl (sub_skip rfl (sub_skip rfl (sub_skip rfl (sub_skip rfl (sub_skip rfl (sub_skip rfl (sub_refl _))))))))) k
     ·intro k
      refine rd_skip rfl rfl ?_
      refine rd_skip rfl rfl ?_
      refine rd_skip rfl rfl ?_
      refine rd_skip rfl rfl ?_
      refine rd_skip rfl rfl ?_
      refine rd_skip rfl rfl ?_
      refine rd_yes (v := vb true) rfl rfl (ov_pick rfl rfl rfl rfl) ?_
      exact rd_weak (sub_cons rfl (sub_skip rfl (sub_skip rfl (sub_skip rfl (sub_skip rfl (sub_skip rfl (sub_skip rfl (sub_skip rfl (sub_refl _))))))))) k
    refine rd_op (v := vb ((decide (x0.N < 0)) || (decide (((ref01_Mask y102.1).toNat : Int) < x0.N)))) (ov_pick rfl rfl rfl rfl) ?_
    exact rd_weak (sub_cons rfl (sub_skip rfl (sub_skip rfl (sub_skip rfl (sub_skip rfl (sub_skip rfl (sub_skip rfl (sub_refl _)))))))) k
  refine rd_nil ?_
  refine pn_seq ?_
  refine rc_cond rfl (fun hc106 => ?_) (fun hc106 => ?_)
  ·replace hres := (ite_t hc106).symm.trans hres
   have hc106' := hc106
   try simp only [qa1, qa2, qa3, qa4, qa5, qa6, qa7, qa8, qa9, qaA, qaB, qaC, qaD] at hc106'
   refine rc_seq ?_
   refine rc_region ?_
   refine rd_op (v := vi 0) (ov_move rfl) ?_
   refine rd_op (v := vi 9) (ov_move rfl) ?_
   refine rd_nil ?_
   refine pn_seq ?_
   subst hres
   exact rc_retV (.tmp rfl (.tmp rfl .nil)) (deep_closed (show closed (.tup _) = true from (clL_cons rfl (clL_cons rfl clL_nil)))) rfl
  ·replace hres := (ite_f hc106).symm.trans hres
   have hc106' := hc106
   try simp only [qa1, qa2, qa3, qa4, qa5, qa6, qa7, qa8, qa9, qaA, qaB, qaC, qaD] at hc106'
   refine rc_skip ?_
   refine pn_seq ?_
   refine rc_seq ?_
   refine rc_region ?_
   refine rd_op (ov_move rfl) ?_
   refine rd_op (ov_move rfl) ?_
   refine rd_op (ov_move rfl) ?_
   refine rd_op (ov_move rfl) ?_
   refine rd_nil ?_
   refine pn_seq ?_
   subst hres
   exact rc_retV (.tmp rfl (.tmp rfl .nil)) (deep_closed (show closed (.tup _) = true from (clL_cons rfl (clL_cons rfl clL_nil)))) rfl
 ·replace hres := (ite_f hc101).symm.trans hres
  have hc101' := hc101
  try simp only [qa1, qa2, qa3, qa4, qa5, qa6, qa7, qa8, qa9, qaA, qaB, qaC, qaD] at hc101'
  refine rc_seq ?_
  refine rc_region ?_
  refine rd_op (ov_bin rfl rfl i_eql) ?_
  refine rd_op (ov_move rfl) ?_
  refine rd_nil ?_
  refine pn_seq ?_
  refine rc_cond rfl (fun hc107 => ?_) (fun hc107 => ?_)
  ·replace hres := (ite_t hc107).symm.trans hres
   have hc107' := hc107
   try simp only [qa1, qa2, qa3, qa4, qa5, qa6, qa7, qa8, qa9, qaA, qaB, qaC, qaD] at hc107'
   refine rc_seq ?_
   refine rc_region ?_
   obtain ⟨v108, e108, r108⟩ := expr_Scope.g_Program r1
   refine rd_op (ov_faddr rfl e108) ?_
   refine rd_op (ov_load rfl (TR.cnt api_Program.t r108) (TR.agg api_Program.t r108)) ?_
   refine rd_op (ov_faddr rfl (api_ExprNode.g_N r0)) ?_
   refine rd_op (ov_load rfl rfl rfl) ?_
   refine rd_op (ov_faddr rfl (api_ExprNode.g_W r0)) ?_
   refine rd_op (ov_load rfl rfl rfl) ?_
   refine rd_op (v := .agg [vi x0.N, vi x0.W]) (ov_build (cs := [vi x0.N, vi x0.W]) rfl rfl) ?_
   obtain ⟨y109, hw109, hres⟩ := let_ex hres
   have f109 := f54_ok  r108 (show api_FieldRef.t.R ({ Header := x0.N, Field := x0.W } : api_FieldRef) (.agg [vi x0.N, vi x0.W]) from rfl) 
   rw [hw109] at f109
   refine rd_call (cv_fn rfl rfl (clL_cons (TR.clo api_Program.t r108) (clL_cons (TR.clo api_FieldRef.t (show api_FieldRef.t.R ({ Header := x0.N, Field := x0.W } : api_FieldRef) (.agg [vi x0.N, vi x0.W]) from rfl)) clL_nil)) f109) ?_
   refine rd_op (ov_move rfl) ?_
   refine rd_op (ov_extract rfl rfl) ?_
   refine rd_op (ov_extract rfl rfl) ?_
   refine rd_op (ov_move rfl) ?_
   refine rd_op (ov_move rfl) ?_
   refine rd_nil ?_
   refine pn_seq ?_
   refine rc_seq ?_
   refine rc_seq ?_
   refine rc_region ?_
   refine rd_op (ov_move rfl) ?_
   refine rd_op (ov_not rfl) ?_
   refine rd_nil ?_
   refine pn_seq ?_
   refine rc_cond rfl (fun hc110 => ?_) (fun hc110 => ?_)
   ·replace hres := (ite_t hc110).symm.trans hres
    have hc110' := hc110
    try simp only [qa1, qa2, qa3, qa4, qa5, qa6, qa7, qa8, qa9, qaA, qaB, qaC, qaD] at hc110'
    refine rc_seq ?_
    refine rc_region ?_
    refine rd_op (v := vi 0) (ov_move rfl) ?_
    refine rd_op (v := vi 8) (ov_move rfl) ?_
    refine rd_nil ?_
    refine pn_seq ?_
    subst hres
    exact rc_retV (.tmp rfl (.tmp rfl .nil)) (deep_closed (show closed (.tup _) = true from (clL_cons rfl (clL_cons rfl clL_nil)))) rfl
   ·replace hres := (ite_f hc110).symm.trans hres
    have hc110' := hc110
    try simp only [qa1, qa2, qa3, qa4, qa5, qa6, qa7, qa8, qa9, qaA, qaB, qaC, qaD] at hc110'
    refine rc_skip ?_
    refine pn_seq ?_
    refine rc_seq ?_
    refine rc_region ?_
    refine rd_op (ov_move rfl) ?_
    obtain ⟨y111, hw111, hres⟩ := let_ex hres
    have f111 := f52_ok (x0 := y109.1)  
    rw [hw111] at f111
    refine rd_call (cv_fn rfl rfl (clL_cons rfl clL_nil) f111) ?_
    refine rd_op (ov_extract rfl rfl) ?_
    refine rd_op (ov_extract rfl rfl) ?_
    refine rd_op (ov_move rfl) ?_
    refine rd_op (ov_move rfl) ?_
    refine rd_nil ?_
    refine pn_seq ?_
    subst hres
    exact rc_retV (.tmp rfl (.tmp rfl .nil)) (deep_closed (show closed (.tup _) = true from (clL_cons rfl (clL_cons rfl clL_nil)))) rfl
  ·replace hres := (ite_f hc107).symm.trans hres
   have hc107' := hc107
   try simp only [qa1, qa2, qa3, qa4, qa5, qa6, qa7, qa8, qa9, qaA, qaB, qaC, qaD] at hc107'
   refine rc_seq ?_
   refine rc_region ?_
   refine rd_op (ov_bin rfl rfl i_eql) ?_
   refine rd_op (ov_move rfl) ?_
   refine rd_nil ?_
   refine pn_seq ?_
   refine rc_cond rfl (fun hc112 => ?_) (fun hc112 => ?_)
   ·replace hres := (ite_t hc112).symm.trans hres
    have hc112' := hc112
    try simp only [qa1, qa2, qa3, qa4, qa5, qa6, qa7, qa8, qa9, qaA, qaB, qaC, qaD] at hc112'
    refine rc_seq ?_
    refine rc_seq ?_
    refine rc_region ?_
    refine rd_op (ov_faddr rfl (api_ExprNode.g_N r0)) ?_
    refine rd_op (ov_load rfl rfl rfl) ?_
    refine rd_op (ov_bin rfl rfl i_lss) ?_
    refine rd_op (ov_move rfl) ?_
    refine rd_cut (d := 68) (v := vb ((decide (x0.N < 0)) || (decide ((x1.Params.length : Int) ≤ x0.N)))) ?_ ?_
    ·intro S Q r
     simp only [ac39_G3, List.cons_append, List.nil_append, List.append_assoc]
     cases hb113 : (decide (x0.N < 0))
     ·intro k
      have hb113' := hb113
      try simp only [qa1, qa2, qa3, qa4, qa5, qa6, qa7, qa8, qa9, qaA, qaB, qaC, qaD] at hb113'
      refine rd_yes rfl rfl (ov_faddr rfl (api_ExprNode.g_N r0)) ?_
      refine rd_yes rfl rfl (ov_load rfl rfl rfl) ?_
      obtain ⟨v114, e114, r114⟩ := expr_Scope.g_Params r1
      refine rd_yes rfl rfl (ov_faddr rfl e114) ?_
      refine rd_yes rfl rfl (ov_load rfl (TR.cnt (tSl api_Field.t) r114) (TR.agg (tSl api_Field.t) r114)) ?_
      refine rd_yes rfl rfl (ov_bi rfl (sl_len r114 Try.underlying23 _)) ?_
      refine rd_yes rfl rfl (ov_bin rfl rfl i_geq) ?_
      refine rd_op (v := vb (decide ((x1.Params.length : Int) ≤ x0.N))) (ov_pick rfl rfl rfl rfl) ?_
      exact rd_weak (sub_cons rfl (sub_skip rfl (sub_skip rfl (sub_skip rfl (sub_skip rfl (sub_skip rfl (sub_skip rfl (sub_skip rfl (sub_refl _))))))))) k
     ·intro k
      refine rd_skip rfl rfl ?_
      refine rd_skip rfl rfl ?_
      refine rd_skip rfl rfl ?_
      refine rd_skip rfl rfl ?_
      refine rd_skip rfl rfl ?_
      refine rd_skip rfl rfl ?_
      refine rd_op (v := vb true) (ov_pick rfl rfl rfl rfl) ?_
      exact rd_weak (sub_cons rfl (sub_skip rfl (sub_skip rfl (sub_skip rfl (sub_skip rfl (sub_skip rfl (sub_skip rfl (sub_skip rfl (sub_refl _))))))))) k
    refine rd_nil ?_
    refine pn_seq ?_
    refine rc_cond rfl (fun hc115 => ?_) (fun hc115 => ?_)
    ·replace hres := (ite_t hc115).symm.trans hres
     have hc115' := hc115
     try simp only [qa1, qa2, qa3, qa4, qa5, qa6, qa7, qa8, qa9, qaA, qaB, qaC, qaD] at hc115'
     refine rc_seq ?_
     refine rc_region ?_
     refine rd_op (v := vi 0) (ov_move rfl) ?_
     refine rd_op (v := vi 8) (ov_move rfl) ?_
     refine rd_nil ?_
     refine pn_seq ?_
     subst hres
     exact rc_retV (.tmp rfl (.tmp rfl .nil)) (deep_closed (show closed (.tup _) = true from (clL_cons rfl (clL_cons rfl clL_nil)))) rfl
    ·replace hres := (ite_f hc115).symm.trans hres
     have hc115' := hc115
     try simp only [qa1, qa2, qa3, qa4, qa5, qa6, qa7, qa8, qa9, qaA, qaB, qaC, qaD] at hc115'
     refine rc_skip ?_
     refine pn_seq ?_
     refine rc_seq ?_
     refine rc_region ?_
     obtain ⟨v116, e116, r116⟩ := expr_Scope.g_Params r1
     refine rd_op (ov_faddr rfl e116) ?_
     refine rd_op (ov_load rfl (TR.cnt (tSl api_Field.t) r116) (TR.agg (tSl api_Field.t) r116)) ?_
     refine rd_op (ov_faddr rfl (api_ExprNode.g_N r0)) ?_
     refine rd_op (ov_load rfl rfl rfl) ?_
     obtain ⟨v117, e117, r117⟩ := sl_idx (i := x0.N) r116 (by omega) (by omega)
     refine rd_op (ov_iaddr rfl rfl e117) ?_
     refine rd_op (ov_faddr rfl (api_Field.g_Width r117)) ?_
     refine rd_op (ov_load rfl rfl rfl) ?_
     obtain ⟨y118, hw118, hres⟩ := let_ex hres
     have f118 := f52_ok (x0 := (ix x1.Params x0.N).Width)  
     rw [hw118] at f118
     refine rd_call (cv_fn rfl rfl (clL_cons rfl clL_nil) f118) ?_
     refine rd_op (ov_extract rfl rfl) ?_
     refine rd_op (ov_extract rfl rfl) ?_
     refine rd_op (ov_move rfl) ?_
     refine rd_op (ov_move rfl) ?_
     refine rd_nil ?_
     refine pn_seq ?_
     subst hres
     exact rc_retV (.tmp rfl (.tmp rfl .nil)) (deep_closed (show closed (.tup _) = true from (clL_cons rfl (clL_cons rfl clL_nil)))) rfl
   ·replace hres := (ite_f hc112).symm.trans hres
    have hc112' := hc112
    try simp only [qa1, qa2, qa3, qa4, qa5, qa6, qa7, qa8, qa9, qaA, qaB, qaC, qaD] at hc112'
    refine rc_skip ?_
    refine pn_blk ?_
    refine pn_seq ?_
    refine rc_seq ?_
    refine rc_seq ?_
    refine rc_region ?_
    refine rd_op (ov_faddr rfl (api_ExprNode.g_N r0)) ?_
    refine rd_op (ov_load rfl rfl rfl) ?_
    refine rd_op (ov_bin rfl rfl i_lss) ?_
    refine rd_op (ov_move rfl) ?_
    refine rd_cut (d := 90) (v := vb ((decide (x0.N < 0)) || (decide ((x1.Program.Headers.length : Int) ≤ x0.N)))) ?_ ?_
    ·intro S Q r
     simp only [ac39_G4, List.cons_append, List.nil_append, List.append_assoc]
     cases hb119 : (decide (x0.N < 0))
     ·intro k
      have hb119' := hb119
      try simp only [qa1, qa2, qa3, qa4, qa5, qa6, qa7, qa8, qa9, qaA, qaB, qaC, qaD] at hb119'
      refine rd_yes rfl rfl (ov_faddr rfl (api_ExprNode.g_N r0)) ?_
      refine rd_yes rfl rfl (ov_load rfl rfl rfl) ?_
      obtain ⟨v120, e120, r120⟩ := expr_Scope.g_Program r1
      refine rd_yes rfl rfl (ov_faddr rfl e120) ?_
      obtain ⟨v121, e121, r121⟩ := api_Program.g_Headers r120
      refine rd_yes rfl rfl (ov_faddr rfl e121) ?_
      refine rd_yes rfl rfl (ov_load rfl (TR.cnt (tSl api_Header.t) r121) (TR.agg (tSl api_Header.t) r121)) ?_
      refine rd_yes rfl rfl (ov_bi rfl (sl_len r121 Try.underlying22 _)) ?_
      refine rd_yes rfl rfl (ov_bin rfl rfl i_geq) ?_
      refine rd_op (v := vb (decide ((x1.Program.Headers.length : Int) ≤ x0.N))) (ov_pick rfl rfl rfl rfl) ?_
      exact rd_weak (sub_cons rfl (sub_skip rfl (sub_skip rfl (sub_skip rfl (sub_skip rfl (sub_skip rfl (sub_skip rfl (sub_skip rfl (sub_skip rfl (sub_refl _)))))))))) k
     ·intro k
      refine rd_skip rfl rfl ?_
      refine rd_skip rfl rfl ?_
      refine rd_skip rfl rfl ?_
      refine rd_skip rfl rfl ?_
      refine rd_skip rfl rfl ?_
      refine rd_skip rfl rfl ?_
      refine rd_skip rfl rfl ?_
      refine rd_op (v := vb true) (ov_pick rfl rfl rfl rfl) ?_
      exact rd_weak (sub_cons rfl (sub_skip rfl (sub_skip rfl (sub_skip rfl (sub_skip rfl (sub_skip rfl (sub_skip rfl (sub_skip rfl (sub_skip rfl (sub_refl _)))))))))) k
    refine rd_nil ?_
    refine pn_seq ?_
    refine rc_cond rfl (fun hc122 => ?_) (fun hc122 => ?_)
    ·replace hres := (ite_t hc122).symm.trans hres
     have hc122' := hc122
     try simp only [qa1, qa2, qa3, qa4, qa5, qa6, qa7, qa8, qa9, qaA, qaB, qaC, qaD] at hc122'
     refine rc_seq ?_
     refine rc_region ?_
     refine rd_op (v := vi 0) (ov_move rfl) ?_
     refine rd_op (v := vi 8) (ov_move rfl) ?_
     refine rd_nil ?_
     refine pn_seq ?_
     subst hres
     exact rc_retV (.tmp rfl (.tmp rfl .nil)) (deep_closed (show closed (.tup _) = true from (clL_cons rfl (clL_cons rfl clL_nil)))) rfl
    ·replace hres := (ite_f hc122).symm.trans hres
     have hc122' := hc122
     try simp only [qa1, qa2, qa3, qa4, qa5, qa6, qa7, qa8, qa9, qaA, qaB, qaC, qaD] at hc122'
     refine rc_skip ?_
     refine pn_seq ?_
     refine rc_seq ?_
     refine rc_region ?_
     refine rd_op (v := vi 1) (ov_move rfl) ?_
     refine rd_op (v := vi 0) (ov_move rfl) ?_
     refine rd_nil ?_
     refine pn_seq ?_
     subst hres
     exact rc_retV (.tmp rfl (.tmp rfl .nil)) (deep_closed (show closed (.tup _) = true from (clL_cons rfl (clL_cons rfl clL_nil)))) rfl

/-- patchbay/patchbayref13.operator -/
def RF40 (res : Int × Int) (r : PV) : Prop := r = .tup [vi res.1, vi res.2]
theorem f40_ok {x0 : api_ExprNode} {x1 : List Int} {v0 : PV} {v1 : PV} (r0 : api_ExprNode.t.R x0 v0) (r1 : (tSl tI).R x1 v1) (hl : (x1.length : Int) = ref13_Arity x0.Op) (h1 : 1 ≤ x1.length) : FnR Try.prog 40 [v0, v1] (.tup [vi ((ref13_operator x0 x1).1), vi ((ref13_operator x0 x1).2)]) := by
 obtain ⟨res, hres⟩ : ∃ res, ref13_operator x0 x1 = res := ⟨_, rfl⟩
 suffices H : RC Try.prog ac40 [] (QR Try.prog [(4, none), (5, none)] (RF40 res)) (argE 0 [v0, v1]) ⟨0, []⟩ by
  obtain ⟨r, h1, h2⟩ := fnE text40 (by simp) H
  rw [hres]
  have h2 : r = .tup [vi res.1, vi res.2] := h2
  rw [← h2]; exact h1
 unfold ref13_operator at hres
 unfold ac40
 refine rc_seq ?_
 refine rc_region ?_
 refine rd_op (ov_box rfl (TR.cnt api_ExprNode.t r0)) ?_
 refine rd_op (v := vi 0) (ov_move rfl) ?_
 refine rd_op (v := vi 0) (ov_move rfl) ?_
 refine rd_nil ?_
 refine pn_seq ?_
 refine rc_seq ?_
 refine rc_seq ?_
 refine rc_region ?_
 refine rd_op (ov_faddr rfl (api_ExprNode.g_Op r0)) ?_
 refine rd_op (ov_load rfl rfl rfl) ?_
 refine rd_nil ?_
 refine pn_seq ?_
 refine rc_block ?_
 refine rc_seq ?_
 refine rc_region ?_
 refine rd_op (ov_bin rfl rfl i_eql) ?_
 refine rd_op (ov_move rfl) ?_
 refine rd_nil ?_
 refine pn_seq ?_
 refine rc_cond rfl (fun hc101 => ?_) (fun hc101 => ?_)
 ·replace hres := (ite_t hc101).symm.trans hres
  have hc101' := hc101
  try simp only [qa1, qa2, qa3, qa4, qa5, qa6, qa7, qa8, qa9, qaA, qaB, qaC, qaD] at hc101'
  refine rc_seq ?_
  refine rc_region ?_
  refine rd_op (ov_move rfl) ?_
  refine rd_op (ov_iaddr rfl rfl (slI r1 (by first | omega | (have hk := opl hl; omega) | (have hk := opl hl; have hj := jor (by assumption) (by assumption); omega)) (by first | omega | (have hk := opl hl; omega) | (have hk := opl hl; have hj := jor (by assumption) (by assumption); omega)))) ?_
  refine rd_op (ov_load rfl rfl rfl) ?_
  refine rd_op (ov_move rfl) ?_
  refine rd_op (v := vi 0) (ov_move rfl) ?_
  refine rd_nil ?_
  refine pn_seq ?_
  subst hres
  exact rc_retV (.tmp rfl (.tmp rfl .nil)) (deep_closed (show closed (.tup _) = true from (clL_cons rfl (clL_cons rfl clL_nil)))) rfl
 ·replace hres := (ite_f hc101).symm.trans hres
  have hc101' := hc101
  try simp only [qa1, qa2, qa3, qa4, qa5, qa6, qa7, qa8, qa9, qaA, qaB, qaC, qaD] at hc101'
  refine rc_seq ?_
  refine rc_seq ?_
  refine rc_region ?_
  refine rd_op (ov_bin rfl rfl i_eql) ?_
  refine rd_op (ov_move rfl) ?_
  refine rd_nil ?_
  refine pn_seq ?_
  obtain ⟨k103, hk103, hres⟩ := let_ex hres
  refine rc_join (F := fun b S Q => ∀ (x13_103 : Bool) (jq103 : x13_103 = (if (decide (x0.Op = 6)) = true then (decide (x0.Op = 6)) else (decide (x0.Op = 7)))), k103 x13_103 = res → RC Try.prog b S Q [(13, vb x13_103), (7, vi x0.Op), (2, .fp v0), (1, v1)] ⟨0, []⟩) ?_ ?_
  ·intro x13_103 jq103  hres
   rw [← hk103] at hres
   refine rc_cond rfl (fun hc104 => ?_) (fun hc104 => ?_)
   ·replace hres := (ite_t hc104).symm.trans hres
    have hc104' := hc104
    try simp only [qa1, qa2, qa3, qa4, qa5, qa6, qa7, qa8, qa9, qaA, qaB, qaC, qaD] at hc104'
    refine rc_seq ?_
    refine rc_seq ?_
    refine rc_region ?_
    refine rd_op (ov_faddr rfl (api_ExprNode.g_N r0)) ?_
    refine rd_op (ov_load rfl rfl rfl) ?_
    refine rd_op (ov_bin rfl rfl i_lss) ?_
    refine rd_op (ov_move rfl) ?_
    refine rd_cut (d := 23) (v := vb ((decide (x0.N < 0)) || (decide (31 < x0.N)))) ?_ ?_
    ·intro S Q r
     simp only [ac40_G1, List.cons_append, List.nil_append, List.append_assoc]
     cases hb105 : (decide (x0.N < 0))
     ·intro k
      have hb105' := hb105
      try simp only [qa1, qa2, qa3, qa4, qa5, qa6, qa7, qa8, qa9, qaA, qaB, qaC, qaD] at hb105'
      refine rd_yes rfl rfl (ov_faddr rfl (api_ExprNode.g_N r0)) ?_
      refine rd_yes rfl rfl (ov_load rfl rfl rfl) ?_
      refine rd_yes rfl rfl (ov_bin rfl rfl i_gtr) ?_
      refine rd_op (v := vb (decide (31 < x0.N))) (ov_pick rfl rfl rfl rfl) ?_
      exact rd_weak (sub_cons rfl (sub_skip rfl (sub_skip rfl (sub_skip rfl (sub_skip rfl (sub_refl _)))))) k
     ·intro k
      refine rd_skip rfl rfl ?_
      refine rd_skip rfl rfl ?_
      refine rd_skip rfl rfl ?_
      refine rd_op (v := vb true) (ov_pick rfl rfl rfl rfl) ?_
      exact rd_weak (sub_cons rfl (sub_skip rfl (sub_skip rfl (sub_skip rfl (sub_skip rfl (sub_refl _)))))) k
    refine rd_nil ?_
    refine pn_seq ?_
    refine rc_cond rfl (fun hc106 => ?_) (fun hc106 => ?_)
    ·replace hres := (ite_t hc106).symm.trans hres
     have hc106' := hc106
     try simp only [qa1, qa2, qa3, qa4, qa5, qa6, qa7, qa8, qa9, qaA, qaB, qaC, qaD] at hc106'
     refine rc_seq ?_
     refine rc_region ?_
     refine rd_op (v := vi 0) (ov_move rfl) ?_
     refine rd_op (v := vi 9) (ov_move rfl) ?_
     refine rd_nil ?_
     refine pn_seq ?_
     subst hres
     exact rc_retV (.tmp rfl (.tmp rfl .nil)) (deep_closed (show closed (.tup _) = true from (clL_cons rfl (clL_cons rfl clL_nil)))) rfl
    ·replace hres := (ite_f hc106).symm.trans hres
     have hc106' := hc106
     try simp only [qa1, qa2, qa3, qa4, qa5, qa6, qa7, qa8, qa9, qaA, qaB, qaC, qaD] at hc106'
     refine rc_skip ?_
     refine pn_seq ?_
     refine rc_seq ?_
     refine rc_region ?_
     refine rd_op (ov_move rfl) ?_
     refine rd_op (ov_iaddr rfl rfl (slI r1 (by first | omega | (have hk := opl hl; omega) | (have hk := opl hl; have hj := jor (by assumption) (by assumption); omega)) (by first | omega | (have hk := opl hl; omega) | (have hk := opl hl; have hj := jor (by assumption) (by assumption); omega)))) ?_
     refine rd_op (ov_load rfl rfl rfl) ?_
     refine rd_op (ov_move rfl) ?_
     refine rd_op (v := vi 0) (ov_move rfl) ?_
     refine rd_nil ?_
     refine pn_seq ?_
     subst hres
     exact rc_retV (.tmp rfl (.tmp rfl .nil)) (deep_closed (show closed (.tup _) = true from (clL_cons rfl (clL_cons rfl clL_nil)))) rfl
   ·replace hres := (ite_f hc104).symm.trans hres
    have hc104' := hc104
    try simp only [qa1, qa2, qa3, qa4, qa5, qa6, qa7, qa8, qa9, qaA, qaB, qaC, qaD] at hc104'
    refine rc_seq ?_
    refine rc_region ?_
    refine rd_op (ov_bin rfl rfl i_eql) ?_
    refine rd_op (ov_move rfl) ?_
    refine rd_nil ?_
    refine pn_seq ?_
    refine rc_cond rfl (fun hc107 => ?_) (fun hc107 => ?_)
    ·replace hres := (ite_t hc107).symm.trans hres
     have hc107' := hc107
     try simp only [qa1, qa2, qa3, qa4, qa5, qa6, qa7, qa8, qa9, qaA, qaB, qaC, qaD] at hc107'
     refine rc_seq ?_
     refine rc_block ?_
     refine rc_seq ?_
     refine rc_region ?_
     refine rd_op (ov_faddr rfl (api_ExprNode.g_N r0)) ?_
     refine rd_op (ov_load rfl rfl rfl) ?_
     refine rd_op (ov_bin rfl rfl i_lss) ?_
     refine rd_op (ov_move rfl) ?_
     refine rd_nil ?_
     refine pn_seq ?_
     refine rc_cond rfl (fun hc108 => ?_) (fun hc108 => ?_)
     ·replace hres := (ite_t hc108).symm.trans hres
      have hc108' := hc108
      try simp only [qa1, qa2, qa3, qa4, qa5, qa6, qa7, qa8, qa9, qaA, qaB, qaC, qaD] at hc108'
      refine rc_seq ?_
      refine rc_region ?_
      refine rd_op (v := vi 0) (ov_move rfl) ?_
      refine rd_op (v := vi 9) (ov_move rfl) ?_
      refine rd_nil ?_
      refine pn_seq ?_
      subst hres
      exact rc_retV (.tmp rfl (.tmp rfl .nil)) (deep_closed (show closed (.tup _) = true from (clL_cons rfl (clL_cons rfl clL_nil)))) rfl
     ·replace hres := (ite_f hc108).symm.trans hres
      have hc108' := hc108
      try simp only [qa1, qa2, qa3, qa4, qa5, qa6, qa7, qa8, qa9, qaA, qaB, qaC, qaD] at hc108'
      refine rc_seq ?_
      refine rc_region ?_
      refine rd_op (ov_faddr rfl (api_ExprNode.g_W r0)) ?_
      refine rd_op (ov_load rfl rfl rfl) ?_
      refine rd_op (ov_bin rfl rfl i_lss) ?_
      refine rd_op (ov_move rfl) ?_
      refine rd_cut (d := 41) (v := vb ((decide (x0.W < 1)) || (decide (32 < x0.W)))) ?_ ?_
      ·intro S Q r
       simp only [ac40_G2, List.cons_append, List.nil_append, List.append_assoc]
       cases hb109 : (decide (x0.W < 1))
       ·intro k
        have hb109' := hb109
        try simp only [qa1, qa2, qa3, qa4, qa5, qa6, qa7, qa8, qa9, qaA, qaB, qaC, qaD] at hb109'
        refine rd_yes rfl rfl (ov_faddr rfl (api_ExprNode.g_W r0)) ?_
        refine rd_yes rfl rfl (ov_load rfl rfl rfl) ?_
        refine rd_yes rfl rfl (ov_bin rfl rfl i_gtr) ?_
        refine rd_op (v := vb (decide (32 < x0.W))) (ov_pick rfl rfl rfl rfl) ?_
        exact rd_weak (sub_cons rfl (sub_skip rfl (sub_skip rfl (sub_skip rfl (sub_skip rfl (sub_refl _)))))) k
       ·intro k
        refine rd_skip rfl rfl ?_
        refine rd_skip rfl rfl ?_
        refine rd_skip rfl rfl ?_
        refine rd_op (v := vb true) (ov_pick rfl rfl rfl rfl) ?_
        exact rd_weak (sub_cons rfl (sub_skip rfl (sub_skip rfl (sub_skip rfl (sub_skip rfl (sub_refl _)))))) k
      refine rd_op (ov_move rfl) ?_
      refine rd_cut (d := 52) (v := vb (((decide (x0.W < 1)) || (decide (32 < x0.W))) || (decide ((wr ((ix x1 0) - x0.W)) < x0.N)))) ?_ ?_
      ·intro S Q r
       simp only [ac40_G3, List.cons_append, List.nil_append, List.append_assoc]
       cases hb110 : ((decide (x0.W < 1)) || (decide (32 < x0.W)))
       ·intro k
        have hb110' := hb110
        try simp only [qa1, qa2, qa3, qa4, qa5, qa6, qa7, qa8, qa9, qaA, qaB, qaC, qaD] at hb110'
        refine rd_yes rfl rfl (ov_faddr rfl (api_ExprNode.g_N r0)) ?_
        refine rd_yes rfl rfl (ov_load rfl rfl rfl) ?_
        refine rd_yes rfl rfl (ov_move rfl) ?_
        refine rd_yes rfl rfl (ov_iaddr rfl rfl (slI r1 (by first | omega | (have hk := opl hl; omega) | (have hk := opl hl; have hj := jor (by assumption) (by assumption); omega)) (by first | omega | (have hk := opl hl; omega) | (have hk := opl hl; have hj := jor (by assumption) (by assumption); omega)))) ?_
        refine rd_yes rfl rfl (ov_load rfl rfl rfl) ?_
        refine rd_yes rfl rfl (ov_faddr rfl (api_ExprNode.g_W r0)) ?_
        refine rd_yes rfl rfl (ov_load rfl rfl rfl) ?_
        refine rd_yes rfl rfl (ov_bin rfl rfl i_sub) ?_
        refine rd_yes rfl rfl (ov_bin rfl rfl i_gtr) ?_
        refine rd_op (v := vb (decide ((wr ((ix x1 0) - x0.W)) < x0.N))) (ov_pick rfl rfl rfl rfl) ?_
        exact rd_weak (sub_cons rfl (sub_skip rfl (sub_skip rfl (sub_skip rfl (sub_skip rfl (sub_skip rfl (sub_skip rfl (sub_skip rfl (sub_skip rfl (sub_skip rfl (sub_skip rfl (sub_refl _)))))))))))) k
       ·intro k
        refine rd_skip rfl rfl ?_
        refine rd_skip rfl rfl ?_
        refine rd_skip rfl rfl ?_
        refine rd_skip rfl rfl ?_
        refine rd_skip rfl rfl ?_
        refine rd_skip rfl rfl ?_
        refine rd_skip rfl rfl ?_
        refine rd_skip rfl rfl ?_
        refine rd_skip rfl rfl ?_
        refine rd_op (v := vb true) (ov_pick rfl rfl rfl rfl) ?_
        exact rd_weak (sub_cons rfl (sub_skip rfl (sub_skip rfl (sub_skip rfl (sub_skip rfl (sub_skip rfl (sub_skip rfl (sub_skip rfl (sub_skip rfl (sub_skip rfl (sub_skip rfl (sub_refl _)))))))))))) k
      refine rd_op (ov_move rfl) ?_
      refine rd_nil ?_
      refine pn_seq ?_
      refine rc_cond rfl (fun hc111 => ?_) (fun hc111 => ?_)
      ·replace hres := (ite_t hc111).symm.trans hres
       have hc111' := hc111
       try simp only [qa1, qa2, qa3, qa4, qa5, qa6, qa7, qa8, qa9, qaA, qaB, qaC, qaD] at hc111'
       refine rc_seq ?_
       refine rc_region ?_
       refine rd_op (v := vi 0) (ov_move rfl) ?_
       refine rd_op (v := vi 10) (ov_move rfl) ?_
       refine rd_nil ?_
       refine pn_seq ?_
       subst hres
       exact rc_retV (.tmp rfl (.tmp rfl .nil)) (deep_closed (show closed (.tup _) = true from (clL_cons rfl (clL_cons rfl clL_nil)))) rfl
      ·replace hres := (ite_f hc111).symm.trans hres
       have hc111' := hc111
       try simp only [qa1, qa2, qa3, qa4, qa5, qa6, qa7, qa8, qa9, qaA, qaB, qaC, qaD] at hc111'
       refine rc_skip ?_
       refine pn_blk ?_
       refine pn_seq ?_
       refine rc_seq ?_
       refine rc_region ?_
       refine rd_op (ov_faddr rfl (api_ExprNode.g_W r0)) ?_
       refine rd_op (ov_load rfl rfl rfl) ?_
       refine rd_op (ov_move rfl) ?_
       refine rd_op (v := vi 0) (ov_move rfl) ?_
       refine rd_nil ?_
       refine pn_seq ?_
       subst hres
       exact rc_retV (.tmp rfl (.tmp rfl .nil)) (deep_closed (show closed (.tup _) = true from (clL_cons rfl (clL_cons rfl clL_nil)))) rfl
    ·replace hres := (ite_f hc107).symm.trans hres
     have hc107' := hc107
     try simp only [qa1, qa2, qa3, qa4, qa5, qa6, qa7, qa8, qa9, qaA, qaB, qaC, qaD] at hc107'
     refine rc_seq ?_
     refine rc_region ?_
     refine rd_op (ov_bin rfl rfl i_eql) ?_
     refine rd_op (ov_move rfl) ?_
     refine rd_nil ?_
     refine pn_seq ?_
     refine rc_cond rfl (fun hc112 => ?_) (fun hc112 => ?_)
     ·replace hres := (ite_t hc112).symm.trans hres
      have hc112' := hc112
      try simp only [qa1, qa2, qa3, qa4, qa5, qa6, qa7, qa8, qa9, qaA, qaB, qaC, qaD] at hc112'
      refine rc_seq ?_
      refine rc_region ?_
      refine rd_op (ov_move rfl) ?_
      refine rd_op (ov_iaddr rfl rfl (slI r1 (by first | omega | (have hk := opl hl; omega) | (have hk := opl hl; have hj := jor (by assumption) (by assumption); omega)) (by first | omega | (have hk := opl hl; omega) | (have hk := opl hl; have hj := jor (by assumption) (by assumption); omega)))) ?_
      refine rd_op (ov_load rfl rfl rfl) ?_
      refine rd_op (ov_move rfl) ?_
      refine rd_op (ov_iaddr rfl rfl (slI r1 (by first | omega | (have hk := opl hl; omega) | (have hk := opl hl; have hj := jor (by assumption) (by assumption); omega)) (by first | omega | (have hk := opl hl; omega) | (have hk := opl hl; have hj := jor (by assumption) (by assumption); omega)))) ?_
      refine rd_op (ov_load rfl rfl rfl) ?_
      refine rd_op (ov_bin rfl rfl i_add) ?_
      obtain ⟨y113, hw113, hres⟩ := let_ex hres
      have f113 := f52_ok (x0 := (wr ((ix x1 0) + (ix x1 1))))  
      rw [hw113] at f113
      refine rd_call (cv_fn rfl rfl (clL_cons rfl clL_nil) f113) ?_
      refine rd_op (ov_extract rfl rfl) ?_
      refine rd_op (ov_extract rfl rfl) ?_
      refine rd_op (ov_move rfl) ?_
      refine rd_op (ov_move rfl) ?_
      refine rd_nil ?_
      refine pn_seq ?_
      subst hres
      exact rc_retV (.tmp rfl (.tmp rfl .nil)) (deep_closed (show closed (.tup _) = true from (clL_cons rfl (clL_cons rfl clL_nil)))) rfl
     ·replace hres := (ite_f hc112).symm.trans hres
      have hc112' := hc112
      try simp only [qa1, qa2, qa3, qa4, qa5, qa6, qa7, qa8, qa9, qaA, qaB, qaC, qaD] at hc112'
      refine rc_seq ?_
      refine rc_region ?_
      refine rd_op (ov_bin rfl rfl i_eql) ?_
      refine rd_op (ov_move rfl) ?_
      refine rd_nil ?_
      refine pn_seq ?_
      refine rc_cond rfl (fun hc114 => ?_) (fun hc114 => ?_)
      ·replace hres := (ite_t hc114).symm.trans hres
       have hc114' := hc114
       try simp only [qa1, qa2, qa3, qa4, qa5, qa6, qa7, qa8, qa9, qaA, qaB, qaC, qaD] at hc114'
       refine rc_seq ?_
       refine rc_seq ?_
       refine rc_region ?_
       refine rd_op (ov_move rfl) ?_
       refine rd_op (ov_iaddr rfl rfl (slI r1 (by first | omega | (have hk := opl hl; omega) | (have hk := opl hl; have hj := jor (by assumption) (by assumption); omega)) (by first | omega | (have hk := opl hl; omega) | (have hk := opl hl; have hj := jor (by assumption) (by assumption); omega)))) ?_
       refine rd_op (ov_load rfl rfl rfl) ?_
       refine rd_op (ov_bin rfl rfl i_neq) ?_
       refine rd_op (ov_move rfl) ?_
       refine rd_cut (d := 81) (v := vb ((!decide ((ix x1 0) = 1)) || (!decide ((ix x1 1) = (ix x1 2))))) ?_ ?_
       ·intro S Q r
        simp only [ac40_G4, List.cons_append, List.nil_append, List.append_assoc]
        cases hb115 : (!decide ((ix x1 0) = 1))
        ·intro k
         have hb115' := hb115
         try simp only [qa1, qa2, qa3, qa4, qa5, qa6, qa7, qa8, qa9, qaA, qaB, qaC, qaD] at hb115'
         refine rd_yes rfl rfl (ov_move rfl) ?_
         refine rd_yes rfl rfl (ov_iaddr rfl rfl (slI r1 (by first | omega | (have hk := opl hl; omega) | (have hk := opl hl; have hj := jor (by assumption) (by assumption); omega)) (by first | omega | (have hk := opl hl; omega) | (have hk := opl hl; have hj := jor (by assumption) (by assumption); omega)))) ?_
         refine rd_yes rfl rfl (ov_load rfl rfl rfl) ?_
         refine rd_yes rfl rfl (ov_move rfl) ?_
         refine rd_yes rfl rfl (ov_iaddr rfl rfl (slI r1 (by first | omega | (have hk := opl hl; omega) | (have hk := opl hl; have hj := jor (by assumption) (by assumption); omega)) (by first | omega | (have hk := opl hl; omega) | (have hk := opl hl; have hj := jor (by assumption) (by assumption); omega)))) ?_
         refine rd_yes rfl rfl (ov_load rfl rfl rfl) ?_
         refine rd_yes rfl rfl (ov_bin rfl rfl i_neq) ?_
         refine rd_op (v := vb (!decide ((ix x1 1) = (ix x1 2)))) (ov_pick rfl rfl rfl rfl) ?_
         exact rd_weak (sub_cons rfl (sub_skip rfl (sub_skip rfl (sub_skip rfl (sub_skip rfl (sub_skip rfl (sub_skip rfl (sub_skip rfl (sub_skip rfl (sub_refl _)))))))))) k
        ·intro k
         refine rd_skip rfl rfl ?_
         refine rd_skip rfl rfl ?_
         refine rd_skip rfl rfl ?_
         refine rd_skip rfl rfl ?_
         refine rd_skip rfl rfl ?_
         refine rd_skip rfl rfl ?_
         refine rd_skip rfl rfl ?_
         refine rd_op (v := vb true) (ov_pick rfl rfl rfl rfl) ?_
         exact rd_weak (sub_cons rfl (sub_skip rfl (sub_skip rfl (sub_skip rfl (sub_skip rfl (sub_skip rfl (sub_skip rfl (sub_skip rfl (sub_skip rfl (sub_refl _)))))))))) k
       refine rd_nil ?_
       refine pn_seq ?_
       refine rc_cond rfl (fun hc116 => ?_) (fun hc116 => ?_)
       ·replace hres := (ite_t hc116).symm.trans hres
        have hc116' := hc116
        try simp only [qa1, qa2, qa3, qa4, qa5, qa6, qa7, qa8, qa9, qaA, qaB, qaC, qaD] at hc116'
        refine rc_seq ?_
        refine rc_region ?_
        refine rd_op (v := vi 0) (ov_move rfl) ?_
        refine rd_op (v := vi 10) (ov_move rfl) ?_
        refine rd_nil ?_
        refine pn_seq ?_
        subst hres
        exact rc_retV (.tmp rfl (.tmp rfl .nil)) (deep_closed (show closed (.tup _) = true from (clL_cons rfl (clL_cons rfl clL_nil)))) rfl
       ·replace hres := (ite_f hc116).symm.trans hres
        have hc116' := hc116
        try simp only [qa1, qa2, qa3, qa4, qa5, qa6, qa7, qa8, qa9, qaA, qaB, qaC, qaD] at hc116'
        refine rc_skip ?_
        refine pn_seq ?_
        refine rc_seq ?_
        refine rc_region ?_
        refine rd_op (ov_move rfl) ?_
        refine rd_op (ov_iaddr rfl rfl (slI r1 (by first | omega | (have hk := opl hl; omega) | (have hk := opl hl; have hj := jor (by assumption) (by assumption); omega)) (by first | omega | (have hk := opl hl; omega) | (have hk := opl hl; have hj := jor (by assumption) (by assumption); omega)))) ?_
        refine rd_op (ov_load rfl rfl rfl) ?_
        refine rd_op (ov_move rfl) ?_
        refine rd_op (v := vi 0) (ov_move rfl) ?_
        refine rd_nil ?_
        refine pn_seq ?_
        subst hres
        exact rc_retV (.tmp rfl (.tmp rfl .nil)) (deep_closed (show closed (.tup _) = true from (clL_cons rfl (clL_cons rfl clL_nil)))) rfl
      ·replace hres := (ite_f hc114).symm.trans hres
       have hc114' := hc114
       try simp only [qa1, qa2, qa3, qa4, qa5, qa6, qa7, qa8, qa9, qaA, qaB, qaC, qaD] at hc114'
       refine rc_skip ?_
       refine pn_blk ?_
       refine pn_seq ?_
       refine rc_seq ?_
       refine rc_block ?_
       refine rc_seq ?_
       refine rc_region ?_
       refine rd_op (ov_move rfl) ?_
       refine rd_op (ov_iaddr rfl rfl (slI r1 (by first | omega | (have hk := opl hl; omega) | (have hk := opl hl; have hj := jor (by assumption) (by assumption); omega)) (by first | omega | (have hk := opl hl; omega) | (have hk := opl hl; have hj := jor (by assumption) (by assumption); omega)))) ?_
       refine rd_op (ov_load rfl rfl rfl) ?_
       refine rd_op (ov_move rfl) ?_
       refine rd_op (ov_iaddr rfl rfl (slI r1 (by first | omega | (have hk := opl hl; omega) | (have hk := opl hl; have hj := jor (by assumption) (by assumption); omega)) (by first | omega | (have hk := opl hl; omega) | (have hk := opl hl; have hj := jor (by assumption) (by assumption); omega)))) ?_
       refine rd_op (ov_load rfl rfl rfl) ?_
       refine rd_op (ov_bin rfl rfl i_neq) ?_
       refine rd_op (ov_move rfl) ?_
       refine rd_nil ?_
       refine pn_seq ?_
       refine rc_cond rfl (fun hc117 => ?_) (fun hc117 => ?_)
       ·replace hres := (ite_t hc117).symm.trans hres
        have hc117' := hc117
        try simp only [qa1, qa2, qa3, qa4, qa5, qa6, qa7, qa8, qa9, qaA, qaB, qaC, qaD] at hc117'
        refine rc_seq ?_
        refine rc_region ?_
        refine rd_op (v := vi 0) (ov_move rfl) ?_
        refine rd_op (v := vi 10) (ov_move rfl) ?_
        refine rd_nil ?_
        refine pn_seq ?_
        subst hres
        exact rc_retV (.tmp rfl (.tmp rfl .nil)) (deep_closed (show closed (.tup _) = true from (clL_cons rfl (clL_cons rfl clL_nil)))) rfl
       ·replace hres := (ite_f hc117).symm.trans hres
        have hc117' := hc117
        try simp only [qa1, qa2, qa3, qa4, qa5, qa6, qa7, qa8, qa9, qaA, qaB, qaC, qaD] at hc117'
        refine rc_seq ?_
        refine rc_region ?_
        refine rd_op (ov_faddr rfl (api_ExprNode.g_Op r0)) ?_
        refine rd_op (ov_load rfl rfl rfl) ?_
        refine rd_op (ov_bin rfl rfl i_eql) ?_
        refine rd_op (ov_move rfl) ?_
        refine rd_cut (d := 101) (v := vb ((decide (x0.Op = 15)) || (decide (x0.Op = 16)))) ?_ ?_
        ·intro S Q r
         simp only [ac40_G5, List.cons_append, List.nil_append, List.append_assoc]
         cases hb118 : (decide (x0.Op = 15))
         ·intro k
          have hb118' := hb118
          try simp only [qa1, qa2, qa3, qa4, qa5, qa6, qa7, qa8, qa9, qaA, qaB, qaC, qaD] at hb118'
          refine rd_yes rfl rfl (ov_faddr rfl (api_ExprNode.g_Op r0)) ?_
          refine rd_yes rfl rfl (ov_load rfl rfl rfl) ?_
          refine rd_yes rfl rfl (ov_bin rfl rfl i_eql) ?_
          refine rd_op (v := vb (decide (x0.Op = 16))) (ov_pick rfl rfl rfl rfl) ?_
          exact rd_weak (sub_cons rfl (sub_skip rfl (sub_skip rfl (sub_skip rfl (sub_skip rfl (sub_refl _)))))) k
         ·intro k
          refine rd_skip rfl rfl ?_
          refine rd_skip rfl rfl ?_
          refine rd_skip rfl rfl ?_
          refine rd_op (v := vb true) (ov_pick rfl rfl rfl rfl) ?_
          exact rd_weak (sub_cons rfl (sub_skip rfl (sub_skip rfl (sub_skip rfl (sub_skip rfl (sub_refl _)))))) k
        refine rd_op (ov_move rfl) ?_
        refine rd_nil ?_
        refine pn_seq ?_
        refine rc_cond rfl (fun hc119 => ?_) (fun hc119 => ?_)
        ·replace hres := (ite_t hc119).symm.trans hres
         have hc119' := hc119
         try simp only [qa1, qa2, qa3, qa4, qa5, qa6, qa7, qa8, qa9, qaA, qaB, qaC, qaD] at hc119'
         refine rc_seq ?_
         refine rc_region ?_
         refine rd_op (v := vi 1) (ov_move rfl) ?_
         refine rd_op (v := vi 0) (ov_move rfl) ?_
         refine rd_nil ?_
         refine pn_seq ?_
         subst hres
         exact rc_retV (.tmp rfl (.tmp rfl .nil)) (deep_closed (show closed (.tup _) = true from (clL_cons rfl (clL_cons rfl clL_nil)))) rfl
        ·replace hres := (ite_f hc119).symm.trans hres
         have hc119' := hc119
         try simp only [qa1, qa2, qa3, qa4, qa5, qa6, qa7, qa8, qa9, qaA, qaB, qaC, qaD] at hc119'
         refine rc_skip ?_
         refine pn_blk ?_
         refine pn_seq ?_
         refine rc_seq ?_
         refine rc_region ?_
         refine rd_op (ov_move rfl) ?_
         refine rd_op (ov_iaddr rfl rfl (slI r1 (by first | omega | (have hk := opl hl; omega) | (have hk := opl hl; have hj := jor (by assumption) (by assumption); omega)) (by first | omega | (have hk := opl hl; omega) | (have hk := opl hl; have hj := jor (by assumption) (by assumption); omega)))) ?_
         refine rd_op (ov_load rfl rfl rfl) ?_
         refine rd_op (ov_move rfl) ?_
         refine rd_op (v := vi 0) (ov_move rfl) ?_
         refine rd_nil ?_
         refine pn_seq ?_
         subst hres
         exact rc_retV (.tmp rfl (.tmp rfl .nil)) (deep_closed (show closed (.tup _) = true from (clL_cons rfl (clL_cons rfl clL_nil)))) rfl
  ·intro J
   refine rc_cond rfl (fun hc120 => ?_) (fun hc120 => ?_)
   ·replace hres := (ite_t hc120).symm.trans hres
    have hc120' := hc120
    try simp only [qa1, qa2, qa3, qa4, qa5, qa6, qa7, qa8, qa9, qaA, qaB, qaC, qaD] at hc120'
    refine rc_skip ?_
    refine pn_seq (rc_weak ((sub_cons rfl (sub_cons rfl (sub_cons rfl (sub_cons rfl (sub_nil _)))))) (J _ (ite_t hc120).symm  hres))
   ·replace hres := (ite_f hc120).symm.trans hres
    have hc120' := hc120
    try simp only [qa1, qa2, qa3, qa4, qa5, qa6, qa7, qa8, qa9, qaA, qaB, qaC, qaD] at hc120'
    refine rc_region ?_
    refine rd_op (ov_bin rfl rfl i_eql) ?_
    refine rd_op (ov_move rfl) ?_
    refine rd_nil ?_
    refine pn_seq (rc_weak ((sub_cons rfl (sub_cons rfl (sub_cons rfl (sub_cons rfl (sub_nil _)))))) (J _ (ite_f hc120).symm  hres))

end Go.Proofs.Ytnejfbehaembkaa
