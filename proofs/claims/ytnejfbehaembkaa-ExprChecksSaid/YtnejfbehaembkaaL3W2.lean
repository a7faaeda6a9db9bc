/-
 The code of each function does what its plain program says.
-/
import Derived.Test.YtnejfbehaembkaaL3W1
set_option linter.unusedVariables false
set_option linter.unusedSimpArgs false
set_option maxRecDepth 100000
namespace Go.Proofs.Ytnejfbehaembkaa
open Go Go.Pb Go.RowKit
/-- patchbay/patchbayref13.check -/
def RF22 (res : Int × Int × Int) (r : PV) : Prop := r = .tup [vi res.1, vi res.2.1, vi res.2.2]
theorem ref13_check_L1_ok {S : List Fr} {res : Int × Int × Int} {x0 : List api_ExprNode} {x1 : Int} {x2 : expr_Scope} {rec_ : (List api_ExprNode) → Int → expr_Scope → (Int × Int × Int)} {mu_ : Nat} {y103 : Int} {v0 : PV} {v2 : PV} (r0 : (tSl api_ExprNode.t).R x0 v0) (r2 : expr_Scope.t.R x2 v2) (h0 : 0 ≤ x1) (hb : x0.length ≤ 1000000) (ihR : ∀ {z0 : List api_ExprNode} {z1 : Int} {z2 : expr_Scope} {zv0 : PV} {zv2 : PV} (zr0 : (tSl api_ExprNode.t).R z0 zv0) (zr2 : expr_Scope.t.R z2 zv2) (h0 : 0 ≤ z1) (hb : z0.length ≤ 1000000), (z0.length - z1.toNat) < mu_ → FnR Try.prog 22 [zv0, vi z1, zv2] (.tup [vi ((rec_ z0 z1 z2).1), vi ((rec_ z0 z1 z2).2.1), vi ((rec_ z0 z1 z2).2.2)])) (hmu : mu_ = (x0.length - x1.toNat)) (hrec : ∀ (z0 : List api_ExprNode) (z1 : Int) (z2 : expr_Scope), 0 ≤ z1 → z0.length ≤ 1000000 → (rec_ z0 z1 z2).2.2 = 0 → z1 < (rec_ z0 z1 z2).2.1) (hc101 : (decide ((x0.length : Int) ≤ x1)) = false) (hw103 : ref13_Arity ((ix x0 x1).Op) = y103) (hc104 : (decide (y103 < 0)) = false) (hc105 : (decide (y103 = 0)) = false) {K0 : Int → (List Int) → (Int × Int × Int)}
  (hK0 : ∀ (x13_ : Int) (zE109 : List Int) (esE109 : List PV) (aE109 : PV) (qE109 : All2 tI.R zE109 esE109) (nE109 : isL aE109 = true) (wrE109 : Wri aE109 esE109) (hlE109 : zE109.length ≤ 4611686018427387904) (po0 : (zE109.length : Int) = y103) (h : Heap) (M0 : Mem h [⟨aE109, 3, 1, esE109⟩]), K0 x13_ zE109 = res → PX Try.prog 0 S (QR Try.prog [(6, none), (7, none), (8, none)] (RF22 res)) [(0, v0), (1, vi x1), (12, aE109), (13, vi x13_)] h) :
  ∀ (m : Nat) (x13_ : Int) (x14_ : Int) (zE109 : List Int) (esE109 : List PV) (aE109 : PV) (qE109 : All2 tI.R zE109 esE109) (nE109 : isL aE109 = true) (wrE109 : Wri aE109 esE109) (hlE109 : zE109.length ≤ 4611686018427387904) (hm1 : m = Int.toNat (y103 - x14_)) (hlo1 : 0 ≤ x14_) (iv1_0 : x1 < x13_) (iv1_1 : (zE109.length : Int) = x14_) (iv1_2 : x14_ ≤ y103) (h : Heap) (M0 : Mem h [⟨aE109, 3, 1, esE109⟩]), ref13_check_L1 x0 x2 rec_ K0 m x13_ x14_ zE109 = res → RC Try.prog (.loop ac22_L1) S (QR Try.prog [(6, none), (7, none), (8, none)] (RF22 res)) [(14, vi x14_), (13, vi x13_), (12, aE109), (9, vi y103), (5, .fp v2), (1, vi x1), (0, v0)] h := by
 have hb' := hb
 try simp only [qa1, qa2, qa3, qa4, qa5, qa6, qa7, qa8, qa9, qaA, qaB, qaC, qaD] at hb'
 have hc101' := hc101
 try simp only [qa1, qa2, qa3, qa4, qa5, qa6, qa7, qa8, qa9, qaA, qaB, qaC, qaD] at hc101'
 have hc104' := hc104
 try simp only [qa1, qa2, qa3, qa4, qa5, qa6, qa7, qa8, qa9, qaA, qaB, qaC, qaD] at hc104'
 have hc105' := hc105
 try simp only [qa1, qa2, qa3, qa4, qa5, qa6, qa7, qa8, qa9, qaA, qaB, qaC, qaD] at hc105'
 intro m
 induction m with
 | zero =>
  intro x13_ x14_ zE109 esE109 aE109 qE109 nE109 wrE109 hlE109 hm1 hlo1 iv1_0 iv1_1 iv1_2 h M0 hres
  rw [ref13_check_L1] at hres
  refine rc_loop ?_
  unfold ac22_L1
  refine rc_seq ?_
  refine rc_seq ?_
  refine rc_region ?_
  refine rd_op (ov_move rfl) ?_
  refine rd_op (ov_move rfl) ?_
  refine rd_op (ov_bin rfl rfl i_lss) ?_
  refine rd_nil ?_
  refine pn_seq ?_
  refine rc_cond rfl (fun hc110 => ?_) (fun hc110 => ?_)
  ·exfalso
   try simp only [qa1, qa2, qa3, qa4, qa5, qa6, qa7, qa8, qa9, qaA, qaB, qaC, qaD] at hc110
   omega
  ·have hend := hres
   have hc110' := hc110
   try simp only [qa1, qa2, qa3, qa4, qa5, qa6, qa7, qa8, qa9, qaA, qaB, qaC, qaD] at hc110'
   refine rc_exit ?_
   refine px_seq ?_
   refine px_again ?_
   exact px_weak ((sub_cons rfl (sub_cons rfl (sub_cons rfl (sub_cons rfl (sub_nil _)))))) (hK0 x13_ zE109 esE109 aE109 qE109 nE109 wrE109 hlE109 (by omega) _ (Mem.sub M0 (.cons_cons _ .slnil)) hres)
 | succ m ih =>
  intro x13_ x14_ zE109 esE109 aE109 qE109 nE109 wrE109 hlE109 hm1 hlo1 iv1_0 iv1_1 iv1_2 h M0 hres
  rw [ref13_check_L1] at hres
  refine rc_loop ?_
  unfold ac22_L1
  refine rc_seq ?_
  refine rc_seq ?_
  refine rc_region ?_
  refine rd_op (ov_move rfl) ?_
  refine rd_op (ov_move rfl) ?_
  refine rd_op (ov_bin rfl rfl i_lss) ?_
  refine rd_nil ?_
  refine pn_seq ?_
  refine rc_cond rfl (fun hc111 => ?_) (fun hc111 => ?_)
  ·have hgo := hres
   have hc111' := hc111
   try simp only [qa1, qa2, qa3, qa4, qa5, qa6, qa7, qa8, qa9, qaA, qaB, qaC, qaD] at hc111'
   refine rc_skip ?_
   refine pn_seq ?_
   refine rc_seq ?_
   refine rc_block ?_
   refine rc_seq ?_
   refine rc_region ?_
   refine rd_op (ov_move rfl) ?_
   refine rd_op (ov_move rfl) ?_
   refine rd_op (ov_load rfl (TR.cnt expr_Scope.t r2) (TR.agg expr_Scope.t r2)) ?_
   obtain ⟨y112, hw112, hres⟩ := let_ex hres
   have f112 := ihR (z0 := x0) (z1 := x13_) (z2 := x2) r0 r2 (by first | assumption | omega | (rw [wr_of (by omega) (by omega)]; omega)) (by first | assumption | omega | (rw [wr_of (by omega) (by omega)]; omega)) (by first | omega | (rw [wr_of (by omega) (by omega)]; omega))
   rw [hw112] at f112
   have ek112 : y112.2.2 = 0 → x13_ < y112.2.1 := by rw [← hw112]; exact hrec _ _ _ (by omega) (by omega)
   refine rd_call (cv_fn rfl rfl (clL_cons (TR.clo (tSl api_ExprNode.t) r0) (clL_cons rfl (clL_cons (TR.clo expr_Scope.t r2) clL_nil))) f112) ?_
   refine rd_op (ov_move rfl) ?_
   refine rd_op (ov_extract rfl rfl) ?_
   refine rd_op (ov_extract rfl rfl) ?_
   refine rd_op (ov_extract rfl rfl) ?_
   refine rd_op (ov_move rfl) ?_
   refine rd_op (ov_move rfl) ?_
   refine rd_op (ov_move rfl) ?_
   refine rd_nil ?_
   refine pn_seq ?_
   refine rc_seq ?_
   refine rc_seq ?_
   refine rc_region ?_
   refine rd_op (ov_move rfl) ?_
   refine rd_op (ov_bin rfl rfl i_neq) ?_
   refine rd_nil ?_
   refine pn_seq ?_
   refine rc_cond rfl (fun hc113 => ?_) (fun hc113 => ?_)
   ·replace hres := (ite_t hc113).symm.trans hres
    have hc113' := hc113
    try simp only [qa1, qa2, qa3, qa4, qa5, qa6, qa7, qa8, qa9, qaA, qaB, qaC, qaD] at hc113'
    refine rc_seq ?_
    refine rc_region ?_
    refine rd_op (ov_move rfl) ?_
    refine rd_op (ov_move rfl) ?_
    refine rd_op (v := vi 0) (ov_move rfl) ?_
    refine rd_op (ov_move rfl) ?_
    refine rd_op (ov_move rfl) ?_
    refine rd_nil ?_
    refine pn_seq ?_
    subst hres
    exact rc_retV (.tmp rfl (.tmp rfl (.tmp rfl .nil))) (deep_closed (show closed (.tup _) = true from (clL_cons rfl (clL_cons rfl (clL_cons rfl clL_nil))))) rfl
   ·replace hres := (ite_f hc113).symm.trans hres
    have hc113' := hc113
    try simp only [qa1, qa2, qa3, qa4, qa5, qa6, qa7, qa8, qa9, qaA, qaB, qaC, qaD] at hc113'
    refine rc_skip ?_
    refine pn_seq ?_
    refine rc_seq ?_
    refine rc_region ?_
    refine rd_op (ov_move rfl) ?_
    refine rd_op (ov_move rfl) ?_
    refine rd_op (v := .fs true [vi y112.1]) (ov_bslice rfl (all_cons rfl all_nil)) ?_
    have r114 : (tSl tI).R ([y112.1] : List Int) (.fs true [vi y112.1]) := sl_fs ⟨rfl, trivial⟩ (by simp)
    obtain ⟨nw115, sr115, ar115⟩ := src_of (t := tI) (h := h) r114
    have f115 : fits (esE109.length + nw115.length) 8 = true := by rw [All2.length_eq qE109, All2.length_eq ar115]; (try simp only [List.length_cons, List.length_nil]); exact fits_of (by first | omega | (have hk := rar (by assumption); omega) | (simp only [List.length_append, List.length_cons, List.length_nil]; have hk := rar (by assumption); omega)) (by first | omega | (have hk := rar (by assumption); omega) | (simp only [List.length_append, List.length_cons, List.length_nil]; have hk := rar (by assumption); omega))
    refine rd_appW (k := 0) (es := esE109) (news := nw115) M0 rfl rfl rfl nE109 wrE109 sr115 f115 (fun a115 h115 n115 wr115 M115 => ?_)
    have q115 : All2 tI.R (zE109 ++ ([y112.1] : List Int)) (esE109 ++ nw115) := All2.app qE109 ar115
    have hl115 : (zE109 ++ ([y112.1] : List Int)).length ≤ 4611686018427387904 := by rw [← All2.length_eq q115, List.length_append]; exact fits_len f115
    refine rd_op (ov_move rfl) ?_
    refine rd_nil ?_
    refine pn_seq ?_
    refine rc_region ?_
    refine rd_op (ov_move rfl) ?_
    refine rd_op (ov_move rfl) ?_
    refine rd_nil ?_
    refine pn_blk ?_
    refine pn_seq ?_
    refine rc_region ?_
    refine rd_op (ov_move rfl) ?_
    refine rd_op (ov_bin rfl rfl i_add) ?_
    refine rd_op (ov_move rfl) ?_
    refine rd_nil ?_
    refine pn_again ?_
    have hinc : wr (x14_ + 1) = x14_ + 1 := wr_of (by omega) (by (have hk := rar (by assumption); omega))
    rw [hinc]
    refine rc_weak ?_ (ih y112.2.1 (x14_ + 1) (zE109 ++ ([y112.1] : List Int)) (esE109 ++ nw115) a115 q115 n115 wr115 hl115 (by omega) (by omega) (by first | (simp only [List.length_append, List.length_cons, List.length_nil]; omega) | omega) (by first | (simp only [List.length_append, List.length_cons, List.length_nil]; omega) | omega) (by first | (simp only [List.length_append, List.length_cons, List.length_nil]; omega) | omega) _ (Mem.sub M115 (.cons_cons _ .slnil)) hres)
    exact ((sub_cons rfl (sub_cons rfl (sub_cons rfl (sub_cons rfl (sub_cons rfl (sub_cons rfl (sub_cons rfl (sub_nil _)))))))))
  ·exfalso
   try simp only [qa1, qa2, qa3, qa4, qa5, qa6, qa7, qa8, qa9, qaA, qaB, qaC, qaD] at hc111
   omega

theorem f22_okB {rec_ : (List api_ExprNode) → Int → expr_Scope → (Int × Int × Int)} {mu_ : Nat} {x0 : List api_ExprNode} {x1 : Int} {x2 : expr_Scope} {v0 : PV} {v2 : PV} (r0 : (tSl api_ExprNode.t).R x0 v0) (r2 : expr_Scope.t.R x2 v2) (h0 : 0 ≤ x1) (hb : x0.length ≤ 1000000) (hmu : mu_ = (x0.length - x1.toNat)) (hrec : ∀ (z0 : List api_ExprNode) (z1 : Int) (z2 : expr_Scope), 0 ≤ z1 → z0.length ≤ 1000000 → (rec_ z0 z1 z2).2.2 = 0 → z1 < (rec_ z0 z1 z2).2.1) (ihR : ∀ {z0 : List api_ExprNode} {z1 : Int} {z2 : expr_Scope} {zv0 : PV} {zv2 : PV} (zr0 : (tSl api_ExprNode.t).R z0 zv0) (zr2 : expr_Scope.t.R z2 zv2) (h0 : 0 ≤ z1) (hb : z0.length ≤ 1000000), (z0.length - z1.toNat) < mu_ → FnR Try.prog 22 [zv0, vi z1, zv2] (.tup [vi ((rec_ z0 z1 z2).1), vi ((rec_ z0 z1 z2).2.1), vi ((rec_ z0 z1 z2).2.2)])) : FnR Try.prog 22 [v0, vi x1, v2] (.tup [vi ((ref13_check_B rec_ x0 x1 x2).1), vi ((ref13_check_B rec_ x0 x1 x2).2.1), vi ((ref13_check_B rec_ x0 x1 x2).2.2)]) := by
 obtain ⟨res, hres⟩ : ∃ res, ref13_check_B rec_ x0 x1 x2 = res := ⟨_, rfl⟩
 suffices H : RC Try.prog ac22 [] (QR Try.prog [(6, none), (7, none), (8, none)] (RF22 res)) (argE 0 [v0, vi x1, v2]) ⟨0, []⟩ by
  obtain ⟨r, h1, h2⟩ := fnE text22 (by simp) H
  rw [hres]
  have h2 : r = .tup [vi res.1, vi res.2.1, vi res.2.2] := h2
  rw [← h2]; exact h1
 unfold ref13_check_B at hres
 unfold ac22
 refine rc_seq ?_
 refine rc_region ?_
 refine rd_op (ov_box rfl (TR.cnt expr_Scope.t r2)) ?_
 refine rd_op (v := vi 0) (ov_move rfl) ?_
 refine rd_op (v := vi 0) (ov_move rfl) ?_
 refine rd_op (v := vi 0) (ov_move rfl) ?_
 refine rd_nil ?_
 refine pn_seq ?_
 refine rc_seq ?_
 refine rc_seq ?_
 refine rc_region ?_
 refine rd_op (ov_move rfl) ?_
 refine rd_op (ov_move rfl) ?_
 refine rd_op (ov_bi rfl (sl_len r0 Try.underlying32 _)) ?_
 refine rd_op (ov_bin rfl rfl i_geq) ?_
 refine rd_nil ?_
 refine pn_seq ?_
 refine rc_cond rfl (fun hc101 => ?_) (fun hc101 => ?_)
 ·replace hres := (ite_t hc101).symm.trans hres
  have hc101' := hc101
  try simp only [qa1, qa2, qa3, qa4, qa5, qa6, qa7, qa8, qa9, qaA, qaB, qaC, qaD] at hc101'
  refine rc_seq ?_
  refine rc_region ?_
  refine rd_op (ov_move rfl) ?_
  refine rd_op (v := vi 0) (ov_move rfl) ?_
  refine rd_op (ov_move rfl) ?_
  refine rd_op (v := vi 3) (ov_move rfl) ?_
  refine rd_nil ?_
  refine pn_seq ?_
  subst hres
  exact rc_retV (.tmp rfl (.tmp rfl (.tmp rfl .nil))) (deep_closed (show closed (.tup _) = true from (clL_cons rfl (clL_cons rfl (clL_cons rfl clL_nil))))) rfl
 ·replace hres := (ite_f hc101).symm.trans hres
  have hc101' := hc101
  try simp only [qa1, qa2, qa3, qa4, qa5, qa6, qa7, qa8, qa9, qaA, qaB, qaC, qaD] at hc101'
  refine rc_skip ?_
  refine pn_seq ?_
  refine rc_seq ?_
  refine rc_region ?_
  refine rd_op (ov_move rfl) ?_
  refine rd_op (ov_move rfl) ?_
  obtain ⟨v102, e102, r102⟩ := sl_idx (i := x1) r0 (by omega) (by omega)
  refine rd_op (ov_iaddr rfl rfl e102) ?_
  refine rd_op (ov_faddr rfl (api_ExprNode.g_Op r102)) ?_
  refine rd_op (ov_load rfl rfl rfl) ?_
  obtain ⟨y103, hw103, hres⟩ := let_ex hres
  have f103 := f24_ok (x0 := (ix x0 x1).Op)  
  rw [hw103] at f103
  refine rd_call (cv_fn rfl rfl (clL_cons rfl clL_nil) f103) ?_
  refine rd_op (ov_move rfl) ?_
  refine rd_nil ?_
  refine pn_seq ?_
  refine rc_seq ?_
  refine rc_seq ?_
  refine rc_region ?_
  refine rd_op (ov_move rfl) ?_
  refine rd_op (ov_bin rfl rfl i_lss) ?_
  refine rd_nil ?_
  refine pn_seq ?_
  refine rc_cond rfl (fun hc104 => ?_) (fun hc104 => ?_)
  ·replace hres := (ite_t hc104).symm.trans hres
   have hc104' := hc104
   try simp only [qa1, qa2, qa3, qa4, qa5, qa6, qa7, qa8, qa9, qaA, qaB, qaC, qaD] at hc104'
   refine rc_seq ?_
   refine rc_region ?_
   refine rd_op (ov_move rfl) ?_
   refine rd_op (v := vi 0) (ov_move rfl) ?_
   refine rd_op (ov_move rfl) ?_
   refine rd_op (v := vi 11) (ov_move rfl) ?_
   refine rd_nil ?_
   refine pn_seq ?_
   subst hres
   exact rc_retV (.tmp rfl (.tmp rfl (.tmp rfl .nil))) (deep_closed (show closed (.tup _) = true from (clL_cons rfl (clL_cons rfl (clL_cons rfl clL_nil))))) rfl
  ·replace hres := (ite_f hc104).symm.trans hres
   have hc104' := hc104
   try simp only [qa1, qa2, qa3, qa4, qa5, qa6, qa7, qa8, qa9, qaA, qaB, qaC, qaD] at hc104'
   refine rc_skip ?_
   refine pn_seq ?_
   refine rc_seq ?_
   refine rc_seq ?_
   refine rc_region ?_
   refine rd_op (ov_move rfl) ?_
   refine rd_op (ov_bin rfl rfl i_eql) ?_
   refine rd_nil ?_
   refine pn_seq ?_
   refine rc_cond rfl (fun hc105 => ?_) (fun hc105 => ?_)
   ·replace hres := (ite_t hc105).symm.trans hres
    have hc105' := hc105
    try simp only [qa1, qa2, qa3, qa4, qa5, qa6, qa7, qa8, qa9, qaA, qaB, qaC, qaD] at hc105'
    refine rc_seq ?_
    refine rc_region ?_
    refine rd_op (ov_move rfl) ?_
    refine rd_op (ov_move rfl) ?_
    obtain ⟨v106, e106, r106⟩ := sl_idx (i := x1) r0 (by omega) (by omega)
    refine rd_op (ov_iaddr rfl rfl e106) ?_
    refine rd_op (ov_load rfl (TR.cnt api_ExprNode.t r106) (TR.agg api_ExprNode.t r106)) ?_
    refine rd_op (ov_load rfl (TR.cnt expr_Scope.t r2) (TR.agg expr_Scope.t r2)) ?_
    obtain ⟨y107, hw107, hres⟩ := let_ex hres
    have f107 := f39_ok  r106 r2 
    rw [hw107] at f107
    refine rd_call (cv_fn rfl rfl (clL_cons (TR.clo api_ExprNode.t r106) (clL_cons (TR.clo expr_Scope.t r2) clL_nil)) f107) ?_
    refine rd_op (ov_move rfl) ?_
    refine rd_op (ov_extract rfl rfl) ?_
    refine rd_op (ov_extract rfl rfl) ?_
    refine rd_op (ov_move rfl) ?_
    refine rd_op (ov_move rfl) ?_
    refine rd_nil ?_
    refine pn_seq ?_
    refine rc_seq ?_
    refine rc_region ?_
    refine rd_op (ov_move rfl) ?_
    refine rd_op (ov_move rfl) ?_
    refine rd_op (ov_bin rfl rfl i_add) ?_
    refine rd_op (ov_move rfl) ?_
    refine rd_op (ov_move rfl) ?_
    refine rd_op (ov_move rfl) ?_
    refine rd_op (ov_move rfl) ?_
    refine rd_nil ?_
    refine pn_seq ?_
    subst hres
    exact rc_retV (.tmp rfl (.tmp rfl (.tmp rfl .nil))) (deep_closed (show closed (.tup _) = true from (clL_cons rfl (clL_cons rfl (clL_cons rfl clL_nil))))) rfl
   ·replace hres := (ite_f hc105).symm.trans hres
    have hc105' := hc105
    try simp only [qa1, qa2, qa3, qa4, qa5, qa6, qa7, qa8, qa9, qaA, qaB, qaC, qaD] at hc105'
    refine rc_skip ?_
    refine pn_seq ?_
    refine rc_seq ?_
    refine rc_region ?_
    refine rd_op (v := nilS) (ov_move rfl) ?_
    refine rd_nil ?_
    refine pn_seq ?_
    refine rc_seq ?_
    refine rc_region ?_
    refine rd_op (ov_move rfl) ?_
    refine rd_op (ov_bin rfl rfl i_add) ?_
    refine rd_op (ov_move rfl) ?_
    refine rd_nil ?_
    refine pn_seq ?_
    refine rc_seq ?_
    refine rc_seq ?_
    refine rc_region ?_
    refine rd_op (v := vi 0) (ov_move rfl) ?_
    refine rd_nil ?_
    refine pn_seq ?_
    refine rc_block ?_
    have M108 := mem_acc (sz := 1) (es := []) (Mem.nil ⟨0, []⟩) 3 (.inl ⟨none, rfl, rfl⟩) (by simp)
    refine rc_weak ?_ (ref13_check_L1_ok (x0 := x0) (x1 := x1) (x2 := x2) (rec_ := rec_) (mu_ := mu_) (y103 := y103) (v0 := v0) (v2 := v2)  (r0 := r0) (r2 := r2) (h0 := h0) (hb := hb) (ihR := ihR) (hmu := hmu) (hrec := hrec) (hc101 := hc101) (hw103 := hw103) (hc104 := hc104) (hc105 := hc105) ?_ (Int.toNat (y103 - 0)) (wr (x1 + 1)) 0 ([] : List Int) ([] : List PV) nilS (show All2 tI.R ([] : List Int) [] from trivial) rfl (.inl rfl) (by first | decide | simp) rfl (by omega) (by first | omega | simp | (rw [wr_of (by omega) (by omega)]; omega)) (by first | omega | simp | (rw [wr_of (by omega) (by omega)]; omega)) (by first | omega | simp | (rw [wr_of (by omega) (by omega)]; omega)) _ (Mem.sub M108 (.cons_cons _ .slnil)) hres)
    ·exact ((sub_cons rfl (sub_cons rfl (sub_cons rfl (sub_cons rfl (sub_cons rfl (sub_cons rfl (sub_cons rfl (sub_nil _)))))))))
    ·intro x13_116 zE109_116 es116E109 a116E109 q116E109 n116E109 wr116E109 hl116E109 po116_0 h116 M116 hres
     refine px_blk ?_
     refine pn_seq ?_
     refine rc_seq ?_
     refine rc_region ?_
     refine rd_op (ov_move rfl) ?_
     refine rd_op (ov_move rfl) ?_
     obtain ⟨v117, e117, r117⟩ := sl_idx (i := x1) r0 (by omega) (by omega)
     refine rd_op (ov_iaddr rfl rfl e117) ?_
     refine rd_op (ov_load rfl (TR.cnt api_ExprNode.t r117) (TR.agg api_ExprNode.t r117)) ?_
     refine rd_op (ov_move rfl) ?_
     obtain ⟨v119, d119, r119⟩ := own_sl (P := Try.prog) (k := 0) (t := tI) M116 rfl n116E109 q116E109 (Nat.le_trans hl116E109 (by decide))
     obtain ⟨y118, hw118, hres⟩ := let_ex hres
     have f118 := f40_ok  r117 r119 (by first | omega | (have hk := rar (by assumption); omega)) (by first | omega | (have hk := rar (by assumption); omega))
     rw [hw118] at f118
     refine rd_call (cv_lend rfl rfl (dl_cons (deep_closed (TR.clo api_ExprNode.t r117)) (dl_cons d119 dl_nil)) f118 rfl) ?_
     refine rd_op (ov_move rfl) ?_
     refine rd_op (ov_extract rfl rfl) ?_
     refine rd_op (ov_extract rfl rfl) ?_
     refine rd_op (ov_move rfl) ?_
     refine rd_op (ov_move rfl) ?_
     refine rd_nil ?_
     refine pn_seq ?_
     refine rc_seq ?_
     refine rc_region ?_
     refine rd_op (ov_move rfl) ?_
     refine rd_op (ov_move rfl) ?_
     refine rd_op (ov_move rfl) ?_
     refine rd_op (ov_move rfl) ?_
     refine rd_op (ov_move rfl) ?_
     refine rd_op (ov_move rfl) ?_
     refine rd_nil ?_
     refine pn_seq ?_
     subst hres
     exact rc_retV (.tmp rfl (.tmp rfl (.tmp rfl .nil))) (deep_closed (show closed (.tup _) = true from (clL_cons rfl (clL_cons rfl (clL_cons rfl clL_nil))))) rfl
theorem f22_okR : ∀ (n_ : Nat) {x0 : List api_ExprNode} {x1 : Int} {x2 : expr_Scope} {v0 : PV} {v2 : PV} (r0 : (tSl api_ExprNode.t).R x0 v0) (r2 : expr_Scope.t.R x2 v2) (h0 : 0 ≤ x1) (hb : x0.length ≤ 1000000), (x0.length - x1.toNat) < n_ → FnR Try.prog 22 [v0, vi x1, v2] (.tup [vi ((ref13_check_R n_ x0 x1 x2).1), vi ((ref13_check_R n_ x0 x1 x2).2.1), vi ((ref13_check_R n_ x0 x1 x2).2.2)]) := by
 intro n_
 induction n_ with
 | zero => intros; rename_i hlt; exact absurd hlt (Nat.not_lt_zero _)
 | succ n_ ihn =>
  intro x0 x1 x2 v0 v2 r0 r2 h0 hb hlt
  have e_ : ref13_check_R (n_ + 1) x0 x1 x2 = ref13_check_B (ref13_check_R n_) x0 x1 x2 := by rw [ref13_check_R]
  rw [e_]
  exact f22_okB r0 r2 h0 hb rfl (rcheck_next n_) (fun {z0} {z1} {z2} {zv0} {zv2} zr0 zr2 h0 hb hz => ihn zr0 zr2 h0 hb (by omega))
theorem f22_ok {x0 : List api_ExprNode} {x1 : Int} {x2 : expr_Scope} {v0 : PV} {v2 : PV} (r0 : (tSl api_ExprNode.t).R x0 v0) (r2 : expr_Scope.t.R x2 v2) (h0 : 0 ≤ x1) (hb : x0.length ≤ 1000000) : FnR Try.prog 22 [v0, vi x1, v2] (.tup [vi ((ref13_check x0 x1 x2).1), vi ((ref13_check x0 x1 x2).2.1), vi ((ref13_check x0 x1 x2).2.2)]) := f22_okR _ r0 r2 h0 hb (Nat.lt_succ_self _)

/-- patchbay/patchbayref13.Check -/
def RF8 (res : Int × Int) (r : PV) : Prop := r = .tup [vi res.1, vi res.2]
theorem f8_ok {x0 : List api_ExprNode} {x1 : expr_Scope} {v0 : PV} {v1 : PV} (r0 : (tSl api_ExprNode.t).R x0 v0) (r1 : expr_Scope.t.R x1 v1) : FnR Try.prog 8 [v0, v1] (.tup [vi ((ref13_Check x0 x1).1), vi ((ref13_Check x0 x1).2)]) := by
 obtain ⟨res, hres⟩ : ∃ res, ref13_Check x0 x1 = res := ⟨_, rfl⟩
 suffices H : RC Try.prog ac8 [] (QR Try.prog [(4, none), (5, none)] (RF8 res)) (argE 0 [v0, v1]) ⟨0, []⟩ by
  obtain ⟨r, h1, h2⟩ := fnE text8 (by simp) H
  rw [hres]
  have h2 : r = .tup [vi res.1, vi res.2] := h2
  rw [← h2]; exact h1
 unfold ref13_Check at hres
 unfold ac8
 refine rc_seq ?_
 refine rc_region ?_
 refine rd_op (ov_box rfl (TR.cnt expr_Scope.t r1)) ?_
 refine rd_op (v := vi 0) (ov_move rfl) ?_
 refine rd_op (v := vi 0) (ov_move rfl) ?_
 refine rd_nil ?_
 refine pn_seq ?_
 refine rc_seq ?_
 refine rc_seq ?_
 refine rc_region ?_
 refine rd_op (ov_move rfl) ?_
 refine rd_op (ov_bi rfl (sl_len r0 Try.underlying32 _)) ?_
 refine rd_op (ov_bin rfl rfl i_gtr) ?_
 refine rd_nil ?_
 refine pn_seq ?_
 refine rc_cond rfl (fun hc101 => ?_) (fun hc101 => ?_)
 ·replace hres := (ite_t hc101).symm.trans hres
  have hc101' := hc101
  try simp only [qa1, qa2, qa3, qa4, qa5, qa6, qa7, qa8, qa9, qaA, qaB, qaC, qaD] at hc101'
  refine rc_seq ?_
  refine rc_region ?_
  refine rd_op (v := vi 0) (ov_move rfl) ?_
  refine rd_op (v := vi 12) (ov_move rfl) ?_
  refine rd_nil ?_
  refine pn_seq ?_
  subst hres
  exact rc_retV (.tmp rfl (.tmp rfl .nil)) (deep_closed (show closed (.tup _) = true from (clL_cons rfl (clL_cons rfl clL_nil)))) rfl
 ·replace hres := (ite_f hc101).symm.trans hres
  have hc101' := hc101
  try simp only [qa1, qa2, qa3, qa4, qa5, qa6, qa7, qa8, qa9, qaA, qaB, qaC, qaD] at hc101'
  refine rc_skip ?_
  refine pn_seq ?_
  refine rc_seq ?_
  refine rc_region ?_
  refine rd_op (ov_move rfl) ?_
  refine rd_op (ov_load rfl (TR.cnt expr_Scope.t r1) (TR.agg expr_Scope.t r1)) ?_
  obtain ⟨y102, hw102, hres⟩ := let_ex hres
  have f102 := f22_ok (x1 := 0) r0 r1 (by first | assumption | omega | (rw [wr_of (by omega) (by omega)]; omega)) (by first | assumption | omega | (rw [wr_of (by omega) (by omega)]; omega))
  rw [hw102] at f102
  refine rd_call (cv_fn rfl rfl (clL_cons (TR.clo (tSl api_ExprNode.t) r0) (clL_cons rfl (clL_cons (TR.clo expr_Scope.t r1) clL_nil))) f102) ?_
  refine rd_op (ov_move rfl) ?_
  refine rd_op (ov_extract rfl rfl) ?_
  refine rd_op (ov_extract rfl rfl) ?_
  refine rd_op (ov_extract rfl rfl) ?_
  refine rd_op (ov_move rfl) ?_
  refine rd_op (ov_move rfl) ?_
  refine rd_op (ov_move rfl) ?_
  refine rd_nil ?_
  refine pn_seq ?_
  refine rc_seq ?_
  refine rc_block ?_
  refine rc_seq ?_
  refine rc_region ?_
  refine rd_op (ov_move rfl) ?_
  refine rd_op (ov_bin rfl rfl i_neq) ?_
  refine rd_op (ov_move rfl) ?_
  refine rd_nil ?_
  refine pn_seq ?_
  refine rc_cond rfl (fun hc103 => ?_) (fun hc103 => ?_)
  ·replace hres := (ite_t hc103).symm.trans hres
   have hc103' := hc103
   try simp only [qa1, qa2, qa3, qa4, qa5, qa6, qa7, qa8, qa9, qaA, qaB, qaC, qaD] at hc103'
   refine rc_seq ?_
   refine rc_region ?_
   refine rd_op (ov_move rfl) ?_
   refine rd_op (v := vi 0) (ov_move rfl) ?_
   refine rd_op (ov_move rfl) ?_
   refine rd_nil ?_
   refine pn_seq ?_
   subst hres
   exact rc_retV (.tmp rfl (.tmp rfl .nil)) (deep_closed (show closed (.tup _) = true from (clL_cons rfl (clL_cons rfl clL_nil)))) rfl
  ·replace hres := (ite_f hc103).symm.trans hres
   have hc103' := hc103
   try simp only [qa1, qa2, qa3, qa4, qa5, qa6, qa7, qa8, qa9, qaA, qaB, qaC, qaD] at hc103'
   refine rc_seq ?_
   refine rc_region ?_
   refine rd_op (ov_move rfl) ?_
   refine rd_op (ov_move rfl) ?_
   refine rd_op (ov_bi rfl (sl_len r0 Try.underlying32 _)) ?_
   refine rd_op (ov_bin rfl rfl i_lss) ?_
   refine rd_op (ov_move rfl) ?_
   refine rd_nil ?_
   refine pn_seq ?_
   refine rc_cond rfl (fun hc104 => ?_) (fun hc104 => ?_)
   ·replace hres := (ite_t hc104).symm.trans hres
    have hc104' := hc104
    try simp only [qa1, qa2, qa3, qa4, qa5, qa6, qa7, qa8, qa9, qaA, qaB, qaC, qaD] at hc104'
    refine rc_seq ?_
    refine rc_region ?_
    refine rd_op (v := vi 0) (ov_move rfl) ?_
    refine rd_op (v := vi 4) (ov_move rfl) ?_
    refine rd_nil ?_
    refine pn_seq ?_
    subst hres
    exact rc_retV (.tmp rfl (.tmp rfl .nil)) (deep_closed (show closed (.tup _) = true from (clL_cons rfl (clL_cons rfl clL_nil)))) rfl
   ·replace hres := (ite_f hc104).symm.trans hres
    have hc104' := hc104
    try simp only [qa1, qa2, qa3, qa4, qa5, qa6, qa7, qa8, qa9, qaA, qaB, qaC, qaD] at hc104'
    refine rc_skip ?_
    refine pn_blk ?_
    refine pn_seq ?_
    refine rc_seq ?_
    refine rc_region ?_
    refine rd_op (ov_move rfl) ?_
    refine rd_op (ov_move rfl) ?_
    refine rd_op (v := vi 0) (ov_move rfl) ?_
    refine rd_nil ?_
    refine pn_seq ?_
    subst hres
    exact rc_retV (.tmp rfl (.tmp rfl .nil)) (deep_closed (show closed (.tup _) = true from (clL_cons rfl (clL_cons rfl clL_nil)))) rfl

/-- patchbay/expr.End -/
def RF9 (res : Int) (r : PV) : Prop := r = vi res
theorem expr_End_L1_ok {S : List Fr} {res : Int} {x0 : List api_ExprNode} {x1 : Int} {v0 : PV} (r0 : (tSl api_ExprNode.t).R x0 v0) (hb : x0.length ≤ 1000000) (hc102 : ((decide (x1 < 0)) || (decide ((x0.length : Int) ≤ x1))) = false) {K0 : Int → Int}
  (hK0 : ∀ (x1_ : Int), K0 x1_ = res → PX Try.prog 0 S (QR Try.prog [(4, none)] (RF9 res)) [(1, vi x1_)] ⟨0, []⟩) :
  ∀ (m : Nat) (x1_ : Int) (x5_ : Int) (hm1 : (x0.length : Int) - x1_ + 1 ≤ (m : Int)) (iv1_0 : 0 ≤ x1_) (iv1_1 : x1_ ≤ (x0.length : Int)), expr_End_L1 x0 K0 m x1_ x5_ = res → RC Try.prog (.loop ac9_L1) S (QR Try.prog [(4, none)] (RF9 res)) [(5, vi x5_), (1, vi x1_), (0, v0)] ⟨0, []⟩ := by
 have hb' := hb
 try simp only [qa1, qa2, qa3, qa4, qa5, qa6, qa7, qa8, qa9, qaA, qaB, qaC, qaD] at hb'
 have hc102' := hc102
 try simp only [qa1, qa2, qa3, qa4, qa5, qa6, qa7, qa8, qa9, qaA, qaB, qaC, qaD] at hc102'
 intro m
 induction m with
 | zero =>
  intro x1_ x5_ hm1 iv1_0 iv1_1 hres
  rw [expr_End_L1] at hres
  refine rc_loop ?_
  unfold ac9_L1
  refine rc_seq ?_
  refine rc_seq ?_
  refine rc_region ?_
  refine rd_op (ov_move rfl) ?_
  refine rd_op (ov_bin rfl rfl i_gtr) ?_
  refine rd_nil ?_
  refine pn_seq ?_
  refine rc_cond rfl (fun hc103 => ?_) (fun hc103 => ?_)
  ·exfalso
   try simp only [qa1, qa2, qa3, qa4, qa5, qa6, qa7, qa8, qa9, qaA, qaB, qaC, qaD] at hc103
   omega
  ·have hend := hres
   have hc103' := hc103
   try simp only [qa1, qa2, qa3, qa4, qa5, qa6, qa7, qa8, qa9, qaA, qaB, qaC, qaD] at hc103'
   refine rc_exit ?_
   refine px_seq ?_
   refine px_again ?_
   exact px_weak ((sub_cons rfl (sub_nil _))) (hK0 x1_ hres)
 | succ m ih =>
  intro x1_ x5_ hm1 iv1_0 iv1_1 hres
  rw [expr_End_L1] at hres
  refine rc_loop ?_
  unfold ac9_L1
  refine rc_seq ?_
  refine rc_seq ?_
  refine rc_region ?_
  refine rd_op (ov_move rfl) ?_
  refine rd_op (ov_bin rfl rfl i_gtr) ?_
  refine rd_nil ?_
  refine pn_seq ?_
  refine rc_cond rfl (fun hc104 => ?_) (fun hc104 => ?_)
  ·replace hres := (ite_t hc104).symm.trans hres
   have hc104' := hc104
   try simp only [qa1, qa2, qa3, qa4, qa5, qa6, qa7, qa8, qa9, qaA, qaB, qaC, qaD] at hc104'
   refine rc_skip ?_
   refine pn_seq ?_
   refine rc_seq ?_
   refine rc_block ?_
   refine rc_seq ?_
   refine rc_seq ?_
   refine rc_region ?_
   refine rd_op (ov_move rfl) ?_
   refine rd_op (ov_move rfl) ?_
   refine rd_op (ov_bi rfl (sl_len r0 Try.underlying32 _)) ?_
   refine rd_op (ov_bin rfl rfl i_geq) ?_
   refine rd_nil ?_
   refine pn_seq ?_
   refine rc_cond rfl (fun hc105 => ?_) (fun hc105 => ?_)
   ·replace hres := (ite_t hc105).symm.trans hres
    have hc105' := hc105
    try simp only [qa1, qa2, qa3, qa4, qa5, qa6, qa7, qa8, qa9, qaA, qaB, qaC, qaD] at hc105'
    refine rc_seq ?_
    refine rc_region ?_
    refine rd_op (v := vi (-1)) (ov_move rfl) ?_
    refine rd_nil ?_
    refine pn_seq ?_
    subst hres
    exact rc_retV (.tmp rfl .nil) (deep_closed rfl) rfl
   ·replace hres := (ite_f hc105).symm.trans hres
    have hc105' := hc105
    try simp only [qa1, qa2, qa3, qa4, qa5, qa6, qa7, qa8, qa9, qaA, qaB, qaC, qaD] at hc105'
    refine rc_skip ?_
    refine pn_seq ?_
    refine rc_seq ?_
    refine rc_region ?_
    refine rd_op (ov_move rfl) ?_
    refine rd_op (ov_move rfl) ?_
    obtain ⟨v106, e106, r106⟩ := sl_idx (i := x1_) r0 (by omega) (by omega)
    refine rd_op (ov_iaddr rfl rfl e106) ?_
    refine rd_op (ov_faddr rfl (api_ExprNode.g_Op r106)) ?_
    refine rd_op (ov_load rfl rfl rfl) ?_
    obtain ⟨y107, hw107, hres⟩ := let_ex hres
    have f107 := f23_ok (x0 := (ix x0 x1_).Op)  
    rw [hw107] at f107
    refine rd_call (cv_fn rfl rfl (clL_cons rfl clL_nil) f107) ?_
    refine rd_op (ov_move rfl) ?_
    refine rd_nil ?_
    refine pn_seq ?_
    refine rc_seq ?_
    refine rc_seq ?_
    refine rc_region ?_
    refine rd_op (ov_move rfl) ?_
    refine rd_op (ov_bin rfl rfl i_lss) ?_
    refine rd_nil ?_
    refine pn_seq ?_
    refine rc_cond rfl (fun hc108 => ?_) (fun hc108 => ?_)
    ·replace hres := (ite_t hc108).symm.trans hres
     have hc108' := hc108
     try simp only [qa1, qa2, qa3, qa4, qa5, qa6, qa7, qa8, qa9, qaA, qaB, qaC, qaD] at hc108'
     refine rc_seq ?_
     refine rc_region ?_
     refine rd_op (v := vi (-1)) (ov_move rfl) ?_
     refine rd_nil ?_
     refine pn_seq ?_
     subst hres
     exact rc_retV (.tmp rfl .nil) (deep_closed rfl) rfl
    ·replace hres := (ite_f hc108).symm.trans hres
     have hc108' := hc108
     try simp only [qa1, qa2, qa3, qa4, qa5, qa6, qa7, qa8, qa9, qaA, qaB, qaC, qaD] at hc108'
     refine rc_skip ?_
     refine pn_seq ?_
     refine rc_region ?_
     refine rd_op (ov_move rfl) ?_
     refine rd_op (ov_move rfl) ?_
     refine rd_op (ov_bin rfl rfl i_sub) ?_
     refine rd_op (ov_bin rfl rfl i_add) ?_
     refine rd_op (ov_move rfl) ?_
     refine rd_nil ?_
     refine pn_blk ?_
     refine pn_seq ?_
     refine rc_region ?_
     refine rd_op (ov_move rfl) ?_
     refine rd_op (ov_bin rfl rfl i_add) ?_
     refine rd_op (ov_move rfl) ?_
     refine rd_nil ?_
     refine pn_again ?_
     refine rc_weak ?_ (ih (wr (x1_ + 1)) (wr (x5_ + (wr (y107 - 1))))  (by (rw [wr_of (by omega) (by omega)]; omega)) (by first | omega | (rw [wr_of (by omega) (by omega)]; omega)) (by first | omega | (rw [wr_of (by omega) (by omega)]; omega)) hres)
     exact ((sub_cons rfl (sub_cons rfl (sub_cons rfl (sub_nil _)))))
  ·replace hres := (ite_f hc104).symm.trans hres
   have hc104' := hc104
   try simp only [qa1, qa2, qa3, qa4, qa5, qa6, qa7, qa8, qa9, qaA, qaB, qaC, qaD] at hc104'
   refine rc_exit ?_
   refine px_seq ?_
   refine px_again ?_
   exact px_weak ((sub_cons rfl (sub_nil _))) (hK0 x1_ hres)

theorem f9_ok {x0 : List api_ExprNode} {x1 : Int} {v0 : PV} (r0 : (tSl api_ExprNode.t).R x0 v0) (hb : x0.length ≤ 1000000) : FnR Try.prog 9 [v0, vi x1] (vi (expr_End x0 x1)) := by
 obtain ⟨res, hres⟩ : ∃ res, expr_End x0 x1 = res := ⟨_, rfl⟩
 suffices H : RC Try.prog ac9 [] (QR Try.prog [(4, none)] (RF9 res)) (argE 0 [v0, vi x1]) ⟨0, []⟩ by
  obtain ⟨r, h1, h2⟩ := fnE text9 (by simp) H
  rw [hres]
  have h2 : r = vi res := h2
  rw [← h2]; exact h1
 unfold expr_End at hres
 unfold ac9
 refine rc_seq ?_
 refine rc_region ?_
 refine rd_op (v := vi 0) (ov_move rfl) ?_
 refine rd_nil ?_
 refine pn_seq ?_
 refine rc_seq ?_
 refine rc_seq ?_
 refine rc_region ?_
 refine rd_op (ov_move rfl) ?_
 refine rd_op (ov_bin rfl rfl i_lss) ?_
 refine rd_op (ov_move rfl) ?_
 refine rd_cut (d := 14) (v := vb ((decide (x1 < 0)) || (decide ((x0.length : Int) ≤ x1)))) ?_ ?_
 ·intro S Q r
  simp only [ac9_G1, List.cons_append, List.nil_append, List.append_assoc]
  cases hb101 : (decide (x1 < 0))
  ·intro k
   have hb101' := hb101
   try simp only [qa1, qa2, qa3, qa4, qa5, qa6, qa7, qa8, qa9, qaA, qaB, qaC, qaD] at hb101'
   refine rd_yes rfl rfl (ov_move rfl) ?_
   refine rd_yes rfl rfl (ov_move rfl) ?_
   refine rd_yes rfl rfl (ov_bi rfl (sl_len r0 Try.underlying32 _)) ?_
   refine rd_yes rfl rfl (ov_bin rfl rfl i_geq) ?_
   refine rd_op (v := vb (decide ((x0.length : Int) ≤ x1))) (ov_pick rfl rfl rfl rfl) ?_
   exact rd_weak (sub_cons rfl (sub_skip rfl (sub_skip rfl (sub_skip rfl (sub_skip rfl (sub_skip rfl (sub_refl _))))))) k
  ·intro k
   refine rd_skip rfl rfl ?_
   refine rd_skip rfl rfl ?_
   refine rd_skip rfl rfl ?_
   refine rd_skip rfl rfl ?_
   refine rd_op (v := vb true) (ov_pick rfl rfl rfl rfl) ?_
   exact rd_weak (sub_cons rfl (sub_skip rfl (sub_skip rfl (sub_skip rfl (sub_skip rfl (sub_skip rfl (sub_refl _))))))) k
 refine rd_nil ?_
 refine pn_seq ?_
 refine rc_cond rfl (fun hc102 => ?_) (fun hc102 => ?_)
 ·replace hres := (ite_t hc102).symm.trans hres
  have hc102' := hc102
  try simp only [qa1, qa2, qa3, qa4, qa5, qa6, qa7, qa8, qa9, qaA, qaB, qaC, qaD] at hc102'
  refine rc_seq ?_
  refine rc_region ?_
  refine rd_op (v := vi (-1)) (ov_move rfl) ?_
  refine rd_nil ?_
  refine pn_seq ?_
  subst hres
  exact rc_retV (.tmp rfl .nil) (deep_closed rfl) rfl
 ·replace hres := (ite_f hc102).symm.trans hres
  have hc102' := hc102
  try simp only [qa1, qa2, qa3, qa4, qa5, qa6, qa7, qa8, qa9, qaA, qaB, qaC, qaD] at hc102'
  refine rc_skip ?_
  refine pn_seq ?_
  refine rc_seq ?_
  refine rc_seq ?_
  refine rc_region ?_
  refine rd_op (v := vi 1) (ov_move rfl) ?_
  refine rd_nil ?_
  refine pn_seq ?_
  refine rc_block ?_
  refine rc_weak ?_ (expr_End_L1_ok (x0 := x0) (x1 := x1) (v0 := v0)  (r0 := r0) (hb := hb) (hc102 := hc102) ?_ (Int.toNat ((x0.length : Int) - x1 + 1)) x1 1 (by omega) (by first | omega | (simp; done) | (simp only [List.length_append, List.length_cons, List.length_nil, List.length_set]; omega)) (by first | omega | (simp; done) | (simp only [List.length_append, List.length_cons, List.length_nil, List.length_set]; omega)) hres)
  ·exact ((sub_cons rfl (sub_cons rfl (sub_cons rfl (sub_nil _)))))
  ·intro x1_109 hres
   refine px_blk ?_
   refine pn_seq ?_
   refine rc_seq ?_
   refine rc_region ?_
   refine rd_op (ov_move rfl) ?_
   refine rd_op (ov_move rfl) ?_
   refine rd_nil ?_
   refine pn_seq ?_
   subst hres
   exact rc_retV (.tmp rfl .nil) (deep_closed rfl) rfl

/-- patchbay/patchbayref13.End -/
def RF10 (res : Int) (r : PV) : Prop := r = vi res
theorem ref13_End_L1_ok {S : List Fr} {res : Int} {x0 : List api_ExprNode} {x1 : Int} {v0 : PV} (r0 : (tSl api_ExprNode.t).R x0 v0) (hc102 : ((decide (x1 < 0)) || (decide ((x0.length : Int) ≤ x1))) = false) {K0 : Unit → Int}
  (hK0 : K0 () = res → PX Try.prog 0 S (QR Try.prog [(4, none)] (RF10 res)) [] ⟨0, []⟩) :
  ∀ (m : Nat) (x5_ : Int) (x6_ : Int) (hm1 : m = Int.toNat ((x0.length : Int) - x6_)) (hlo1 : 0 ≤ x6_), ref13_End_L1 x0 K0 m x5_ x6_ = res → RC Try.prog (.loop ac10_L1) S (QR Try.prog [(4, none)] (RF10 res)) [(6, vi x6_), (5, vi x5_), (0, v0)] ⟨0, []⟩ := by
 have hc102' := hc102
 try simp only [qa1, qa2, qa3, qa4, qa5, qa6, qa7, qa8, qa9, qaA, qaB, qaC, qaD] at hc102'
 intro m
 induction m with
 | zero =>
  intro x5_ x6_ hm1 hlo1 hres
  rw [ref13_End_L1] at hres
  refine rc_loop ?_
  unfold ac10_L1
  refine rc_seq ?_
  refine rc_seq ?_
  refine rc_region ?_
  refine rd_op (ov_move rfl) ?_
  refine rd_op (ov_move rfl) ?_
  refine rd_op (ov_bi rfl (sl_len r0 Try.underlying32 _)) ?_
  refine rd_op (ov_bin rfl rfl i_lss) ?_
  refine rd_nil ?_
  refine pn_seq ?_
  refine rc_cond rfl (fun hc103 => ?_) (fun hc103 => ?_)
  ·exfalso
   try simp only [qa1, qa2, qa3, qa4, qa5, qa6, qa7, qa8, qa9, qaA, qaB, qaC, qaD] at hc103
   omega
  ·have hend := hres
   have hc103' := hc103
   try simp only [qa1, qa2, qa3, qa4, qa5, qa6, qa7, qa8, qa9, qaA, qaB, qaC, qaD] at hc103'
   refine rc_exit ?_
   refine px_seq ?_
   refine px_again ?_
   exact px_weak ((sub_nil _)) (hK0  hres)
 | succ m ih =>
  intro x5_ x6_ hm1 hlo1 hres
  rw [ref13_End_L1] at hres
  refine rc_loop ?_
  unfold ac10_L1
  refine rc_seq ?_
  refine rc_seq ?_
  refine rc_region ?_
  refine rd_op (ov_move rfl) ?_
  refine rd_op (ov_move rfl) ?_
  refine rd_op (ov_bi rfl (sl_len r0 Try.underlying32 _)) ?_
  refine rd_op (ov_bin rfl rfl i_lss) ?_
  refine rd_nil ?_
  refine pn_seq ?_
  refine rc_cond rfl (fun hc104 => ?_) (fun hc104 => ?_)
  ·have hgo := hres
   have hc104' := hc104
   try simp only [qa1, qa2, qa3, qa4, qa5, qa6, qa7, qa8, qa9, qaA, qaB, qaC, qaD] at hc104'
   refine rc_skip ?_
   refine pn_seq ?_
   refine rc_seq ?_
   refine rc_block ?_
   refine rc_seq ?_
   refine rc_region ?_
   refine rd_op (ov_move rfl) ?_
   refine rd_op (ov_move rfl) ?_
   obtain ⟨v105, e105, r105⟩ := sl_idx (i := x6_) r0 (by omega) (by omega)
   refine rd_op (ov_iaddr rfl rfl e105) ?_
   refine rd_op (ov_faddr rfl (api_ExprNode.g_Op r105)) ?_
   refine rd_op (ov_load rfl rfl rfl) ?_
   obtain ⟨y106, hw106, hres⟩ := let_ex hres
   have f106 := f24_ok (x0 := (ix x0 x6_).Op)  
   rw [hw106] at f106
   refine rd_call (cv_fn rfl rfl (clL_cons rfl clL_nil) f106) ?_
   refine rd_op (ov_move rfl) ?_
   refine rd_nil ?_
   refine pn_seq ?_
   refine rc_seq ?_
   refine rc_seq ?_
   refine rc_region ?_
   refine rd_op (ov_move rfl) ?_
   refine rd_op (ov_bin rfl rfl i_lss) ?_
   refine rd_nil ?_
   refine pn_seq ?_
   refine rc_cond rfl (fun hc107 => ?_) (fun hc107 => ?_)
   ·replace hres := (ite_t hc107).symm.trans hres
    have hc107' := hc107
    try simp only [qa1, qa2, qa3, qa4, qa5, qa6, qa7, qa8, qa9, qaA, qaB, qaC, qaD] at hc107'
    refine rc_seq ?_
    refine rc_region ?_
    refine rd_op (v := vi (-1)) (ov_move rfl) ?_
    refine rd_nil ?_
    refine pn_seq ?_
    subst hres
    exact rc_retV (.tmp rfl .nil) (deep_closed rfl) rfl
   ·replace hres := (ite_f hc107).symm.trans hres
    have hc107' := hc107
    try simp only [qa1, qa2, qa3, qa4, qa5, qa6, qa7, qa8, qa9, qaA, qaB, qaC, qaD] at hc107'
    refine rc_skip ?_
    refine pn_seq ?_
    refine rc_seq ?_
    refine rc_region ?_
    refine rd_op (ov_move rfl) ?_
    refine rd_op (ov_move rfl) ?_
    refine rd_op (ov_bin rfl rfl i_sub) ?_
    refine rd_op (ov_bin rfl rfl i_add) ?_
    refine rd_op (ov_move rfl) ?_
    refine rd_nil ?_
    refine pn_seq ?_
    refine rc_seq ?_
    refine rc_region ?_
    refine rd_op (ov_move rfl) ?_
    refine rd_op (ov_bin rfl rfl i_eql) ?_
    refine rd_nil ?_
    refine pn_seq ?_
    refine rc_cond rfl (fun hc108 => ?_) (fun hc108 => ?_)
    ·replace hres := (ite_t hc108).symm.trans hres
     have hc108' := hc108
     try simp only [qa1, qa2, qa3, qa4, qa5, qa6, qa7, qa8, qa9, qaA, qaB, qaC, qaD] at hc108'
     refine rc_seq ?_
     refine rc_region ?_
     refine rd_op (ov_move rfl) ?_
     refine rd_op (ov_bin rfl rfl i_add) ?_
     refine rd_op (ov_move rfl) ?_
     refine rd_nil ?_
     refine pn_seq ?_
     subst hres
     exact rc_retV (.tmp rfl .nil) (deep_closed rfl) rfl
    ·replace hres := (ite_f hc108).symm.trans hres
     have hc108' := hc108
     try simp only [qa1, qa2, qa3, qa4, qa5, qa6, qa7, qa8, qa9, qaA, qaB, qaC, qaD] at hc108'
     refine rc_skip ?_
     refine pn_blk ?_
     refine pn_seq ?_
     refine rc_region ?_
     refine rd_op (ov_move rfl) ?_
     refine rd_op (ov_bin rfl rfl i_add) ?_
     refine rd_op (ov_move rfl) ?_
     refine rd_nil ?_
     refine pn_again ?_
     have hbd := sl_bound r0
     have hinc : wr (x6_ + 1) = x6_ + 1 := wr_of (by omega) (by omega)
     rw [hinc]
     refine rc_weak ?_ (ih (wr (x5_ + (wr (y106 - 1)))) (x6_ + 1)  (by omega) (by omega) hres)
     exact ((sub_cons rfl (sub_cons rfl (sub_cons rfl (sub_nil _)))))
  ·exfalso
   try simp only [qa1, qa2, qa3, qa4, qa5, qa6, qa7, qa8, qa9, qaA, qaB, qaC, qaD] at hc104
   omega

theorem f10_ok {x0 : List api_ExprNode} {x1 : Int} {v0 : PV} (r0 : (tSl api_ExprNode.t).R x0 v0) : FnR Try.prog 10 [v0, vi x1] (vi (ref13_End x0 x1)) := by
 obtain ⟨res, hres⟩ : ∃ res, ref13_End x0 x1 = res := ⟨_, rfl⟩
 suffices H : RC Try.prog ac10 [] (QR Try.prog [(4, none)] (RF10 res)) (argE 0 [v0, vi x1]) ⟨0, []⟩ by
  obtain ⟨r, h1, h2⟩ := fnE text10 (by simp) H
  rw [hres]
  have h2 : r = vi res := h2
  rw [← h2]; exact h1
 unfold ref13_End at hres
 unfold ac10
 refine rc_seq ?_
 refine rc_region ?_
 refine rd_op (v := vi 0) (ov_move rfl) ?_
 refine rd_nil ?_
 refine pn_seq ?_
 refine rc_seq ?_
 refine rc_seq ?_
 refine rc_region ?_
 refine rd_op (ov_move rfl) ?_
 refine rd_op (ov_bin rfl rfl i_lss) ?_
 refine rd_op (ov_move rfl) ?_
 refine rd_cut (d := 15) (v := vb ((decide (x1 < 0)) || (decide ((x0.length : Int) ≤ x1)))) ?_ ?_
 ·intro S Q r
  simp only [ac10_G1, List.cons_append, List.nil_append, List.append_assoc]
  cases hb101 : (decide (x1 < 0))
  ·intro k
   have hb101' := hb101
   try simp only [qa1, qa2, qa3, qa4, qa5, qa6, qa7, qa8, qa9, qaA, qaB, qaC, qaD] at hb101'
   refine rd_yes rfl rfl (ov_move rfl) ?_
   refine rd_yes rfl rfl (ov_move rfl) ?_
   refine rd_yes rfl rfl (ov_bi rfl (sl_len r0 Try.underlying32 _)) ?_
   refine rd_yes rfl rfl (ov_bin rfl rfl i_geq) ?_
   refine rd_op (v := vb (decide ((x0.length : Int) ≤ x1))) (ov_pick rfl rfl rfl rfl) ?_
   exact rd_weak (sub_cons rfl (sub_skip rfl (sub_skip rfl (sub_skip rfl (sub_skip rfl (sub_skip rfl (sub_refl _))))))) k
  ·intro k
   refine rd_skip rfl rfl ?_
   refine rd_skip rfl rfl ?_
   refine rd_skip rfl rfl ?_
   refine rd_skip rfl rfl ?_
   refine rd_op (v := vb true) (ov_pick rfl rfl rfl rfl) ?_
   exact rd_weak (sub_cons rfl (sub_skip rfl (sub_skip rfl (sub_skip rfl (sub_skip rfl (sub_skip rfl (sub_refl _))))))) k
 refine rd_nil ?_
 refine pn_seq ?_
 refine rc_cond rfl (fun hc102 => ?_) (fun hc102 => ?_)
 ·replace hres := (ite_t hc102).symm.trans hres
  have hc102' := hc102
  try simp only [qa1, qa2, qa3, qa4, qa5, qa6, qa7, qa8, qa9, qaA, qaB, qaC, qaD] at hc102'
  refine rc_seq ?_
  refine rc_region ?_
  refine rd_op (v := vi (-1)) (ov_move rfl) ?_
  refine rd_nil ?_
  refine pn_seq ?_
  subst hres
  exact rc_retV (.tmp rfl .nil) (deep_closed rfl) rfl
 ·replace hres := (ite_f hc102).symm.trans hres
  have hc102' := hc102
  try simp only [qa1, qa2, qa3, qa4, qa5, qa6, qa7, qa8, qa9, qaA, qaB, qaC, qaD] at hc102'
  refine rc_skip ?_
  refine pn_seq ?_
  refine rc_seq ?_
  refine rc_region ?_
  refine rd_op (v := vi 1) (ov_move rfl) ?_
  refine rd_nil ?_
  refine pn_seq ?_
  refine rc_seq ?_
  refine rc_seq ?_
  refine rc_region ?_
  refine rd_op (ov_move rfl) ?_
  refine rd_op (ov_move rfl) ?_
  refine rd_nil ?_
  refine pn_seq ?_
  refine rc_block ?_
  refine rc_weak ?_ (ref13_End_L1_ok (x0 := x0) (x1 := x1) (v0 := v0)  (r0 := r0) (hc102 := hc102) ?_ (Int.toNat ((x0.length : Int) - x1)) 1 x1 rfl (by omega) hres)
  ·exact ((sub_cons rfl (sub_cons rfl (sub_cons rfl (sub_nil _)))))
  ·intro  hres
   refine px_blk ?_
   refine pn_seq ?_
   refine rc_seq ?_
   refine rc_region ?_
   refine rd_op (v := vi (-1)) (ov_move rfl) ?_
   refine rd_nil ?_
   refine pn_seq ?_
   subst hres
   exact rc_retV (.tmp rfl .nil) (deep_closed rfl) rfl

/-- cmp.isNaN[int] -/
def RF43 (res : Bool) (r : PV) : Prop := r = vb res
theorem f43_ok {x0 : Int} : FnR Try.prog 43 [vi x0] (vb (cmp_isNaN_int x0)) := by
 obtain ⟨res, hres⟩ : ∃ res, cmp_isNaN_int x0 = res := ⟨_, rfl⟩
 suffices H : RC Try.prog ac43 [] (QR Try.prog [(2, none)] (RF43 res)) (argE 0 [vi x0]) ⟨0, []⟩ by
  obtain ⟨r, h1, h2⟩ := fnE text43 (by simp) H
  rw [hres]
  have h2 : r = vb res := h2
  rw [← h2]; exact h1
 unfold cmp_isNaN_int at hres
 unfold ac43
 refine rc_seq ?_
 refine rc_region ?_
 refine rd_op (v := vb false) (ov_move rfl) ?_
 refine rd_nil ?_
 refine pn_seq ?_
 refine rc_seq ?_
 refine rc_region ?_
 refine rd_op (ov_move rfl) ?_
 refine rd_op (ov_move rfl) ?_
 refine rd_op (ov_bin rfl rfl i_neq) ?_
 refine rd_op (ov_move rfl) ?_
 refine rd_nil ?_
 refine pn_seq ?_
 subst hres
 exact rc_retV (.tmp rfl .nil) (deep_closed rfl) rfl

/-- cmp.Compare[int] -/
def RF28 (res : Int) (r : PV) : Prop := r = vi res
theorem f28_ok {x0 : Int} {x1 : Int} : FnR Try.prog 28 [vi x0, vi x1] (vi (cmp_Compare_int x0 x1)) := by
 obtain ⟨res, hres⟩ : ∃ res, cmp_Compare_int x0 x1 = res := ⟨_, rfl⟩
 suffices H : RC Try.prog ac28 [] (QR Try.prog [(4, none)] (RF28 res)) (argE 0 [vi x0, vi x1]) ⟨0, []⟩ by
  obtain ⟨r, h1, h2⟩ := fnE text28 (by simp) H
  rw [hres]
  have h2 : r = vi res := h2
  rw [← h2]; exact h1
 unfold cmp_Compare_int at hres
 unfold ac28
 refine rc_seq ?_
 refine rc_region ?_
 refine rd_op (v := vi 0) (ov_move rfl) ?_
 refine rd_nil ?_
 refine pn_seq ?_
 refine rc_seq ?_
 refine rc_region ?_
 refine rd_op (ov_move rfl) ?_
 obtain ⟨y101, hw101, hres⟩ := let_ex hres
 have f101 := f43_ok (x0 := x0)  
 rw [hw101] at f101
 refine rd_call (cv_fn rfl rfl (clL_cons rfl clL_nil) f101) ?_
 refine rd_op (ov_move rfl) ?_
 refine rd_nil ?_
 refine pn_seq ?_
 refine rc_seq ?_
 refine rc_region ?_
 refine rd_op (ov_move rfl) ?_
 obtain ⟨y102, hw102, hres⟩ := let_ex hres
 have f102 := f43_ok (x0 := x1)  
 rw [hw102] at f102
 refine rd_call (cv_fn rfl rfl (clL_cons rfl clL_nil) f102) ?_
 refine rd_op (ov_move rfl) ?_
 refine rd_nil ?_
 refine pn_seq ?_
 refine rc_seq ?_
 refine rc_seq ?_
 refine rc_region ?_
 refine rd_op (ov_move rfl) ?_
 refine rd_nil ?_
 refine pn_seq ?_
 refine rc_cond rfl (fun hc103 => ?_) (fun hc103 => ?_)
 ·replace hres := (ite_t hc103).symm.trans hres
  have hc103' := hc103
  try simp only [qa1, qa2, qa3, qa4, qa5, qa6, qa7, qa8, qa9, qaA, qaB, qaC, qaD] at hc103'
  refine rc_seq ?_
  refine rc_seq ?_
  refine rc_region ?_
  refine rd_op (ov_move rfl) ?_
  refine rd_nil ?_
  refine pn_seq ?_
  refine rc_cond rfl (fun hc104 => ?_) (fun hc104 => ?_)
  ·replace hres := (ite_t hc104).symm.trans hres
   have hc104' := hc104
   try simp only [qa1, qa2, qa3, qa4, qa5, qa6, qa7, qa8, qa9, qaA, qaB, qaC, qaD] at hc104'
   refine rc_seq ?_
   refine rc_region ?_
   refine rd_op (v := vi 0) (ov_move rfl) ?_
   refine rd_nil ?_
   refine pn_seq ?_
   subst hres
   exact rc_retV (.tmp rfl .nil) (deep_closed rfl) rfl
  ·replace hres := (ite_f hc104).symm.trans hres
   have hc104' := hc104
   try simp only [qa1, qa2, qa3, qa4, qa5, qa6, qa7, qa8, qa9, qaA, qaB, qaC, qaD] at hc104'
   refine rc_skip ?_
   refine pn_seq ?_
   refine rc_seq ?_
   refine rc_region ?_
   refine rd_op (v := vi (-1)) (ov_move rfl) ?_
   refine rd_nil ?_
   refine pn_seq ?_
   subst hres
   exact rc_retV (.tmp rfl .nil) (deep_closed rfl) rfl
 ·replace hres := (ite_f hc103).symm.trans hres
  have hc103' := hc103
  try simp only [qa1, qa2, qa3, qa4, qa5, qa6, qa7, qa8, qa9, qaA, qaB, qaC, qaD] at hc103'
  refine rc_skip ?_
  refine pn_seq ?_
  refine rc_seq ?_
  refine rc_seq ?_
  refine rc_region ?_
  refine rd_op (ov_move rfl) ?_
  refine rd_nil ?_
  refine pn_seq ?_
  refine rc_cond rfl (fun hc105 => ?_) (fun hc105 => ?_)
  ·replace hres := (ite_t hc105).symm.trans hres
   have hc105' := hc105
   try simp only [qa1, qa2, qa3, qa4, qa5, qa6, qa7, qa8, qa9, qaA, qaB, qaC, qaD] at hc105'
   refine rc_seq ?_
   refine rc_region ?_
   refine rd_op (v := vi 1) (ov_move rfl) ?_
   refine rd_nil ?_
   refine pn_seq ?_
   subst hres
   exact rc_retV (.tmp rfl .nil) (deep_closed rfl) rfl
  ·replace hres := (ite_f hc105).symm.trans hres
   have hc105' := hc105
   try simp only [qa1, qa2, qa3, qa4, qa5, qa6, qa7, qa8, qa9, qaA, qaB, qaC, qaD] at hc105'
   refine rc_skip ?_
   refine pn_seq ?_
   refine rc_seq ?_
   refine rc_seq ?_
   refine rc_region ?_
   refine rd_op (ov_move rfl) ?_
   refine rd_op (ov_move rfl) ?_
   refine rd_op (ov_bin rfl rfl i_lss) ?_
   refine rd_nil ?_
   refine pn_seq ?_
   refine rc_cond rfl (fun hc106 => ?_) (fun hc106 => ?_)
   ·replace hres := (ite_t hc106).symm.trans hres
    have hc106' := hc106
    try simp only [qa1, qa2, qa3, qa4, qa5, qa6, qa7, qa8, qa9, qaA, qaB, qaC, qaD] at hc106'
    refine rc_seq ?_
    refine rc_region ?_
    refine rd_op (v := vi (-1)) (ov_move rfl) ?_
    refine rd_nil ?_
    refine pn_seq ?_
    subst hres
    exact rc_retV (.tmp rfl .nil) (deep_closed rfl) rfl
   ·replace hres := (ite_f hc106).symm.trans hres
    have hc106' := hc106
    try simp only [qa1, qa2, qa3, qa4, qa5, qa6, qa7, qa8, qa9, qaA, qaB, qaC, qaD] at hc106'
    refine rc_skip ?_
    refine pn_seq ?_
    refine rc_seq ?_
    refine rc_seq ?_
    refine rc_region ?_
    refine rd_op (ov_move rfl) ?_
    refine rd_op (ov_move rfl) ?_
    refine rd_op (ov_bin rfl rfl i_gtr) ?_
    refine rd_nil ?_
    refine pn_seq ?_
    refine rc_cond rfl (fun hc107 => ?_) (fun hc107 => ?_)
    ·replace hres := (ite_t hc107).symm.trans hres
     have hc107' := hc107
     try simp only [qa1, qa2, qa3, qa4, qa5, qa6, qa7, qa8, qa9, qaA, qaB, qaC, qaD] at hc107'
     refine rc_seq ?_
     refine rc_region ?_
     refine rd_op (v := vi 1) (ov_move rfl) ?_
     refine rd_nil ?_
     refine pn_seq ?_
     subst hres
     exact rc_retV (.tmp rfl .nil) (deep_closed rfl) rfl
    ·replace hres := (ite_f hc107).symm.trans hres
     have hc107' := hc107
     try simp only [qa1, qa2, qa3, qa4, qa5, qa6, qa7, qa8, qa9, qaA, qaB, qaC, qaD] at hc107'
     refine rc_skip ?_
     refine pn_seq ?_
     refine rc_seq ?_
     refine rc_region ?_
     refine rd_op (v := vi 0) (ov_move rfl) ?_
     refine rd_nil ?_
     refine pn_seq ?_
     subst hres
     exact rc_retV (.tmp rfl .nil) (deep_closed rfl) rfl

/-- cmp.Or[int] -/
def RF27 (res : Int) (r : PV) : Prop := r = vi res
theorem cmp_Or_int_L1_ok {S : List Fr} {res : Int} {x0 : List Int} {v0 : PV} (r0 : (tSl tI).R x0 v0) {K0 : Unit → Int}
  (hK0 : K0 () = res → PX Try.prog 0 S (QR Try.prog [(2, none)] (RF27 res)) [(3, vi 0)] ⟨0, []⟩) :
  ∀ (m : Nat) (x8_ : Int) (hm1 : m = Int.toNat ((x0.length : Int) - x8_)) (hlo1 : 0 ≤ x8_), cmp_Or_int_L1 x0 K0 m x8_ = res → RC Try.prog (.loop ac27_L1) S (QR Try.prog [(2, none)] (RF27 res)) [(8, vi x8_), (7, vi (x0.length : Int)), (6, v0), (3, vi 0)] ⟨0, []⟩ := by
 intro m
 induction m with
 | zero =>
  intro x8_ hm1 hlo1 hres
  rw [cmp_Or_int_L1] at hres
  refine rc_loop ?_
  unfold ac27_L1
  refine rc_seq ?_
  refine rc_region ?_
  refine rd_op (ov_bin rfl rfl i_lss) ?_
  refine rd_nil ?_
  refine pn_seq ?_
  refine rc_seq ?_
  refine rc_cond rfl (fun hc101 => ?_) (fun hc101 => ?_)
  ·exfalso
   try simp only [qa1, qa2, qa3, qa4, qa5, qa6, qa7, qa8, qa9, qaA, qaB, qaC, qaD] at hc101
   omega
  ·have hend := hres
   have hc101' := hc101
   try simp only [qa1, qa2, qa3, qa4, qa5, qa6, qa7, qa8, qa9, qaA, qaB, qaC, qaD] at hc101'
   refine rc_exit ?_
   refine px_seq ?_
   refine px_again ?_
   exact px_weak ((sub_cons rfl (sub_nil _))) (hK0  hres)
 | succ m ih =>
  intro x8_ hm1 hlo1 hres
  rw [cmp_Or_int_L1] at hres
  refine rc_loop ?_
  unfold ac27_L1
  refine rc_seq ?_
  refine rc_region ?_
  refine rd_op (ov_bin rfl rfl i_lss) ?_
  refine rd_nil ?_
  refine pn_seq ?_
  refine rc_seq ?_
  refine rc_cond rfl (fun hc102 => ?_) (fun hc102 => ?_)
  ·have hgo := hres
   have hc102' := hc102
   try simp only [qa1, qa2, qa3, qa4, qa5, qa6, qa7, qa8, qa9, qaA, qaB, qaC, qaD] at hc102'
   refine rc_skip ?_
   refine pn_seq ?_
   refine rc_seq ?_
   refine rc_block ?_
   refine rc_seq ?_
   refine rc_region ?_
   refine rd_op (ov_iaddr rfl rfl (slI r0 (by omega) (by omega))) ?_
   refine rd_op (ov_load rfl rfl rfl) ?_
   refine rd_op (ov_move rfl) ?_
   refine rd_nil ?_
   refine pn_seq ?_
   refine rc_seq ?_
   refine rc_region ?_
   refine rd_op (ov_move rfl) ?_
   refine rd_op (ov_move rfl) ?_
   refine rd_op (ov_bin rfl rfl i_neq) ?_
   refine rd_nil ?_
   refine pn_seq ?_
   refine rc_cond rfl (fun hc103 => ?_) (fun hc103 => ?_)
   ·replace hres := (ite_t hc103).symm.trans hres
    have hc103' := hc103
    try simp only [qa1, qa2, qa3, qa4, qa5, qa6, qa7, qa8, qa9, qaA, qaB, qaC, qaD] at hc103'
    refine rc_seq ?_
    refine rc_region ?_
    refine rd_op (ov_move rfl) ?_
    refine rd_op (ov_move rfl) ?_
    refine rd_nil ?_
    refine pn_seq ?_
    subst hres
    exact rc_retV (.tmp rfl .nil) (deep_closed rfl) rfl
   ·replace hres := (ite_f hc103).symm.trans hres
    have hc103' := hc103
    try simp only [qa1, qa2, qa3, qa4, qa5, qa6, qa7, qa8, qa9, qaA, qaB, qaC, qaD] at hc103'
    refine rc_skip ?_
    refine pn_blk ?_
    refine pn_seq ?_
    refine rc_region ?_
    refine rd_op (ov_bin rfl rfl i_add) ?_
    refine rd_op (ov_move rfl) ?_
    refine rd_nil ?_
    refine pn_again ?_
    have hbd := sl_bound r0
    have hinc : wr (x8_ + 1) = x8_ + 1 := wr_of (by omega) (by omega)
    rw [hinc]
    refine rc_weak ?_ (ih (x8_ + 1)  (by omega) (by omega) hres)
    exact ((sub_cons rfl (sub_cons rfl (sub_cons rfl (sub_cons rfl (sub_nil _))))))
  ·exfalso
   try simp only [qa1, qa2, qa3, qa4, qa5, qa6, qa7, qa8, qa9, qaA, qaB, qaC, qaD] at hc102
   omega

theorem f27_ok {x0 : List Int} {v0 : PV} (r0 : (tSl tI).R x0 v0) : FnR Try.prog 27 [v0] (vi (cmp_Or_int x0)) := by
 obtain ⟨res, hres⟩ : ∃ res, cmp_Or_int x0 = res := ⟨_, rfl⟩
 suffices H : RC Try.prog ac27 [] (QR Try.prog [(2, none)] (RF27 res)) (argE 0 [v0]) ⟨0, []⟩ by
  obtain ⟨r, h1, h2⟩ := fnE text27 (by simp) H
  rw [hres]
  have h2 : r = vi res := h2
  rw [← h2]; exact h1
 unfold cmp_Or_int at hres
 unfold ac27
 refine rc_seq ?_
 refine rc_region ?_
 refine rd_op (v := vi 0) (ov_move rfl) ?_
 refine rd_nil ?_
 refine pn_seq ?_
 refine rc_seq ?_
 refine rc_region ?_
 refine rd_op (v := vi 0) (ov_move rfl) ?_
 refine rd_nil ?_
 refine pn_seq ?_
 refine rc_seq ?_
 refine rc_seq ?_
 refine rc_region ?_
 refine rd_op (ov_move rfl) ?_
 refine rd_op (ov_bi rfl (sl_len r0 Try.underlying29 _)) ?_
 refine rd_op (v := vi 0) (ov_move rfl) ?_
 refine rd_nil ?_
 refine pn_seq ?_
 refine rc_block ?_
 refine rc_weak ?_ (cmp_Or_int_L1_ok (x0 := x0) (v0 := v0)  (r0 := r0) ?_ (Int.toNat ((x0.length : Int) - 0)) 0 rfl (by omega) hres)
 ·exact ((sub_cons rfl (sub_cons rfl (sub_cons rfl (sub_cons rfl (sub_nil _))))))
 ·intro  hres
  refine px_blk ?_
  refine pn_seq ?_
  refine rc_seq ?_
  refine rc_region ?_
  refine rd_op (ov_move rfl) ?_
  refine rd_op (ov_move rfl) ?_
  refine rd_nil ?_
  refine pn_seq ?_
  subst hres
  exact rc_retV (.tmp rfl .nil) (deep_closed rfl) rfl

/-- patchbay/expr.Fields$1 -/
def RF26 (res : Int) (r : PV) : Prop := r = vi res
theorem f26_ok {x0 : api_FieldRef} {x1 : api_FieldRef} {v0 : PV} {v1 : PV} (r0 : api_FieldRef.t.R x0 v0) (r1 : api_FieldRef.t.R x1 v1) : FnR Try.prog 26 [v0, v1] (vi (expr_Fields_1 x0 x1)) := by
 obtain ⟨res, hres⟩ : ∃ res, expr_Fields_1 x0 x1 = res := ⟨_, rfl⟩
 suffices H : RC Try.prog ac26 [] (QR Try.prog [(4, none)] (RF26 res)) (argE 0 [v0, v1]) ⟨0, []⟩ by
  obtain ⟨r, h1, h2⟩ := fnE text26 (by simp) H
  rw [hres]
  have h2 : r = vi res := h2
  rw [← h2]; exact h1
 unfold expr_Fields_1 at hres
 unfold ac26
 refine rc_seq ?_
 refine rc_region ?_
 refine rd_op (ov_box rfl (TR.cnt api_FieldRef.t r0)) ?_
 refine rd_op (ov_box rfl (TR.cnt api_FieldRef.t r1)) ?_
 refine rd_op (v := vi 0) (ov_move rfl) ?_
 refine rd_nil ?_
 refine pn_seq ?_
 refine rc_seq ?_
 refine rc_region ?_
 refine rd_op (ov_faddr rfl (api_FieldRef.g_Header r0)) ?_
 refine rd_op (ov_load rfl rfl rfl) ?_
 refine rd_op (ov_faddr rfl (api_FieldRef.g_Header r1)) ?_
 refine rd_op (ov_load rfl rfl rfl) ?_
 obtain ⟨y101, hw101, hres⟩ := let_ex hres
 have f101 := f28_ok (x0 := x0.Header) (x1 := x1.Header)  
 rw [hw101] at f101
 refine rd_call (cv_fn rfl rfl (clL_cons rfl (clL_cons rfl clL_nil)) f101) ?_
 refine rd_op (ov_faddr rfl (api_FieldRef.g_Field r0)) ?_
 refine rd_op (ov_load rfl rfl rfl) ?_
 refine rd_op (ov_faddr rfl (api_FieldRef.g_Field r1)) ?_
 refine rd_op (ov_load rfl rfl rfl) ?_
 obtain ⟨y102, hw102, hres⟩ := let_ex hres
 have f102 := f28_ok (x0 := x0.Field) (x1 := x1.Field)  
 rw [hw102] at f102
 refine rd_call (cv_fn rfl rfl (clL_cons rfl (clL_cons rfl clL_nil)) f102) ?_
 refine rd_op (v := .fs true [vi y101, vi y102]) (ov_bslice rfl (all_cons rfl (all_cons rfl all_nil))) ?_
 have r103 : (tSl tI).R ([y101, y102] : List Int) (.fs true [vi y101, vi y102]) := sl_fs ⟨rfl, ⟨rfl, trivial⟩⟩ (by simp)
 obtain ⟨y104, hw104, hres⟩ := let_ex hres
 have f104 := f27_ok  r103 
 rw [hw104] at f104
 refine rd_call (cv_fn rfl rfl (clL_cons (TR.clo (tSl tI) r103) clL_nil) f104) ?_
 refine rd_op (ov_move rfl) ?_
 refine rd_nil ?_
 refine pn_seq ?_
 subst hres
 exact rc_retV (.tmp rfl .nil) (deep_closed rfl) rfl

def RF25026 (a0 : PV) (R_ : List Ent) (res : List api_FieldRef) (r : PV) (h : Heap) : Prop := ∃ es : List PV, Mem h (⟨a0, 60, 2, es⟩ :: R_) ∧ All2 api_FieldRef.t.R res es ∧ res.length ≤ 4611686018427387904 ∧ Wri a0 es ∧ r = .tup []
theorem f25026_ok {x0 : List api_FieldRef} {a0 : PV} {es0 : List PV} {R_ : List Ent} {h_ : Heap} (q : All2 api_FieldRef.t.R x0 es0) (ne : isL a0 = true) (hl : x0.length ≤ 4611686018427387904) (wi : Wri a0 es0) (M : Mem h_ (⟨a0, 60, 2, es0⟩ :: R_)) (hb : x0.length ≤ 1000000) : ∃ r h2_, FnX Try.prog 25 [a0, .fn (.func 26) [] []] h_ r h2_ ∧ RF25026 a0 R_ (sortFR x0) r h2_ := by
 obtain ⟨r, h2, X, es', M2, q2, w2, hr⟩ := sort_fn_X (t := api_FieldRef.t) (mk := frmk) (enc := frenc) (cf := expr_Fields_1) text25.enters (fun x v h => h) (fun x => rfl) (fun x => rfl) (fun x => rfl) (fun x u hu => by simp [frenc] at hu; rcases hu with rfl | rfl <;> rfl) (fun x y => f26_ok rfl rfl) (fun blk off cap d w hc hH hb hs => Go.Proofs.Try.sortF_calls frenc (fun x => rfl) (fun x u hu => by simp [frenc] at hu; rcases hu with rfl | rfl <;> rfl) expr_Fields_1 fr_swo fr_total 26 text26.enters blk off cap d w hc hH hb hs) (fun p cap w => Go.Proofs.Try.sortF_none p cap _ w) q ne hb wi M
 exact ⟨r, h2, X, es', M2, q2, by rw [sortFR, List.length_mergeSort]; exact hl, w2, hr⟩

theorem f29_ok {x0 : List api_FieldRef} {a0 : PV} {es0 : List PV} {R_ : List Ent} {h_ : Heap} (q : All2 api_FieldRef.t.R x0 es0) (ne : isL a0 = true) (hl : x0.length ≤ 4611686018427387904) (wi : Wri a0 es0) (M : Mem h_ (⟨a0, 60, 2, es0⟩ :: R_)) : ∃ r h2_, FnX Try.prog 29 [a0] h_ r h2_ ∧ RF29 R_ (slices_Compact__api_FieldRef_api_FieldRef_ x0) r h2_ := f29_cpt q ne hl wi M

/-- patchbay/expr.Fields -/
def RF12 (res : (List api_FieldRef)) (r : PV) : Prop := (tSl api_FieldRef.t).R res r
theorem expr_Fields_L1_ok {S : List Fr} {res : (List api_FieldRef)} {x0 : List api_ExprNode} {v0 : PV} (r0 : (tSl api_ExprNode.t).R x0 v0) (hb : x0.length ≤ 1000) {K0 : (List api_FieldRef) → (List api_FieldRef)}
  (hK0 : ∀ (zE102 : List api_FieldRef) (esE102 : List PV) (aE102 : PV) (qE102 : All2 api_FieldRef.t.R zE102 esE102) (nE102 : isL aE102 = true) (wrE102 : Wri aE102 esE102) (hlE102 : zE102.length ≤ 4611686018427387904) (po0 : zE102.length ≤ 1000) (h : Heap) (M0 : Mem h [⟨aE102, 60, 2, esE102⟩]), K0 zE102 = res → PX Try.prog 0 S (QR Try.prog [(2, none)] (RF12 res)) [(3, aE102)] h) :
  ∀ (m : Nat) (x8_ : Int) (zE102 : List api_FieldRef) (esE102 : List PV) (aE102 : PV) (qE102 : All2 api_FieldRef.t.R zE102 esE102) (nE102 : isL aE102 = true) (wrE102 : Wri aE102 esE102) (hlE102 : zE102.length ≤ 4611686018427387904) (hm1 : m = Int.toNat ((x0.length : Int) - x8_)) (hlo1 : 0 ≤ x8_) (iv1_0 : (zE102.length : Int) ≤ x8_) (iv1_1 : x8_ ≤ (x0.length : Int)) (h : Heap) (M0 : Mem h [⟨aE102, 60, 2, esE102⟩]), expr_Fields_L1 x0 K0 m x8_ zE102 = res → RC Try.prog (.loop ac12_L1) S (QR Try.prog [(2, none)] (RF12 res)) [(8, vi x8_), (7, vi (x0.length : Int)), (6, v0), (3, aE102)] h := by
 have hb' := hb
 try simp only [qa1, qa2, qa3, qa4, qa5, qa6, qa7, qa8, qa9, qaA, qaB, qaC, qaD] at hb'
 intro m
 induction m with
 | zero =>
  intro x8_ zE102 esE102 aE102 qE102 nE102 wrE102 hlE102 hm1 hlo1 iv1_0 iv1_1 h M0 hres
  rw [expr_Fields_L1] at hres
  refine rc_loop ?_
  unfold ac12_L1
  refine rc_seq ?_
  refine rc_region ?_
  refine rd_op (ov_bin rfl rfl i_lss) ?_
  refine rd_nil ?_
  refine pn_seq ?_
  refine rc_seq ?_
  refine rc_cond rfl (fun hc103 => ?_) (fun hc103 => ?_)
  ·exfalso
   try simp only [qa1, qa2, qa3, qa4, qa5, qa6, qa7, qa8, qa9, qaA, qaB, qaC, qaD] at hc103
   omega
  ·have hend := hres
   have hc103' := hc103
   try simp only [qa1, qa2, qa3, qa4, qa5, qa6, qa7, qa8, qa9, qaA, qaB, qaC, qaD] at hc103'
   refine rc_exit ?_
   refine px_seq ?_
   refine px_again ?_
   exact px_weak ((sub_cons rfl (sub_nil _))) (hK0 zE102 esE102 aE102 qE102 nE102 wrE102 hlE102 (by omega) _ (Mem.sub M0 (.cons_cons _ .slnil)) hres)
 | succ m ih =>
  intro x8_ zE102 esE102 aE102 qE102 nE102 wrE102 hlE102 hm1 hlo1 iv1_0 iv1_1 h M0 hres
  rw [expr_Fields_L1] at hres
  refine rc_loop ?_
  unfold ac12_L1
  refine rc_seq ?_
  refine rc_region ?_
  refine rd_op (ov_bin rfl rfl i_lss) ?_
  refine rd_nil ?_
  refine pn_seq ?_
  refine rc_seq ?_
  refine rc_cond rfl (fun hc104 => ?_) (fun hc104 => ?_)
  ·have hgo := hres
   have hc104' := hc104
   try simp only [qa1, qa2, qa3, qa4, qa5, qa6, qa7, qa8, qa9, qaA, qaB, qaC, qaD] at hc104'
   refine rc_skip ?_
   refine pn_seq ?_
   refine rc_seq ?_
   refine rc_block ?_
   refine rc_seq ?_
   refine rc_region ?_
   obtain ⟨v105, e105, r105⟩ := sl_idx (i := x8_) r0 (by omega) (by omega)
   refine rd_op (ov_iaddr rfl rfl e105) ?_
   refine rd_op (ov_load rfl (TR.cnt api_ExprNode.t r105) (TR.agg api_ExprNode.t r105)) ?_
   refine rd_allocO (x := .agg [vi 0, vi 0, vi 0]) M0 rfl rfl (fun i106 w106 h106 M106 => ?_)
   refine rd_storeO (k := 0) (v := v105) M106 rfl rfl rfl (TR.cnt api_ExprNode.t r105) (fun h108 M108 => ?_)
   replace M108 : Mem h108 [⟨.op i106 w106 0, 69, 3, [v105]⟩, ⟨aE102, 60, 2, esE102⟩] := M108
   refine rd_nil ?_
   refine pn_seq ?_
   refine rc_seq ?_
   refine rc_region ?_
   refine rd_op (ov_faddrO rfl) ?_
   refine rd_op (ov_loadf (k := 0) M108 rfl rfl (api_ExprNode.g_Op r105)) ?_
   refine rd_op (ov_bin rfl rfl i_eql) ?_
   refine rd_nil ?_
   refine pn_seq ?_
   refine rc_cond rfl (fun hc109 => ?_) (fun hc109 => ?_)
   ·replace hres := (ite_t hc109).symm.trans hres
    have hc109' := hc109
    try simp only [qa1, qa2, qa3, qa4, qa5, qa6, qa7, qa8, qa9, qaA, qaB, qaC, qaD] at hc109'
    refine rc_region ?_
    refine rd_op (ov_move rfl) ?_
    refine rd_op (ov_faddrO rfl) ?_
    refine rd_op (ov_loadf (k := 0) M108 rfl rfl (api_ExprNode.g_N r105)) ?_
    refine rd_op (ov_faddrO rfl) ?_
    refine rd_op (ov_loadf (k := 0) M108 rfl rfl (api_ExprNode.g_W r105)) ?_
    refine rd_op (v := .agg [vi ((ix x0 x8_).N), vi ((ix x0 x8_).W)]) (ov_build (cs := [vi ((ix x0 x8_).N), vi ((ix x0 x8_).W)]) rfl rfl) ?_
    refine rd_op (v := .fs true [.agg [vi ((ix x0 x8_).N), vi ((ix x0 x8_).W)]]) (ov_bslice rfl (all_cons rfl all_nil)) ?_
    have r110 : (tSl api_FieldRef.t).R ([({ Header := (ix x0 x8_).N, Field := (ix x0 x8_).W } : api_FieldRef)] : List api_FieldRef) (.fs true [.agg [vi ((ix x0 x8_).N), vi ((ix x0 x8_).W)]]) := sl_fs ⟨rfl, trivial⟩ (by simp)
    obtain ⟨nw111, sr111, ar111⟩ := src_of (t := api_FieldRef.t) (h := h108) r110
    have f111 : fits (esE102.length + nw111.length) 16 = true := by rw [All2.length_eq qE102, All2.length_eq ar111]; (try simp only [List.length_cons, List.length_nil]); exact fits_of (by first | omega | (simp only [List.length_append, List.length_cons, List.length_nil]; omega)) (by first | omega | (simp only [List.length_append, List.length_cons, List.length_nil]; omega))
    refine rd_appW (k := 1) (es := esE102) (news := nw111) M108 rfl rfl rfl nE102 wrE102 sr111 f111 (fun a111 h111 n111 wr111 M111 => ?_)
    have q111 : All2 api_FieldRef.t.R (zE102 ++ ([({ Header := (ix x0 x8_).N, Field := (ix x0 x8_).W } : api_FieldRef)] : List api_FieldRef)) (esE102 ++ nw111) := All2.app qE102 ar111
    have hl111 : (zE102 ++ ([({ Header := (ix x0 x8_).N, Field := (ix x0 x8_).W } : api_FieldRef)] : List api_FieldRef)).length ≤ 4611686018427387904 := by rw [← All2.length_eq q111, List.length_append]; exact fits_len f111
    refine rd_op (ov_move rfl) ?_
    refine rd_nil ?_
    refine pn_blk ?_
    refine pn_seq ?_
    refine rc_region ?_
    refine rd_op (ov_bin rfl rfl i_add) ?_
    refine rd_op (ov_move rfl) ?_
    refine rd_nil ?_
    refine pn_again ?_
    have hbd := sl_bound r0
    have hinc : wr (x8_ + 1) = x8_ + 1 := wr_of (by omega) (by omega)
    rw [hinc]
    refine rc_weak ?_ (ih (x8_ + 1) (zE102 ++ ([({ Header := (ix x0 x8_).N, Field := (ix x0 x8_).W } : api_FieldRef)] : List api_FieldRef)) (esE102 ++ nw111) a111 q111 n111 wr111 hl111 (by omega) (by omega) (by first | omega | (simp only [List.length_append, List.length_cons, List.length_nil]; omega)) (by first | omega | (simp only [List.length_append, List.length_cons, List.length_nil]; omega)) _ (Mem.sub M111 (.cons _ (.cons_cons _ .slnil))) hres)
    exact ((sub_cons rfl (sub_cons rfl (sub_cons rfl (sub_cons rfl (sub_nil _))))))
   ·replace hres := (ite_f hc109).symm.trans hres
    have hc109' := hc109
    try simp only [qa1, qa2, qa3, qa4, qa5, qa6, qa7, qa8, qa9, qaA, qaB, qaC, qaD] at hc109'
    refine rc_skip ?_
    refine pn_blk ?_
    refine pn_seq ?_
    refine rc_region ?_
    refine rd_op (ov_bin rfl rfl i_add) ?_
    refine rd_op (ov_move rfl) ?_
    refine rd_nil ?_
    refine pn_again ?_
    have hbd := sl_bound r0
    have hinc : wr (x8_ + 1) = x8_ + 1 := wr_of (by omega) (by omega)
    rw [hinc]
    refine rc_weak ?_ (ih (x8_ + 1) zE102 esE102 aE102 qE102 nE102 wrE102 hlE102 (by omega) (by omega) (by first | omega | (simp only [List.length_append, List.length_cons, List.length_nil]; omega)) (by first | omega | (simp only [List.length_append, List.length_cons, List.length_nil]; omega)) _ (Mem.sub M108 (.cons _ (.cons_cons _ .slnil))) hres)
    exact ((sub_cons rfl (sub_cons rfl (sub_cons rfl (sub_cons rfl (sub_nil _))))))
  ·exfalso
   try simp only [qa1, qa2, qa3, qa4, qa5, qa6, qa7, qa8, qa9, qaA, qaB, qaC, qaD] at hc104
   omega

theorem f12_ok {x0 : List api_ExprNode} {v0 : PV} (r0 : (tSl api_ExprNode.t).R x0 v0) (hb : x0.length ≤ 1000) : ∃ r, FnR Try.prog 12 [v0] r ∧ (tSl api_FieldRef.t).R (expr_Fields x0) r := by
 obtain ⟨res, hres⟩ : ∃ res, expr_Fields x0 = res := ⟨_, rfl⟩
 suffices H : RC Try.prog ac12 [] (QR Try.prog [(2, none)] (RF12 res)) (argE 0 [v0]) ⟨0, []⟩ by
  rw [hres]
  exact fnE text12 (by simp) H
 unfold expr_Fields at hres
 unfold ac12
 refine rc_seq ?_
 refine rc_region ?_
 refine rd_op (v := nilS) (ov_move rfl) ?_
 refine rd_nil ?_
 refine pn_seq ?_
 refine rc_seq ?_
 refine rc_region ?_
 refine rd_op (v := nilS) (ov_move rfl) ?_
 refine rd_nil ?_
 refine pn_seq ?_
 refine rc_seq ?_
 refine rc_seq ?_
 refine rc_region ?_
 refine rd_op (ov_move rfl) ?_
 refine rd_op (ov_bi rfl (sl_len r0 Try.underlying32 _)) ?_
 refine rd_op (v := vi 0) (ov_move rfl) ?_
 refine rd_nil ?_
 refine pn_seq ?_
 refine rc_block ?_
 have M101 := mem_acc (sz := 2) (es := []) (Mem.nil ⟨0, []⟩) 60 (.inl ⟨none, rfl, rfl⟩) (by simp)
 refine rc_weak ?_ (expr_Fields_L1_ok (x0 := x0) (v0 := v0)  (r0 := r0) (hb := hb) ?_ (Int.toNat ((x0.length : Int) - 0)) 0 ([] : List api_FieldRef) ([] : List PV) nilS (show All2 api_FieldRef.t.R ([] : List api_FieldRef) [] from trivial) rfl (.inl rfl) (by first | decide | simp) rfl (by omega) (by first | omega | simp) (by first | omega | simp) _ (Mem.sub M101 (.cons_cons _ .slnil)) hres)
 ·exact ((sub_cons rfl (sub_cons rfl (sub_cons rfl (sub_cons rfl (sub_nil _))))))
 ·intro zE102_112 es112E102 a112E102 q112E102 n112E102 wr112E102 hl112E102 po112_0 h112 M112 hres
  refine px_blk ?_
  refine pn_seq ?_
  refine rc_seq ?_
  refine rc_regionS ?_
  refine rs_step ?_
  refine rd_op (ov_move rfl) ?_
  refine rs_back ?_
  have M113 : Mem h112 [⟨a112E102, 60, 2, es112E102⟩] := (Mem.front (k := 0) M112 rfl)
  obtain ⟨y113, hw113, hres⟩ := let_ex hres
  obtain ⟨vr113, h114, hX113, hZ113⟩ := f25026_ok (x0 := zE102_112) q112E102 n112E102 hl112E102 wr112E102 M113 (by first | assumption | omega | (rw [wr_of (by omega) (by omega)]; omega))
  rw [hw113] at hZ113
  obtain ⟨es113_p0, M114, qs113_p0, hs113_p0, wi113_p0, hr113⟩ := hZ113
  replace hr113 := hr113.symm; subst hr113
  refine rs_callXc rfl rfl hX113 ?_
  refine rs_nil ?_
  refine pn_seq ?_
  refine rc_seq ?_
  refine rc_regionS ?_
  refine rs_step ?_
  refine rd_op (ov_move rfl) ?_
  refine rs_back ?_
  have M115 : Mem h114 [⟨a112E102, 60, 2, es113_p0⟩] := (Mem.front (k := 0) M114 rfl)
  obtain ⟨y115, hw115, hres⟩ := let_ex hres
  obtain ⟨vr115, h117, hX115, hZ115⟩ := f29_ok (x0 := y113) qs113_p0 n112E102 hs113_p0 wi113_p0 M115 
  rw [hw115] at hZ115
  obtain ⟨as115_0, es115_0, M117, qs115_0, ns115_0, hs115_0, wi115_0, hr115⟩ := hZ115
  replace hr115 := hr115.symm; subst hr115
  refine rs_callXc rfl rfl hX115 ?_
  refine rs_step ?_
  refine rd_op (ov_move rfl) ?_
  refine rs_back ?_
  refine rs_nil ?_
  refine pn_seq ?_
  obtain ⟨v118, d118, r118⟩ := own_sl (P := Try.prog) (k := 0) (t := api_FieldRef.t) M117 rfl ns115_0 qs115_0 (Nat.le_trans hs115_0 (by decide))
  subst hres
  exact rc_retV (.tmp rfl .nil) d118 r118

/-- patchbay/patchbayref13.Less -/
def RF44 (res : Bool) (r : PV) : Prop := r = vb res
theorem f44_ok {x0 : api_FieldRef} {x1 : api_FieldRef} {v0 : PV} {v1 : PV} (r0 : api_FieldRef.t.R x0 v0) (r1 : api_FieldRef.t.R x1 v1) : FnR Try.prog 44 [v0, v1] (vb (ref13_Less x0 x1)) := by
 obtain ⟨res, hres⟩ : ∃ res, ref13_Less x0 x1 = res := ⟨_, rfl⟩
 suffices H : RC Try.prog ac44 [] (QR Try.prog [(4, none)] (RF44 res)) (argE 0 [v0, v1]) ⟨0, []⟩ by
  obtain ⟨r, h1, h2⟩ := fnE text44 (by simp) H
  rw [hres]
  have h2 : r = vb res := h2
  rw [← h2]; exact h1
 unfold ref13_Less at hres
 unfold ac44
 refine rc_seq ?_
 refine rc_region ?_
 refine rd_op (ov_box rfl (TR.cnt api_FieldRef.t r0)) ?_
 refine rd_op (ov_box rfl (TR.cnt api_FieldRef.t r1)) ?_
 refine rd_op (v := vb false) (ov_move rfl) ?_
 refine rd_nil ?_
 refine pn_seq ?_
 refine rc_seq ?_
 refine rc_region ?_
 refine rd_op (ov_faddr rfl (api_FieldRef.g_Header r0)) ?_
 refine rd_op (ov_load rfl rfl rfl) ?_
 refine rd_op (ov_faddr rfl (api_FieldRef.g_Header r1)) ?_
 refine rd_op (ov_load rfl rfl rfl) ?_
 refine rd_op (ov_bin rfl rfl i_lss) ?_
 refine rd_op (ov_move rfl) ?_
 refine rd_cut (d := 23) (v := vb ((decide (x0.Header < x1.Header)) || ((decide (x0.Header = x1.Header)) && (decide (x0.Field < x1.Field))))) ?_ ?_
 ·intro S Q r
  simp only [ac44_G1, List.cons_append, List.nil_append, List.append_assoc]
  cases hb101 : (decide (x0.Header < x1.Header))
  ·intro k
   have hb101' := hb101
   try simp only [qa1, qa2, qa3, qa4, qa5, qa6, qa7, qa8, qa9, qaA, qaB, qaC, qaD] at hb101'
   refine rd_yes rfl rfl (ov_faddr rfl (api_FieldRef.g_Header r0)) ?_
   refine rd_yes rfl rfl (ov_load rfl rfl rfl) ?_
   refine rd_yes rfl rfl (ov_faddr rfl (api_FieldRef.g_Header r1)) ?_
   refine rd_yes rfl rfl (ov_load rfl rfl rfl) ?_
   refine rd_yes rfl rfl (ov_bin rfl rfl i_eql) ?_
   refine rd_yes rfl rfl (ov_move rfl) ?_
   refine rd_cut (d := 22) (v := vb ((decide (x0.Header = x1.Header)) && (decide (x0.Field < x1.Field)))) ?_ ?_
   ·intro S Q r
    simp only [ac44_G2, List.cons_append, List.nil_append, List.append_assoc]
    cases hb102 : (decide (x0.Header = x1.Header))
    ·intro k
     refine rd_skip rfl rfl ?_
     refine rd_skip rfl rfl ?_
     refine rd_skip rfl rfl ?_
     refine rd_skip rfl rfl ?_
     refine rd_skip rfl rfl ?_
     refine rd_yes (v := vb false) rfl rfl (ov_pick rfl rfl rfl rfl) ?_
     exact rd_weak (sub_cons rfl (sub_skip rfl (sub_skip rfl (sub_skip rfl (sub_skip rfl (sub_skip rfl (sub_skip rfl (sub_refl _)))))))) k
    ·intro k
     have hb102' := hb102
     try simp only [qa1, qa2, qa3, qa4, qa5, qa6, qa7, qa8, qa9, qaA, qaB, qaC, qaD] at hb102'
     refine rd_yes rfl rfl (ov_faddr rfl (api_FieldRef.g_Field r0)) ?_
     refine rd_yes rfl rfl (ov_load rfl rfl rfl) ?_
     refine rd_yes rfl rfl (ov_faddr rfl (api_FieldRef.g_Field r1)) ?_
     refine rd_yes rfl rfl (ov_load rfl rfl rfl) ?_
     refine rd_yes rfl rfl (ov_bin rfl rfl i_lss) ?_
     refine rd_yes (v := vb (decide (x0.Field < x1.Field))) rfl rfl (ov_pick rfl rfl rfl rfl) ?_
     exact rd_weak (sub_cons rfl (sub_skip rfl (sub_skip rfl (sub_skip rfl (sub_skip rfl (sub_skip rfl (sub_skip rfl (sub_refl _)))))))) k
   refine rd_op (v := vb ((decide (x0.Header = x1.Header)) && (decide (x0.Field < x1.Field)))) (ov_pick rfl rfl rfl rfl) ?_
   exact rd_weak (sub_cons rfl (sub_skip rfl (sub_skip rfl (sub_skip rfl (sub_skip rfl (sub_skip rfl (sub_skip rfl (sub_skip rfl (sub_skip rfl (sub_refl _)))))))))) k
  ·intro k
   simp only [ac44_G2, List.cons_append, List.nil_append, List.append_assoc]
   refine rd_skip rfl rfl ?_
   refine rd_skip rfl rfl ?_
   refine rd_skip rfl rfl ?_
   refine rd_skip rfl rfl ?_
   refine rd_skip rfl rfl ?_
   refine rd_skip rfl rfl ?_
   refine rd_skipU rfl ?_
   refine rd_skipU rfl ?_
   refine rd_skipU rfl ?_
   refine rd_skipU rfl ?_
   refine rd_skipU rfl ?_
   refine rd_skip rfl rfl ?_
   refine rd_op (v := vb true) (ov_pick rfl rfl rfl rfl) ?_
   exact rd_weak (sub_cons rfl (sub_skip rfl (sub_skip rfl (sub_skip rfl (sub_skip rfl (sub_skip rfl (sub_skip rfl (sub_skip rfl (sub_skip rfl (sub_skip rfl (sub_skip rfl (sub_skip rfl (sub_skip rfl (sub_skip rfl (sub_refl _))))))))))))))) k
 refine rd_op (ov_move rfl) ?_
 refine rd_nil ?_
 refine pn_seq ?_
 subst hres
 exact rc_retV (.tmp rfl .nil) (deep_closed rfl) rfl

/-- patchbay/patchbayref13.AddField -/
def RF30 (res : (List api_FieldRef)) (r : PV) : Prop := (tSl api_FieldRef.t).R res r
theorem ref13_AddField_L1_ok {S : List Fr} {res : (List api_FieldRef)} {x0 : List api_FieldRef} {x1 : api_FieldRef} {v0 : PV} {v1 : PV} (r0 : (tSl api_FieldRef.t).R x0 v0) (r1 : api_FieldRef.t.R x1 v1) (hb : x0.length ≤ 1000) {K0 : Bool → (List api_FieldRef) → (List api_FieldRef)}
  (hK0 : ∀ (x6_ : Bool) (zE102 : List api_FieldRef) (esE102 : List PV) (aE102 : PV) (qE102 : All2 api_FieldRef.t.R zE102 esE102) (nE102 : isL aE102 = true) (wrE102 : Wri aE102 esE102) (hlE102 : zE102.length ≤ 4611686018427387904) (po0 : zE102.length ≤ 2000) (h : Heap) (M0 : Mem h [⟨aE102, 60, 2, esE102⟩]), K0 x6_ zE102 = res → PX Try.prog 0 S (QR Try.prog [(4, none)] (RF30 res)) [(3, .fp v1), (5, aE102), (6, vb x6_)] h) :
  ∀ (m : Nat) (x6_ : Bool) (x7_ : Int) (zE102 : List api_FieldRef) (esE102 : List PV) (aE102 : PV) (qE102 : All2 api_FieldRef.t.R zE102 esE102) (nE102 : isL aE102 = true) (wrE102 : Wri aE102 esE102) (hlE102 : zE102.length ≤ 4611686018427387904) (hm1 : m = Int.toNat ((x0.length : Int) - x7_)) (hlo1 : 0 ≤ x7_) (iv1_0 : (zE102.length : Int) ≤ 2 * x7_) (iv1_1 : x7_ ≤ (x0.length : Int)) (h : Heap) (M0 : Mem h [⟨aE102, 60, 2, esE102⟩]), ref13_AddField_L1 x0 x1 K0 m x6_ x7_ zE102 = res → RC Try.prog (.loop ac30_L1) S (QR Try.prog [(4, none)] (RF30 res)) [(7, vi x7_), (6, vb x6_), (5, aE102), (3, .fp v1), (0, v0)] h := by
 have hb' := hb
 try simp only [qa1, qa2, qa3, qa4, qa5, qa6, qa7, qa8, qa9, qaA, qaB, qaC, qaD] at hb'
 intro m
 induction m with
 | zero =>
  intro x6_ x7_ zE102 esE102 aE102 qE102 nE102 wrE102 hlE102 hm1 hlo1 iv1_0 iv1_1 h M0 hres
  rw [ref13_AddField_L1] at hres
  refine rc_loop ?_
  unfold ac30_L1
  refine rc_seq ?_
  refine rc_seq ?_
  refine rc_region ?_
  refine rd_op (ov_move rfl) ?_
  refine rd_op (ov_move rfl) ?_
  refine rd_op (ov_bi rfl (sl_len r0 Try.underlying52 _)) ?_
  refine rd_op (ov_bin rfl rfl i_lss) ?_
  refine rd_nil ?_
  refine pn_seq ?_
  refine rc_cond rfl (fun hc103 => ?_) (fun hc103 => ?_)
  ·exfalso
   try simp only [qa1, qa2, qa3, qa4, qa5, qa6, qa7, qa8, qa9, qaA, qaB, qaC, qaD] at hc103
   omega
  ·have hend := hres
   have hc103' := hc103
   try simp only [qa1, qa2, qa3, qa4, qa5, qa6, qa7, qa8, qa9, qaA, qaB, qaC, qaD] at hc103'
   refine rc_exit ?_
   refine px_seq ?_
   refine px_again ?_
   exact px_weak ((sub_cons rfl (sub_cons rfl (sub_cons rfl (sub_nil _))))) (hK0 x6_ zE102 esE102 aE102 qE102 nE102 wrE102 hlE102 (by omega) _ (Mem.sub M0 (.cons_cons _ .slnil)) hres)
 | succ m ih =>
  intro x6_ x7_ zE102 esE102 aE102 qE102 nE102 wrE102 hlE102 hm1 hlo1 iv1_0 iv1_1 h M0 hres
  rw [ref13_AddField_L1] at hres
  refine rc_loop ?_
  unfold ac30_L1
  refine rc_seq ?_
  refine rc_seq ?_
  refine rc_region ?_
  refine rd_op (ov_move rfl) ?_
  refine rd_op (ov_move rfl) ?_
  refine rd_op (ov_bi rfl (sl_len r0 Try.underlying52 _)) ?_
  refine rd_op (ov_bin rfl rfl i_lss) ?_
  refine rd_nil ?_
  refine pn_seq ?_
  refine rc_cond rfl (fun hc104 => ?_) (fun hc104 => ?_)
  ·have hgo := hres
   have hc104' := hc104
   try simp only [qa1, qa2, qa3, qa4, qa5, qa6, qa7, qa8, qa9, qaA, qaB, qaC, qaD] at hc104'
   refine rc_skip ?_
   refine pn_seq ?_
   refine rc_seq ?_
   refine rc_block ?_
   refine rc_seq ?_
   refine rc_seq ?_
   refine rc_region ?_
   refine rd_op (ov_move rfl) ?_
   refine rd_op (ov_not rfl) ?_
   refine rd_op (ov_move rfl) ?_
   refine rd_cut (d := 24) (v := vb ((!x6_) && (!(ref13_Less (ix x0 x7_) x1)))) ?_ ?_
   ·intro S Q r
    simp only [ac30_G1, List.cons_append, List.nil_append, List.append_assoc]
    cases hb105 : (!x6_)
    ·intro k
     refine rd_skip rfl rfl ?_
     refine rd_skip rfl rfl ?_
     refine rd_skip rfl rfl ?_
     refine rd_skip rfl rfl ?_
     refine rd_skip rfl rfl ?_
     refine rd_skip rfl rfl ?_
     refine rd_skip rfl rfl ?_
     refine rd_op (v := vb false) (ov_pick rfl rfl rfl rfl) ?_
     exact rd_weak (sub_cons rfl (sub_skip rfl (sub_skip rfl (sub_skip rfl (sub_skip rfl (sub_skip rfl (sub_skip rfl (sub_skip rfl (sub_skip rfl (sub_refl _)))))))))) k
    ·intro k
     have hb105' := hb105
     try simp only [qa1, qa2, qa3, qa4, qa5, qa6, qa7, qa8, qa9, qaA, qaB, qaC, qaD] at hb105'
     refine rd_yes rfl rfl (ov_move rfl) ?_
     refine rd_yes rfl rfl (ov_move rfl) ?_
     obtain ⟨v106, e106, r106⟩ := sl_idx (i := x7_) r0 (by omega) (by omega)
     refine rd_yes rfl rfl (ov_iaddr rfl rfl e106) ?_
     refine rd_yes rfl rfl (ov_load rfl (TR.cnt api_FieldRef.t r106) (TR.agg api_FieldRef.t r106)) ?_
     refine rd_yes rfl rfl (ov_load rfl (TR.cnt api_FieldRef.t r1) (TR.agg api_FieldRef.t r1)) ?_
     have f107 := f44_ok  r106 r1 
     refine rd_ycall rfl rfl (cv_fn rfl rfl (clL_cons (TR.clo api_FieldRef.t r106) (clL_cons (TR.clo api_FieldRef.t r1) clL_nil)) f107) ?_
     refine rd_yes rfl rfl (ov_not rfl) ?_
     refine rd_op (v := vb (!(ref13_Less (ix x0 x7_) x1))) (ov_pick rfl rfl rfl rfl) ?_
     exact rd_weak (sub_cons rfl (sub_skip rfl (sub_skip rfl (sub_skip rfl (sub_skip rfl (sub_skip rfl (sub_skip rfl (sub_skip rfl (sub_skip rfl (sub_refl _)))))))))) k
   refine rd_nil ?_
   refine pn_seq ?_
   refine rc_cond rfl (fun hc108 => ?_) (fun hc108 => ?_)
   ·replace hres := (ite_t hc108).symm.trans hres
    have hc108' := hc108
    try simp only [qa1, qa2, qa3, qa4, qa5, qa6, qa7, qa8, qa9, qaA, qaB, qaC, qaD] at hc108'
    refine rc_seq ?_
    refine rc_region ?_
    refine rd_op (v := vb true) (ov_move rfl) ?_
    refine rd_nil ?_
    refine pn_seq ?_
    refine rc_seq ?_
    refine rc_region ?_
    refine rd_op (ov_move rfl) ?_
    refine rd_op (ov_move rfl) ?_
    obtain ⟨v109, e109, r109⟩ := sl_idx (i := x7_) r0 (by omega) (by omega)
    refine rd_op (ov_iaddr rfl rfl e109) ?_
    refine rd_op (ov_load rfl (TR.cnt api_FieldRef.t r109) (TR.agg api_FieldRef.t r109)) ?_
    refine rd_op (ov_load rfl (TR.cnt api_FieldRef.t r1) (TR.agg api_FieldRef.t r1)) ?_
    refine rd_op (ov_bin rfl rfl (api_FieldRef.neq_60 r109 r1)) ?_
    refine rd_nil ?_
    refine pn_seq ?_
    refine rc_cond rfl (fun hc110 => ?_) (fun hc110 => ?_)
    ·replace hres := (ite_t hc110).symm.trans hres
     have hc110' := hc110
     try simp only [qa1, qa2, qa3, qa4, qa5, qa6, qa7, qa8, qa9, qaA, qaB, qaC, qaD] at hc110'
     refine rc_region ?_
     refine rd_op (ov_move rfl) ?_
     refine rd_op (ov_load rfl (TR.cnt api_FieldRef.t r1) (TR.agg api_FieldRef.t r1)) ?_
     refine rd_op (v := .fs true [v1]) (ov_bslice rfl (all_cons (TR.cnt api_FieldRef.t r1) all_nil)) ?_
     have r111 : (tSl api_FieldRef.t).R ([x1] : List api_FieldRef) (.fs true [v1]) := sl_fs ⟨r1, trivial⟩ (by simp)
     obtain ⟨nw112, sr112, ar112⟩ := src_of (t := api_FieldRef.t) (h := h) r111
     have f112 : fits (esE102.length + nw112.length) 16 = true := by rw [All2.length_eq qE102, All2.length_eq ar112]; (try simp only [List.length_cons, List.length_nil]); exact fits_of (by first | omega | (simp only [List.length_append, List.length_cons, List.length_nil]; omega)) (by first | omega | (simp only [List.length_append, List.length_cons, List.length_nil]; omega))
     refine rd_appW (k := 0) (es := esE102) (news := nw112) M0 rfl rfl rfl nE102 wrE102 sr112 f112 (fun a112 h112 n112 wr112 M112 => ?_)
     have q112 : All2 api_FieldRef.t.R (zE102 ++ ([x1] : List api_FieldRef)) (esE102 ++ nw112) := All2.app qE102 ar112
     have hl112 : (zE102 ++ ([x1] : List api_FieldRef)).length ≤ 4611686018427387904 := by rw [← All2.length_eq q112, List.length_append]; exact fits_len f112
     refine rd_op (ov_move rfl) ?_
     refine rd_nil ?_
     refine pn_seq ?_
     refine rc_region ?_
     refine rd_op (ov_move rfl) ?_
     refine rd_op (ov_move rfl) ?_
     refine rd_op (ov_move rfl) ?_
     obtain ⟨v113, e113, r113⟩ := sl_idx (i := x7_) r0 (by omega) (by omega)
     refine rd_op (ov_iaddr rfl rfl e113) ?_
     refine rd_op (ov_load rfl (TR.cnt api_FieldRef.t r113) (TR.agg api_FieldRef.t r113)) ?_
     refine rd_op (v := .fs true [v113]) (ov_bslice rfl (all_cons (TR.cnt api_FieldRef.t r113) all_nil)) ?_
     have r114 : (tSl api_FieldRef.t).R ([(ix x0 x7_)] : List api_FieldRef) (.fs true [v113]) := sl_fs ⟨r113, trivial⟩ (by simp)
     obtain ⟨nw115, sr115, ar115⟩ := src_of (t := api_FieldRef.t) (h := h112) r114
     have f115 : fits ((esE102 ++ nw112).length + nw115.length) 16 = true := by rw [All2.length_eq q112, All2.length_eq ar115]; (try simp only [List.length_cons, List.length_nil]); exact fits_of (by first | omega | (simp only [List.length_append, List.length_cons, List.length_nil]; omega)) (by first | omega | (simp only [List.length_append, List.length_cons, List.length_nil]; omega))
     refine rd_appW (k := 0) (es := (esE102 ++ nw112)) (news := nw115) M112 rfl rfl rfl n112 wr112 sr115 f115 (fun a115 h115 n115 wr115 M115 => ?_)
     have q115 : All2 api_FieldRef.t.R ((zE102 ++ ([x1] : List api_FieldRef)) ++ ([(ix x0 x7_)] : List api_FieldRef)) ((esE102 ++ nw112) ++ nw115) := All2.app q112 ar115
     have hl115 : ((zE102 ++ ([x1] : List api_FieldRef)) ++ ([(ix x0 x7_)] : List api_FieldRef)).length ≤ 4611686018427387904 := by rw [← All2.length_eq q115, List.length_append]; exact fits_len f115
     refine rd_op (ov_move rfl) ?_
     refine rd_nil ?_
     refine pn_blk ?_
     refine pn_seq ?_
     refine rc_region ?_
     refine rd_op (ov_move rfl) ?_
     refine rd_op (ov_bin rfl rfl i_add) ?_
     refine rd_op (ov_move rfl) ?_
     refine rd_nil ?_
     refine pn_again ?_
     have hbd := sl_bound r0
     have hinc : wr (x7_ + 1) = x7_ + 1 := wr_of (by omega) (by omega)
     rw [hinc]
     refine rc_weak ?_ (ih true (x7_ + 1) ((zE102 ++ ([x1] : List api_FieldRef)) ++ ([(ix x0 x7_)] : List api_FieldRef)) ((esE102 ++ nw112) ++ nw115) a115 q115 n115 wr115 hl115 (by omega) (by omega) (by first | omega | (simp only [List.length_append, List.length_cons, List.length_nil]; omega)) (by first | omega | (simp only [List.length_append, List.length_cons, List.length_nil]; omega)) _ (Mem.sub M115 (.cons_cons _ .slnil)) hres)
     exact ((sub_cons rfl (sub_cons rfl (sub_cons rfl (sub_cons rfl (sub_cons rfl (sub_nil _)))))))
    ·replace hres := (ite_f hc110).symm.trans hres
     have hc110' := hc110
     try simp only [qa1, qa2, qa3, qa4, qa5, qa6, qa7, qa8, qa9, qaA, qaB, qaC, qaD] at hc110'
     refine rc_skip ?_
     refine pn_seq ?_
     refine rc_region ?_
     refine rd_op (ov_move rfl) ?_
     refine rd_op (ov_move rfl) ?_
     refine rd_op (ov_move rfl) ?_
     obtain ⟨v116, e116, r116⟩ := sl_idx (i := x7_) r0 (by omega) (by omega)
     refine rd_op (ov_iaddr rfl rfl e116) ?_
     refine rd_op (ov_load rfl (TR.cnt api_FieldRef.t r116) (TR.agg api_FieldRef.t r116)) ?_
     refine rd_op (v := .fs true [v116]) (ov_bslice rfl (all_cons (TR.cnt api_FieldRef.t r116) all_nil)) ?_
     have r117 : (tSl api_FieldRef.t).R ([(ix x0 x7_)] : List api_FieldRef) (.fs true [v116]) := sl_fs ⟨r116, trivial⟩ (by simp)
     obtain ⟨nw118, sr118, ar118⟩ := src_of (t := api_FieldRef.t) (h := h) r117
     have f118 : fits (esE102.length + nw118.length) 16 = true := by rw [All2.length_eq qE102, All2.length_eq ar118]; (try simp only [List.length_cons, List.length_nil]); exact fits_of (by first | omega | (simp only [List.length_append, List.length_cons, List.length_nil]; omega)) (by first | omega | (simp only [List.length_append, List.length_cons, List.length_nil]; omega))
     refine rd_appW (k := 0) (es := esE102) (news := nw118) M0 rfl rfl rfl nE102 wrE102 sr118 f118 (fun a118 h118 n118 wr118 M118 => ?_)
     have q118 : All2 api_FieldRef.t.R (zE102 ++ ([(ix x0 x7_)] : List api_FieldRef)) (esE102 ++ nw118) := All2.app qE102 ar118
     have hl118 : (zE102 ++ ([(ix x0 x7_)] : List api_FieldRef)).length ≤ 4611686018427387904 := by rw [← All2.length_eq q118, List.length_append]; exact fits_len f118
     refine rd_op (ov_move rfl) ?_
     refine rd_nil ?_
     refine pn_blk ?_
     refine pn_seq ?_
     refine rc_region ?_
     refine rd_op (ov_move rfl) ?_
     refine rd_op (ov_bin rfl rfl i_add) ?_
     refine rd_op (ov_move rfl) ?_
     refine rd_nil ?_
     refine pn_again ?_
     have hbd := sl_bound r0
     have hinc : wr (x7_ + 1) = x7_ + 1 := wr_of (by omega) (by omega)
     rw [hinc]
     refine rc_weak ?_ (ih true (x7_ + 1) (zE102 ++ ([(ix x0 x7_)] : List api_FieldRef)) (esE102 ++ nw118) a118 q118 n118 wr118 hl118 (by omega) (by omega) (by first | omega | (simp only [List.length_append, List.length_cons, List.length_nil]; omega)) (by first | omega | (simp only [List.length_append, List.length_cons, List.length_nil]; omega)) _ (Mem.sub M118 (.cons_cons _ .slnil)) hres)
     exact ((sub_cons rfl (sub_cons rfl (sub_cons rfl (sub_cons rfl (sub_cons rfl (sub_nil _)))))))
   ·replace hres := (ite_f hc108).symm.trans hres
    have hc108' := hc108
    try simp only [qa1, qa2, qa3, qa4, qa5, qa6, qa7, qa8, qa9, qaA, qaB, qaC, qaD] at hc108'
    refine rc_skip ?_
    refine pn_seq ?_
    refine rc_region ?_
    refine rd_op (ov_move rfl) ?_
    refine rd_op (ov_move rfl) ?_
    refine rd_op (ov_move rfl) ?_
    obtain ⟨v119, e119, r119⟩ := sl_idx (i := x7_) r0 (by omega) (by omega)
    refine rd_op (ov_iaddr rfl rfl e119) ?_
    refine rd_op (ov_load rfl (TR.cnt api_FieldRef.t r119) (TR.agg api_FieldRef.t r119)) ?_
    refine rd_op (v := .fs true [v119]) (ov_bslice rfl (all_cons (TR.cnt api_FieldRef.t r119) all_nil)) ?_
    have r120 : (tSl api_FieldRef.t).R ([(ix x0 x7_)] : List api_FieldRef) (.fs true [v119]) := sl_fs ⟨r119, trivial⟩ (by simp)
    obtain ⟨nw121, sr121, ar121⟩ := src_of (t := api_FieldRef.t) (h := h) r120
    have f121 : fits (esE102.length + nw121.length) 16 = true := by rw [All2.length_eq qE102, All2.length_eq ar121]; (try simp only [List.length_cons, List.length_nil]); exact fits_of (by first | omega | (simp only [List.length_append, List.length_cons, List.length_nil]; omega)) (by first | omega | (simp only [List.length_append, List.length_cons, List.length_nil]; omega))
    refine rd_appW (k := 0) (es := esE102) (news := nw121) M0 rfl rfl rfl nE102 wrE102 sr121 f121 (fun a121 h121 n121 wr121 M121 => ?_)
    have q121 : All2 api_FieldRef.t.R (zE102 ++ ([(ix x0 x7_)] : List api_FieldRef)) (esE102 ++ nw121) := All2.app qE102 ar121
    have hl121 : (zE102 ++ ([(ix x0 x7_)] : List api_FieldRef)).length ≤ 4611686018427387904 := by rw [← All2.length_eq q121, List.length_append]; exact fits_len f121
    refine rd_op (ov_move rfl) ?_
    refine rd_nil ?_
    refine pn_blk ?_
    refine pn_seq ?_
    refine rc_region ?_
    refine rd_op (ov_move rfl) ?_
    refine rd_op (ov_bin rfl rfl i_add) ?_
    refine rd_op (ov_move rfl) ?_
    refine rd_nil ?_
    refine pn_again ?_
    have hbd := sl_bound r0
    have hinc : wr (x7_ + 1) = x7_ + 1 := wr_of (by omega) (by omega)
    rw [hinc]
    refine rc_weak ?_ (ih x6_ (x7_ + 1) (zE102 ++ ([(ix x0 x7_)] : List api_FieldRef)) (esE102 ++ nw121) a121 q121 n121 wr121 hl121 (by omega) (by omega) (by first | omega | (simp only [List.length_append, List.length_cons, List.length_nil]; omega)) (by first | omega | (simp only [List.length_append, List.length_cons, List.length_nil]; omega)) _ (Mem.sub M121 (.cons_cons _ .slnil)) hres)
    exact ((sub_cons rfl (sub_cons rfl (sub_cons rfl (sub_cons rfl (sub_cons rfl (sub_nil _)))))))
  ·exfalso
   try simp only [qa1, qa2, qa3, qa4, qa5, qa6, qa7, qa8, qa9, qaA, qaB, qaC, qaD] at hc104
   omega

theorem f30_ok {x0 : List api_FieldRef} {x1 : api_FieldRef} {v0 : PV} {v1 : PV} (r0 : (tSl api_FieldRef.t).R x0 v0) (r1 : api_FieldRef.t.R x1 v1) (hb : x0.length ≤ 1000) : ∃ r, FnR Try.prog 30 [v0, v1] r ∧ (tSl api_FieldRef.t).R (ref13_AddField x0 x1) r := by
 obtain ⟨res, hres⟩ : ∃ res, ref13_AddField x0 x1 = res := ⟨_, rfl⟩
 suffices H : RC Try.prog ac30 [] (QR Try.prog [(4, none)] (RF30 res)) (argE 0 [v0, v1]) ⟨0, []⟩ by
  rw [hres]
  exact fnE text30 (by simp) H
 unfold ref13_AddField at hres
 unfold ac30
 refine rc_seq ?_
 refine rc_region ?_
 refine rd_op (ov_box rfl (TR.cnt api_FieldRef.t r1)) ?_
 refine rd_op (v := nilS) (ov_move rfl) ?_
 refine rd_nil ?_
 refine pn_seq ?_
 refine rc_seq ?_
 refine rc_region ?_
 refine rd_op (v := nilS) (ov_move rfl) ?_
 refine rd_nil ?_
 refine pn_seq ?_
 refine rc_seq ?_
 refine rc_region ?_
 refine rd_op (v := vb false) (ov_move rfl) ?_
 refine rd_nil ?_
 refine pn_seq ?_
 refine rc_seq ?_
 refine rc_seq ?_
 refine rc_region ?_
 refine rd_op (v := vi 0) (ov_move rfl) ?_
 refine rd_nil ?_
 refine pn_seq ?_
 refine rc_block ?_
 have M101 := mem_acc (sz := 2) (es := []) (Mem.nil ⟨0, []⟩) 60 (.inl ⟨none, rfl, rfl⟩) (by simp)
 refine rc_weak ?_ (ref13_AddField_L1_ok (x0 := x0) (x1 := x1) (v0 := v0) (v1 := v1)  (r0 := r0) (r1 := r1) (hb := hb) ?_ (Int.toNat ((x0.length : Int) - 0)) false 0 ([] : List api_FieldRef) ([] : List PV) nilS (show All2 api_FieldRef.t.R ([] : List api_FieldRef) [] from trivial) rfl (.inl rfl) (by first | decide | simp) rfl (by omega) (by first | omega | simp) (by first | omega | simp) _ (Mem.sub M101 (.cons_cons _ .slnil)) hres)
 ·exact ((sub_cons rfl (sub_cons rfl (sub_cons rfl (sub_cons rfl (sub_cons rfl (sub_nil _)))))))
 ·intro x6_122 zE102_122 es122E102 a122E102 q122E102 n122E102 wr122E102 hl122E102 po122_0 h122 M122 hres
  refine px_blk ?_
  refine pn_seq ?_
  refine rc_seq ?_
  refine rc_seq ?_
  refine rc_region ?_
  refine rd_op (ov_move rfl) ?_
  refine rd_op (ov_not rfl) ?_
  refine rd_nil ?_
  refine pn_seq ?_
  refine rc_cond rfl (fun hc123 => ?_) (fun hc123 => ?_)
  ·replace hres := (ite_t hc123).symm.trans hres
   have hc123' := hc123
   try simp only [qa1, qa2, qa3, qa4, qa5, qa6, qa7, qa8, qa9, qaA, qaB, qaC, qaD] at hc123'
   refine rc_region ?_
   refine rd_op (ov_move rfl) ?_
   refine rd_op (ov_load rfl (TR.cnt api_FieldRef.t r1) (TR.agg api_FieldRef.t r1)) ?_
   refine rd_op (v := .fs true [v1]) (ov_bslice rfl (all_cons (TR.cnt api_FieldRef.t r1) all_nil)) ?_
   have r124 : (tSl api_FieldRef.t).R ([x1] : List api_FieldRef) (.fs true [v1]) := sl_fs ⟨r1, trivial⟩ (by simp)
   obtain ⟨nw125, sr125, ar125⟩ := src_of (t := api_FieldRef.t) (h := h122) r124
   have f125 : fits (es122E102.length + nw125.length) 16 = true := by rw [All2.length_eq q122E102, All2.length_eq ar125]; (try simp only [List.length_cons, List.length_nil]); exact fits_of (by first | omega | (simp only [List.length_append, List.length_cons, List.length_nil]; omega)) (by first | omega | (simp only [List.length_append, List.length_cons, List.length_nil]; omega))
   refine rd_appW (k := 0) (es := es122E102) (news := nw125) M122 rfl rfl rfl n122E102 wr122E102 sr125 f125 (fun a125 h125 n125 wr125 M125 => ?_)
   have q125 : All2 api_FieldRef.t.R (zE102_122 ++ ([x1] : List api_FieldRef)) (es122E102 ++ nw125) := All2.app q122E102 ar125
   have hl125 : (zE102_122 ++ ([x1] : List api_FieldRef)).length ≤ 4611686018427387904 := by rw [← All2.length_eq q125, List.length_append]; exact fits_len f125
   refine rd_op (ov_move rfl) ?_
   refine rd_nil ?_
   refine pn_seq ?_
   refine rc_seq ?_
   refine rc_region ?_
   refine rd_op (ov_move rfl) ?_
   refine rd_op (ov_move rfl) ?_
   refine rd_nil ?_
   refine pn_seq ?_
   obtain ⟨v126, d126, r126⟩ := own_sl (P := Try.prog) (k := 0) (t := api_FieldRef.t) M125 rfl n125 q125 (Nat.le_trans hl125 (by decide))
   subst hres
   exact rc_retV (.tmp rfl .nil) d126 r126
  ·replace hres := (ite_f hc123).symm.trans hres
   have hc123' := hc123
   try simp only [qa1, qa2, qa3, qa4, qa5, qa6, qa7, qa8, qa9, qaA, qaB, qaC, qaD] at hc123'
   refine rc_skip ?_
   refine pn_seq ?_
   refine rc_seq ?_
   refine rc_region ?_
   refine rd_op (ov_move rfl) ?_
   refine rd_op (ov_move rfl) ?_
   refine rd_nil ?_
   refine pn_seq ?_
   obtain ⟨v127, d127, r127⟩ := own_sl (P := Try.prog) (k := 0) (t := api_FieldRef.t) M122 rfl n122E102 q122E102 (Nat.le_trans hl122E102 (by decide))
   subst hres
   exact rc_retV (.tmp rfl .nil) d127 r127

end Go.Proofs.Ytnejfbehaembkaa
