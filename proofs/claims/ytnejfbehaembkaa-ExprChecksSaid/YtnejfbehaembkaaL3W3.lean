/-
 The code of each function does what its plain program says.
-/
import Derived.Test.YtnejfbehaembkaaL3W2
set_option linter.unusedVariables false
set_option linter.unusedSimpArgs false
set_option maxRecDepth 100000
namespace Go.Proofs.Ytnejfbehaembkaa
open Go Go.Pb Go.RowKit
/-- patchbay/patchbayref13.Fields -/
def RF13 (res : (List api_FieldRef)) (r : PV) : Prop := (tSl api_FieldRef.t).R res r
theorem ref13_Fields_L1_ok {S : List Fr} {res : (List api_FieldRef)} {x0 : List api_ExprNode} {v0 : PV} (r0 : (tSl api_ExprNode.t).R x0 v0) (hb : x0.length ≤ 1000) {K0 : (List api_FieldRef) → (List api_FieldRef)}
  (hK0 : ∀ (x3_ : List api_FieldRef) (u3_ : PV) (q3_ : (tSl api_FieldRef.t).R x3_ u3_), K0 x3_ = res → PX Try.prog 0 S (QR Try.prog [(2, none)] (RF13 res)) [(3, u3_)] ⟨0, []⟩) :
  ∀ (m : Nat) (x3_ : List api_FieldRef) (x4_ : Int) (u3_ : PV) (q3_ : (tSl api_FieldRef.t).R x3_ u3_) (hm1 : m = Int.toNat ((x0.length : Int) - x4_)) (hlo1 : 0 ≤ x4_) (iv1_0 : (x3_.length : Int) ≤ x4_), ref13_Fields_L1 x0 K0 m x3_ x4_ = res → RC Try.prog (.loop ac13_L1) S (QR Try.prog [(2, none)] (RF13 res)) [(4, vi x4_), (3, u3_), (0, v0)] ⟨0, []⟩ := by
 have hb' := hb
 try simp only [qa1, qa2, qa3, qa4, qa5, qa6, qa7, qa8, qa9, qaA, qaB, qaC, qaD] at hb'
 intro m
 induction m with
 | zero =>
  intro x3_ x4_ u3_ q3_ hm1 hlo1 iv1_0 hres
  rw [ref13_Fields_L1] at hres
  refine rc_loop ?_
  unfold ac13_L1
  refine rc_seq ?_
  refine rc_seq ?_
  refine rc_region ?_
  refine rd_op (ov_move rfl) ?_
  refine rd_op (ov_move rfl) ?_
  refine rd_op (ov_bi rfl (sl_len r0 Try.underlying32 _)) ?_
  refine rd_op (ov_bin rfl rfl i_lss) ?_
  refine rd_nil ?_
  refine pn_seq ?_
  refine rc_cond rfl (fun hc101 => ?_) (fun hc101 => ?_)
  ·exfalso
   try simp only [qa1, qa2, qa3, qa4, qa5, qa6, qa7, qa8, qa9, qaA, qaB, qaC, qaD] at hc101
   omega
  ·have hend := hres
   have hc101' := hc101
   try simp only [qa1, qa2, qa3, qa4, qa5, qa6, qa7, qa8, qa9, qaA, qaB, qaC, qaD] at hc101'
   refine rc_exit ?_
   refine px_seq ?_
   refine px_again ?_
   exact px_weak ((sub_cons rfl (sub_nil _))) (hK0 x3_ u3_ (show (tSl api_FieldRef.t).R x3_ u3_ from q3_) hres)
 | succ m ih =>
  intro x3_ x4_ u3_ q3_ hm1 hlo1 iv1_0 hres
  rw [ref13_Fields_L1] at hres
  refine rc_loop ?_
  unfold ac13_L1
  refine rc_seq ?_
  refine rc_seq ?_
  refine rc_region ?_
  refine rd_op (ov_move rfl) ?_
  refine rd_op (ov_move rfl) ?_
  refine rd_op (ov_bi rfl (sl_len r0 Try.underlying32 _)) ?_
  refine rd_op (ov_bin rfl rfl i_lss) ?_
  refine rd_nil ?_
  refine pn_seq ?_
  refine rc_cond rfl (fun hc102 => ?_) (fun hc102 => ?_)
  ·have hgo := hres
   have hc102' := hc102
   try simp only [qa1, qa2, qa3, qa4, qa5, qa6, qa7, qa8, qa9, qaA, qaB, qaC, qaD] at hc102'
   refine rc_skip ?_
   refine pn_seq ?_
   refine rc_seq ?_
   refine rc_block ?_
   refine rc_seq ?_
   refine rc_region ?_
   refine rd_op (ov_move rfl) ?_
   refine rd_op (ov_move rfl) ?_
   obtain ⟨v103, e103, r103⟩ := sl_idx (i := x4_) r0 (by omega) (by omega)
   refine rd_op (ov_iaddr rfl rfl e103) ?_
   refine rd_op (ov_faddr rfl (api_ExprNode.g_Op r103)) ?_
   refine rd_op (ov_load rfl rfl rfl) ?_
   refine rd_op (ov_bin rfl rfl i_eql) ?_
   refine rd_nil ?_
   refine pn_seq ?_
   refine rc_cond rfl (fun hc104 => ?_) (fun hc104 => ?_)
   ·replace hres := (ite_t hc104).symm.trans hres
    have hc104' := hc104
    try simp only [qa1, qa2, qa3, qa4, qa5, qa6, qa7, qa8, qa9, qaA, qaB, qaC, qaD] at hc104'
    refine rc_region ?_
    refine rd_op (ov_move rfl) ?_
    refine rd_op (ov_move rfl) ?_
    refine rd_op (ov_move rfl) ?_
    obtain ⟨v105, e105, r105⟩ := sl_idx (i := x4_) r0 (by omega) (by omega)
    refine rd_op (ov_iaddr rfl rfl e105) ?_
    refine rd_op (ov_faddr rfl (api_ExprNode.g_N r105)) ?_
    refine rd_op (ov_load rfl rfl rfl) ?_
    refine rd_op (ov_move rfl) ?_
    refine rd_op (ov_move rfl) ?_
    obtain ⟨v106, e106, r106⟩ := sl_idx (i := x4_) r0 (by omega) (by omega)
    refine rd_op (ov_iaddr rfl rfl e106) ?_
    refine rd_op (ov_faddr rfl (api_ExprNode.g_W r106)) ?_
    refine rd_op (ov_load rfl rfl rfl) ?_
    refine rd_op (v := .agg [vi ((ix x0 x4_).N), vi ((ix x0 x4_).W)]) (ov_build (cs := [vi ((ix x0 x4_).N), vi ((ix x0 x4_).W)]) rfl rfl) ?_
    obtain ⟨y107, hw107, hres⟩ := let_ex hres
    obtain ⟨v108, f107, r108⟩ := f30_ok  q3_ (show api_FieldRef.t.R ({ Header := (ix x0 x4_).N, Field := (ix x0 x4_).W } : api_FieldRef) (.agg [vi ((ix x0 x4_).N), vi ((ix x0 x4_).W)]) from rfl) (by first | assumption | omega | (rw [wr_of (by omega) (by omega)]; omega))
    rw [hw107] at r108
    have ek107 := AddField_len hw107
    refine rd_call (cv_fn rfl rfl (clL_cons (TR.clo (tSl api_FieldRef.t) q3_) (clL_cons (TR.clo api_FieldRef.t (show api_FieldRef.t.R ({ Header := (ix x0 x4_).N, Field := (ix x0 x4_).W } : api_FieldRef) (.agg [vi ((ix x0 x4_).N), vi ((ix x0 x4_).W)]) from rfl)) clL_nil)) f107) ?_
    refine rd_op (ov_move rfl) ?_
    refine rd_nil ?_
    refine pn_blk ?_
    refine pn_seq ?_
    refine rc_region ?_
    refine rd_op (ov_move rfl) ?_
    refine rd_op (ov_bin rfl rfl i_add) ?_
    refine rd_op (ov_move rfl) ?_
    refine rd_nil ?_
    refine pn_again ?_
    have hbd := sl_bound r0
    have hinc : wr (x4_ + 1) = x4_ + 1 := wr_of (by omega) (by omega)
    rw [hinc]
    refine rc_weak ?_ (ih y107 (x4_ + 1) v108 (show (tSl api_FieldRef.t).R y107 v108 from r108) (by omega) (by omega) (by first | omega | (simp; done) | (simp only [List.length_append, List.length_cons, List.length_nil, List.length_set]; omega)) hres)
    exact ((sub_cons rfl (sub_cons rfl (sub_cons rfl (sub_nil _)))))
   ·replace hres := (ite_f hc104).symm.trans hres
    have hc104' := hc104
    try simp only [qa1, qa2, qa3, qa4, qa5, qa6, qa7, qa8, qa9, qaA, qaB, qaC, qaD] at hc104'
    refine rc_skip ?_
    refine pn_blk ?_
    refine pn_seq ?_
    refine rc_region ?_
    refine rd_op (ov_move rfl) ?_
    refine rd_op (ov_bin rfl rfl i_add) ?_
    refine rd_op (ov_move rfl) ?_
    refine rd_nil ?_
    refine pn_again ?_
    have hbd := sl_bound r0
    have hinc : wr (x4_ + 1) = x4_ + 1 := wr_of (by omega) (by omega)
    rw [hinc]
    refine rc_weak ?_ (ih x3_ (x4_ + 1) u3_ (show (tSl api_FieldRef.t).R x3_ u3_ from q3_) (by omega) (by omega) (by first | omega | (simp; done) | (simp only [List.length_append, List.length_cons, List.length_nil, List.length_set]; omega)) hres)
    exact ((sub_cons rfl (sub_cons rfl (sub_cons rfl (sub_nil _)))))
  ·exfalso
   try simp only [qa1, qa2, qa3, qa4, qa5, qa6, qa7, qa8, qa9, qaA, qaB, qaC, qaD] at hc102
   omega

theorem f13_ok {x0 : List api_ExprNode} {v0 : PV} (r0 : (tSl api_ExprNode.t).R x0 v0) (hb : x0.length ≤ 1000) : ∃ r, FnR Try.prog 13 [v0] r ∧ (tSl api_FieldRef.t).R (ref13_Fields x0) r := by
 obtain ⟨res, hres⟩ : ∃ res, ref13_Fields x0 = res := ⟨_, rfl⟩
 suffices H : RC Try.prog ac13 [] (QR Try.prog [(2, none)] (RF13 res)) (argE 0 [v0]) ⟨0, []⟩ by
  rw [hres]
  exact fnE text13 (by simp) H
 unfold ref13_Fields at hres
 unfold ac13
 refine rc_seq ?_
 refine rc_region ?_
 refine rd_op (v := nilS) (ov_move rfl) ?_
 refine rd_nil ?_
 refine pn_seq ?_
 refine rc_seq ?_
 refine rc_region ?_
 refine rd_op (v := nilS) (ov_move rfl) ?_
 refine rd_nil ?_
 refine pn_seq ?_
 refine rc_seq ?_
 refine rc_seq ?_
 refine rc_region ?_
 refine rd_op (v := vi 0) (ov_move rfl) ?_
 refine rd_nil ?_
 refine pn_seq ?_
 refine rc_block ?_
 refine rc_weak ?_ (ref13_Fields_L1_ok (x0 := x0) (v0 := v0)  (r0 := r0) (hb := hb) ?_ (Int.toNat ((x0.length : Int) - 0)) ([] : List api_FieldRef) 0 nilS (show (tSl api_FieldRef.t).R ([] : List api_FieldRef) nilS from sl_nil) rfl (by omega) (by simp) hres)
 ·exact ((sub_cons rfl (sub_cons rfl (sub_cons rfl (sub_nil _)))))
 ·intro x3_109 u3_109 q3_109 hres
  refine px_blk ?_
  refine pn_seq ?_
  refine rc_seq ?_
  refine rc_region ?_
  refine rd_op (ov_move rfl) ?_
  refine rd_op (ov_move rfl) ?_
  refine rd_nil ?_
  refine pn_seq ?_
  subst hres
  exact rc_retV (.tmp rfl .nil) (deep_closed (TR.clo (tSl api_FieldRef.t) q3_109)) q3_109

/-- patchbay/patchbayref13.EqualFields -/
def RF11 (res : Bool) (r : PV) : Prop := r = vb res
theorem ref13_EqualFields_L1_ok {S : List Fr} {res : Bool} {x0 : List api_FieldRef} {x1 : List api_FieldRef} {v0 : PV} {v1 : PV} (r0 : (tSl api_FieldRef.t).R x0 v0) (r1 : (tSl api_FieldRef.t).R x1 v1) (hc101 : (!decide ((x0.length : Int) = (x1.length : Int))) = false) {K0 : Unit → Bool}
  (hK0 : K0 () = res → PX Try.prog 0 S (QR Try.prog [(4, none)] (RF11 res)) [] ⟨0, []⟩) :
  ∀ (m : Nat) (x5_ : Int) (hm1 : m = Int.toNat ((x0.length : Int) - x5_)) (hlo1 : 0 ≤ x5_), ref13_EqualFields_L1 x0 x1 K0 m x5_ = res → RC Try.prog (.loop ac11_L1) S (QR Try.prog [(4, none)] (RF11 res)) [(5, vi x5_), (1, v1), (0, v0)] ⟨0, []⟩ := by
 have hc101' := hc101
 try simp only [qa1, qa2, qa3, qa4, qa5, qa6, qa7, qa8, qa9, qaA, qaB, qaC, qaD] at hc101'
 intro m
 induction m with
 | zero =>
  intro x5_ hm1 hlo1 hres
  rw [ref13_EqualFields_L1] at hres
  refine rc_loop ?_
  unfold ac11_L1
  refine rc_seq ?_
  refine rc_seq ?_
  refine rc_region ?_
  refine rd_op (ov_move rfl) ?_
  refine rd_op (ov_move rfl) ?_
  refine rd_op (ov_bi rfl (sl_len r0 Try.underlying52 _)) ?_
  refine rd_op (ov_bin rfl rfl i_lss) ?_
  refine rd_nil ?_
  refine pn_seq ?_
  refine rc_cond rfl (fun hc102 => ?_) (fun hc102 => ?_)
  ·exfalso
   try simp only [qa1, qa2, qa3, qa4, qa5, qa6, qa7, qa8, qa9, qaA, qaB, qaC, qaD] at hc102
   omega
  ·have hend := hres
   have hc102' := hc102
   try simp only [qa1, qa2, qa3, qa4, qa5, qa6, qa7, qa8, qa9, qaA, qaB, qaC, qaD] at hc102'
   refine rc_exit ?_
   refine px_seq ?_
   refine px_again ?_
   exact px_weak ((sub_nil _)) (hK0  hres)
 | succ m ih =>
  intro x5_ hm1 hlo1 hres
  rw [ref13_EqualFields_L1] at hres
  refine rc_loop ?_
  unfold ac11_L1
  refine rc_seq ?_
  refine rc_seq ?_
  refine rc_region ?_
  refine rd_op (ov_move rfl) ?_
  refine rd_op (ov_move rfl) ?_
  refine rd_op (ov_bi rfl (sl_len r0 Try.underlying52 _)) ?_
  refine rd_op (ov_bin rfl rfl i_lss) ?_
  refine rd_nil ?_
  refine pn_seq ?_
  refine rc_cond rfl (fun hc103 => ?_) (fun hc103 => ?_)
  ·have hgo := hres
   have hc103' := hc103
   try simp only [qa1, qa2, qa3, qa4, qa5, qa6, qa7, qa8, qa9, qaA, qaB, qaC, qaD] at hc103'
   refine rc_skip ?_
   refine pn_seq ?_
   refine rc_seq ?_
   refine rc_block ?_
   refine rc_seq ?_
   refine rc_region ?_
   refine rd_op (ov_move rfl) ?_
   refine rd_op (ov_move rfl) ?_
   obtain ⟨v104, e104, r104⟩ := sl_idx (i := x5_) r0 (by omega) (by omega)
   refine rd_op (ov_iaddr rfl rfl e104) ?_
   refine rd_op (ov_load rfl (TR.cnt api_FieldRef.t r104) (TR.agg api_FieldRef.t r104)) ?_
   refine rd_op (ov_move rfl) ?_
   refine rd_op (ov_move rfl) ?_
   obtain ⟨v105, e105, r105⟩ := sl_idx (i := x5_) r1 (by omega) (by omega)
   refine rd_op (ov_iaddr rfl rfl e105) ?_
   refine rd_op (ov_load rfl (TR.cnt api_FieldRef.t r105) (TR.agg api_FieldRef.t r105)) ?_
   refine rd_op (ov_bin rfl rfl (api_FieldRef.neq_60 r104 r105)) ?_
   refine rd_nil ?_
   refine pn_seq ?_
   refine rc_cond rfl (fun hc106 => ?_) (fun hc106 => ?_)
   ·replace hres := (ite_t hc106).symm.trans hres
    have hc106' := hc106
    try simp only [qa1, qa2, qa3, qa4, qa5, qa6, qa7, qa8, qa9, qaA, qaB, qaC, qaD] at hc106'
    refine rc_seq ?_
    refine rc_region ?_
    refine rd_op (v := vb false) (ov_move rfl) ?_
    refine rd_nil ?_
    refine pn_seq ?_
    subst hres
    exact rc_retV (.tmp rfl .nil) (deep_closed rfl) rfl
   ·replace hres := (ite_f hc106).symm.trans hres
    have hc106' := hc106
    try simp only [qa1, qa2, qa3, qa4, qa5, qa6, qa7, qa8, qa9, qaA, qaB, qaC, qaD] at hc106'
    refine rc_skip ?_
    refine pn_blk ?_
    refine pn_seq ?_
    refine rc_region ?_
    refine rd_op (ov_move rfl) ?_
    refine rd_op (ov_bin rfl rfl i_add) ?_
    refine rd_op (ov_move rfl) ?_
    refine rd_nil ?_
    refine pn_again ?_
    have hbd := sl_bound r0
    have hinc : wr (x5_ + 1) = x5_ + 1 := wr_of (by omega) (by omega)
    rw [hinc]
    refine rc_weak ?_ (ih (x5_ + 1)  (by omega) (by omega) hres)
    exact ((sub_cons rfl (sub_cons rfl (sub_cons rfl (sub_nil _)))))
  ·exfalso
   try simp only [qa1, qa2, qa3, qa4, qa5, qa6, qa7, qa8, qa9, qaA, qaB, qaC, qaD] at hc103
   omega

theorem f11_ok {x0 : List api_FieldRef} {x1 : List api_FieldRef} {v0 : PV} {v1 : PV} (r0 : (tSl api_FieldRef.t).R x0 v0) (r1 : (tSl api_FieldRef.t).R x1 v1) : FnR Try.prog 11 [v0, v1] (vb (ref13_EqualFields x0 x1)) := by
 obtain ⟨res, hres⟩ : ∃ res, ref13_EqualFields x0 x1 = res := ⟨_, rfl⟩
 suffices H : RC Try.prog ac11 [] (QR Try.prog [(4, none)] (RF11 res)) (argE 0 [v0, v1]) ⟨0, []⟩ by
  obtain ⟨r, h1, h2⟩ := fnE text11 (by simp) H
  rw [hres]
  have h2 : r = vb res := h2
  rw [← h2]; exact h1
 unfold ref13_EqualFields at hres
 unfold ac11
 refine rc_seq ?_
 refine rc_region ?_
 refine rd_op (v := vb false) (ov_move rfl) ?_
 refine rd_nil ?_
 refine pn_seq ?_
 refine rc_seq ?_
 refine rc_seq ?_
 refine rc_region ?_
 refine rd_op (ov_move rfl) ?_
 refine rd_op (ov_bi rfl (sl_len r0 Try.underlying52 _)) ?_
 refine rd_op (ov_move rfl) ?_
 refine rd_op (ov_bi rfl (sl_len r1 Try.underlying52 _)) ?_
 refine rd_op (ov_bin rfl rfl i_neq) ?_
 refine rd_nil ?_
 refine pn_seq ?_
 refine rc_cond rfl (fun hc101 => ?_) (fun hc101 => ?_)
 ·replace hres := (ite_t hc101).symm.trans hres
  have hc101' := hc101
  try simp only [qa1, qa2, qa3, qa4, qa5, qa6, qa7, qa8, qa9, qaA, qaB, qaC, qaD] at hc101'
  refine rc_seq ?_
  refine rc_region ?_
  refine rd_op (v := vb false) (ov_move rfl) ?_
  refine rd_nil ?_
  refine pn_seq ?_
  subst hres
  exact rc_retV (.tmp rfl .nil) (deep_closed rfl) rfl
 ·replace hres := (ite_f hc101).symm.trans hres
  have hc101' := hc101
  try simp only [qa1, qa2, qa3, qa4, qa5, qa6, qa7, qa8, qa9, qaA, qaB, qaC, qaD] at hc101'
  refine rc_skip ?_
  refine pn_seq ?_
  refine rc_seq ?_
  refine rc_seq ?_
  refine rc_region ?_
  refine rd_op (v := vi 0) (ov_move rfl) ?_
  refine rd_nil ?_
  refine pn_seq ?_
  refine rc_block ?_
  refine rc_weak ?_ (ref13_EqualFields_L1_ok (x0 := x0) (x1 := x1) (v0 := v0) (v1 := v1)  (r0 := r0) (r1 := r1) (hc101 := hc101) ?_ (Int.toNat ((x0.length : Int) - 0)) 0 rfl (by omega) hres)
  ·exact ((sub_cons rfl (sub_cons rfl (sub_cons rfl (sub_nil _)))))
  ·intro  hres
   refine px_blk ?_
   refine pn_seq ?_
   refine rc_seq ?_
   refine rc_region ?_
   refine rd_op (v := vb true) (ov_move rfl) ?_
   refine rd_nil ?_
   refine pn_seq ?_
   subst hres
   exact rc_retV (.tmp rfl .nil) (deep_closed rfl) rfl

def RF31 (a0 : PV) (R_ : List Ent) (res : List Int) (r : PV) (h : Heap) : Prop := ∃ es : List PV, Mem h (⟨a0, 3, 1, es⟩ :: R_) ∧ All2 tI.R res es ∧ res.length ≤ 4611686018427387904 ∧ Wri a0 es ∧ r = .tup []
theorem f31_ok {x0 : List Int} {a0 : PV} {es0 : List PV} {R_ : List Ent} {h_ : Heap} (q : All2 tI.R x0 es0) (ne : isL a0 = true) (hl : x0.length ≤ 4611686018427387904) (wi : Wri a0 es0) (M : Mem h_ (⟨a0, 3, 1, es0⟩ :: R_)) (hb : x0.length ≤ 1000000) : ∃ r h2_, FnX Try.prog 31 [a0] h_ r h2_ ∧ RF31 a0 R_ (slices_Sort__int_int_ x0) r h2_ := by
 obtain ⟨r, h2, X, es', M2, q2, w2, hr⟩ := sort_int_X text31.enters Try.sortI_calls Try.sortI_none q ne hb wi M
 exact ⟨r, h2, X, es', M2, q2, by rw [slices_Sort__int_int_, List.length_mergeSort]; exact hl, w2, hr⟩

theorem f32_ok {x0 : List Int} {a0 : PV} {es0 : List PV} {R_ : List Ent} {h_ : Heap} (q : All2 tI.R x0 es0) (ne : isL a0 = true) (hl : x0.length ≤ 4611686018427387904) (wi : Wri a0 es0) (M : Mem h_ (⟨a0, 3, 1, es0⟩ :: R_)) : ∃ r h2_, FnX Try.prog 32 [a0] h_ r h2_ ∧ RF32 R_ (slices_Compact__int_int_ x0) r h2_ := f32_cpt q ne hl wi M

/-- patchbay/expr.Headers -/
def RF15 (res : (List Int)) (r : PV) : Prop := (tSl tI).R res r
theorem expr_Headers_L1_ok {S : List Fr} {res : (List Int)} {x0 : List api_ExprNode} {v0 : PV} (r0 : (tSl api_ExprNode.t).R x0 v0) (hb : x0.length ≤ 1000) {K0 : (List Int) → (List Int)}
  (hK0 : ∀ (zE102 : List Int) (esE102 : List PV) (aE102 : PV) (qE102 : All2 tI.R zE102 esE102) (nE102 : isL aE102 = true) (wrE102 : Wri aE102 esE102) (hlE102 : zE102.length ≤ 4611686018427387904) (po0 : zE102.length ≤ 1000) (h : Heap) (M0 : Mem h [⟨aE102, 3, 1, esE102⟩]), K0 zE102 = res → PX Try.prog 0 S (QR Try.prog [(2, none)] (RF15 res)) [(3, aE102)] h) :
  ∀ (m : Nat) (x8_ : Int) (zE102 : List Int) (esE102 : List PV) (aE102 : PV) (qE102 : All2 tI.R zE102 esE102) (nE102 : isL aE102 = true) (wrE102 : Wri aE102 esE102) (hlE102 : zE102.length ≤ 4611686018427387904) (hm1 : m = Int.toNat ((x0.length : Int) - x8_)) (hlo1 : 0 ≤ x8_) (iv1_0 : (zE102.length : Int) ≤ x8_) (iv1_1 : x8_ ≤ (x0.length : Int)) (h : Heap) (M0 : Mem h [⟨aE102, 3, 1, esE102⟩]), expr_Headers_L1 x0 K0 m x8_ zE102 = res → RC Try.prog (.loop ac15_L1) S (QR Try.prog [(2, none)] (RF15 res)) [(8, vi x8_), (7, vi (x0.length : Int)), (6, v0), (3, aE102)] h := by
 have hb' := hb
 try simp only [qa1, qa2, qa3, qa4, qa5, qa6, qa7, qa8, qa9, qaA, qaB, qaC, qaD] at hb'
 intro m
 induction m with
 | zero =>
  intro x8_ zE102 esE102 aE102 qE102 nE102 wrE102 hlE102 hm1 hlo1 iv1_0 iv1_1 h M0 hres
  rw [expr_Headers_L1] at hres
  refine rc_loop ?_
  unfold ac15_L1
  refine rc_seq ?_
  refine rc_region ?_
  refine rd_op (ov_bin rfl rfl i_lss) ?_
  refine rd_nil ?_
  refine pn_seq ?_
  refine rc_seq ?_
  refine rc_cond rfl (fun hc103 => ?_) (fun hc103 => ?_)
  ·exfalso
   try simp only [qa1, qa2, qa3, qa4, qa5, qa6, qa7, qa8, qa9, qaA, qaB, qaC, qaD] at hc103
   omega
  ·have hend := hres
   have hc103' := hc103
   try simp only [qa1, qa2, qa3, qa4, qa5, qa6, qa7, qa8, qa9, qaA, qaB, qaC, qaD] at hc103'
   refine rc_exit ?_
   refine px_seq ?_
   refine px_again ?_
   exact px_weak ((sub_cons rfl (sub_nil _))) (hK0 zE102 esE102 aE102 qE102 nE102 wrE102 hlE102 (by omega) _ (Mem.sub M0 (.cons_cons _ .slnil)) hres)
 | succ m ih =>
  intro x8_ zE102 esE102 aE102 qE102 nE102 wrE102 hlE102 hm1 hlo1 iv1_0 iv1_1 h M0 hres
  rw [expr_Headers_L1] at hres
  refine rc_loop ?_
  unfold ac15_L1
  refine rc_seq ?_
  refine rc_region ?_
  refine rd_op (ov_bin rfl rfl i_lss) ?_
  refine rd_nil ?_
  refine pn_seq ?_
  refine rc_seq ?_
  refine rc_cond rfl (fun hc104 => ?_) (fun hc104 => ?_)
  ·have hgo := hres
   have hc104' := hc104
   try simp only [qa1, qa2, qa3, qa4, qa5, qa6, qa7, qa8, qa9, qaA, qaB, qaC, qaD] at hc104'
   refine rc_skip ?_
   refine pn_seq ?_
   refine rc_seq ?_
   refine rc_block ?_
   refine rc_seq ?_
   refine rc_region ?_
   obtain ⟨v105, e105, r105⟩ := sl_idx (i := x8_) r0 (by omega) (by omega)
   refine rd_op (ov_iaddr rfl rfl e105) ?_
   refine rd_op (ov_load rfl (TR.cnt api_ExprNode.t r105) (TR.agg api_ExprNode.t r105)) ?_
   refine rd_allocO (x := .agg [vi 0, vi 0, vi 0]) M0 rfl rfl (fun i106 w106 h106 M106 => ?_)
   refine rd_storeO (k := 0) (v := v105) M106 rfl rfl rfl (TR.cnt api_ExprNode.t r105) (fun h108 M108 => ?_)
   replace M108 : Mem h108 [⟨.op i106 w106 0, 69, 3, [v105]⟩, ⟨aE102, 3, 1, esE102⟩] := M108
   refine rd_nil ?_
   refine pn_seq ?_
   refine rc_seq ?_
   refine rc_region ?_
   refine rd_op (ov_faddrO rfl) ?_
   refine rd_op (ov_loadf (k := 0) M108 rfl rfl (api_ExprNode.g_Op r105)) ?_
   refine rd_op (ov_bin rfl rfl i_eql) ?_
   refine rd_nil ?_
   refine pn_seq ?_
   refine rc_cond rfl (fun hc109 => ?_) (fun hc109 => ?_)
   ·replace hres := (ite_t hc109).symm.trans hres
    have hc109' := hc109
    try simp only [qa1, qa2, qa3, qa4, qa5, qa6, qa7, qa8, qa9, qaA, qaB, qaC, qaD] at hc109'
    refine rc_region ?_
    refine rd_op (ov_move rfl) ?_
    refine rd_op (ov_faddrO rfl) ?_
    refine rd_op (ov_loadf (k := 0) M108 rfl rfl (api_ExprNode.g_N r105)) ?_
    refine rd_op (v := .fs true [vi ((ix x0 x8_).N)]) (ov_bslice rfl (all_cons rfl all_nil)) ?_
    have r110 : (tSl tI).R ([(ix x0 x8_).N] : List Int) (.fs true [vi ((ix x0 x8_).N)]) := sl_fs ⟨rfl, trivial⟩ (by simp)
    obtain ⟨nw111, sr111, ar111⟩ := src_of (t := tI) (h := h108) r110
    have f111 : fits (esE102.length + nw111.length) 8 = true := by rw [All2.length_eq qE102, All2.length_eq ar111]; (try simp only [List.length_cons, List.length_nil]); exact fits_of (by first | omega | (simp only [List.length_append, List.length_cons, List.length_nil]; omega)) (by first | omega | (simp only [List.length_append, List.length_cons, List.length_nil]; omega))
    refine rd_appW (k := 1) (es := esE102) (news := nw111) M108 rfl rfl rfl nE102 wrE102 sr111 f111 (fun a111 h111 n111 wr111 M111 => ?_)
    have q111 : All2 tI.R (zE102 ++ ([(ix x0 x8_).N] : List Int)) (esE102 ++ nw111) := All2.app qE102 ar111
    have hl111 : (zE102 ++ ([(ix x0 x8_).N] : List Int)).length ≤ 4611686018427387904 := by rw [← All2.length_eq q111, List.length_append]; exact fits_len f111
    refine rd_op (ov_move rfl) ?_
    refine rd_nil ?_
    refine pn_blk ?_
    refine pn_seq ?_
    refine rc_region ?_
    refine rd_op (ov_bin rfl rfl i_add) ?_
    refine rd_op (ov_move rfl) ?_
    refine rd_nil ?_
    refine pn_again ?_
    have hbd := sl_bound r0
    have hinc : wr (x8_ + 1) = x8_ + 1 := wr_of (by omega) (by omega)
    rw [hinc]
    refine rc_weak ?_ (ih (x8_ + 1) (zE102 ++ ([(ix x0 x8_).N] : List Int)) (esE102 ++ nw111) a111 q111 n111 wr111 hl111 (by omega) (by omega) (by first | omega | (simp only [List.length_append, List.length_cons, List.length_nil]; omega)) (by first | omega | (simp only [List.length_append, List.length_cons, List.length_nil]; omega)) _ (Mem.sub M111 (.cons _ (.cons_cons _ .slnil))) hres)
    exact ((sub_cons rfl (sub_cons rfl (sub_cons rfl (sub_cons rfl (sub_nil _))))))
   ·replace hres := (ite_f hc109).symm.trans hres
    have hc109' := hc109
    try simp only [qa1, qa2, qa3, qa4, qa5, qa6, qa7, qa8, qa9, qaA, qaB, qaC, qaD] at hc109'
    refine rc_skip ?_
    refine pn_blk ?_
    refine pn_seq ?_
    refine rc_region ?_
    refine rd_op (ov_bin rfl rfl i_add) ?_
    refine rd_op (ov_move rfl) ?_
    refine rd_nil ?_
    refine pn_again ?_
    have hbd := sl_bound r0
    have hinc : wr (x8_ + 1) = x8_ + 1 := wr_of (by omega) (by omega)
    rw [hinc]
    refine rc_weak ?_ (ih (x8_ + 1) zE102 esE102 aE102 qE102 nE102 wrE102 hlE102 (by omega) (by omega) (by first | omega | (simp only [List.length_append, List.length_cons, List.length_nil]; omega)) (by first | omega | (simp only [List.length_append, List.length_cons, List.length_nil]; omega)) _ (Mem.sub M108 (.cons _ (.cons_cons _ .slnil))) hres)
    exact ((sub_cons rfl (sub_cons rfl (sub_cons rfl (sub_cons rfl (sub_nil _))))))
  ·exfalso
   try simp only [qa1, qa2, qa3, qa4, qa5, qa6, qa7, qa8, qa9, qaA, qaB, qaC, qaD] at hc104
   omega

theorem f15_ok {x0 : List api_ExprNode} {v0 : PV} (r0 : (tSl api_ExprNode.t).R x0 v0) (hb : x0.length ≤ 1000) : ∃ r, FnR Try.prog 15 [v0] r ∧ (tSl tI).R (expr_Headers x0) r := by
 obtain ⟨res, hres⟩ : ∃ res, expr_Headers x0 = res := ⟨_, rfl⟩
 suffices H : RC Try.prog ac15 [] (QR Try.prog [(2, none)] (RF15 res)) (argE 0 [v0]) ⟨0, []⟩ by
  rw [hres]
  exact fnE text15 (by simp) H
 unfold expr_Headers at hres
 unfold ac15
 refine rc_seq ?_
 refine rc_region ?_
 refine rd_op (v := nilS) (ov_move rfl) ?_
 refine rd_nil ?_
 refine pn_seq ?_
 refine rc_seq ?_
 refine rc_region ?_
 refine rd_op (v := nilS) (ov_move rfl) ?_
 refine rd_nil ?_
 refine pn_seq ?_
 refine rc_seq ?_
 refine rc_seq ?_
 refine rc_region ?_
 refine rd_op (ov_move rfl) ?_
 refine rd_op (ov_bi rfl (sl_len r0 Try.underlying32 _)) ?_
 refine rd_op (v := vi 0) (ov_move rfl) ?_
 refine rd_nil ?_
 refine pn_seq ?_
 refine rc_block ?_
 have M101 := mem_acc (sz := 1) (es := []) (Mem.nil ⟨0, []⟩) 3 (.inl ⟨none, rfl, rfl⟩) (by simp)
 refine rc_weak ?_ (expr_Headers_L1_ok (x0 := x0) (v0 := v0)  (r0 := r0) (hb := hb) ?_ (Int.toNat ((x0.length : Int) - 0)) 0 ([] : List Int) ([] : List PV) nilS (show All2 tI.R ([] : List Int) [] from trivial) rfl (.inl rfl) (by first | decide | simp) rfl (by omega) (by first | omega | simp) (by first | omega | simp) _ (Mem.sub M101 (.cons_cons _ .slnil)) hres)
 ·exact ((sub_cons rfl (sub_cons rfl (sub_cons rfl (sub_cons rfl (sub_nil _))))))
 ·intro zE102_112 es112E102 a112E102 q112E102 n112E102 wr112E102 hl112E102 po112_0 h112 M112 hres
  refine px_blk ?_
  refine pn_seq ?_
  refine rc_seq ?_
  refine rc_regionS ?_
  refine rs_step ?_
  refine rd_op (ov_move rfl) ?_
  refine rs_back ?_
  have M113 : Mem h112 [⟨a112E102, 3, 1, es112E102⟩] := (Mem.front (k := 0) M112 rfl)
  obtain ⟨y113, hw113, hres⟩ := let_ex hres
  obtain ⟨vr113, h114, hX113, hZ113⟩ := f31_ok (x0 := zE102_112) q112E102 n112E102 hl112E102 wr112E102 M113 (by first | assumption | omega | (rw [wr_of (by omega) (by omega)]; omega))
  rw [hw113] at hZ113
  obtain ⟨es113_p0, M114, qs113_p0, hs113_p0, wi113_p0, hr113⟩ := hZ113
  replace hr113 := hr113.symm; subst hr113
  refine rs_callXc rfl rfl hX113 ?_
  refine rs_nil ?_
  refine pn_seq ?_
  refine rc_seq ?_
  refine rc_regionS ?_
  refine rs_step ?_
  refine rd_op (ov_move rfl) ?_
  refine rs_back ?_
  have M115 : Mem h114 [⟨a112E102, 3, 1, es113_p0⟩] := (Mem.front (k := 0) M114 rfl)
  obtain ⟨y115, hw115, hres⟩ := let_ex hres
  obtain ⟨vr115, h117, hX115, hZ115⟩ := f32_ok (x0 := y113) qs113_p0 n112E102 hs113_p0 wi113_p0 M115 
  rw [hw115] at hZ115
  obtain ⟨as115_0, es115_0, M117, qs115_0, ns115_0, hs115_0, wi115_0, hr115⟩ := hZ115
  replace hr115 := hr115.symm; subst hr115
  refine rs_callXc rfl rfl hX115 ?_
  refine rs_step ?_
  refine rd_op (ov_move rfl) ?_
  refine rs_back ?_
  refine rs_nil ?_
  refine pn_seq ?_
  obtain ⟨v118, d118, r118⟩ := own_sl (P := Try.prog) (k := 0) (t := tI) M117 rfl ns115_0 qs115_0 (Nat.le_trans hs115_0 (by decide))
  subst hres
  exact rc_retV (.tmp rfl .nil) d118 r118

/-- patchbay/patchbayref13.AddInt -/
def RF33 (res : (List Int)) (r : PV) : Prop := (tSl tI).R res r
theorem ref13_AddInt_L1_ok {S : List Fr} {res : (List Int)} {x0 : List Int} {x1 : Int} {v0 : PV} (r0 : (tSl tI).R x0 v0) (hb : x0.length ≤ 1000) {K0 : Bool → (List Int) → (List Int)}
  (hK0 : ∀ (x6_ : Bool) (zE102 : List Int) (esE102 : List PV) (aE102 : PV) (qE102 : All2 tI.R zE102 esE102) (nE102 : isL aE102 = true) (wrE102 : Wri aE102 esE102) (hlE102 : zE102.length ≤ 4611686018427387904) (po0 : zE102.length ≤ 2000) (h : Heap) (M0 : Mem h [⟨aE102, 3, 1, esE102⟩]), K0 x6_ zE102 = res → PX Try.prog 0 S (QR Try.prog [(4, none)] (RF33 res)) [(1, vi x1), (5, aE102), (6, vb x6_)] h) :
  ∀ (m : Nat) (x6_ : Bool) (x7_ : Int) (zE102 : List Int) (esE102 : List PV) (aE102 : PV) (qE102 : All2 tI.R zE102 esE102) (nE102 : isL aE102 = true) (wrE102 : Wri aE102 esE102) (hlE102 : zE102.length ≤ 4611686018427387904) (hm1 : m = Int.toNat ((x0.length : Int) - x7_)) (hlo1 : 0 ≤ x7_) (iv1_0 : (zE102.length : Int) ≤ 2 * x7_) (iv1_1 : x7_ ≤ (x0.length : Int)) (h : Heap) (M0 : Mem h [⟨aE102, 3, 1, esE102⟩]), ref13_AddInt_L1 x0 x1 K0 m x6_ x7_ zE102 = res → RC Try.prog (.loop ac33_L1) S (QR Try.prog [(4, none)] (RF33 res)) [(7, vi x7_), (6, vb x6_), (5, aE102), (1, vi x1), (0, v0)] h := by
 have hb' := hb
 try simp only [qa1, qa2, qa3, qa4, qa5, qa6, qa7, qa8, qa9, qaA, qaB, qaC, qaD] at hb'
 intro m
 induction m with
 | zero =>
  intro x6_ x7_ zE102 esE102 aE102 qE102 nE102 wrE102 hlE102 hm1 hlo1 iv1_0 iv1_1 h M0 hres
  rw [ref13_AddInt_L1] at hres
  refine rc_loop ?_
  unfold ac33_L1
  refine rc_seq ?_
  refine rc_seq ?_
  refine rc_region ?_
  refine rd_op (ov_move rfl) ?_
  refine rd_op (ov_move rfl) ?_
  refine rd_op (ov_bi rfl (sl_len r0 Try.underlying29 _)) ?_
  refine rd_op (ov_bin rfl rfl i_lss) ?_
  refine rd_nil ?_
  refine pn_seq ?_
  refine rc_cond rfl (fun hc103 => ?_) (fun hc103 => ?_)
  ·exfalso
   try simp only [qa1, qa2, qa3, qa4, qa5, qa6, qa7, qa8, qa9, qaA, qaB, qaC, qaD] at hc103
   omega
  ·have hend := hres
   have hc103' := hc103
   try simp only [qa1, qa2, qa3, qa4, qa5, qa6, qa7, qa8, qa9, qaA, qaB, qaC, qaD] at hc103'
   refine rc_exit ?_
   refine px_seq ?_
   refine px_again ?_
   exact px_weak ((sub_cons rfl (sub_cons rfl (sub_cons rfl (sub_nil _))))) (hK0 x6_ zE102 esE102 aE102 qE102 nE102 wrE102 hlE102 (by omega) _ (Mem.sub M0 (.cons_cons _ .slnil)) hres)
 | succ m ih =>
  intro x6_ x7_ zE102 esE102 aE102 qE102 nE102 wrE102 hlE102 hm1 hlo1 iv1_0 iv1_1 h M0 hres
  rw [ref13_AddInt_L1] at hres
  refine rc_loop ?_
  unfold ac33_L1
  refine rc_seq ?_
  refine rc_seq ?_
  refine rc_region ?_
  refine rd_op (ov_move rfl) ?_
  refine rd_op (ov_move rfl) ?_
  refine rd_op (ov_bi rfl (sl_len r0 Try.underlying29 _)) ?_
  refine rd_op (ov_bin rfl rfl i_lss) ?_
  refine rd_nil ?_
  refine pn_seq ?_
  refine rc_cond rfl (fun hc104 => ?_) (fun hc104 => ?_)
  ·have hgo := hres
   have hc104' := hc104
   try simp only [qa1, qa2, qa3, qa4, qa5, qa6, qa7, qa8, qa9, qaA, qaB, qaC, qaD] at hc104'
   refine rc_skip ?_
   refine pn_seq ?_
   refine rc_seq ?_
   refine rc_block ?_
   refine rc_seq ?_
   refine rc_seq ?_
   refine rc_region ?_
   refine rd_op (ov_move rfl) ?_
   refine rd_op (ov_not rfl) ?_
   refine rd_op (ov_move rfl) ?_
   refine rd_cut (d := 23) (v := vb ((!x6_) && (decide (x1 ≤ (ix x0 x7_))))) ?_ ?_
   ·intro S Q r
    simp only [ac33_G1, List.cons_append, List.nil_append, List.append_assoc]
    cases hb105 : (!x6_)
    ·intro k
     refine rd_skip rfl rfl ?_
     refine rd_skip rfl rfl ?_
     refine rd_skip rfl rfl ?_
     refine rd_skip rfl rfl ?_
     refine rd_skip rfl rfl ?_
     refine rd_skip rfl rfl ?_
     refine rd_op (v := vb false) (ov_pick rfl rfl rfl rfl) ?_
     exact rd_weak (sub_cons rfl (sub_skip rfl (sub_skip rfl (sub_skip rfl (sub_skip rfl (sub_skip rfl (sub_skip rfl (sub_skip rfl (sub_refl _))))))))) k
    ·intro k
     have hb105' := hb105
     try simp only [qa1, qa2, qa3, qa4, qa5, qa6, qa7, qa8, qa9, qaA, qaB, qaC, qaD] at hb105'
     refine rd_yes rfl rfl (ov_move rfl) ?_
     refine rd_yes rfl rfl (ov_move rfl) ?_
     refine rd_yes rfl rfl (ov_iaddr rfl rfl (slI r0 (by omega) (by omega))) ?_
     refine rd_yes rfl rfl (ov_load rfl rfl rfl) ?_
     refine rd_yes rfl rfl (ov_move rfl) ?_
     refine rd_yes rfl rfl (ov_bin rfl rfl i_geq) ?_
     refine rd_op (v := vb (decide (x1 ≤ (ix x0 x7_)))) (ov_pick rfl rfl rfl rfl) ?_
     exact rd_weak (sub_cons rfl (sub_skip rfl (sub_skip rfl (sub_skip rfl (sub_skip rfl (sub_skip rfl (sub_skip rfl (sub_skip rfl (sub_refl _))))))))) k
   refine rd_nil ?_
   refine pn_seq ?_
   refine rc_cond rfl (fun hc106 => ?_) (fun hc106 => ?_)
   ·replace hres := (ite_t hc106).symm.trans hres
    have hc106' := hc106
    try simp only [qa1, qa2, qa3, qa4, qa5, qa6, qa7, qa8, qa9, qaA, qaB, qaC, qaD] at hc106'
    refine rc_seq ?_
    refine rc_region ?_
    refine rd_op (v := vb true) (ov_move rfl) ?_
    refine rd_nil ?_
    refine pn_seq ?_
    refine rc_seq ?_
    refine rc_region ?_
    refine rd_op (ov_move rfl) ?_
    refine rd_op (ov_move rfl) ?_
    refine rd_op (ov_iaddr rfl rfl (slI r0 (by omega) (by omega))) ?_
    refine rd_op (ov_load rfl rfl rfl) ?_
    refine rd_op (ov_move rfl) ?_
    refine rd_op (ov_bin rfl rfl i_neq) ?_
    refine rd_nil ?_
    refine pn_seq ?_
    refine rc_cond rfl (fun hc107 => ?_) (fun hc107 => ?_)
    ·replace hres := (ite_t hc107).symm.trans hres
     have hc107' := hc107
     try simp only [qa1, qa2, qa3, qa4, qa5, qa6, qa7, qa8, qa9, qaA, qaB, qaC, qaD] at hc107'
     refine rc_region ?_
     refine rd_op (ov_move rfl) ?_
     refine rd_op (ov_move rfl) ?_
     refine rd_op (v := .fs true [vi x1]) (ov_bslice rfl (all_cons rfl all_nil)) ?_
     have r108 : (tSl tI).R ([x1] : List Int) (.fs true [vi x1]) := sl_fs ⟨rfl, trivial⟩ (by simp)
     obtain ⟨nw109, sr109, ar109⟩ := src_of (t := tI) (h := h) r108
     have f109 : fits (esE102.length + nw109.length) 8 = true := by rw [All2.length_eq qE102, All2.length_eq ar109]; (try simp only [List.length_cons, List.length_nil]); exact fits_of (by first | omega | (simp only [List.length_append, List.length_cons, List.length_nil]; omega)) (by first | omega | (simp only [List.length_append, List.length_cons, List.length_nil]; omega))
     refine rd_appW (k := 0) (es := esE102) (news := nw109) M0 rfl rfl rfl nE102 wrE102 sr109 f109 (fun a109 h109 n109 wr109 M109 => ?_)
     have q109 : All2 tI.R (zE102 ++ ([x1] : List Int)) (esE102 ++ nw109) := All2.app qE102 ar109
     have hl109 : (zE102 ++ ([x1] : List Int)).length ≤ 4611686018427387904 := by rw [← All2.length_eq q109, List.length_append]; exact fits_len f109
     refine rd_op (ov_move rfl) ?_
     refine rd_nil ?_
     refine pn_seq ?_
     refine rc_region ?_
     refine rd_op (ov_move rfl) ?_
     refine rd_op (ov_move rfl) ?_
     refine rd_op (ov_move rfl) ?_
     refine rd_op (ov_iaddr rfl rfl (slI r0 (by omega) (by omega))) ?_
     refine rd_op (ov_load rfl rfl rfl) ?_
     refine rd_op (v := .fs true [vi (ix x0 x7_)]) (ov_bslice rfl (all_cons rfl all_nil)) ?_
     have r110 : (tSl tI).R ([(ix x0 x7_)] : List Int) (.fs true [vi (ix x0 x7_)]) := sl_fs ⟨rfl, trivial⟩ (by simp)
     obtain ⟨nw111, sr111, ar111⟩ := src_of (t := tI) (h := h109) r110
     have f111 : fits ((esE102 ++ nw109).length + nw111.length) 8 = true := by rw [All2.length_eq q109, All2.length_eq ar111]; (try simp only [List.length_cons, List.length_nil]); exact fits_of (by first | omega | (simp only [List.length_append, List.length_cons, List.length_nil]; omega)) (by first | omega | (simp only [List.length_append, List.length_cons, List.length_nil]; omega))
     refine rd_appW (k := 0) (es := (esE102 ++ nw109)) (news := nw111) M109 rfl rfl rfl n109 wr109 sr111 f111 (fun a111 h111 n111 wr111 M111 => ?_)
     have q111 : All2 tI.R ((zE102 ++ ([x1] : List Int)) ++ ([(ix x0 x7_)] : List Int)) ((esE102 ++ nw109) ++ nw111) := All2.app q109 ar111
     have hl111 : ((zE102 ++ ([x1] : List Int)) ++ ([(ix x0 x7_)] : List Int)).length ≤ 4611686018427387904 := by rw [← All2.length_eq q111, List.length_append]; exact fits_len f111
     refine rd_op (ov_move rfl) ?_
     refine rd_nil ?_
     refine pn_blk ?_
     refine pn_seq ?_
     refine rc_region ?_
     refine rd_op (ov_move rfl) ?_
     refine rd_op (ov_bin rfl rfl i_add) ?_
     refine rd_op (ov_move rfl) ?_
     refine rd_nil ?_
     refine pn_again ?_
     have hbd := sl_bound r0
     have hinc : wr (x7_ + 1) = x7_ + 1 := wr_of (by omega) (by omega)
     rw [hinc]
     refine rc_weak ?_ (ih true (x7_ + 1) ((zE102 ++ ([x1] : List Int)) ++ ([(ix x0 x7_)] : List Int)) ((esE102 ++ nw109) ++ nw111) a111 q111 n111 wr111 hl111 (by omega) (by omega) (by first | omega | (simp only [List.length_append, List.length_cons, List.length_nil]; omega)) (by first | omega | (simp only [List.length_append, List.length_cons, List.length_nil]; omega)) _ (Mem.sub M111 (.cons_cons _ .slnil)) hres)
     exact ((sub_cons rfl (sub_cons rfl (sub_cons rfl (sub_cons rfl (sub_cons rfl (sub_nil _)))))))
    ·replace hres := (ite_f hc107).symm.trans hres
     have hc107' := hc107
     try simp only [qa1, qa2, qa3, qa4, qa5, qa6, qa7, qa8, qa9, qaA, qaB, qaC, qaD] at hc107'
     refine rc_skip ?_
     refine pn_seq ?_
     refine rc_region ?_
     refine rd_op (ov_move rfl) ?_
     refine rd_op (ov_move rfl) ?_
     refine rd_op (ov_move rfl) ?_
     refine rd_op (ov_iaddr rfl rfl (slI r0 (by omega) (by omega))) ?_
     refine rd_op (ov_load rfl rfl rfl) ?_
     refine rd_op (v := .fs true [vi (ix x0 x7_)]) (ov_bslice rfl (all_cons rfl all_nil)) ?_
     have r112 : (tSl tI).R ([(ix x0 x7_)] : List Int) (.fs true [vi (ix x0 x7_)]) := sl_fs ⟨rfl, trivial⟩ (by simp)
     obtain ⟨nw113, sr113, ar113⟩ := src_of (t := tI) (h := h) r112
     have f113 : fits (esE102.length + nw113.length) 8 = true := by rw [All2.length_eq qE102, All2.length_eq ar113]; (try simp only [List.length_cons, List.length_nil]); exact fits_of (by first | omega | (simp only [List.length_append, List.length_cons, List.length_nil]; omega)) (by first | omega | (simp only [List.length_append, List.length_cons, List.length_nil]; omega))
     refine rd_appW (k := 0) (es := esE102) (news := nw113) M0 rfl rfl rfl nE102 wrE102 sr113 f113 (fun a113 h113 n113 wr113 M113 => ?_)
     have q113 : All2 tI.R (zE102 ++ ([(ix x0 x7_)] : List Int)) (esE102 ++ nw113) := All2.app qE102 ar113
     have hl113 : (zE102 ++ ([(ix x0 x7_)] : List Int)).length ≤ 4611686018427387904 := by rw [← All2.length_eq q113, List.length_append]; exact fits_len f113
     refine rd_op (ov_move rfl) ?_
     refine rd_nil ?_
     refine pn_blk ?_
     refine pn_seq ?_
     refine rc_region ?_
     refine rd_op (ov_move rfl) ?_
     refine rd_op (ov_bin rfl rfl i_add) ?_
     refine rd_op (ov_move rfl) ?_
     refine rd_nil ?_
     refine pn_again ?_
     have hbd := sl_bound r0
     have hinc : wr (x7_ + 1) = x7_ + 1 := wr_of (by omega) (by omega)
     rw [hinc]
     refine rc_weak ?_ (ih true (x7_ + 1) (zE102 ++ ([(ix x0 x7_)] : List Int)) (esE102 ++ nw113) a113 q113 n113 wr113 hl113 (by omega) (by omega) (by first | omega | (simp only [List.length_append, List.length_cons, List.length_nil]; omega)) (by first | omega | (simp only [List.length_append, List.length_cons, List.length_nil]; omega)) _ (Mem.sub M113 (.cons_cons _ .slnil)) hres)
     exact ((sub_cons rfl (sub_cons rfl (sub_cons rfl (sub_cons rfl (sub_cons rfl (sub_nil _)))))))
   ·replace hres := (ite_f hc106).symm.trans hres
    have hc106' := hc106
    try simp only [qa1, qa2, qa3, qa4, qa5, qa6, qa7, qa8, qa9, qaA, qaB, qaC, qaD] at hc106'
    refine rc_skip ?_
    refine pn_seq ?_
    refine rc_region ?_
    refine rd_op (ov_move rfl) ?_
    refine rd_op (ov_move rfl) ?_
    refine rd_op (ov_move rfl) ?_
    refine rd_op (ov_iaddr rfl rfl (slI r0 (by omega) (by omega))) ?_
    refine rd_op (ov_load rfl rfl rfl) ?_
    refine rd_op (v := .fs true [vi (ix x0 x7_)]) (ov_bslice rfl (all_cons rfl all_nil)) ?_
    have r114 : (tSl tI).R ([(ix x0 x7_)] : List Int) (.fs true [vi (ix x0 x7_)]) := sl_fs ⟨rfl, trivial⟩ (by simp)
    obtain ⟨nw115, sr115, ar115⟩ := src_of (t := tI) (h := h) r114
    have f115 : fits (esE102.length + nw115.length) 8 = true := by rw [All2.length_eq qE102, All2.length_eq ar115]; (try simp only [List.length_cons, List.length_nil]); exact fits_of (by first | omega | (simp only [List.length_append, List.length_cons, List.length_nil]; omega)) (by first | omega | (simp only [List.length_append, List.length_cons, List.length_nil]; omega))
    refine rd_appW (k := 0) (es := esE102) (news := nw115) M0 rfl rfl rfl nE102 wrE102 sr115 f115 (fun a115 h115 n115 wr115 M115 => ?_)
    have q115 : All2 tI.R (zE102 ++ ([(ix x0 x7_)] : List Int)) (esE102 ++ nw115) := All2.app qE102 ar115
    have hl115 : (zE102 ++ ([(ix x0 x7_)] : List Int)).length ≤ 4611686018427387904 := by rw [← All2.length_eq q115, List.length_append]; exact fits_len f115
    refine rd_op (ov_move rfl) ?_
    refine rd_nil ?_
    refine pn_blk ?_
    refine pn_seq ?_
    refine rc_region ?_
    refine rd_op (ov_move rfl) ?_
    refine rd_op (ov_bin rfl rfl i_add) ?_
    refine rd_op (ov_move rfl) ?_
    refine rd_nil ?_
    refine pn_again ?_
    have hbd := sl_bound r0
    have hinc : wr (x7_ + 1) = x7_ + 1 := wr_of (by omega) (by omega)
    rw [hinc]
    refine rc_weak ?_ (ih x6_ (x7_ + 1) (zE102 ++ ([(ix x0 x7_)] : List Int)) (esE102 ++ nw115) a115 q115 n115 wr115 hl115 (by omega) (by omega) (by first | omega | (simp only [List.length_append, List.length_cons, List.length_nil]; omega)) (by first | omega | (simp only [List.length_append, List.length_cons, List.length_nil]; omega)) _ (Mem.sub M115 (.cons_cons _ .slnil)) hres)
    exact ((sub_cons rfl (sub_cons rfl (sub_cons rfl (sub_cons rfl (sub_cons rfl (sub_nil _)))))))
  ·exfalso
   try simp only [qa1, qa2, qa3, qa4, qa5, qa6, qa7, qa8, qa9, qaA, qaB, qaC, qaD] at hc104
   omega

theorem f33_ok {x0 : List Int} {x1 : Int} {v0 : PV} (r0 : (tSl tI).R x0 v0) (hb : x0.length ≤ 1000) : ∃ r, FnR Try.prog 33 [v0, vi x1] r ∧ (tSl tI).R (ref13_AddInt x0 x1) r := by
 obtain ⟨res, hres⟩ : ∃ res, ref13_AddInt x0 x1 = res := ⟨_, rfl⟩
 suffices H : RC Try.prog ac33 [] (QR Try.prog [(4, none)] (RF33 res)) (argE 0 [v0, vi x1]) ⟨0, []⟩ by
  rw [hres]
  exact fnE text33 (by simp) H
 unfold ref13_AddInt at hres
 unfold ac33
 refine rc_seq ?_
 refine rc_region ?_
 refine rd_op (v := nilS) (ov_move rfl) ?_
 refine rd_nil ?_
 refine pn_seq ?_
 refine rc_seq ?_
 refine rc_region ?_
 refine rd_op (v := nilS) (ov_move rfl) ?_
 refine rd_nil ?_
 refine pn_seq ?_
 refine rc_seq ?_
 refine rc_region ?_
 refine rd_op (v := vb false) (ov_move rfl) ?_
 refine rd_nil ?_
 refine pn_seq ?_
 refine rc_seq ?_
 refine rc_seq ?_
 refine rc_region ?_
 refine rd_op (v := vi 0) (ov_move rfl) ?_
 refine rd_nil ?_
 refine pn_seq ?_
 refine rc_block ?_
 have M101 := mem_acc (sz := 1) (es := []) (Mem.nil ⟨0, []⟩) 3 (.inl ⟨none, rfl, rfl⟩) (by simp)
 refine rc_weak ?_ (ref13_AddInt_L1_ok (x0 := x0) (x1 := x1) (v0 := v0)  (r0 := r0) (hb := hb) ?_ (Int.toNat ((x0.length : Int) - 0)) false 0 ([] : List Int) ([] : List PV) nilS (show All2 tI.R ([] : List Int) [] from trivial) rfl (.inl rfl) (by first | decide | simp) rfl (by omega) (by first | omega | simp) (by first | omega | simp) _ (Mem.sub M101 (.cons_cons _ .slnil)) hres)
 ·exact ((sub_cons rfl (sub_cons rfl (sub_cons rfl (sub_cons rfl (sub_cons rfl (sub_nil _)))))))
 ·intro x6_116 zE102_116 es116E102 a116E102 q116E102 n116E102 wr116E102 hl116E102 po116_0 h116 M116 hres
  refine px_blk ?_
  refine pn_seq ?_
  refine rc_seq ?_
  refine rc_seq ?_
  refine rc_region ?_
  refine rd_op (ov_move rfl) ?_
  refine rd_op (ov_not rfl) ?_
  refine rd_nil ?_
  refine pn_seq ?_
  refine rc_cond rfl (fun hc117 => ?_) (fun hc117 => ?_)
  ·replace hres := (ite_t hc117).symm.trans hres
   have hc117' := hc117
   try simp only [qa1, qa2, qa3, qa4, qa5, qa6, qa7, qa8, qa9, qaA, qaB, qaC, qaD] at hc117'
   refine rc_region ?_
   refine rd_op (ov_move rfl) ?_
   refine rd_op (ov_move rfl) ?_
   refine rd_op (v := .fs true [vi x1]) (ov_bslice rfl (all_cons rfl all_nil)) ?_
   have r118 : (tSl tI).R ([x1] : List Int) (.fs true [vi x1]) := sl_fs ⟨rfl, trivial⟩ (by simp)
   obtain ⟨nw119, sr119, ar119⟩ := src_of (t := tI) (h := h116) r118
   have f119 : fits (es116E102.length + nw119.length) 8 = true := by rw [All2.length_eq q116E102, All2.length_eq ar119]; (try simp only [List.length_cons, List.length_nil]); exact fits_of (by first | omega | (simp only [List.length_append, List.length_cons, List.length_nil]; omega)) (by first | omega | (simp only [List.length_append, List.length_cons, List.length_nil]; omega))
   refine rd_appW (k := 0) (es := es116E102) (news := nw119) M116 rfl rfl rfl n116E102 wr116E102 sr119 f119 (fun a119 h119 n119 wr119 M119 => ?_)
   have q119 : All2 tI.R (zE102_116 ++ ([x1] : List Int)) (es116E102 ++ nw119) := All2.app q116E102 ar119
   have hl119 : (zE102_116 ++ ([x1] : List Int)).length ≤ 4611686018427387904 := by rw [← All2.length_eq q119, List.length_append]; exact fits_len f119
   refine rd_op (ov_move rfl) ?_
   refine rd_nil ?_
   refine pn_seq ?_
   refine rc_seq ?_
   refine rc_region ?_
   refine rd_op (ov_move rfl) ?_
   refine rd_op (ov_move rfl) ?_
   refine rd_nil ?_
   refine pn_seq ?_
   obtain ⟨v120, d120, r120⟩ := own_sl (P := Try.prog) (k := 0) (t := tI) M119 rfl n119 q119 (Nat.le_trans hl119 (by decide))
   subst hres
   exact rc_retV (.tmp rfl .nil) d120 r120
  ·replace hres := (ite_f hc117).symm.trans hres
   have hc117' := hc117
   try simp only [qa1, qa2, qa3, qa4, qa5, qa6, qa7, qa8, qa9, qaA, qaB, qaC, qaD] at hc117'
   refine rc_skip ?_
   refine pn_seq ?_
   refine rc_seq ?_
   refine rc_region ?_
   refine rd_op (ov_move rfl) ?_
   refine rd_op (ov_move rfl) ?_
   refine rd_nil ?_
   refine pn_seq ?_
   obtain ⟨v121, d121, r121⟩ := own_sl (P := Try.prog) (k := 0) (t := tI) M116 rfl n116E102 q116E102 (Nat.le_trans hl116E102 (by decide))
   subst hres
   exact rc_retV (.tmp rfl .nil) d121 r121

/-- patchbay/patchbayref13.Headers -/
def RF16 (res : (List Int)) (r : PV) : Prop := (tSl tI).R res r
theorem ref13_Headers_L1_ok {S : List Fr} {res : (List Int)} {x0 : List api_ExprNode} {v0 : PV} (r0 : (tSl api_ExprNode.t).R x0 v0) (hb : x0.length ≤ 1000) {K0 : (List Int) → (List Int)}
  (hK0 : ∀ (x3_ : List Int) (u3_ : PV) (q3_ : (tSl tI).R x3_ u3_), K0 x3_ = res → PX Try.prog 0 S (QR Try.prog [(2, none)] (RF16 res)) [(3, u3_)] ⟨0, []⟩) :
  ∀ (m : Nat) (x3_ : List Int) (x4_ : Int) (u3_ : PV) (q3_ : (tSl tI).R x3_ u3_) (hm1 : m = Int.toNat ((x0.length : Int) - x4_)) (hlo1 : 0 ≤ x4_) (iv1_0 : (x3_.length : Int) ≤ x4_), ref13_Headers_L1 x0 K0 m x3_ x4_ = res → RC Try.prog (.loop ac16_L1) S (QR Try.prog [(2, none)] (RF16 res)) [(4, vi x4_), (3, u3_), (0, v0)] ⟨0, []⟩ := by
 have hb' := hb
 try simp only [qa1, qa2, qa3, qa4, qa5, qa6, qa7, qa8, qa9, qaA, qaB, qaC, qaD] at hb'
 intro m
 induction m with
 | zero =>
  intro x3_ x4_ u3_ q3_ hm1 hlo1 iv1_0 hres
  rw [ref13_Headers_L1] at hres
  refine rc_loop ?_
  unfold ac16_L1
  refine rc_seq ?_
  refine rc_seq ?_
  refine rc_region ?_
  refine rd_op (ov_move rfl) ?_
  refine rd_op (ov_move rfl) ?_
  refine rd_op (ov_bi rfl (sl_len r0 Try.underlying32 _)) ?_
  refine rd_op (ov_bin rfl rfl i_lss) ?_
  refine rd_nil ?_
  refine pn_seq ?_
  refine rc_cond rfl (fun hc101 => ?_) (fun hc101 => ?_)
  ·exfalso
   try simp only [qa1, qa2, qa3, qa4, qa5, qa6, qa7, qa8, qa9, qaA, qaB, qaC, qaD] at hc101
   omega
  ·have hend := hres
   have hc101' := hc101
   try simp only [qa1, qa2, qa3, qa4, qa5, qa6, qa7, qa8, qa9, qaA, qaB, qaC, qaD] at hc101'
   refine rc_exit ?_
   refine px_seq ?_
   refine px_again ?_
   exact px_weak ((sub_cons rfl (sub_nil _))) (hK0 x3_ u3_ (show (tSl tI).R x3_ u3_ from q3_) hres)
 | succ m ih =>
  intro x3_ x4_ u3_ q3_ hm1 hlo1 iv1_0 hres
  rw [ref13_Headers_L1] at hres
  refine rc_loop ?_
  unfold ac16_L1
  refine rc_seq ?_
  refine rc_seq ?_
  refine rc_region ?_
  refine rd_op (ov_move rfl) ?_
  refine rd_op (ov_move rfl) ?_
  refine rd_op (ov_bi rfl (sl_len r0 Try.underlying32 _)) ?_
  refine rd_op (ov_bin rfl rfl i_lss) ?_
  refine rd_nil ?_
  refine pn_seq ?_
  refine rc_cond rfl (fun hc102 => ?_) (fun hc102 => ?_)
  ·have hgo := hres
   have hc102' := hc102
   try simp only [qa1, qa2, qa3, qa4, qa5, qa6, qa7, qa8, qa9, qaA, qaB, qaC, qaD] at hc102'
   refine rc_skip ?_
   refine pn_seq ?_
   refine rc_seq ?_
   refine rc_block ?_
   refine rc_seq ?_
   refine rc_region ?_
   refine rd_op (ov_move rfl) ?_
   refine rd_op (ov_move rfl) ?_
   obtain ⟨v103, e103, r103⟩ := sl_idx (i := x4_) r0 (by omega) (by omega)
   refine rd_op (ov_iaddr rfl rfl e103) ?_
   refine rd_op (ov_faddr rfl (api_ExprNode.g_Op r103)) ?_
   refine rd_op (ov_load rfl rfl rfl) ?_
   refine rd_op (ov_bin rfl rfl i_eql) ?_
   refine rd_nil ?_
   refine pn_seq ?_
   refine rc_cond rfl (fun hc104 => ?_) (fun hc104 => ?_)
   ·replace hres := (ite_t hc104).symm.trans hres
    have hc104' := hc104
    try simp only [qa1, qa2, qa3, qa4, qa5, qa6, qa7, qa8, qa9, qaA, qaB, qaC, qaD] at hc104'
    refine rc_region ?_
    refine rd_op (ov_move rfl) ?_
    refine rd_op (ov_move rfl) ?_
    refine rd_op (ov_move rfl) ?_
    obtain ⟨v105, e105, r105⟩ := sl_idx (i := x4_) r0 (by omega) (by omega)
    refine rd_op (ov_iaddr rfl rfl e105) ?_
    refine rd_op (ov_faddr rfl (api_ExprNode.g_N r105)) ?_
    refine rd_op (ov_load rfl rfl rfl) ?_
    obtain ⟨y106, hw106, hres⟩ := let_ex hres
    obtain ⟨v107, f106, r107⟩ := f33_ok (x1 := (ix x0 x4_).N) q3_ (by first | assumption | omega | (rw [wr_of (by omega) (by omega)]; omega))
    rw [hw106] at r107
    have ek106 := AddInt_len hw106
    refine rd_call (cv_fn rfl rfl (clL_cons (TR.clo (tSl tI) q3_) (clL_cons rfl clL_nil)) f106) ?_
    refine rd_op (ov_move rfl) ?_
    refine rd_nil ?_
    refine pn_blk ?_
    refine pn_seq ?_
    refine rc_region ?_
    refine rd_op (ov_move rfl) ?_
    refine rd_op (ov_bin rfl rfl i_add) ?_
    refine rd_op (ov_move rfl) ?_
    refine rd_nil ?_
    refine pn_again ?_
    have hbd := sl_bound r0
    have hinc : wr (x4_ + 1) = x4_ + 1 := wr_of (by omega) (by omega)
    rw [hinc]
    refine rc_weak ?_ (ih y106 (x4_ + 1) v107 (show (tSl tI).R y106 v107 from r107) (by omega) (by omega) (by first | omega | (simp; done) | (simp only [List.length_append, List.length_cons, List.length_nil, List.length_set]; omega)) hres)
    exact ((sub_cons rfl (sub_cons rfl (sub_cons rfl (sub_nil _)))))
   ·replace hres := (ite_f hc104).symm.trans hres
    have hc104' := hc104
    try simp only [qa1, qa2, qa3, qa4, qa5, qa6, qa7, qa8, qa9, qaA, qaB, qaC, qaD] at hc104'
    refine rc_skip ?_
    refine pn_blk ?_
    refine pn_seq ?_
    refine rc_region ?_
    refine rd_op (ov_move rfl) ?_
    refine rd_op (ov_bin rfl rfl i_add) ?_
    refine rd_op (ov_move rfl) ?_
    refine rd_nil ?_
    refine pn_again ?_
    have hbd := sl_bound r0
    have hinc : wr (x4_ + 1) = x4_ + 1 := wr_of (by omega) (by omega)
    rw [hinc]
    refine rc_weak ?_ (ih x3_ (x4_ + 1) u3_ (show (tSl tI).R x3_ u3_ from q3_) (by omega) (by omega) (by first | omega | (simp; done) | (simp only [List.length_append, List.length_cons, List.length_nil, List.length_set]; omega)) hres)
    exact ((sub_cons rfl (sub_cons rfl (sub_cons rfl (sub_nil _)))))
  ·exfalso
   try simp only [qa1, qa2, qa3, qa4, qa5, qa6, qa7, qa8, qa9, qaA, qaB, qaC, qaD] at hc102
   omega

theorem f16_ok {x0 : List api_ExprNode} {v0 : PV} (r0 : (tSl api_ExprNode.t).R x0 v0) (hb : x0.length ≤ 1000) : ∃ r, FnR Try.prog 16 [v0] r ∧ (tSl tI).R (ref13_Headers x0) r := by
 obtain ⟨res, hres⟩ : ∃ res, ref13_Headers x0 = res := ⟨_, rfl⟩
 suffices H : RC Try.prog ac16 [] (QR Try.prog [(2, none)] (RF16 res)) (argE 0 [v0]) ⟨0, []⟩ by
  rw [hres]
  exact fnE text16 (by simp) H
 unfold ref13_Headers at hres
 unfold ac16
 refine rc_seq ?_
 refine rc_region ?_
 refine rd_op (v := nilS) (ov_move rfl) ?_
 refine rd_nil ?_
 refine pn_seq ?_
 refine rc_seq ?_
 refine rc_region ?_
 refine rd_op (v := nilS) (ov_move rfl) ?_
 refine rd_nil ?_
 refine pn_seq ?_
 refine rc_seq ?_
 refine rc_seq ?_
 refine rc_region ?_
 refine rd_op (v := vi 0) (ov_move rfl) ?_
 refine rd_nil ?_
 refine pn_seq ?_
 refine rc_block ?_
 refine rc_weak ?_ (ref13_Headers_L1_ok (x0 := x0) (v0 := v0)  (r0 := r0) (hb := hb) ?_ (Int.toNat ((x0.length : Int) - 0)) ([] : List Int) 0 nilS (show (tSl tI).R ([] : List Int) nilS from sl_nil) rfl (by omega) (by simp) hres)
 ·exact ((sub_cons rfl (sub_cons rfl (sub_cons rfl (sub_nil _)))))
 ·intro x3_108 u3_108 q3_108 hres
  refine px_blk ?_
  refine pn_seq ?_
  refine rc_seq ?_
  refine rc_region ?_
  refine rd_op (ov_move rfl) ?_
  refine rd_op (ov_move rfl) ?_
  refine rd_nil ?_
  refine pn_seq ?_
  subst hres
  exact rc_retV (.tmp rfl .nil) (deep_closed (TR.clo (tSl tI) q3_108)) q3_108

/-- patchbay/patchbayref02.EqualInts -/
def RF14 (res : Bool) (r : PV) : Prop := r = vb res
theorem ref02_EqualInts_L1_ok {S : List Fr} {res : Bool} {x0 : List Int} {x1 : List Int} {v0 : PV} {v1 : PV} (r0 : (tSl tI).R x0 v0) (r1 : (tSl tI).R x1 v1) (hc101 : (!decide ((x0.length : Int) = (x1.length : Int))) = false) {K0 : Unit → Bool}
  (hK0 : K0 () = res → PX Try.prog 0 S (QR Try.prog [(4, none)] (RF14 res)) [] ⟨0, []⟩) :
  ∀ (m : Nat) (x5_ : Int) (hm1 : m = Int.toNat ((x0.length : Int) - x5_)) (hlo1 : 0 ≤ x5_), ref02_EqualInts_L1 x0 x1 K0 m x5_ = res → RC Try.prog (.loop ac14_L1) S (QR Try.prog [(4, none)] (RF14 res)) [(5, vi x5_), (1, v1), (0, v0)] ⟨0, []⟩ := by
 have hc101' := hc101
 try simp only [qa1, qa2, qa3, qa4, qa5, qa6, qa7, qa8, qa9, qaA, qaB, qaC, qaD] at hc101'
 intro m
 induction m with
 | zero =>
  intro x5_ hm1 hlo1 hres
  rw [ref02_EqualInts_L1] at hres
  refine rc_loop ?_
  unfold ac14_L1
  refine rc_seq ?_
  refine rc_seq ?_
  refine rc_region ?_
  refine rd_op (ov_move rfl) ?_
  refine rd_op (ov_move rfl) ?_
  refine rd_op (ov_bi rfl (sl_len r0 Try.underlying29 _)) ?_
  refine rd_op (ov_bin rfl rfl i_lss) ?_
  refine rd_nil ?_
  refine pn_seq ?_
  refine rc_cond rfl (fun hc102 => ?_) (fun hc102 => ?_)
  ·exfalso
   try simp only [qa1, qa2, qa3, qa4, qa5, qa6, qa7, qa8, qa9, qaA, qaB, qaC, qaD] at hc102
   omega
  ·have hend := hres
   have hc102' := hc102
   try simp only [qa1, qa2, qa3, qa4, qa5, qa6, qa7, qa8, qa9, qaA, qaB, qaC, qaD] at hc102'
   refine rc_exit ?_
   refine px_seq ?_
   refine px_again ?_
   exact px_weak ((sub_nil _)) (hK0  hres)
 | succ m ih =>
  intro x5_ hm1 hlo1 hres
  rw [ref02_EqualInts_L1] at hres
  refine rc_loop ?_
  unfold ac14_L1
  refine rc_seq ?_
  refine rc_seq ?_
  refine rc_region ?_
  refine rd_op (ov_move rfl) ?_
  refine rd_op (ov_move rfl) ?_
  refine rd_op (ov_bi rfl (sl_len r0 Try.underlying29 _)) ?_
  refine rd_op (ov_bin rfl rfl i_lss) ?_
  refine rd_nil ?_
  refine pn_seq ?_
  refine rc_cond rfl (fun hc103 => ?_) (fun hc103 => ?_)
  ·have hgo := hres
   have hc103' := hc103
   try simp only [qa1, qa2, qa3, qa4, qa5, qa6, qa7, qa8, qa9, qaA, qaB, qaC, qaD] at hc103'
   refine rc_skip ?_
   refine pn_seq ?_
   refine rc_seq ?_
   refine rc_block ?_
   refine rc_seq ?_
   refine rc_region ?_
   refine rd_op (ov_move rfl) ?_
   refine rd_op (ov_move rfl) ?_
   refine rd_op (ov_iaddr rfl rfl (slI r0 (by omega) (by omega))) ?_
   refine rd_op (ov_load rfl rfl rfl) ?_
   refine rd_op (ov_move rfl) ?_
   refine rd_op (ov_move rfl) ?_
   refine rd_op (ov_iaddr rfl rfl (slI r1 (by omega) (by omega))) ?_
   refine rd_op (ov_load rfl rfl rfl) ?_
   refine rd_op (ov_bin rfl rfl i_neq) ?_
   refine rd_nil ?_
   refine pn_seq ?_
   refine rc_cond rfl (fun hc104 => ?_) (fun hc104 => ?_)
   ·replace hres := (ite_t hc104).symm.trans hres
    have hc104' := hc104
    try simp only [qa1, qa2, qa3, qa4, qa5, qa6, qa7, qa8, qa9, qaA, qaB, qaC, qaD] at hc104'
    refine rc_seq ?_
    refine rc_region ?_
    refine rd_op (v := vb false) (ov_move rfl) ?_
    refine rd_nil ?_
    refine pn_seq ?_
    subst hres
    exact rc_retV (.tmp rfl .nil) (deep_closed rfl) rfl
   ·replace hres := (ite_f hc104).symm.trans hres
    have hc104' := hc104
    try simp only [qa1, qa2, qa3, qa4, qa5, qa6, qa7, qa8, qa9, qaA, qaB, qaC, qaD] at hc104'
    refine rc_skip ?_
    refine pn_blk ?_
    refine pn_seq ?_
    refine rc_region ?_
    refine rd_op (ov_move rfl) ?_
    refine rd_op (ov_bin rfl rfl i_add) ?_
    refine rd_op (ov_move rfl) ?_
    refine rd_nil ?_
    refine pn_again ?_
    have hbd := sl_bound r0
    have hinc : wr (x5_ + 1) = x5_ + 1 := wr_of (by omega) (by omega)
    rw [hinc]
    refine rc_weak ?_ (ih (x5_ + 1)  (by omega) (by omega) hres)
    exact ((sub_cons rfl (sub_cons rfl (sub_cons rfl (sub_nil _)))))
  ·exfalso
   try simp only [qa1, qa2, qa3, qa4, qa5, qa6, qa7, qa8, qa9, qaA, qaB, qaC, qaD] at hc103
   omega

theorem f14_ok {x0 : List Int} {x1 : List Int} {v0 : PV} {v1 : PV} (r0 : (tSl tI).R x0 v0) (r1 : (tSl tI).R x1 v1) : FnR Try.prog 14 [v0, v1] (vb (ref02_EqualInts x0 x1)) := by
 obtain ⟨res, hres⟩ : ∃ res, ref02_EqualInts x0 x1 = res := ⟨_, rfl⟩
 suffices H : RC Try.prog ac14 [] (QR Try.prog [(4, none)] (RF14 res)) (argE 0 [v0, v1]) ⟨0, []⟩ by
  obtain ⟨r, h1, h2⟩ := fnE text14 (by simp) H
  rw [hres]
  have h2 : r = vb res := h2
  rw [← h2]; exact h1
 unfold ref02_EqualInts at hres
 unfold ac14
 refine rc_seq ?_
 refine rc_region ?_
 refine rd_op (v := vb false) (ov_move rfl) ?_
 refine rd_nil ?_
 refine pn_seq ?_
 refine rc_seq ?_
 refine rc_seq ?_
 refine rc_region ?_
 refine rd_op (ov_move rfl) ?_
 refine rd_op (ov_bi rfl (sl_len r0 Try.underlying29 _)) ?_
 refine rd_op (ov_move rfl) ?_
 refine rd_op (ov_bi rfl (sl_len r1 Try.underlying29 _)) ?_
 refine rd_op (ov_bin rfl rfl i_neq) ?_
 refine rd_nil ?_
 refine pn_seq ?_
 refine rc_cond rfl (fun hc101 => ?_) (fun hc101 => ?_)
 ·replace hres := (ite_t hc101).symm.trans hres
  have hc101' := hc101
  try simp only [qa1, qa2, qa3, qa4, qa5, qa6, qa7, qa8, qa9, qaA, qaB, qaC, qaD] at hc101'
  refine rc_seq ?_
  refine rc_region ?_
  refine rd_op (v := vb false) (ov_move rfl) ?_
  refine rd_nil ?_
  refine pn_seq ?_
  subst hres
  exact rc_retV (.tmp rfl .nil) (deep_closed rfl) rfl
 ·replace hres := (ite_f hc101).symm.trans hres
  have hc101' := hc101
  try simp only [qa1, qa2, qa3, qa4, qa5, qa6, qa7, qa8, qa9, qaA, qaB, qaC, qaD] at hc101'
  refine rc_skip ?_
  refine pn_seq ?_
  refine rc_seq ?_
  refine rc_seq ?_
  refine rc_region ?_
  refine rd_op (v := vi 0) (ov_move rfl) ?_
  refine rd_nil ?_
  refine pn_seq ?_
  refine rc_block ?_
  refine rc_weak ?_ (ref02_EqualInts_L1_ok (x0 := x0) (x1 := x1) (v0 := v0) (v1 := v1)  (r0 := r0) (r1 := r1) (hc101 := hc101) ?_ (Int.toNat ((x0.length : Int) - 0)) 0 rfl (by omega) hres)
  ·exact ((sub_cons rfl (sub_cons rfl (sub_cons rfl (sub_nil _)))))
  ·intro  hres
   refine px_blk ?_
   refine pn_seq ?_
   refine rc_seq ?_
   refine rc_region ?_
   refine rd_op (v := vb true) (ov_move rfl) ?_
   refine rd_nil ?_
   refine pn_seq ?_
   subst hres
   exact rc_retV (.tmp rfl .nil) (deep_closed rfl) rfl

/-- patchbay/patchbaylaw13.ExprChecks -/
def RF3 (res : Bool) (r : PV) : Prop := r = vb res
theorem f3_ok {x0 : law13_Args} {x1 : Int} {v0 : PV} (r0 : law13_Args.t.R x0 v0) : FnR Try.prog 3 [v0, vi x1] (vb (law13_ExprChecks x0 x1)) := by
 obtain ⟨res, hres⟩ : ∃ res, law13_ExprChecks x0 x1 = res := ⟨_, rfl⟩
 suffices H : RC Try.prog ac3 [] (QR Try.prog [(4, none)] (RF3 res)) (argE 0 [v0, vi x1]) ⟨0, []⟩ by
  obtain ⟨r, h1, h2⟩ := fnE text3 (by simp) H
  rw [hres]
  have h2 : r = vb res := h2
  rw [← h2]; exact h1
 unfold law13_ExprChecks at hres
 unfold ac3
 refine rc_seq ?_
 refine rc_region ?_
 refine rd_op (ov_box rfl (TR.cnt law13_Args.t r0)) ?_
 refine rd_op (v := vb false) (ov_move rfl) ?_
 refine rd_nil ?_
 refine pn_seq ?_
 refine rc_seq ?_
 refine rc_seq ?_
 refine rc_region ?_
 obtain ⟨v101, e101, r101⟩ := law13_Args.g_Nodes r0
 refine rd_op (ov_faddr rfl e101) ?_
 refine rd_op (ov_load rfl (TR.cnt (tSl api_ExprNode.t) r101) (TR.agg (tSl api_ExprNode.t) r101)) ?_
 refine rd_op (ov_bi rfl (sl_len r101 Try.underlying32 _)) ?_
 refine rd_op (ov_bin rfl rfl i_gtr) ?_
 refine rd_nil ?_
 refine pn_seq ?_
 refine rc_cond rfl (fun hc102 => ?_) (fun hc102 => ?_)
 ·replace hres := (ite_t hc102).symm.trans hres
  have hc102' := hc102
  try simp only [qa1, qa2, qa3, qa4, qa5, qa6, qa7, qa8, qa9, qaA, qaB, qaC, qaD] at hc102'
  refine rc_seq ?_
  refine rc_region ?_
  obtain ⟨y103, hw103, hres⟩ := let_ex hres
  have f103 := f5_ok   
  rw [hw103] at f103
  refine rd_call (cv_fn rfl rfl clL_nil f103) ?_
  refine rd_op (ov_move rfl) ?_
  refine rd_nil ?_
  refine pn_seq ?_
  subst hres
  exact rc_retV (.tmp rfl .nil) (deep_closed rfl) rfl
 ·replace hres := (ite_f hc102).symm.trans hres
  have hc102' := hc102
  try simp only [qa1, qa2, qa3, qa4, qa5, qa6, qa7, qa8, qa9, qaA, qaB, qaC, qaD] at hc102'
  refine rc_skip ?_
  refine pn_seq ?_
  refine rc_seq ?_
  refine rc_region ?_
  obtain ⟨v104, e104, r104⟩ := law13_Args.g_Nodes r0
  refine rd_op (ov_faddr rfl e104) ?_
  refine rd_op (ov_load rfl (TR.cnt (tSl api_ExprNode.t) r104) (TR.agg (tSl api_ExprNode.t) r104)) ?_
  refine rd_op (ov_load rfl (TR.cnt law13_Args.t r0) (TR.agg law13_Args.t r0)) ?_
  obtain ⟨y105, hw105, hres⟩ := let_ex hres
  obtain ⟨v106, f105, r106⟩ := f7_ok  r0 
  rw [hw105] at r106
  refine rd_call (cv_fn rfl rfl (clL_cons (TR.clo law13_Args.t r0) clL_nil) f105) ?_
  obtain ⟨y107, hw107, hres⟩ := let_ex hres
  have f107 := f6_ok  r104 r106 
  rw [hw107] at f107
  refine rd_call (cv_fn rfl rfl (clL_cons (TR.clo (tSl api_ExprNode.t) r104) (clL_cons (TR.clo expr_Scope.t r106) clL_nil)) f107) ?_
  refine rd_op (ov_move rfl) ?_
  refine rd_op (ov_extract rfl rfl) ?_
  refine rd_op (ov_extract rfl rfl) ?_
  refine rd_op (ov_move rfl) ?_
  refine rd_op (ov_move rfl) ?_
  refine rd_nil ?_
  refine pn_seq ?_
  refine rc_seq ?_
  refine rc_region ?_
  obtain ⟨v108, e108, r108⟩ := law13_Args.g_Nodes r0
  refine rd_op (ov_faddr rfl e108) ?_
  refine rd_op (ov_load rfl (TR.cnt (tSl api_ExprNode.t) r108) (TR.agg (tSl api_ExprNode.t) r108)) ?_
  obtain ⟨v109, e109, r109⟩ := law13_Args.g_P r0
  refine rd_op (ov_faddr rfl e109) ?_
  refine rd_op (ov_load rfl (TR.cnt api_Program.t r109) (TR.agg api_Program.t r109)) ?_
  obtain ⟨v110, e110, r110⟩ := law13_Args.g_Params r0
  refine rd_op (ov_faddr rfl e110) ?_
  refine rd_op (ov_load rfl (TR.cnt (tSl api_Field.t) r110) (TR.agg (tSl api_Field.t) r110)) ?_
  obtain ⟨v111_c1, v111_c2, v111_c3, v111_c4, v111_c5, v111_c6, v111_c7, v111_c8, e111, r111_c1, r111_c2, r111_c3, r111_c4, r111_c5, r111_c6, r111_c7, r111_c8⟩ := r109
  subst e111
  refine rd_op (v := .agg [vs x0.P.Name, v111_c1, v111_c2, v111_c3, v111_c4, v111_c5, v111_c6, v111_c7, v111_c8, v110]) (ov_build (cs := [vs x0.P.Name, v111_c1, v111_c2, v111_c3, v111_c4, v111_c5, v111_c6, v111_c7, v111_c8, v110]) rfl (by simp only [buildV, cells_one (TR.cnt (tSl api_Field.t) r110) (TR.agg (tSl api_Field.t) r110)]; rfl)) ?_
  obtain ⟨y112, hw112, hres⟩ := let_ex hres
  have f112 := f8_ok  r108 (show expr_Scope.t.R ({ Program := x0.P, Params := x0.Params } : expr_Scope) (.agg [vs x0.P.Name, v111_c1, v111_c2, v111_c3, v111_c4, v111_c5, v111_c6, v111_c7, v111_c8, v110]) from ⟨v111_c1, v111_c2, v111_c3, v111_c4, v111_c5, v111_c6, v111_c7, v111_c8, v110, rfl, r111_c1, r111_c2, r111_c3, r111_c4, r111_c5, r111_c6, r111_c7, r111_c8, r110⟩) 
  rw [hw112] at f112
  refine rd_call (cv_fn rfl rfl (clL_cons (TR.clo (tSl api_ExprNode.t) r108) (clL_cons (TR.clo expr_Scope.t (show expr_Scope.t.R ({ Program := x0.P, Params := x0.Params } : expr_Scope) (.agg [vs x0.P.Name, v111_c1, v111_c2, v111_c3, v111_c4, v111_c5, v111_c6, v111_c7, v111_c8, v110]) from ⟨v111_c1, v111_c2, v111_c3, v111_c4, v111_c5, v111_c6, v111_c7, v111_c8, v110, rfl, r111_c1, r111_c2, r111_c3, r111_c4, r111_c5, r111_c6, r111_c7, r111_c8, r110⟩)) clL_nil)) f112) ?_
  refine rd_op (ov_move rfl) ?_
  refine rd_op (ov_extract rfl rfl) ?_
  refine rd_op (ov_extract rfl rfl) ?_
  refine rd_op (ov_move rfl) ?_
  refine rd_op (ov_move rfl) ?_
  refine rd_nil ?_
  refine pn_seq ?_
  refine rc_seq ?_
  refine rc_region ?_
  refine rd_op (ov_move rfl) ?_
  refine rd_op (ov_move rfl) ?_
  refine rd_op (ov_bin rfl rfl i_eql) ?_
  refine rd_op (ov_move rfl) ?_
  refine rd_cut (d := 40) (v := vb ((decide (y107.1 = y112.1)) && (decide (y107.2 = y112.2)))) ?_ ?_
  ·intro S Q r
   simp only [ac3_G1, List.cons_append, List.nil_append, List.append_assoc]
   cases hb113 : (decide (y107.1 = y112.1))
   ·intro k
    refine rd_skip rfl rfl ?_
    refine rd_skip rfl rfl ?_
    refine rd_skip rfl rfl ?_
    refine rd_op (v := vb false) (ov_pick rfl rfl rfl rfl) ?_
    exact rd_weak (sub_cons rfl (sub_skip rfl (sub_skip rfl (sub_skip rfl (sub_skip rfl (sub_refl _)))))) k
   ·intro k
    have hb113' := hb113
    try simp only [qa1, qa2, qa3, qa4, qa5, qa6, qa7, qa8, qa9, qaA, qaB, qaC, qaD] at hb113'
    refine rd_yes rfl rfl (ov_move rfl) ?_
    refine rd_yes rfl rfl (ov_move rfl) ?_
    refine rd_yes rfl rfl (ov_bin rfl rfl i_eql) ?_
    refine rd_op (v := vb (decide (y107.2 = y112.2))) (ov_pick rfl rfl rfl rfl) ?_
    exact rd_weak (sub_cons rfl (sub_skip rfl (sub_skip rfl (sub_skip rfl (sub_skip rfl (sub_refl _)))))) k
  refine rd_op (ov_move rfl) ?_
  refine rd_cut (d := 51) (v := vb (((decide (y107.1 = y112.1)) && (decide (y107.2 = y112.2))) && (decide ((expr_End x0.Nodes x1) = (ref13_End x0.Nodes x1))))) ?_ ?_
  ·intro S Q r
   simp only [ac3_G2, List.cons_append, List.nil_append, List.append_assoc]
   cases hb114 : ((decide (y107.1 = y112.1)) && (decide (y107.2 = y112.2)))
   ·intro k
    refine rd_skip rfl rfl ?_
    refine rd_skip rfl rfl ?_
    refine rd_skip rfl rfl ?_
    refine rd_skip rfl rfl ?_
    refine rd_skip rfl rfl ?_
    refine rd_skip rfl rfl ?_
    refine rd_skip rfl rfl ?_
    refine rd_skip rfl rfl ?_
    refine rd_skip rfl rfl ?_
    refine rd_op (v := vb false) (ov_pick rfl rfl rfl rfl) ?_
    exact rd_weak (sub_cons rfl (sub_skip rfl (sub_skip rfl (sub_skip rfl (sub_skip rfl (sub_skip rfl (sub_skip rfl (sub_skip rfl (sub_skip rfl (sub_skip rfl (sub_skip rfl (sub_refl _)))))))))))) k
   ·intro k
    have hb114' := hb114
    try simp only [qa1, qa2, qa3, qa4, qa5, qa6, qa7, qa8, qa9, qaA, qaB, qaC, qaD] at hb114'
    obtain ⟨v115, e115, r115⟩ := law13_Args.g_Nodes r0
    refine rd_yes rfl rfl (ov_faddr rfl e115) ?_
    refine rd_yes rfl rfl (ov_load rfl (TR.cnt (tSl api_ExprNode.t) r115) (TR.agg (tSl api_ExprNode.t) r115)) ?_
    refine rd_yes rfl rfl (ov_move rfl) ?_
    have f116 := f9_ok (x1 := x1) r115 (by first | assumption | omega | (rw [wr_of (by omega) (by omega)]; omega))
    refine rd_ycall rfl rfl (cv_fn rfl rfl (clL_cons (TR.clo (tSl api_ExprNode.t) r115) (clL_cons rfl clL_nil)) f116) ?_
    obtain ⟨v117, e117, r117⟩ := law13_Args.g_Nodes r0
    refine rd_yes rfl rfl (ov_faddr rfl e117) ?_
    refine rd_yes rfl rfl (ov_load rfl (TR.cnt (tSl api_ExprNode.t) r117) (TR.agg (tSl api_ExprNode.t) r117)) ?_
    refine rd_yes rfl rfl (ov_move rfl) ?_
    have f118 := f10_ok (x1 := x1) r117 
    refine rd_ycall rfl rfl (cv_fn rfl rfl (clL_cons (TR.clo (tSl api_ExprNode.t) r117) (clL_cons rfl clL_nil)) f118) ?_
    refine rd_yes rfl rfl (ov_bin rfl rfl i_eql) ?_
    refine rd_op (v := vb (decide ((expr_End x0.Nodes x1) = (ref13_End x0.Nodes x1)))) (ov_pick rfl rfl rfl rfl) ?_
    exact rd_weak (sub_cons rfl (sub_skip rfl (sub_skip rfl (sub_skip rfl (sub_skip rfl (sub_skip rfl (sub_skip rfl (sub_skip rfl (sub_skip rfl (sub_skip rfl (sub_skip rfl (sub_refl _)))))))))))) k
  refine rd_op (ov_move rfl) ?_
  refine rd_cut (d := 60) (v := vb ((((decide (y107.1 = y112.1)) && (decide (y107.2 = y112.2))) && (decide ((expr_End x0.Nodes x1) = (ref13_End x0.Nodes x1)))) && (ref13_EqualFields (expr_Fields x0.Nodes) (ref13_Fields x0.Nodes)))) ?_ ?_
  ·intro S Q r
   simp only [ac3_G3, List.cons_append, List.nil_append, List.append_assoc]
   cases hb119 : (((decide (y107.1 = y112.1)) && (decide (y107.2 = y112.2))) && (decide ((expr_End x0.Nodes x1) = (ref13_End x0.Nodes x1))))
   ·intro k
    refine rd_skip rfl rfl ?_
    refine rd_skip rfl rfl ?_
    refine rd_skip rfl rfl ?_
    refine rd_skip rfl rfl ?_
    refine rd_skip rfl rfl ?_
    refine rd_skip rfl rfl ?_
    refine rd_skip rfl rfl ?_
    refine rd_op (v := vb false) (ov_pick rfl rfl rfl rfl) ?_
    exact rd_weak (sub_cons rfl (sub_skip rfl (sub_skip rfl (sub_skip rfl (sub_skip rfl (sub_skip rfl (sub_skip rfl (sub_skip rfl (sub_skip rfl (sub_refl _)))))))))) k
   ·intro k
    have hb119' := hb119
    try simp only [qa1, qa2, qa3, qa4, qa5, qa6, qa7, qa8, qa9, qaA, qaB, qaC, qaD] at hb119'
    obtain ⟨v120, e120, r120⟩ := law13_Args.g_Nodes r0
    refine rd_yes rfl rfl (ov_faddr rfl e120) ?_
    refine rd_yes rfl rfl (ov_load rfl (TR.cnt (tSl api_ExprNode.t) r120) (TR.agg (tSl api_ExprNode.t) r120)) ?_
    obtain ⟨v122, f121, r122⟩ := f12_ok  r120 (by first | assumption | omega | (rw [wr_of (by omega) (by omega)]; omega))
    refine rd_ycall rfl rfl (cv_fn rfl rfl (clL_cons (TR.clo (tSl api_ExprNode.t) r120) clL_nil) f121) ?_
    obtain ⟨v123, e123, r123⟩ := law13_Args.g_Nodes r0
    refine rd_yes rfl rfl (ov_faddr rfl e123) ?_
    refine rd_yes rfl rfl (ov_load rfl (TR.cnt (tSl api_ExprNode.t) r123) (TR.agg (tSl api_ExprNode.t) r123)) ?_
    obtain ⟨v125, f124, r125⟩ := f13_ok  r123 (by first | assumption | omega | (rw [wr_of (by omega) (by omega)]; omega))
    refine rd_ycall rfl rfl (cv_fn rfl rfl (clL_cons (TR.clo (tSl api_ExprNode.t) r123) clL_nil) f124) ?_
    have f126 := f11_ok  r122 r125 
    refine rd_ycall rfl rfl (cv_fn rfl rfl (clL_cons (TR.clo (tSl api_FieldRef.t) r122) (clL_cons (TR.clo (tSl api_FieldRef.t) r125) clL_nil)) f126) ?_
    refine rd_op (v := vb (ref13_EqualFields (expr_Fields x0.Nodes) (ref13_Fields x0.Nodes))) (ov_pick rfl rfl rfl rfl) ?_
    exact rd_weak (sub_cons rfl (sub_skip rfl (sub_skip rfl (sub_skip rfl (sub_skip rfl (sub_skip rfl (sub_skip rfl (sub_skip rfl (sub_skip rfl (sub_refl _)))))))))) k
  refine rd_op (ov_move rfl) ?_
  refine rd_cut (d := 69) (v := vb (((((decide (y107.1 = y112.1)) && (decide (y107.2 = y112.2))) && (decide ((expr_End x0.Nodes x1) = (ref13_End x0.Nodes x1)))) && (ref13_EqualFields (expr_Fields x0.Nodes) (ref13_Fields x0.Nodes))) && (ref02_EqualInts (expr_Headers x0.Nodes) (ref13_Headers x0.Nodes)))) ?_ ?_
  ·intro S Q r
   simp only [ac3_G4, List.cons_append, List.nil_append, List.append_assoc]
   cases hb127 : ((((decide (y107.1 = y112.1)) && (decide (y107.2 = y112.2))) && (decide ((expr_End x0.Nodes x1) = (ref13_End x0.Nodes x1)))) && (ref13_EqualFields (expr_Fields x0.Nodes) (ref13_Fields x0.Nodes)))
   ·intro k
    refine rd_skip rfl rfl ?_
    refine rd_skip rfl rfl ?_
    refine rd_skip rfl rfl ?_
    refine rd_skip rfl rfl ?_
    refine rd_skip rfl rfl ?_
    refine rd_skip rfl rfl ?_
    refine rd_skip rfl rfl ?_
    refine rd_op (v := vb false) (ov_pick rfl rfl rfl rfl) ?_
    exact rd_weak (sub_cons rfl (sub_skip rfl (sub_skip rfl (sub_skip rfl (sub_skip rfl (sub_skip rfl (sub_skip rfl (sub_skip rfl (sub_skip rfl (sub_refl _)))))))))) k
   ·intro k
    have hb127' := hb127
    try simp only [qa1, qa2, qa3, qa4, qa5, qa6, qa7, qa8, qa9, qaA, qaB, qaC, qaD] at hb127'
    obtain ⟨v128, e128, r128⟩ := law13_Args.g_Nodes r0
    refine rd_yes rfl rfl (ov_faddr rfl e128) ?_
    refine rd_yes rfl rfl (ov_load rfl (TR.cnt (tSl api_ExprNode.t) r128) (TR.agg (tSl api_ExprNode.t) r128)) ?_
    obtain ⟨v130, f129, r130⟩ := f15_ok  r128 (by first | assumption | omega | (rw [wr_of (by omega) (by omega)]; omega))
    refine rd_ycall rfl rfl (cv_fn rfl rfl (clL_cons (TR.clo (tSl api_ExprNode.t) r128) clL_nil) f129) ?_
    obtain ⟨v131, e131, r131⟩ := law13_Args.g_Nodes r0
    refine rd_yes rfl rfl (ov_faddr rfl e131) ?_
    refine rd_yes rfl rfl (ov_load rfl (TR.cnt (tSl api_ExprNode.t) r131) (TR.agg (tSl api_ExprNode.t) r131)) ?_
    obtain ⟨v133, f132, r133⟩ := f16_ok  r131 (by first | assumption | omega | (rw [wr_of (by omega) (by omega)]; omega))
    refine rd_ycall rfl rfl (cv_fn rfl rfl (clL_cons (TR.clo (tSl api_ExprNode.t) r131) clL_nil) f132) ?_
    have f134 := f14_ok  r130 r133 
    refine rd_ycall rfl rfl (cv_fn rfl rfl (clL_cons (TR.clo (tSl tI) r130) (clL_cons (TR.clo (tSl tI) r133) clL_nil)) f134) ?_
    refine rd_op (v := vb (ref02_EqualInts (expr_Headers x0.Nodes) (ref13_Headers x0.Nodes))) (ov_pick rfl rfl rfl rfl) ?_
    exact rd_weak (sub_cons rfl (sub_skip rfl (sub_skip rfl (sub_skip rfl (sub_skip rfl (sub_skip rfl (sub_skip rfl (sub_skip rfl (sub_skip rfl (sub_refl _)))))))))) k
  refine rd_op (ov_move rfl) ?_
  refine rd_cut (d := 72) (v := vb ((((((decide (y107.1 = y112.1)) && (decide (y107.2 = y112.2))) && (decide ((expr_End x0.Nodes x1) = (ref13_End x0.Nodes x1)))) && (ref13_EqualFields (expr_Fields x0.Nodes) (ref13_Fields x0.Nodes))) && (ref02_EqualInts (expr_Headers x0.Nodes) (ref13_Headers x0.Nodes))) && (law13_awake))) ?_ ?_
  ·intro S Q r
   simp only [ac3_G5, List.cons_append, List.nil_append, List.append_assoc]
   cases hb135 : (((((decide (y107.1 = y112.1)) && (decide (y107.2 = y112.2))) && (decide ((expr_End x0.Nodes x1) = (ref13_End x0.Nodes x1)))) && (ref13_EqualFields (expr_Fields x0.Nodes) (ref13_Fields x0.Nodes))) && (ref02_EqualInts (expr_Headers x0.Nodes) (ref13_Headers x0.Nodes)))
   ·intro k
    refine rd_skip rfl rfl ?_
    refine rd_op (v := vb false) (ov_pick rfl rfl rfl rfl) ?_
    exact rd_weak (sub_cons rfl (sub_skip rfl (sub_skip rfl (sub_refl _)))) k
   ·intro k
    have hb135' := hb135
    try simp only [qa1, qa2, qa3, qa4, qa5, qa6, qa7, qa8, qa9, qaA, qaB, qaC, qaD] at hb135'
    have f136 := f5_ok   
    refine rd_ycall rfl rfl (cv_fn rfl rfl clL_nil f136) ?_
    refine rd_op (v := vb (law13_awake)) (ov_pick rfl rfl rfl rfl) ?_
    exact rd_weak (sub_cons rfl (sub_skip rfl (sub_skip rfl (sub_refl _)))) k
  refine rd_op (ov_move rfl) ?_
  refine rd_nil ?_
  refine pn_seq ?_
  subst hres
  exact rc_retV (.tmp rfl .nil) (deep_closed rfl) rfl

end Go.Proofs.Ytnejfbehaembkaa
