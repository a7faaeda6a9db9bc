/-
 The code of each function does what its plain program says.
-/
import Derived.Test.YtfekghenlhoamaaGreatL3W3
set_option linter.unusedVariables false
set_option linter.unusedSimpArgs false
set_option maxRecDepth 100000
namespace Go.Proofs.YtfekghenlhoamaaGreat
open Go Go.Pb Go.RowKit
/-- patchbay/patchbayref01.Shr -/
def RF60 (res : (BitVec 32)) (r : PV) : Prop := r = vu32 res
theorem ref01_Shr_L1_ok {S : List Fr} {res : (BitVec 32)} {x0 : BitVec 32} {x1 : Int} {x2 : Int} {y101 : (BitVec 32)} (hw101 : ref01_Reduce (BitVec.setWidth 64 x0) x2 = y101) {K0 : (BitVec 32) → (BitVec 32)}
  (hK0 : ∀ (x7_ : BitVec 32), K0 x7_ = res → PX Tryz.prog 0 S (QR Tryz.prog [(6, none)] (RF60 res)) [(7, vu32 x7_)] ⟨0, []⟩) :
  ∀ (m : Nat) (x7_ : BitVec 32) (x8_ : Int) (hm1 : m = Int.toNat (x1 - x8_)) (hlo1 : 0 ≤ x8_), ref01_Shr_L1 x1 K0 m x7_ x8_ = res → RC Tryz.prog (.loop ac60_L1) S (QR Tryz.prog [(6, none)] (RF60 res)) [(8, vi x8_), (7, vu32 x7_), (1, vi x1)] ⟨0, []⟩ := by
 intro m
 induction m with
 | zero =>
  intro x7_ x8_ hm1 hlo1 hres
  rw [ref01_Shr_L1] at hres
  refine rc_loop ?_
  unfold ac60_L1
  refine rc_seq ?_
  refine rc_seq ?_
  refine rc_region ?_
  refine rd_op (ov_move rfl) ?_
  refine rd_op (ov_move rfl) ?_
  refine rd_op (ov_bin rfl rfl i_lss) ?_
  refine rd_op (ov_move rfl) ?_
  refine rd_cut (d := 19) (v := vb ((decide (x8_ < x1)) && (decide (x8_ < 32)))) ?_ ?_
  ·intro S Q r
   simp only [ac60_G1, List.cons_append, List.nil_append, List.append_assoc]
   cases hb102 : (decide (x8_ < x1))
   ·intro k
    refine rd_skip rfl rfl ?_
    refine rd_skip rfl rfl ?_
    refine rd_op (v := vb false) (ov_pick rfl rfl rfl rfl) ?_
    exact rd_weak (sub_cons rfl (sub_skip rfl (sub_skip rfl (sub_skip rfl (sub_refl _))))) k
   ·intro k
    have hb102' := hb102
    try simp only [qa1, qa2, qa3, qa4, qa5, qa6, qa7, qa8, qa9, qaA, qaB, qaC, qaD] at hb102'
    refine rd_yes rfl rfl (ov_move rfl) ?_
    refine rd_yes rfl rfl (ov_bin rfl rfl i_lss) ?_
    refine rd_op (v := vb (decide (x8_ < 32))) (ov_pick rfl rfl rfl rfl) ?_
    exact rd_weak (sub_cons rfl (sub_skip rfl (sub_skip rfl (sub_skip rfl (sub_refl _))))) k
  refine rd_nil ?_
  refine pn_seq ?_
  refine rc_cond rfl (fun hc103 => ?_) (fun hc103 => ?_)
  ·exfalso
   try simp only [qa1, qa2, qa3, qa4, qa5, qa6, qa7, qa8, qa9, qaA, qaB, qaC, qaD] at hc103
   omega
  ·have hend := hres
   have hc103' := hc103
   try simp only [qa1, qa2, qa3, qa4, qa5, qa6, qa7, qa8, qa9, qaA, qaB, qaC, qaD] at hc103'
   refine rc_exit ?_
   refine px_seq ?_
   refine px_again ?_
   exact px_weak ((sub_cons rfl (sub_nil _))) (hK0 x7_ hres)
 | succ m ih =>
  intro x7_ x8_ hm1 hlo1 hres
  rw [ref01_Shr_L1] at hres
  refine rc_loop ?_
  unfold ac60_L1
  refine rc_seq ?_
  refine rc_seq ?_
  refine rc_region ?_
  refine rd_op (ov_move rfl) ?_
  refine rd_op (ov_move rfl) ?_
  refine rd_op (ov_bin rfl rfl i_lss) ?_
  refine rd_op (ov_move rfl) ?_
  refine rd_cut (d := 19) (v := vb ((decide (x8_ < x1)) && (decide (x8_ < 32)))) ?_ ?_
  ·intro S Q r
   simp only [ac60_G1, List.cons_append, List.nil_append, List.append_assoc]
   cases hb104 : (decide (x8_ < x1))
   ·intro k
    refine rd_skip rfl rfl ?_
    refine rd_skip rfl rfl ?_
    refine rd_op (v := vb false) (ov_pick rfl rfl rfl rfl) ?_
    exact rd_weak (sub_cons rfl (sub_skip rfl (sub_skip rfl (sub_skip rfl (sub_refl _))))) k
   ·intro k
    have hb104' := hb104
    try simp only [qa1, qa2, qa3, qa4, qa5, qa6, qa7, qa8, qa9, qaA, qaB, qaC, qaD] at hb104'
    refine rd_yes rfl rfl (ov_move rfl) ?_
    refine rd_yes rfl rfl (ov_bin rfl rfl i_lss) ?_
    refine rd_op (v := vb (decide (x8_ < 32))) (ov_pick rfl rfl rfl rfl) ?_
    exact rd_weak (sub_cons rfl (sub_skip rfl (sub_skip rfl (sub_skip rfl (sub_refl _))))) k
  refine rd_nil ?_
  refine pn_seq ?_
  refine rc_cond rfl (fun hc105 => ?_) (fun hc105 => ?_)
  ·replace hres := (ite_t hc105).symm.trans hres
   have hc105' := hc105
   try simp only [qa1, qa2, qa3, qa4, qa5, qa6, qa7, qa8, qa9, qaA, qaB, qaC, qaD] at hc105'
   refine rc_skip ?_
   refine pn_seq ?_
   refine rc_seq ?_
   refine rc_block ?_
   refine rc_region ?_
   refine rd_op (ov_move rfl) ?_
   refine rd_op (ov_bin (a := vu32 x7_) (b := vu32 2#32) rfl rfl (w_quo (by decide))) ?_
   refine rd_op (ov_move rfl) ?_
   refine rd_nil ?_
   refine pn_blk ?_
   refine pn_seq ?_
   refine rc_region ?_
   refine rd_op (ov_move rfl) ?_
   refine rd_op (ov_bin rfl rfl i_add) ?_
   refine rd_op (ov_move rfl) ?_
   refine rd_nil ?_
   refine pn_again ?_
   have hinc : wr (x8_ + 1) = x8_ + 1 := wr_of (by omega) (by omega)
   rw [hinc]
   refine rc_weak ?_ (ih (x7_ / 2#32) (x8_ + 1)  (by omega) (by omega) hres)
   exact ((sub_cons rfl (sub_cons rfl (sub_cons rfl (sub_nil _)))))
  ·replace hres := (ite_f hc105).symm.trans hres
   have hc105' := hc105
   try simp only [qa1, qa2, qa3, qa4, qa5, qa6, qa7, qa8, qa9, qaA, qaB, qaC, qaD] at hc105'
   refine rc_exit ?_
   refine px_seq ?_
   refine px_again ?_
   exact px_weak ((sub_cons rfl (sub_nil _))) (hK0 x7_ hres)

theorem f60_ok {x0 : BitVec 32} {x1 : Int} {x2 : Int} : FnR Tryz.prog 60 [vu32 x0, vi x1, vi x2] (vu32 (ref01_Shr x0 x1 x2)) := by
 obtain ⟨res, hres⟩ : ∃ res, ref01_Shr x0 x1 x2 = res := ⟨_, rfl⟩
 suffices H : RC Tryz.prog ac60 [] (QR Tryz.prog [(6, none)] (RF60 res)) (argE 0 [vu32 x0, vi x1, vi x2]) ⟨0, []⟩ by
  obtain ⟨r, h1, h2⟩ := fnE text60 (by simp) H
  rw [hres]
  have h2 : r = vu32 res := h2
  rw [← h2]; exact h1
 unfold ref01_Shr at hres
 unfold ac60
 refine rc_seq ?_
 refine rc_region ?_
 refine rd_op (v := vu32 0#32) (ov_move rfl) ?_
 refine rd_nil ?_
 refine pn_seq ?_
 refine rc_seq ?_
 refine rc_region ?_
 refine rd_op (ov_move rfl) ?_
 refine rd_op (ov_conv (a := vu32 x0) rfl (c_wd Tryz.underlying42 Tryz.underlying93)) ?_
 refine rd_op (ov_move rfl) ?_
 obtain ⟨y101, hw101, hres⟩ := let_ex hres
 have f101 := f31_ok (x0 := (BitVec.setWidth 64 x0)) (x1 := x2)  
 rw [hw101] at f101
 refine rd_call (cv_fn rfl rfl (clL_cons rfl (clL_cons rfl clL_nil)) f101) ?_
 refine rd_op (ov_move rfl) ?_
 refine rd_nil ?_
 refine pn_seq ?_
 refine rc_seq ?_
 refine rc_seq ?_
 refine rc_region ?_
 refine rd_op (v := vi 0) (ov_move rfl) ?_
 refine rd_nil ?_
 refine pn_seq ?_
 refine rc_block ?_
 refine rc_weak ?_ (ref01_Shr_L1_ok (x0 := x0) (x1 := x1) (x2 := x2) (y101 := y101)   (hw101 := hw101) ?_ (Int.toNat (x1 - 0)) y101 0 rfl (by omega) hres)
 ·exact ((sub_cons rfl (sub_cons rfl (sub_cons rfl (sub_nil _)))))
 ·intro x7_106 hres
  refine px_blk ?_
  refine pn_seq ?_
  refine rc_seq ?_
  refine rc_region ?_
  refine rd_op (ov_move rfl) ?_
  refine rd_op (ov_move rfl) ?_
  refine rd_nil ?_
  refine pn_seq ?_
  subst hres
  exact rc_retV (.tmp rfl .nil) (deep_closed rfl) rfl

/-- patchbay/patchbayref01.Slice -/
def RF61 (res : (BitVec 32)) (r : PV) : Prop := r = vu32 res
theorem f61_ok {x0 : BitVec 32} {x1 : Int} {x2 : Int} : FnR Tryz.prog 61 [vu32 x0, vi x1, vi x2] (vu32 (ref01_Slice x0 x1 x2)) := by
 obtain ⟨res, hres⟩ : ∃ res, ref01_Slice x0 x1 x2 = res := ⟨_, rfl⟩
 suffices H : RC Tryz.prog ac61 [] (QR Tryz.prog [(6, none)] (RF61 res)) (argE 0 [vu32 x0, vi x1, vi x2]) ⟨0, []⟩ by
  obtain ⟨r, h1, h2⟩ := fnE text61 (by simp) H
  rw [hres]
  have h2 : r = vu32 res := h2
  rw [← h2]; exact h1
 unfold ref01_Slice at hres
 unfold ac61
 refine rc_seq ?_
 refine rc_region ?_
 refine rd_op (v := vu32 0#32) (ov_move rfl) ?_
 refine rd_nil ?_
 refine pn_seq ?_
 refine rc_seq ?_
 refine rc_seq ?_
 refine rc_region ?_
 refine rd_op (ov_move rfl) ?_
 obtain ⟨y101, hw101, hres⟩ := let_ex hres
 have f101 := f54_ok (x0 := x2)  
 rw [hw101] at f101
 refine rd_call (cv_fn rfl rfl (clL_cons rfl clL_nil) f101) ?_
 refine rd_op (ov_not rfl) ?_
 refine rd_op (ov_move rfl) ?_
 refine rd_cut (d := 13) (v := vb ((!y101) || (decide (x1 < 0)))) ?_ ?_
 ·intro S Q r
  simp only [ac61_G1, List.cons_append, List.nil_append, List.append_assoc]
  cases hb102 : (!y101)
  ·intro k
   have hb102' := hb102
   try simp only [qa1, qa2, qa3, qa4, qa5, qa6, qa7, qa8, qa9, qaA, qaB, qaC, qaD] at hb102'
   refine rd_yes rfl rfl (ov_move rfl) ?_
   refine rd_yes rfl rfl (ov_bin rfl rfl i_lss) ?_
   refine rd_op (v := vb (decide (x1 < 0))) (ov_pick rfl rfl rfl rfl) ?_
   exact rd_weak (sub_cons rfl (sub_skip rfl (sub_skip rfl (sub_skip rfl (sub_refl _))))) k
  ·intro k
   refine rd_skip rfl rfl ?_
   refine rd_skip rfl rfl ?_
   refine rd_op (v := vb true) (ov_pick rfl rfl rfl rfl) ?_
   exact rd_weak (sub_cons rfl (sub_skip rfl (sub_skip rfl (sub_skip rfl (sub_refl _))))) k
 refine rd_op (ov_move rfl) ?_
 refine rd_cut (d := 19) (v := vb (((!y101) || (decide (x1 < 0))) || (decide ((wr (32 - x2)) < x1)))) ?_ ?_
 ·intro S Q r
  simp only [ac61_G2, List.cons_append, List.nil_append, List.append_assoc]
  cases hb103 : ((!y101) || (decide (x1 < 0)))
  ·intro k
   have hb103' := hb103
   try simp only [qa1, qa2, qa3, qa4, qa5, qa6, qa7, qa8, qa9, qaA, qaB, qaC, qaD] at hb103'
   refine rd_yes rfl rfl (ov_move rfl) ?_
   refine rd_yes rfl rfl (ov_move rfl) ?_
   refine rd_yes rfl rfl (ov_bin rfl rfl i_sub) ?_
   refine rd_yes rfl rfl (ov_bin rfl rfl i_gtr) ?_
   refine rd_op (v := vb (decide ((wr (32 - x2)) < x1))) (ov_pick rfl rfl rfl rfl) ?_
   exact rd_weak (sub_cons rfl (sub_skip rfl (sub_skip rfl (sub_skip rfl (sub_skip rfl (sub_skip rfl (sub_refl _))))))) k
  ·intro k
   refine rd_skip rfl rfl ?_
   refine rd_skip rfl rfl ?_
   refine rd_skip rfl rfl ?_
   refine rd_skip rfl rfl ?_
   refine rd_op (v := vb true) (ov_pick rfl rfl rfl rfl) ?_
   exact rd_weak (sub_cons rfl (sub_skip rfl (sub_skip rfl (sub_skip rfl (sub_skip rfl (sub_skip rfl (sub_refl _))))))) k
 refine rd_nil ?_
 refine pn_seq ?_
 refine rc_cond rfl (fun hc104 => ?_) (fun hc104 => ?_)
 ·replace hres := (ite_t hc104).symm.trans hres
  have hc104' := hc104
  try simp only [qa1, qa2, qa3, qa4, qa5, qa6, qa7, qa8, qa9, qaA, qaB, qaC, qaD] at hc104'
  refine rc_seq ?_
  refine rc_region ?_
  refine rd_op (v := vu32 0#32) (ov_move rfl) ?_
  refine rd_nil ?_
  refine pn_seq ?_
  subst hres
  exact rc_retV (.tmp rfl .nil) (deep_closed rfl) rfl
 ·replace hres := (ite_f hc104).symm.trans hres
  have hc104' := hc104
  try simp only [qa1, qa2, qa3, qa4, qa5, qa6, qa7, qa8, qa9, qaA, qaB, qaC, qaD] at hc104'
  refine rc_skip ?_
  refine pn_seq ?_
  refine rc_seq ?_
  refine rc_region ?_
  refine rd_op (ov_move rfl) ?_
  refine rd_op (ov_conv (a := vu32 x0) rfl (c_wd Tryz.underlying42 Tryz.underlying93)) ?_
  refine rd_op (ov_move rfl) ?_
  obtain ⟨y105, hw105, hres⟩ := let_ex hres
  have f105 := f55_ok (x0 := x1)  (by first | assumption | omega | (rw [wr_of (by omega) (by omega)]; omega) | (have hk := rval rfl (And.right (And.left (by assumption))); omega) | (have hk := rval (by assumption) (by assumption); omega) | (have hk := rval (by assumption) (And.left (by assumption)); omega) | (have hk := rval (by assumption) (And.left (And.left (by assumption))); have hz := rslc (by assumption); omega) | (simp; done) | (simp only [List.length_append, List.length_nil, List.length_cons]; omega) | (have hk := (chk_ok (by assumption) (by assumption)).1; omega) | (simp only [List.length_cons, List.length_nil]; omega) | (simp only [List.length_append]; have hk := (chk_ok (by assumption) (by assumption)).1; omega) | (simp only [List.length_append, List.length_nil]; have hk := (chk_ok (by assumption) (by assumption)).1; omega))
  rw [hw105] at f105
  refine rd_call (cv_fn rfl rfl (clL_cons rfl clL_nil) f105) ?_
  refine rd_op (ov_bin (a := vu64 (BitVec.setWidth 64 x0)) (b := vu64 y105) rfl rfl (d_quo (rpow_nz2 (by assumption) (by assumption) (by assumption)))) ?_
  refine rd_op (ov_move rfl) ?_
  obtain ⟨y106, hw106, hres⟩ := let_ex hres
  have f106 := f31_ok (x0 := ((BitVec.setWidth 64 x0) / y105)) (x1 := x2)  
  rw [hw106] at f106
  refine rd_call (cv_fn rfl rfl (clL_cons rfl (clL_cons rfl clL_nil)) f106) ?_
  refine rd_op (ov_move rfl) ?_
  refine rd_nil ?_
  refine pn_seq ?_
  subst hres
  exact rc_retV (.tmp rfl .nil) (deep_closed rfl) rfl

/-- patchbay/patchbayref01.Add -/
def RF62 (res : (BitVec 32)) (r : PV) : Prop := r = vu32 res
theorem f62_ok {x0 : BitVec 32} {x1 : BitVec 32} {x2 : Int} : FnR Tryz.prog 62 [vu32 x0, vu32 x1, vi x2] (vu32 (ref01_Add x0 x1 x2)) := by
 obtain ⟨res, hres⟩ : ∃ res, ref01_Add x0 x1 x2 = res := ⟨_, rfl⟩
 suffices H : RC Tryz.prog ac62 [] (QR Tryz.prog [(6, none)] (RF62 res)) (argE 0 [vu32 x0, vu32 x1, vi x2]) ⟨0, []⟩ by
  obtain ⟨r, h1, h2⟩ := fnE text62 (by simp) H
  rw [hres]
  have h2 : r = vu32 res := h2
  rw [← h2]; exact h1
 unfold ref01_Add at hres
 unfold ac62
 refine rc_seq ?_
 refine rc_region ?_
 refine rd_op (v := vu32 0#32) (ov_move rfl) ?_
 refine rd_nil ?_
 refine pn_seq ?_
 refine rc_seq ?_
 refine rc_region ?_
 refine rd_op (ov_move rfl) ?_
 refine rd_op (ov_conv (a := vu32 x0) rfl (c_wd Tryz.underlying42 Tryz.underlying93)) ?_
 refine rd_op (ov_move rfl) ?_
 refine rd_op (ov_conv (a := vu32 x1) rfl (c_wd Tryz.underlying42 Tryz.underlying93)) ?_
 refine rd_op (ov_bin (a := vu64 (BitVec.setWidth 64 x0)) (b := vu64 (BitVec.setWidth 64 x1)) rfl rfl d_add) ?_
 refine rd_op (ov_move rfl) ?_
 obtain ⟨y101, hw101, hres⟩ := let_ex hres
 have f101 := f31_ok (x0 := ((BitVec.setWidth 64 x0) + (BitVec.setWidth 64 x1))) (x1 := x2)  
 rw [hw101] at f101
 refine rd_call (cv_fn rfl rfl (clL_cons rfl (clL_cons rfl clL_nil)) f101) ?_
 refine rd_op (ov_move rfl) ?_
 refine rd_nil ?_
 refine pn_seq ?_
 subst hres
 exact rc_retV (.tmp rfl .nil) (deep_closed rfl) rfl

/-- patchbay/patchbayref01.Sub -/
def RF63 (res : (BitVec 32)) (r : PV) : Prop := r = vu32 res
theorem f63_ok {x0 : BitVec 32} {x1 : BitVec 32} {x2 : Int} : FnR Tryz.prog 63 [vu32 x0, vu32 x1, vi x2] (vu32 (ref01_Sub x0 x1 x2)) := by
 obtain ⟨res, hres⟩ : ∃ res, ref01_Sub x0 x1 x2 = res := ⟨_, rfl⟩
 suffices H : RC Tryz.prog ac63 [] (QR Tryz.prog [(6, none)] (RF63 res)) (argE 0 [vu32 x0, vu32 x1, vi x2]) ⟨0, []⟩ by
  obtain ⟨r, h1, h2⟩ := fnE text63 (by simp) H
  rw [hres]
  have h2 : r = vu32 res := h2
  rw [← h2]; exact h1
 unfold ref01_Sub at hres
 unfold ac63
 refine rc_seq ?_
 refine rc_region ?_
 refine rd_op (v := vu32 0#32) (ov_move rfl) ?_
 refine rd_nil ?_
 refine pn_seq ?_
 refine rc_seq ?_
 refine rc_seq ?_
 refine rc_region ?_
 refine rd_op (ov_move rfl) ?_
 obtain ⟨y101, hw101, hres⟩ := let_ex hres
 have f101 := f54_ok (x0 := x2)  
 rw [hw101] at f101
 refine rd_call (cv_fn rfl rfl (clL_cons rfl clL_nil) f101) ?_
 refine rd_op (ov_not rfl) ?_
 refine rd_nil ?_
 refine pn_seq ?_
 refine rc_cond rfl (fun hc102 => ?_) (fun hc102 => ?_)
 ·replace hres := (ite_t hc102).symm.trans hres
  have hc102' := hc102
  try simp only [qa1, qa2, qa3, qa4, qa5, qa6, qa7, qa8, qa9, qaA, qaB, qaC, qaD] at hc102'
  refine rc_seq ?_
  refine rc_region ?_
  refine rd_op (v := vu32 0#32) (ov_move rfl) ?_
  refine rd_nil ?_
  refine pn_seq ?_
  subst hres
  exact rc_retV (.tmp rfl .nil) (deep_closed rfl) rfl
 ·replace hres := (ite_f hc102).symm.trans hres
  have hc102' := hc102
  try simp only [qa1, qa2, qa3, qa4, qa5, qa6, qa7, qa8, qa9, qaA, qaB, qaC, qaD] at hc102'
  refine rc_skip ?_
  refine pn_seq ?_
  refine rc_seq ?_
  refine rc_region ?_
  refine rd_op (ov_move rfl) ?_
  obtain ⟨y103, hw103, hres⟩ := let_ex hres
  have f103 := f55_ok (x0 := x2)  (by first | assumption | omega | (rw [wr_of (by omega) (by omega)]; omega) | (have hk := rval rfl (And.right (And.left (by assumption))); omega) | (have hk := rval (by assumption) (by assumption); omega) | (have hk := rval (by assumption) (And.left (by assumption)); omega) | (have hk := rval (by assumption) (And.left (And.left (by assumption))); have hz := rslc (by assumption); omega) | (simp; done) | (simp only [List.length_append, List.length_nil, List.length_cons]; omega) | (have hk := (chk_ok (by assumption) (by assumption)).1; omega) | (simp only [List.length_cons, List.length_nil]; omega) | (simp only [List.length_append]; have hk := (chk_ok (by assumption) (by assumption)).1; omega) | (simp only [List.length_append, List.length_nil]; have hk := (chk_ok (by assumption) (by assumption)).1; omega))
  rw [hw103] at f103
  refine rd_call (cv_fn rfl rfl (clL_cons rfl clL_nil) f103) ?_
  refine rd_op (ov_move rfl) ?_
  refine rd_op (ov_conv (a := vu32 x0) rfl (c_wd Tryz.underlying42 Tryz.underlying93)) ?_
  refine rd_op (ov_move rfl) ?_
  obtain ⟨y104, hw104, hres⟩ := let_ex hres
  have f104 := f31_ok (x0 := (BitVec.setWidth 64 x0)) (x1 := x2)  
  rw [hw104] at f104
  refine rd_call (cv_fn rfl rfl (clL_cons rfl (clL_cons rfl clL_nil)) f104) ?_
  refine rd_op (ov_conv (a := vu32 y104) rfl (c_wd Tryz.underlying42 Tryz.underlying93)) ?_
  refine rd_op (ov_bin (a := vu64 y103) (b := vu64 (BitVec.setWidth 64 y104)) rfl rfl d_add) ?_
  refine rd_op (ov_move rfl) ?_
  refine rd_op (ov_conv (a := vu32 x1) rfl (c_wd Tryz.underlying42 Tryz.underlying93)) ?_
  refine rd_op (ov_move rfl) ?_
  obtain ⟨y105, hw105, hres⟩ := let_ex hres
  have f105 := f31_ok (x0 := (BitVec.setWidth 64 x1)) (x1 := x2)  
  rw [hw105] at f105
  refine rd_call (cv_fn rfl rfl (clL_cons rfl (clL_cons rfl clL_nil)) f105) ?_
  refine rd_op (ov_conv (a := vu32 y105) rfl (c_wd Tryz.underlying42 Tryz.underlying93)) ?_
  refine rd_op (ov_bin (a := vu64 (y103 + (BitVec.setWidth 64 y104))) (b := vu64 (BitVec.setWidth 64 y105)) rfl rfl d_sub) ?_
  refine rd_op (ov_move rfl) ?_
  obtain ⟨y106, hw106, hres⟩ := let_ex hres
  have f106 := f31_ok (x0 := ((y103 + (BitVec.setWidth 64 y104)) - (BitVec.setWidth 64 y105))) (x1 := x2)  
  rw [hw106] at f106
  refine rd_call (cv_fn rfl rfl (clL_cons rfl (clL_cons rfl clL_nil)) f106) ?_
  refine rd_op (ov_move rfl) ?_
  refine rd_nil ?_
  refine pn_seq ?_
  subst hres
  exact rc_retV (.tmp rfl .nil) (deep_closed rfl) rfl

/-- patchbay/patchbayref01.Concat -/
def RF64 (res : (BitVec 32) × Bool) (r : PV) : Prop := r = .tup [vu32 res.1, vb res.2]
theorem f64_ok {x0 : BitVec 32} {x1 : Int} {x2 : BitVec 32} {x3 : Int} : FnR Tryz.prog 64 [vu32 x0, vi x1, vu32 x2, vi x3] (.tup [vu32 ((ref01_Concat x0 x1 x2 x3).1), vb ((ref01_Concat x0 x1 x2 x3).2)]) := by
 obtain ⟨res, hres⟩ : ∃ res, ref01_Concat x0 x1 x2 x3 = res := ⟨_, rfl⟩
 suffices H : RC Tryz.prog ac64 [] (QR Tryz.prog [(8, none), (9, none)] (RF64 res)) (argE 0 [vu32 x0, vi x1, vu32 x2, vi x3]) ⟨0, []⟩ by
  obtain ⟨r, h1, h2⟩ := fnE text64 (by simp) H
  rw [hres]
  have h2 : r = .tup [vu32 res.1, vb res.2] := h2
  rw [← h2]; exact h1
 unfold ref01_Concat at hres
 unfold ac64
 refine rc_seq ?_
 refine rc_region ?_
 refine rd_op (v := vu32 0#32) (ov_move rfl) ?_
 refine rd_op (v := vb false) (ov_move rfl) ?_
 refine rd_nil ?_
 refine pn_seq ?_
 refine rc_seq ?_
 refine rc_seq ?_
 refine rc_region ?_
 refine rd_op (ov_move rfl) ?_
 obtain ⟨y101, hw101, hres⟩ := let_ex hres
 have f101 := f54_ok (x0 := x1)  
 rw [hw101] at f101
 refine rd_call (cv_fn rfl rfl (clL_cons rfl clL_nil) f101) ?_
 refine rd_op (ov_not rfl) ?_
 refine rd_op (ov_move rfl) ?_
 refine rd_cut (d := 17) (v := vb ((!y101) || (!(ref01_valid x3)))) ?_ ?_
 ·intro S Q r
  simp only [ac64_G1, List.cons_append, List.nil_append, List.append_assoc]
  cases hb102 : (!y101)
  ·intro k
   have hb102' := hb102
   try simp only [qa1, qa2, qa3, qa4, qa5, qa6, qa7, qa8, qa9, qaA, qaB, qaC, qaD] at hb102'
   refine rd_yes rfl rfl (ov_move rfl) ?_
   have f103 := f54_ok (x0 := x3)  
   refine rd_ycall rfl rfl (cv_fn rfl rfl (clL_cons rfl clL_nil) f103) ?_
   refine rd_yes rfl rfl (ov_not rfl) ?_
   refine rd_op (v := vb (!(ref01_valid x3))) (ov_pick rfl rfl rfl rfl) ?_
   exact rd_weak (sub_cons rfl (sub_skip rfl (sub_skip rfl (sub_skip rfl (sub_skip rfl (sub_refl _)))))) k
  ·intro k
   refine rd_skip rfl rfl ?_
   refine rd_skip rfl rfl ?_
   refine rd_skip rfl rfl ?_
   refine rd_op (v := vb true) (ov_pick rfl rfl rfl rfl) ?_
   exact rd_weak (sub_cons rfl (sub_skip rfl (sub_skip rfl (sub_skip rfl (sub_skip rfl (sub_refl _)))))) k
 refine rd_op (ov_move rfl) ?_
 refine rd_cut (d := 23) (v := vb (((!y101) || (!(ref01_valid x3))) || (decide (32 < (wr (x1 + x3)))))) ?_ ?_
 ·intro S Q r
  simp only [ac64_G2, List.cons_append, List.nil_append, List.append_assoc]
  cases hb104 : ((!y101) || (!(ref01_valid x3)))
  ·intro k
   have hb104' := hb104
   try simp only [qa1, qa2, qa3, qa4, qa5, qa6, qa7, qa8, qa9, qaA, qaB, qaC, qaD] at hb104'
   refine rd_yes rfl rfl (ov_move rfl) ?_
   refine rd_yes rfl rfl (ov_move rfl) ?_
   refine rd_yes rfl rfl (ov_bin rfl rfl i_add) ?_
   refine rd_yes rfl rfl (ov_bin rfl rfl i_gtr) ?_
   refine rd_op (v := vb (decide (32 < (wr (x1 + x3))))) (ov_pick rfl rfl rfl rfl) ?_
   exact rd_weak (sub_cons rfl (sub_skip rfl (sub_skip rfl (sub_skip rfl (sub_skip rfl (sub_skip rfl (sub_refl _))))))) k
  ·intro k
   refine rd_skip rfl rfl ?_
   refine rd_skip rfl rfl ?_
   refine rd_skip rfl rfl ?_
   refine rd_skip rfl rfl ?_
   refine rd_op (v := vb true) (ov_pick rfl rfl rfl rfl) ?_
   exact rd_weak (sub_cons rfl (sub_skip rfl (sub_skip rfl (sub_skip rfl (sub_skip rfl (sub_skip rfl (sub_refl _))))))) k
 refine rd_nil ?_
 refine pn_seq ?_
 refine rc_cond rfl (fun hc105 => ?_) (fun hc105 => ?_)
 ·replace hres := (ite_t hc105).symm.trans hres
  have hc105' := hc105
  try simp only [qa1, qa2, qa3, qa4, qa5, qa6, qa7, qa8, qa9, qaA, qaB, qaC, qaD] at hc105'
  refine rc_seq ?_
  refine rc_region ?_
  refine rd_op (v := vu32 0#32) (ov_move rfl) ?_
  refine rd_op (v := vb false) (ov_move rfl) ?_
  refine rd_nil ?_
  refine pn_seq ?_
  subst hres
  exact rc_retV (.tmp rfl (.tmp rfl .nil)) (deep_closed (show closed (.tup _) = true from (clL_cons rfl (clL_cons rfl clL_nil)))) rfl
 ·replace hres := (ite_f hc105).symm.trans hres
  have hc105' := hc105
  try simp only [qa1, qa2, qa3, qa4, qa5, qa6, qa7, qa8, qa9, qaA, qaB, qaC, qaD] at hc105'
  refine rc_skip ?_
  refine pn_seq ?_
  refine rc_seq ?_
  refine rc_region ?_
  refine rd_op (ov_move rfl) ?_
  refine rd_op (ov_conv (a := vu32 x0) rfl (c_wd Tryz.underlying42 Tryz.underlying93)) ?_
  refine rd_op (ov_move rfl) ?_
  obtain ⟨y106, hw106, hres⟩ := let_ex hres
  have f106 := f31_ok (x0 := (BitVec.setWidth 64 x0)) (x1 := x1)  
  rw [hw106] at f106
  refine rd_call (cv_fn rfl rfl (clL_cons rfl (clL_cons rfl clL_nil)) f106) ?_
  refine rd_op (ov_conv (a := vu32 y106) rfl (c_wd Tryz.underlying42 Tryz.underlying93)) ?_
  refine rd_op (ov_move rfl) ?_
  obtain ⟨y107, hw107, hres⟩ := let_ex hres
  have f107 := f55_ok (x0 := x3)  (by first | assumption | omega | (rw [wr_of (by omega) (by omega)]; omega) | (have hk := rval rfl (And.right (And.left (by assumption))); omega) | (have hk := rval (by assumption) (by assumption); omega) | (have hk := rval (by assumption) (And.left (by assumption)); omega) | (have hk := rval (by assumption) (And.left (And.left (by assumption))); have hz := rslc (by assumption); omega) | (simp; done) | (simp only [List.length_append, List.length_nil, List.length_cons]; omega) | (have hk := (chk_ok (by assumption) (by assumption)).1; omega) | (simp only [List.length_cons, List.length_nil]; omega) | (simp only [List.length_append]; have hk := (chk_ok (by assumption) (by assumption)).1; omega) | (simp only [List.length_append, List.length_nil]; have hk := (chk_ok (by assumption) (by assumption)).1; omega))
  rw [hw107] at f107
  refine rd_call (cv_fn rfl rfl (clL_cons rfl clL_nil) f107) ?_
  refine rd_op (ov_bin (a := vu64 (BitVec.setWidth 64 y106)) (b := vu64 y107) rfl rfl d_mul) ?_
  refine rd_op (ov_conv (a := vu64 ((BitVec.setWidth 64 y106) * y107)) rfl (c_dw Tryz.underlying93 Tryz.underlying42)) ?_
  refine rd_op (ov_move rfl) ?_
  refine rd_op (ov_conv (a := vu32 x2) rfl (c_wd Tryz.underlying42 Tryz.underlying93)) ?_
  refine rd_op (ov_move rfl) ?_
  obtain ⟨y108, hw108, hres⟩ := let_ex hres
  have f108 := f31_ok (x0 := (BitVec.setWidth 64 x2)) (x1 := x3)  
  rw [hw108] at f108
  refine rd_call (cv_fn rfl rfl (clL_cons rfl (clL_cons rfl clL_nil)) f108) ?_
  refine rd_op (ov_bin (a := vu32 (BitVec.setWidth 32 ((BitVec.setWidth 64 y106) * y107))) (b := vu32 y108) rfl rfl w_add) ?_
  refine rd_op (ov_move rfl) ?_
  refine rd_op (v := vb true) (ov_move rfl) ?_
  refine rd_nil ?_
  refine pn_seq ?_
  subst hres
  exact rc_retV (.tmp rfl (.tmp rfl .nil)) (deep_closed (show closed (.tup _) = true from (clL_cons rfl (clL_cons rfl clL_nil)))) rfl

/-- patchbay/patchbayref13.apply -/
def RF35 (res : (BitVec 32)) (r : PV) : Prop := r = vu32 res
theorem f35_ok {x0 : api_ExprNode} {x1 : List ref13_Value} {v0 : PV} {v1 : PV} (r0 : api_ExprNode.t.R x0 v0) (r1 : (tSl ref13_Value.t).R x1 v1) (hl : (x1.length : Int) = ref13_Arity x0.Op) (h1 : 1 ≤ x1.length) : FnR Tryz.prog 35 [v0, v1] (vu32 (ref13_apply x0 x1)) := by
 obtain ⟨res, hres⟩ : ∃ res, ref13_apply x0 x1 = res := ⟨_, rfl⟩
 suffices H : RC Tryz.prog ac35 [] (QR Tryz.prog [(4, none)] (RF35 res)) (argE 0 [v0, v1]) ⟨0, []⟩ by
  obtain ⟨r, h1, h2⟩ := fnE text35 (by simp) H
  rw [hres]
  have h2 : r = vu32 res := h2
  rw [← h2]; exact h1
 unfold ref13_apply at hres
 unfold ac35
 refine rc_seq ?_
 refine rc_region ?_
 refine rd_op (ov_box rfl (TR.cnt api_ExprNode.t r0)) ?_
 refine rd_op (v := vu32 0#32) (ov_move rfl) ?_
 refine rd_nil ?_
 refine pn_seq ?_
 refine rc_seq ?_
 refine rc_region ?_
 refine rd_op (ov_move rfl) ?_
 obtain ⟨v101, e101, r101⟩ := sl_idx (i := 0) r1 (by first | omega | (have hk := opl hl; omega)) (by first | omega | (have hk := opl hl; omega))
 refine rd_op (ov_iaddr rfl rfl e101) ?_
 refine rd_op (ov_faddr rfl (ref13_Value.g_W r101)) ?_
 refine rd_op (ov_load rfl rfl rfl) ?_
 refine rd_op (ov_move rfl) ?_
 refine rd_nil ?_
 refine pn_seq ?_
 refine rc_seq ?_
 refine rc_seq ?_
 refine rc_region ?_
 refine rd_op (ov_faddr rfl (api_ExprNode.g_Op r0)) ?_
 refine rd_op (ov_load rfl rfl rfl) ?_
 refine rd_nil ?_
 refine pn_seq ?_
 refine rc_block ?_
 refine rc_seq ?_
 refine rc_region ?_
 refine rd_op (ov_bin rfl rfl i_eql) ?_
 refine rd_op (ov_move rfl) ?_
 refine rd_nil ?_
 refine pn_seq ?_
 refine rc_cond rfl (fun hc102 => ?_) (fun hc102 => ?_)
 ·replace hres := (ite_t hc102).symm.trans hres
  have hc102' := hc102
  try simp only [qa1, qa2, qa3, qa4, qa5, qa6, qa7, qa8, qa9, qaA, qaB, qaC, qaD] at hc102'
  refine rc_seq ?_
  refine rc_region ?_
  refine rd_op (ov_move rfl) ?_
  obtain ⟨v103, e103, r103⟩ := sl_idx (i := 0) r1 (by first | omega | (have hk := opl hl; omega)) (by first | omega | (have hk := opl hl; omega))
  refine rd_op (ov_iaddr rfl rfl e103) ?_
  refine rd_op (ov_faddr rfl (ref13_Value.g_V r103)) ?_
  refine rd_op (ov_load rfl rfl rfl) ?_
  refine rd_op (ov_move rfl) ?_
  obtain ⟨y104, hw104, hres⟩ := let_ex hres
  have f104 := f58_ok (x0 := (ix x1 0).V) (x1 := (ix x1 0).W)  
  rw [hw104] at f104
  refine rd_call (cv_fn rfl rfl (clL_cons rfl (clL_cons rfl clL_nil)) f104) ?_
  refine rd_op (ov_move rfl) ?_
  refine rd_nil ?_
  refine pn_seq ?_
  subst hres
  exact rc_retV (.tmp rfl .nil) (deep_closed rfl) rfl
 ·replace hres := (ite_f hc102).symm.trans hres
  have hc102' := hc102
  try simp only [qa1, qa2, qa3, qa4, qa5, qa6, qa7, qa8, qa9, qaA, qaB, qaC, qaD] at hc102'
  refine rc_seq ?_
  refine rc_region ?_
  refine rd_op (ov_bin rfl rfl i_eql) ?_
  refine rd_op (ov_move rfl) ?_
  refine rd_nil ?_
  refine pn_seq ?_
  refine rc_cond rfl (fun hc105 => ?_) (fun hc105 => ?_)
  ·replace hres := (ite_t hc105).symm.trans hres
   have hc105' := hc105
   try simp only [qa1, qa2, qa3, qa4, qa5, qa6, qa7, qa8, qa9, qaA, qaB, qaC, qaD] at hc105'
   refine rc_seq ?_
   refine rc_region ?_
   refine rd_op (ov_move rfl) ?_
   obtain ⟨v106, e106, r106⟩ := sl_idx (i := 0) r1 (by first | omega | (have hk := opl hl; omega)) (by first | omega | (have hk := opl hl; omega))
   refine rd_op (ov_iaddr rfl rfl e106) ?_
   refine rd_op (ov_faddr rfl (ref13_Value.g_V r106)) ?_
   refine rd_op (ov_load rfl rfl rfl) ?_
   refine rd_op (ov_faddr rfl (api_ExprNode.g_N r0)) ?_
   refine rd_op (ov_load rfl rfl rfl) ?_
   refine rd_op (ov_move rfl) ?_
   obtain ⟨y107, hw107, hres⟩ := let_ex hres
   have f107 := f59_ok (x0 := (ix x1 0).V) (x1 := x0.N) (x2 := (ix x1 0).W)  
   rw [hw107] at f107
   refine rd_call (cv_fn rfl rfl (clL_cons rfl (clL_cons rfl (clL_cons rfl clL_nil))) f107) ?_
   refine rd_op (ov_move rfl) ?_
   refine rd_nil ?_
   refine pn_seq ?_
   subst hres
   exact rc_retV (.tmp rfl .nil) (deep_closed rfl) rfl
  ·replace hres := (ite_f hc105).symm.trans hres
   have hc105' := hc105
   try simp only [qa1, qa2, qa3, qa4, qa5, qa6, qa7, qa8, qa9, qaA, qaB, qaC, qaD] at hc105'
   refine rc_seq ?_
   refine rc_region ?_
   refine rd_op (ov_bin rfl rfl i_eql) ?_
   refine rd_op (ov_move rfl) ?_
   refine rd_nil ?_
   refine pn_seq ?_
   refine rc_cond rfl (fun hc108 => ?_) (fun hc108 => ?_)
   ·replace hres := (ite_t hc108).symm.trans hres
    have hc108' := hc108
    try simp only [qa1, qa2, qa3, qa4, qa5, qa6, qa7, qa8, qa9, qaA, qaB, qaC, qaD] at hc108'
    refine rc_seq ?_
    refine rc_region ?_
    refine rd_op (ov_move rfl) ?_
    obtain ⟨v109, e109, r109⟩ := sl_idx (i := 0) r1 (by first | omega | (have hk := opl hl; omega)) (by first | omega | (have hk := opl hl; omega))
    refine rd_op (ov_iaddr rfl rfl e109) ?_
    refine rd_op (ov_faddr rfl (ref13_Value.g_V r109)) ?_
    refine rd_op (ov_load rfl rfl rfl) ?_
    refine rd_op (ov_faddr rfl (api_ExprNode.g_N r0)) ?_
    refine rd_op (ov_load rfl rfl rfl) ?_
    refine rd_op (ov_move rfl) ?_
    obtain ⟨y110, hw110, hres⟩ := let_ex hres
    have f110 := f60_ok (x0 := (ix x1 0).V) (x1 := x0.N) (x2 := (ix x1 0).W)  
    rw [hw110] at f110
    refine rd_call (cv_fn rfl rfl (clL_cons rfl (clL_cons rfl (clL_cons rfl clL_nil))) f110) ?_
    refine rd_op (ov_move rfl) ?_
    refine rd_nil ?_
    refine pn_seq ?_
    subst hres
    exact rc_retV (.tmp rfl .nil) (deep_closed rfl) rfl
   ·replace hres := (ite_f hc108).symm.trans hres
    have hc108' := hc108
    try simp only [qa1, qa2, qa3, qa4, qa5, qa6, qa7, qa8, qa9, qaA, qaB, qaC, qaD] at hc108'
    refine rc_seq ?_
    refine rc_region ?_
    refine rd_op (ov_bin rfl rfl i_eql) ?_
    refine rd_op (ov_move rfl) ?_
    refine rd_nil ?_
    refine pn_seq ?_
    refine rc_cond rfl (fun hc111 => ?_) (fun hc111 => ?_)
    ·replace hres := (ite_t hc111).symm.trans hres
     have hc111' := hc111
     try simp only [qa1, qa2, qa3, qa4, qa5, qa6, qa7, qa8, qa9, qaA, qaB, qaC, qaD] at hc111'
     refine rc_seq ?_
     refine rc_region ?_
     refine rd_op (ov_move rfl) ?_
     obtain ⟨v112, e112, r112⟩ := sl_idx (i := 0) r1 (by first | omega | (have hk := opl hl; omega)) (by first | omega | (have hk := opl hl; omega))
     refine rd_op (ov_iaddr rfl rfl e112) ?_
     refine rd_op (ov_faddr rfl (ref13_Value.g_V r112)) ?_
     refine rd_op (ov_load rfl rfl rfl) ?_
     refine rd_op (ov_faddr rfl (api_ExprNode.g_N r0)) ?_
     refine rd_op (ov_load rfl rfl rfl) ?_
     refine rd_op (ov_faddr rfl (api_ExprNode.g_W r0)) ?_
     refine rd_op (ov_load rfl rfl rfl) ?_
     obtain ⟨y113, hw113, hres⟩ := let_ex hres
     have f113 := f61_ok (x0 := (ix x1 0).V) (x1 := x0.N) (x2 := x0.W)  
     rw [hw113] at f113
     refine rd_call (cv_fn rfl rfl (clL_cons rfl (clL_cons rfl (clL_cons rfl clL_nil))) f113) ?_
     refine rd_op (ov_move rfl) ?_
     refine rd_nil ?_
     refine pn_seq ?_
     subst hres
     exact rc_retV (.tmp rfl .nil) (deep_closed rfl) rfl
    ·replace hres := (ite_f hc111).symm.trans hres
     have hc111' := hc111
     try simp only [qa1, qa2, qa3, qa4, qa5, qa6, qa7, qa8, qa9, qaA, qaB, qaC, qaD] at hc111'
     refine rc_seq ?_
     refine rc_region ?_
     refine rd_op (ov_bin rfl rfl i_eql) ?_
     refine rd_op (ov_move rfl) ?_
     refine rd_nil ?_
     refine pn_seq ?_
     refine rc_cond rfl (fun hc114 => ?_) (fun hc114 => ?_)
     ·replace hres := (ite_t hc114).symm.trans hres
      have hc114' := hc114
      try simp only [qa1, qa2, qa3, qa4, qa5, qa6, qa7, qa8, qa9, qaA, qaB, qaC, qaD] at hc114'
      refine rc_seq ?_
      refine rc_region ?_
      refine rd_op (ov_move rfl) ?_
      obtain ⟨v115, e115, r115⟩ := sl_idx (i := 0) r1 (by first | omega | (have hk := opl hl; omega)) (by first | omega | (have hk := opl hl; omega))
      refine rd_op (ov_iaddr rfl rfl e115) ?_
      refine rd_op (ov_faddr rfl (ref13_Value.g_V r115)) ?_
      refine rd_op (ov_load rfl rfl rfl) ?_
      refine rd_op (ov_move rfl) ?_
      obtain ⟨v116, e116, r116⟩ := sl_idx (i := 1) r1 (by first | omega | (have hk := opl hl; omega)) (by first | omega | (have hk := opl hl; omega))
      refine rd_op (ov_iaddr rfl rfl e116) ?_
      refine rd_op (ov_faddr rfl (ref13_Value.g_V r116)) ?_
      refine rd_op (ov_load rfl rfl rfl) ?_
      refine rd_op (ov_move rfl) ?_
      obtain ⟨y117, hw117, hres⟩ := let_ex hres
      have f117 := f62_ok (x0 := (ix x1 0).V) (x1 := (ix x1 1).V) (x2 := (ix x1 0).W)  
      rw [hw117] at f117
      refine rd_call (cv_fn rfl rfl (clL_cons rfl (clL_cons rfl (clL_cons rfl clL_nil))) f117) ?_
      refine rd_op (ov_move rfl) ?_
      refine rd_nil ?_
      refine pn_seq ?_
      subst hres
      exact rc_retV (.tmp rfl .nil) (deep_closed rfl) rfl
     ·replace hres := (ite_f hc114).symm.trans hres
      have hc114' := hc114
      try simp only [qa1, qa2, qa3, qa4, qa5, qa6, qa7, qa8, qa9, qaA, qaB, qaC, qaD] at hc114'
      refine rc_seq ?_
      refine rc_region ?_
      refine rd_op (ov_bin rfl rfl i_eql) ?_
      refine rd_op (ov_move rfl) ?_
      refine rd_nil ?_
      refine pn_seq ?_
      refine rc_cond rfl (fun hc118 => ?_) (fun hc118 => ?_)
      ·replace hres := (ite_t hc118).symm.trans hres
       have hc118' := hc118
       try simp only [qa1, qa2, qa3, qa4, qa5, qa6, qa7, qa8, qa9, qaA, qaB, qaC, qaD] at hc118'
       refine rc_seq ?_
       refine rc_region ?_
       refine rd_op (ov_move rfl) ?_
       obtain ⟨v119, e119, r119⟩ := sl_idx (i := 0) r1 (by first | omega | (have hk := opl hl; omega)) (by first | omega | (have hk := opl hl; omega))
       refine rd_op (ov_iaddr rfl rfl e119) ?_
       refine rd_op (ov_faddr rfl (ref13_Value.g_V r119)) ?_
       refine rd_op (ov_load rfl rfl rfl) ?_
       refine rd_op (ov_move rfl) ?_
       obtain ⟨v120, e120, r120⟩ := sl_idx (i := 1) r1 (by first | omega | (have hk := opl hl; omega)) (by first | omega | (have hk := opl hl; omega))
       refine rd_op (ov_iaddr rfl rfl e120) ?_
       refine rd_op (ov_faddr rfl (ref13_Value.g_V r120)) ?_
       refine rd_op (ov_load rfl rfl rfl) ?_
       refine rd_op (ov_move rfl) ?_
       obtain ⟨y121, hw121, hres⟩ := let_ex hres
       have f121 := f63_ok (x0 := (ix x1 0).V) (x1 := (ix x1 1).V) (x2 := (ix x1 0).W)  
       rw [hw121] at f121
       refine rd_call (cv_fn rfl rfl (clL_cons rfl (clL_cons rfl (clL_cons rfl clL_nil))) f121) ?_
       refine rd_op (ov_move rfl) ?_
       refine rd_nil ?_
       refine pn_seq ?_
       subst hres
       exact rc_retV (.tmp rfl .nil) (deep_closed rfl) rfl
      ·replace hres := (ite_f hc118).symm.trans hres
       have hc118' := hc118
       try simp only [qa1, qa2, qa3, qa4, qa5, qa6, qa7, qa8, qa9, qaA, qaB, qaC, qaD] at hc118'
       refine rc_seq ?_
       refine rc_region ?_
       refine rd_op (ov_bin rfl rfl i_eql) ?_
       refine rd_op (ov_move rfl) ?_
       refine rd_nil ?_
       refine pn_seq ?_
       refine rc_cond rfl (fun hc122 => ?_) (fun hc122 => ?_)
       ·replace hres := (ite_t hc122).symm.trans hres
        have hc122' := hc122
        try simp only [qa1, qa2, qa3, qa4, qa5, qa6, qa7, qa8, qa9, qaA, qaB, qaC, qaD] at hc122'
        refine rc_seq ?_
        refine rc_region ?_
        refine rd_op (ov_move rfl) ?_
        obtain ⟨v123, e123, r123⟩ := sl_idx (i := 0) r1 (by first | omega | (have hk := opl hl; omega)) (by first | omega | (have hk := opl hl; omega))
        refine rd_op (ov_iaddr rfl rfl e123) ?_
        refine rd_op (ov_faddr rfl (ref13_Value.g_V r123)) ?_
        refine rd_op (ov_load rfl rfl rfl) ?_
        refine rd_op (ov_move rfl) ?_
        obtain ⟨v124, e124, r124⟩ := sl_idx (i := 1) r1 (by first | omega | (have hk := opl hl; omega)) (by first | omega | (have hk := opl hl; omega))
        refine rd_op (ov_iaddr rfl rfl e124) ?_
        refine rd_op (ov_faddr rfl (ref13_Value.g_V r124)) ?_
        refine rd_op (ov_load rfl rfl rfl) ?_
        refine rd_op (ov_bin (a := vu32 ((ix x1 0).V)) (b := vu32 ((ix x1 1).V)) rfl rfl w_and) ?_
        refine rd_op (ov_move rfl) ?_
        refine rd_nil ?_
        refine pn_seq ?_
        subst hres
        exact rc_retV (.tmp rfl .nil) (deep_closed rfl) rfl
       ·replace hres := (ite_f hc122).symm.trans hres
        have hc122' := hc122
        try simp only [qa1, qa2, qa3, qa4, qa5, qa6, qa7, qa8, qa9, qaA, qaB, qaC, qaD] at hc122'
        refine rc_seq ?_
        refine rc_region ?_
        refine rd_op (ov_bin rfl rfl i_eql) ?_
        refine rd_op (ov_move rfl) ?_
        refine rd_nil ?_
        refine pn_seq ?_
        refine rc_cond rfl (fun hc125 => ?_) (fun hc125 => ?_)
        ·replace hres := (ite_t hc125).symm.trans hres
         have hc125' := hc125
         try simp only [qa1, qa2, qa3, qa4, qa5, qa6, qa7, qa8, qa9, qaA, qaB, qaC, qaD] at hc125'
         refine rc_seq ?_
         refine rc_region ?_
         refine rd_op (ov_move rfl) ?_
         obtain ⟨v126, e126, r126⟩ := sl_idx (i := 0) r1 (by first | omega | (have hk := opl hl; omega)) (by first | omega | (have hk := opl hl; omega))
         refine rd_op (ov_iaddr rfl rfl e126) ?_
         refine rd_op (ov_faddr rfl (ref13_Value.g_V r126)) ?_
         refine rd_op (ov_load rfl rfl rfl) ?_
         refine rd_op (ov_move rfl) ?_
         obtain ⟨v127, e127, r127⟩ := sl_idx (i := 1) r1 (by first | omega | (have hk := opl hl; omega)) (by first | omega | (have hk := opl hl; omega))
         refine rd_op (ov_iaddr rfl rfl e127) ?_
         refine rd_op (ov_faddr rfl (ref13_Value.g_V r127)) ?_
         refine rd_op (ov_load rfl rfl rfl) ?_
         refine rd_op (ov_bin (a := vu32 ((ix x1 0).V)) (b := vu32 ((ix x1 1).V)) rfl rfl w_or) ?_
         refine rd_op (ov_move rfl) ?_
         refine rd_nil ?_
         refine pn_seq ?_
         subst hres
         exact rc_retV (.tmp rfl .nil) (deep_closed rfl) rfl
        ·replace hres := (ite_f hc125).symm.trans hres
         have hc125' := hc125
         try simp only [qa1, qa2, qa3, qa4, qa5, qa6, qa7, qa8, qa9, qaA, qaB, qaC, qaD] at hc125'
         refine rc_seq ?_
         refine rc_region ?_
         refine rd_op (ov_bin rfl rfl i_eql) ?_
         refine rd_op (ov_move rfl) ?_
         refine rd_nil ?_
         refine pn_seq ?_
         refine rc_cond rfl (fun hc128 => ?_) (fun hc128 => ?_)
         ·replace hres := (ite_t hc128).symm.trans hres
          have hc128' := hc128
          try simp only [qa1, qa2, qa3, qa4, qa5, qa6, qa7, qa8, qa9, qaA, qaB, qaC, qaD] at hc128'
          refine rc_seq ?_
          refine rc_region ?_
          refine rd_op (ov_move rfl) ?_
          obtain ⟨v129, e129, r129⟩ := sl_idx (i := 0) r1 (by first | omega | (have hk := opl hl; omega)) (by first | omega | (have hk := opl hl; omega))
          refine rd_op (ov_iaddr rfl rfl e129) ?_
          refine rd_op (ov_faddr rfl (ref13_Value.g_V r129)) ?_
          refine rd_op (ov_load rfl rfl rfl) ?_
          refine rd_op (ov_move rfl) ?_
          obtain ⟨v130, e130, r130⟩ := sl_idx (i := 1) r1 (by first | omega | (have hk := opl hl; omega)) (by first | omega | (have hk := opl hl; omega))
          refine rd_op (ov_iaddr rfl rfl e130) ?_
          refine rd_op (ov_faddr rfl (ref13_Value.g_V r130)) ?_
          refine rd_op (ov_load rfl rfl rfl) ?_
          refine rd_op (ov_bin (a := vu32 ((ix x1 0).V)) (b := vu32 ((ix x1 1).V)) rfl rfl w_xor) ?_
          refine rd_op (ov_move rfl) ?_
          refine rd_nil ?_
          refine pn_seq ?_
          subst hres
          exact rc_retV (.tmp rfl .nil) (deep_closed rfl) rfl
         ·replace hres := (ite_f hc128).symm.trans hres
          have hc128' := hc128
          try simp only [qa1, qa2, qa3, qa4, qa5, qa6, qa7, qa8, qa9, qaA, qaB, qaC, qaD] at hc128'
          refine rc_seq ?_
          refine rc_region ?_
          refine rd_op (ov_bin rfl rfl i_eql) ?_
          refine rd_op (ov_move rfl) ?_
          refine rd_nil ?_
          refine pn_seq ?_
          refine rc_cond rfl (fun hc131 => ?_) (fun hc131 => ?_)
          ·replace hres := (ite_t hc131).symm.trans hres
           have hc131' := hc131
           try simp only [qa1, qa2, qa3, qa4, qa5, qa6, qa7, qa8, qa9, qaA, qaB, qaC, qaD] at hc131'
           refine rc_seq ?_
           refine rc_region ?_
           refine rd_op (ov_move rfl) ?_
           obtain ⟨v132, e132, r132⟩ := sl_idx (i := 0) r1 (by first | omega | (have hk := opl hl; omega)) (by first | omega | (have hk := opl hl; omega))
           refine rd_op (ov_iaddr rfl rfl e132) ?_
           refine rd_op (ov_faddr rfl (ref13_Value.g_V r132)) ?_
           refine rd_op (ov_load rfl rfl rfl) ?_
           refine rd_op (ov_move rfl) ?_
           refine rd_op (ov_move rfl) ?_
           obtain ⟨v133, e133, r133⟩ := sl_idx (i := 1) r1 (by first | omega | (have hk := opl hl; omega)) (by first | omega | (have hk := opl hl; omega))
           refine rd_op (ov_iaddr rfl rfl e133) ?_
           refine rd_op (ov_faddr rfl (ref13_Value.g_V r133)) ?_
           refine rd_op (ov_load rfl rfl rfl) ?_
           refine rd_op (ov_move rfl) ?_
           obtain ⟨v134, e134, r134⟩ := sl_idx (i := 1) r1 (by first | omega | (have hk := opl hl; omega)) (by first | omega | (have hk := opl hl; omega))
           refine rd_op (ov_iaddr rfl rfl e134) ?_
           refine rd_op (ov_faddr rfl (ref13_Value.g_W r134)) ?_
           refine rd_op (ov_load rfl rfl rfl) ?_
           obtain ⟨y135, hw135, hres⟩ := let_ex hres
           have f135 := f64_ok (x0 := (ix x1 0).V) (x1 := (ix x1 0).W) (x2 := (ix x1 1).V) (x3 := (ix x1 1).W)  
           rw [hw135] at f135
           refine rd_call (cv_fn rfl rfl (clL_cons rfl (clL_cons rfl (clL_cons rfl (clL_cons rfl clL_nil)))) f135) ?_
           refine rd_op (ov_move rfl) ?_
           refine rd_op (ov_extract rfl rfl) ?_
           refine rd_op (ov_extract rfl rfl) ?_
           refine rd_op (ov_move rfl) ?_
           refine rd_op (ov_move rfl) ?_
           refine rd_nil ?_
           refine pn_seq ?_
           refine rc_seq ?_
           refine rc_region ?_
           refine rd_op (ov_move rfl) ?_
           refine rd_op (ov_move rfl) ?_
           refine rd_nil ?_
           refine pn_seq ?_
           subst hres
           exact rc_retV (.tmp rfl .nil) (deep_closed rfl) rfl
          ·replace hres := (ite_f hc131).symm.trans hres
           have hc131' := hc131
           try simp only [qa1, qa2, qa3, qa4, qa5, qa6, qa7, qa8, qa9, qaA, qaB, qaC, qaD] at hc131'
           refine rc_seq ?_
           refine rc_region ?_
           refine rd_op (ov_bin rfl rfl i_eql) ?_
           refine rd_op (ov_move rfl) ?_
           refine rd_nil ?_
           refine pn_seq ?_
           refine rc_cond rfl (fun hc136 => ?_) (fun hc136 => ?_)
           ·replace hres := (ite_t hc136).symm.trans hres
            have hc136' := hc136
            try simp only [qa1, qa2, qa3, qa4, qa5, qa6, qa7, qa8, qa9, qaA, qaB, qaC, qaD] at hc136'
            refine rc_seq ?_
            refine rc_region ?_
            refine rd_op (ov_move rfl) ?_
            obtain ⟨v137, e137, r137⟩ := sl_idx (i := 0) r1 (by first | omega | (have hk := opl hl; omega)) (by first | omega | (have hk := opl hl; omega))
            refine rd_op (ov_iaddr rfl rfl e137) ?_
            refine rd_op (ov_faddr rfl (ref13_Value.g_V r137)) ?_
            refine rd_op (ov_load rfl rfl rfl) ?_
            refine rd_op (ov_move rfl) ?_
            obtain ⟨v138, e138, r138⟩ := sl_idx (i := 1) r1 (by first | omega | (have hk := opl hl; omega)) (by first | omega | (have hk := opl hl; omega))
            refine rd_op (ov_iaddr rfl rfl e138) ?_
            refine rd_op (ov_faddr rfl (ref13_Value.g_V r138)) ?_
            refine rd_op (ov_load rfl rfl rfl) ?_
            refine rd_op (ov_bin (a := vu32 ((ix x1 0).V)) (b := vu32 ((ix x1 1).V)) rfl rfl w_eql) ?_
            obtain ⟨y139, hw139, hres⟩ := let_ex hres
            have f139 := f33_ok (x0 := (decide (((ix x1 0).V) = ((ix x1 1).V))))  
            rw [hw139] at f139
            refine rd_call (cv_fn rfl rfl (clL_cons rfl clL_nil) f139) ?_
            refine rd_op (ov_move rfl) ?_
            refine rd_nil ?_
            refine pn_seq ?_
            subst hres
            exact rc_retV (.tmp rfl .nil) (deep_closed rfl) rfl
           ·replace hres := (ite_f hc136).symm.trans hres
            have hc136' := hc136
            try simp only [qa1, qa2, qa3, qa4, qa5, qa6, qa7, qa8, qa9, qaA, qaB, qaC, qaD] at hc136'
            refine rc_seq ?_
            refine rc_region ?_
            refine rd_op (ov_bin rfl rfl i_eql) ?_
            refine rd_op (ov_move rfl) ?_
            refine rd_nil ?_
            refine pn_seq ?_
            refine rc_cond rfl (fun hc140 => ?_) (fun hc140 => ?_)
            ·replace hres := (ite_t hc140).symm.trans hres
             have hc140' := hc140
             try simp only [qa1, qa2, qa3, qa4, qa5, qa6, qa7, qa8, qa9, qaA, qaB, qaC, qaD] at hc140'
             refine rc_seq ?_
             refine rc_region ?_
             refine rd_op (ov_move rfl) ?_
             obtain ⟨v141, e141, r141⟩ := sl_idx (i := 0) r1 (by first | omega | (have hk := opl hl; omega)) (by first | omega | (have hk := opl hl; omega))
             refine rd_op (ov_iaddr rfl rfl e141) ?_
             refine rd_op (ov_faddr rfl (ref13_Value.g_V r141)) ?_
             refine rd_op (ov_load rfl rfl rfl) ?_
             refine rd_op (ov_move rfl) ?_
             obtain ⟨v142, e142, r142⟩ := sl_idx (i := 1) r1 (by first | omega | (have hk := opl hl; omega)) (by first | omega | (have hk := opl hl; omega))
             refine rd_op (ov_iaddr rfl rfl e142) ?_
             refine rd_op (ov_faddr rfl (ref13_Value.g_V r142)) ?_
             refine rd_op (ov_load rfl rfl rfl) ?_
             refine rd_op (ov_bin (a := vu32 ((ix x1 0).V)) (b := vu32 ((ix x1 1).V)) rfl rfl w_lss) ?_
             obtain ⟨y143, hw143, hres⟩ := let_ex hres
             have f143 := f33_ok (x0 := (decide (((ix x1 0).V) < ((ix x1 1).V))))  
             rw [hw143] at f143
             refine rd_call (cv_fn rfl rfl (clL_cons rfl clL_nil) f143) ?_
             refine rd_op (ov_move rfl) ?_
             refine rd_nil ?_
             refine pn_seq ?_
             subst hres
             exact rc_retV (.tmp rfl .nil) (deep_closed rfl) rfl
            ·replace hres := (ite_f hc140).symm.trans hres
             have hc140' := hc140
             try simp only [qa1, qa2, qa3, qa4, qa5, qa6, qa7, qa8, qa9, qaA, qaB, qaC, qaD] at hc140'
             refine rc_skip ?_
             refine pn_blk ?_
             refine pn_seq ?_
             refine rc_seq ?_
             refine rc_seq ?_
             refine rc_region ?_
             refine rd_op (ov_move rfl) ?_
             obtain ⟨v144, e144, r144⟩ := sl_idx (i := 0) r1 (by first | omega | (have hk := opl hl; omega)) (by first | omega | (have hk := opl hl; omega))
             refine rd_op (ov_iaddr rfl rfl e144) ?_
             refine rd_op (ov_faddr rfl (ref13_Value.g_V r144)) ?_
             refine rd_op (ov_load rfl rfl rfl) ?_
             refine rd_op (ov_bin (a := vu32 ((ix x1 0).V)) (b := vu32 1#32) rfl rfl w_eql) ?_
             refine rd_nil ?_
             refine pn_seq ?_
             refine rc_cond rfl (fun hc145 => ?_) (fun hc145 => ?_)
             ·replace hres := (ite_t hc145).symm.trans hres
              have hc145' := hc145
              try simp only [qa1, qa2, qa3, qa4, qa5, qa6, qa7, qa8, qa9, qaA, qaB, qaC, qaD] at hc145'
              refine rc_seq ?_
              refine rc_region ?_
              refine rd_op (ov_move rfl) ?_
              obtain ⟨v146, e146, r146⟩ := sl_idx (i := 1) r1 (by first | omega | (have hk := opl hl; omega)) (by first | omega | (have hk := opl hl; omega))
              refine rd_op (ov_iaddr rfl rfl e146) ?_
              refine rd_op (ov_faddr rfl (ref13_Value.g_V r146)) ?_
              refine rd_op (ov_load rfl rfl rfl) ?_
              refine rd_op (ov_move rfl) ?_
              refine rd_nil ?_
              refine pn_seq ?_
              subst hres
              exact rc_retV (.tmp rfl .nil) (deep_closed rfl) rfl
             ·replace hres := (ite_f hc145).symm.trans hres
              have hc145' := hc145
              try simp only [qa1, qa2, qa3, qa4, qa5, qa6, qa7, qa8, qa9, qaA, qaB, qaC, qaD] at hc145'
              refine rc_skip ?_
              refine pn_seq ?_
              refine rc_seq ?_
              refine rc_region ?_
              refine rd_op (ov_move rfl) ?_
              obtain ⟨v147, e147, r147⟩ := sl_idx (i := 2) r1 (by first | omega | (have hk := opl hl; omega)) (by first | omega | (have hk := opl hl; omega))
              refine rd_op (ov_iaddr rfl rfl e147) ?_
              refine rd_op (ov_faddr rfl (ref13_Value.g_V r147)) ?_
              refine rd_op (ov_load rfl rfl rfl) ?_
              refine rd_op (ov_move rfl) ?_
              refine rd_nil ?_
              refine pn_seq ?_
              subst hres
              exact rc_retV (.tmp rfl .nil) (deep_closed rfl) rfl

/-- patchbay/patchbayref13.eval -/
def RF17 (res : ref13_Value) (r : PV) : Prop := ref13_Value.t.R res r
theorem ref13_eval_L1_ok {S : List Fr} {res : ref13_Value} {x0 : List api_ExprNode} {x1 : Int} {x2 : expr_Scope} {x3 : api_Env} {x4 : List (BitVec 32)} {rec_ : (List api_ExprNode) → Int → expr_Scope → api_Env → (List (BitVec 32)) → ref13_Value} {mu_ : Nat} {y107 : Int × Int × Int} {v0 : PV} {v2 : PV} {v3 : PV} {v4 : PV} {v103 : PV} {i101 : Nat} {w101 : Nat} {i104 : Nat} {w104 : Nat} (r0 : (tSl api_ExprNode.t).R x0 v0) (r2 : expr_Scope.t.R x2 v2) (r3 : api_Env.t.R x3 v3) (r4 : (tSl tU32).R x4 v4) (hv : Ok x2 x0 x1) (ihR : ∀ {z0 : List api_ExprNode} {z1 : Int} {z2 : expr_Scope} {z3 : api_Env} {z4 : List (BitVec 32)} {zv0 : PV} {zv2 : PV} {zv3 : PV} {zv4 : PV} (zr0 : (tSl api_ExprNode.t).R z0 zv0) (zr2 : expr_Scope.t.R z2 zv2) (zr3 : api_Env.t.R z3 zv3) (zr4 : (tSl tU32).R z4 zv4) (hv : Ok z2 z0 z1), (z0.length - z1.toNat) < mu_ → ∃ r, FnR Tryz.prog 17 [zv0, vi z1, zv2, zv3, zv4] r ∧ ref13_Value.t.R (rec_ z0 z1 z2 z3 z4) r) (hmu : mu_ = (x0.length - x1.toNat)) (hrec : ∀ (z0 : List api_ExprNode) (z1 : Int) (z2 : expr_Scope) (z3 : api_Env) (z4 : List (BitVec 32)), Ok z2 z0 z1 → (rec_ z0 z1 z2 z3 z4).To = nx z2 z0 z1) (r103 : api_ExprNode.t.R (ix x0 x1) v103) (hw107 : ref13_check x0 x1 x2 = y107) (hc108 : (decide (((ix x0 x1).Op) = 1)) = false) (hc110 : (decide (((ix x0 x1).Op) = 2)) = false) (hc114 : (decide (((ix x0 x1).Op) = 3)) = false) (hc121 : (decide (((ix x0 x1).Op) = 4)) = false) {K1 : Int → (List ref13_Value) → ref13_Value}
  (hK1 : ∀ (x17_ : Int) (zE128 : List ref13_Value) (esE128 : List PV) (aE128 : PV) (qE128 : All2 ref13_Value.t.R zE128 esE128) (nE128 : isL aE128 = true) (wrE128 : Wri aE128 esE128) (hlE128 : zE128.length ≤ 4611686018427387904) (po0 : (zE128.length : Int) = ref13_Arity ((ix x0 x1).Op)) (h : Heap) (M0 : Mem h [⟨aE128, 75, 3, esE128⟩, ⟨.op i104 w104 0, 55, 3, [v103]⟩, ⟨.op i101 w101 0, 75, 3, [.agg [vu32 0#32, vi 0, vi 0]]⟩]), K1 x17_ zE128 = res → PX Tryz.prog 1 S (QR Tryz.prog [(10, some (3, true))] (RF17 res)) [(10, .op i101 w101 0), (11, .op i104 w104 0), (12, vi y107.1), (16, aE128), (17, vi x17_)] h) :
  ∀ (m : Nat) (x17_ : Int) (x18_ : Int) (zE128 : List ref13_Value) (esE128 : List PV) (aE128 : PV) (qE128 : All2 ref13_Value.t.R zE128 esE128) (nE128 : isL aE128 = true) (wrE128 : Wri aE128 esE128) (hlE128 : zE128.length ≤ 4611686018427387904) (hm1 : (ref13_Arity ((ix x0 x1).Op) - x18_) ≤ (m : Int)) (iv1_0 : EI x2 x0 x1 x17_ x18_) (iv1_1 : (zE128.length : Int) = x18_) (iv1_2 : x18_ ≤ ref13_Arity ((ix x0 x1).Op)) (iv1_3 : 0 ≤ x18_) (h : Heap) (M0 : Mem h [⟨aE128, 75, 3, esE128⟩, ⟨.op i104 w104 0, 55, 3, [v103]⟩, ⟨.op i101 w101 0, 75, 3, [.agg [vu32 0#32, vi 0, vi 0]]⟩]), ref13_eval_L1 x0 x1 x2 x3 x4 rec_ K1 m x17_ x18_ zE128 = res → RC Tryz.prog (.loop ac17_L1) S (QR Tryz.prog [(10, some (3, true))] (RF17 res)) [(18, vi x18_), (17, vi x17_), (16, aE128), (12, vi y107.1), (11, .op i104 w104 0), (10, .op i101 w101 0), (8, .fp v3), (7, .fp v2), (4, v4), (0, v0)] h := by
 have hc108' := hc108
 try simp only [qa1, qa2, qa3, qa4, qa5, qa6, qa7, qa8, qa9, qaA, qaB, qaC, qaD] at hc108'
 have hc110' := hc110
 try simp only [qa1, qa2, qa3, qa4, qa5, qa6, qa7, qa8, qa9, qaA, qaB, qaC, qaD] at hc110'
 have hc114' := hc114
 try simp only [qa1, qa2, qa3, qa4, qa5, qa6, qa7, qa8, qa9, qaA, qaB, qaC, qaD] at hc114'
 have hc121' := hc121
 try simp only [qa1, qa2, qa3, qa4, qa5, qa6, qa7, qa8, qa9, qaA, qaB, qaC, qaD] at hc121'
 intro m
 induction m with
 | zero =>
  intro x17_ x18_ zE128 esE128 aE128 qE128 nE128 wrE128 hlE128 hm1 iv1_0 iv1_1 iv1_2 iv1_3 h M0 hres
  rw [ref13_eval_L1] at hres
  refine rc_loop ?_
  unfold ac17_L1
  refine rc_seq ?_
  refine rc_seq ?_
  refine rc_region ?_
  refine rd_op (ov_move rfl) ?_
  refine rd_op (ov_faddrO rfl) ?_
  refine rd_op (ov_loadf (k := 1) M0 rfl rfl (api_ExprNode.g_Op r103)) ?_
  obtain ⟨y130, hw130⟩ : ∃ y_, ref13_Arity ((ix x0 x1).Op) = y_ := ⟨_, rfl⟩
  have f130 := f34_ok (x0 := (ix x0 x1).Op)  
  rw [hw130] at f130
  refine rd_call (cv_fn rfl rfl (clL_cons rfl clL_nil) f130) ?_
  refine rd_op (ov_bin rfl rfl i_lss) ?_
  refine rd_nil ?_
  refine pn_seq ?_
  refine rc_cond rfl (fun hc131 => ?_) (fun hc131 => ?_)
  ·exfalso
   try simp only [qa1, qa2, qa3, qa4, qa5, qa6, qa7, qa8, qa9, qaA, qaB, qaC, qaD] at hc131
   omega
  ·have hend := hres
   have hc131' := hc131
   try simp only [qa1, qa2, qa3, qa4, qa5, qa6, qa7, qa8, qa9, qaA, qaB, qaC, qaD] at hc131'
   refine rc_exit ?_
   refine px_seq ?_
   refine px_again ?_
   exact px_weak ((sub_cons rfl (sub_cons rfl (sub_cons rfl (sub_cons rfl (sub_cons rfl (sub_nil _))))))) (hK1 x17_ zE128 esE128 aE128 qE128 nE128 wrE128 hlE128 (by omega) _ (Mem.sub M0 (.cons_cons _ (.cons_cons _ (.cons_cons _ .slnil)))) hres)
 | succ m ih =>
  intro x17_ x18_ zE128 esE128 aE128 qE128 nE128 wrE128 hlE128 hm1 iv1_0 iv1_1 iv1_2 iv1_3 h M0 hres
  rw [ref13_eval_L1] at hres
  refine rc_loop ?_
  unfold ac17_L1
  refine rc_seq ?_
  refine rc_seq ?_
  refine rc_region ?_
  refine rd_op (ov_move rfl) ?_
  refine rd_op (ov_faddrO rfl) ?_
  refine rd_op (ov_loadf (k := 1) M0 rfl rfl (api_ExprNode.g_Op r103)) ?_
  obtain ⟨y132, hw132, hres⟩ := let_ex hres
  have f132 := f34_ok (x0 := (ix x0 x1).Op)  
  rw [hw132] at f132
  refine rd_call (cv_fn rfl rfl (clL_cons rfl clL_nil) f132) ?_
  refine rd_op (ov_bin rfl rfl i_lss) ?_
  refine rd_nil ?_
  refine pn_seq ?_
  refine rc_cond rfl (fun hc133 => ?_) (fun hc133 => ?_)
  ·replace hres := (ite_t hc133).symm.trans hres
   have hc133' := hc133
   try simp only [qa1, qa2, qa3, qa4, qa5, qa6, qa7, qa8, qa9, qaA, qaB, qaC, qaD] at hc133'
   refine rc_skip ?_
   refine pn_seq ?_
   refine rc_seq ?_
   refine rc_block ?_
   refine rc_seq ?_
   refine rc_region ?_
   refine rd_op (ov_move rfl) ?_
   refine rd_op (ov_move rfl) ?_
   refine rd_op (ov_load rfl (TR.cnt expr_Scope.t r2) (TR.agg expr_Scope.t r2)) ?_
   refine rd_op (ov_load rfl (TR.cnt api_Env.t r3) (TR.agg api_Env.t r3)) ?_
   refine rd_op (ov_move rfl) ?_
   obtain ⟨y134, hw134, hres⟩ := let_ex hres
   obtain ⟨v135, f134, r135⟩ := ihR (z0 := x0) (z1 := x17_) (z2 := x2) (z3 := x3) (z4 := x4) r0 r2 r3 r4 (by exact ei_ok hv (by assumption) (by assumption) (by omega)) (by rw [hmu]; exact ei_dec hv (by assumption) (by assumption) (by omega))
   rw [hw134] at r135
   have ek134 : y134.To = nx x2 x0 x17_ := by rw [← hw134]; exact hrec _ _ _ _ _ (ei_ok hv (by assumption) (by assumption) (by omega))
   refine rd_call (cv_fn rfl rfl (clL_cons (TR.clo (tSl api_ExprNode.t) r0) (clL_cons rfl (clL_cons (TR.clo expr_Scope.t r2) (clL_cons (TR.clo api_Env.t r3) (clL_cons (TR.clo (tSl tU32) r4) clL_nil))))) f134) ?_
   refine rd_allocO (x := .agg [vu32 0#32, vi 0, vi 0]) M0 rfl rfl (fun i136 w136 h136 M136 => ?_)
   refine rd_storeO (k := 0) (v := v135) M136 rfl rfl rfl (TR.cnt ref13_Value.t r135) (fun h138 M138 => ?_)
   replace M138 : Mem h138 [⟨.op i136 w136 0, 75, 3, [v135]⟩, ⟨aE128, 75, 3, esE128⟩, ⟨.op i104 w104 0, 55, 3, [v103]⟩, ⟨.op i101 w101 0, 75, 3, [.agg [vu32 0#32, vi 0, vi 0]]⟩] := M138
   refine rd_nil ?_
   refine pn_seq ?_
   refine rc_seq ?_
   refine rc_region ?_
   refine rd_op (ov_move rfl) ?_
   refine rd_op (ov_load0 (k := 0) M138 rfl rfl (TR.agg ref13_Value.t r135)) ?_
   refine rd_op (v := .fs true [v135]) (ov_bslice rfl (all_cons (TR.cnt ref13_Value.t r135) all_nil)) ?_
   have r139 : (tSl ref13_Value.t).R ([y134] : List ref13_Value) (.fs true [v135]) := sl_fs ⟨r135, trivial⟩ (by simp)
   obtain ⟨nw140, sr140, ar140⟩ := src_of (t := ref13_Value.t) (h := h138) r139
   have f140 : fits (esE128.length + nw140.length) 24 = true := by rw [All2.length_eq qE128, All2.length_eq ar140]; (try simp only [List.length_cons, List.length_nil]); exact fits_of (by first | omega | (have hk := rar4 (ix x0 x1).Op; omega) | (simp only [List.length_append, List.length_cons, List.length_nil]; have hk := rar4 (ix x0 x1).Op; omega)) (by first | omega | (have hk := rar4 (ix x0 x1).Op; omega) | (simp only [List.length_append, List.length_cons, List.length_nil]; have hk := rar4 (ix x0 x1).Op; omega))
   refine rd_appW (k := 1) (es := esE128) (news := nw140) M138 rfl rfl rfl nE128 wrE128 sr140 f140 (fun a140 h140 n140 wr140 M140 => ?_)
   have q140 : All2 ref13_Value.t.R (zE128 ++ ([y134] : List ref13_Value)) (esE128 ++ nw140) := All2.app qE128 ar140
   have hl140 : (zE128 ++ ([y134] : List ref13_Value)).length ≤ 4611686018427387904 := by rw [← All2.length_eq q140, List.length_append]; exact fits_len f140
   refine rd_op (ov_move rfl) ?_
   refine rd_nil ?_
   refine pn_seq ?_
   refine rc_region ?_
   refine rd_op (ov_faddrO rfl) ?_
   refine rd_op (ov_loadf (k := 0) M140 rfl rfl (ref13_Value.g_To r135)) ?_
   refine rd_op (ov_move rfl) ?_
   refine rd_nil ?_
   refine pn_blk ?_
   refine pn_seq ?_
   refine rc_region ?_
   refine rd_op (ov_move rfl) ?_
   refine rd_op (ov_bin rfl rfl i_add) ?_
   refine rd_op (ov_move rfl) ?_
   refine rd_nil ?_
   refine pn_again ?_
   refine rc_weak ?_ (ih y134.To (wr (x18_ + 1)) (zE128 ++ ([y134] : List ref13_Value)) (esE128 ++ nw140) a140 q140 n140 wr140 hl140 (by (have hk := rar4 (ix x0 x1).Op; rw [wr_of (by omega) (by omega)]; omega)) (by (have hk := rar4 (ix x0 x1).Op; have hq := ei_le (by assumption); first | (rw [wr_of (by omega) (by omega)]; first | omega | (simp only [List.length_append, List.length_cons, List.length_nil]; omega) | (exact ei_step (by assumption) (by assumption))))) (by (have hk := rar4 (ix x0 x1).Op; have hq := ei_le (by assumption); first | (rw [wr_of (by omega) (by omega)]; first | omega | (simp only [List.length_append, List.length_cons, List.length_nil]; omega) | (exact ei_step (by assumption) (by assumption))))) (by (have hk := rar4 (ix x0 x1).Op; have hq := ei_le (by assumption); first | (rw [wr_of (by omega) (by omega)]; first | omega | (simp only [List.length_append, List.length_cons, List.length_nil]; omega) | (exact ei_step (by assumption) (by assumption))))) (by (have hk := rar4 (ix x0 x1).Op; have hq := ei_le (by assumption); first | (rw [wr_of (by omega) (by omega)]; first | omega | (simp only [List.length_append, List.length_cons, List.length_nil]; omega) | (exact ei_step (by assumption) (by assumption))))) _ (Mem.sub M140 (.cons _ (.cons_cons _ (.cons_cons _ (.cons_cons _ .slnil))))) hres)
   exact ((sub_cons rfl (sub_cons rfl (sub_cons rfl (sub_cons rfl (sub_cons rfl (sub_cons rfl (sub_cons rfl (sub_cons rfl (sub_cons rfl (sub_cons rfl (sub_nil _))))))))))))
  ·replace hres := (ite_f hc133).symm.trans hres
   have hc133' := hc133
   try simp only [qa1, qa2, qa3, qa4, qa5, qa6, qa7, qa8, qa9, qaA, qaB, qaC, qaD] at hc133'
   refine rc_exit ?_
   refine px_seq ?_
   refine px_again ?_
   exact px_weak ((sub_cons rfl (sub_cons rfl (sub_cons rfl (sub_cons rfl (sub_cons rfl (sub_nil _))))))) (hK1 x17_ zE128 esE128 aE128 qE128 nE128 wrE128 hlE128 (by omega) _ (Mem.sub M0 (.cons_cons _ (.cons_cons _ (.cons_cons _ .slnil)))) hres)

theorem f17_okB {rec_ : (List api_ExprNode) → Int → expr_Scope → api_Env → (List (BitVec 32)) → ref13_Value} {mu_ : Nat} {x0 : List api_ExprNode} {x1 : Int} {x2 : expr_Scope} {x3 : api_Env} {x4 : List (BitVec 32)} {v0 : PV} {v2 : PV} {v3 : PV} {v4 : PV} (r0 : (tSl api_ExprNode.t).R x0 v0) (r2 : expr_Scope.t.R x2 v2) (r3 : api_Env.t.R x3 v3) (r4 : (tSl tU32).R x4 v4) (hv : Ok x2 x0 x1) (hmu : mu_ = (x0.length - x1.toNat)) (hrec : ∀ (z0 : List api_ExprNode) (z1 : Int) (z2 : expr_Scope) (z3 : api_Env) (z4 : List (BitVec 32)), Ok z2 z0 z1 → (rec_ z0 z1 z2 z3 z4).To = nx z2 z0 z1) (ihR : ∀ {z0 : List api_ExprNode} {z1 : Int} {z2 : expr_Scope} {z3 : api_Env} {z4 : List (BitVec 32)} {zv0 : PV} {zv2 : PV} {zv3 : PV} {zv4 : PV} (zr0 : (tSl api_ExprNode.t).R z0 zv0) (zr2 : expr_Scope.t.R z2 zv2) (zr3 : api_Env.t.R z3 zv3) (zr4 : (tSl tU32).R z4 zv4) (hv : Ok z2 z0 z1), (z0.length - z1.toNat) < mu_ → ∃ r, FnR Tryz.prog 17 [zv0, vi z1, zv2, zv3, zv4] r ∧ ref13_Value.t.R (rec_ z0 z1 z2 z3 z4) r) : ∃ r, FnR Tryz.prog 17 [v0, vi x1, v2, v3, v4] r ∧ ref13_Value.t.R (ref13_eval_B rec_ x0 x1 x2 x3 x4) r := by
 obtain ⟨res, hres⟩ : ∃ res, ref13_eval_B rec_ x0 x1 x2 x3 x4 = res := ⟨_, rfl⟩
 suffices H : RC Tryz.prog ac17 [] (QR Tryz.prog [(10, some (3, true))] (RF17 res)) (argE 0 [v0, vi x1, v2, v3, v4]) ⟨0, []⟩ by
  rw [hres]
  exact fnE text17 (by simp) H
 unfold ref13_eval_B at hres
 unfold ac17
 refine rc_seq ?_
 refine rc_region ?_
 refine rd_op (ov_box rfl (TR.cnt expr_Scope.t r2)) ?_
 refine rd_op (ov_box rfl (TR.cnt api_Env.t r3)) ?_
 refine rd_allocO (x := .agg [vu32 0#32, vi 0, vi 0]) (Mem.nil ⟨0, []⟩) rfl rfl (fun i101 w101 h101 M101 => ?_)
 refine rd_nil ?_
 refine pn_seq ?_
 refine rc_seq ?_
 refine rc_region ?_
 refine rd_op (ov_move rfl) ?_
 refine rd_op (ov_move rfl) ?_
 obtain ⟨v103, e103, r103⟩ := sl_idx (i := x1) r0 (by first | omega | exact hv.lo | exact hv.lt | (have hk := lf3 hv (by assumption); omega) | (have hk := lf4 hv (by assumption); omega)) (by first | omega | exact hv.lo | exact hv.lt | (have hk := lf3 hv (by assumption); omega) | (have hk := lf4 hv (by assumption); omega))
 refine rd_op (ov_iaddr rfl rfl e103) ?_
 refine rd_op (ov_load rfl (TR.cnt api_ExprNode.t r103) (TR.agg api_ExprNode.t r103)) ?_
 refine rd_allocO (x := .agg [vi 0, vi 0, vi 0]) M101 rfl rfl (fun i104 w104 h104 M104 => ?_)
 refine rd_storeO (k := 0) (v := v103) M104 rfl rfl rfl (TR.cnt api_ExprNode.t r103) (fun h106 M106 => ?_)
 replace M106 : Mem h106 [⟨.op i104 w104 0, 55, 3, [v103]⟩, ⟨.op i101 w101 0, 75, 3, [.agg [vu32 0#32, vi 0, vi 0]]⟩] := M106
 refine rd_nil ?_
 refine pn_seq ?_
 refine rc_seq ?_
 refine rc_region ?_
 refine rd_op (ov_move rfl) ?_
 refine rd_op (ov_move rfl) ?_
 refine rd_op (ov_load rfl (TR.cnt expr_Scope.t r2) (TR.agg expr_Scope.t r2)) ?_
 obtain ⟨y107, hw107, hres⟩ := let_ex hres
 have f107 := f30_ok (x1 := x1) r0 r2 (by first | exact hv.lo | exact hv.len) (by first | exact hv.lo | exact hv.len)
 rw [hw107] at f107
 refine rd_call (cv_fn rfl rfl (clL_cons (TR.clo (tSl api_ExprNode.t) r0) (clL_cons rfl (clL_cons (TR.clo expr_Scope.t r2) clL_nil))) f107) ?_
 refine rd_op (ov_move rfl) ?_
 refine rd_op (ov_extract rfl rfl) ?_
 refine rd_op (ov_extract rfl rfl) ?_
 refine rd_op (ov_extract rfl rfl) ?_
 refine rd_op (ov_move rfl) ?_
 refine rd_op (ov_move rfl) ?_
 refine rd_op (ov_move rfl) ?_
 refine rd_nil ?_
 refine pn_seq ?_
 refine rc_seq ?_
 refine rc_seq ?_
 refine rc_region ?_
 refine rd_op (ov_faddrO rfl) ?_
 refine rd_op (ov_loadf (k := 0) M106 rfl rfl (api_ExprNode.g_Op r103)) ?_
 refine rd_nil ?_
 refine pn_seq ?_
 refine rc_block ?_
 refine rc_seq ?_
 refine rc_region ?_
 refine rd_op (ov_bin rfl rfl i_eql) ?_
 refine rd_op (ov_move rfl) ?_
 refine rd_nil ?_
 refine pn_seq ?_
 refine rc_cond rfl (fun hc108 => ?_) (fun hc108 => ?_)
 ·replace hres := (ite_t hc108).symm.trans hres
  have hc108' := hc108
  try simp only [qa1, qa2, qa3, qa4, qa5, qa6, qa7, qa8, qa9, qaA, qaB, qaC, qaD] at hc108'
  refine rc_seq ?_
  refine rc_region ?_
  refine rd_op (ov_faddrO rfl) ?_
  refine rd_op (ov_loadf (k := 0) M106 rfl rfl (api_ExprNode.g_N r103)) ?_
  refine rd_op (ov_conv (a := vi ((ix x0 x1).N)) rfl (c_iw Tryz.underlying3 Tryz.underlying42)) ?_
  refine rd_op (ov_move rfl) ?_
  refine rd_op (ov_move rfl) ?_
  refine rd_op (ov_bin rfl rfl i_add) ?_
  refine rd_op (v := .agg [vu32 (BitVec.ofInt 32 ((ix x0 x1).N)), vi y107.1, vi (wr (x1 + 1))]) (ov_build (cs := [vu32 (BitVec.ofInt 32 ((ix x0 x1).N)), vi y107.1, vi (wr (x1 + 1))]) rfl rfl) ?_
  refine rd_storeO (k := 1) (v := .agg [vu32 (BitVec.ofInt 32 ((ix x0 x1).N)), vi y107.1, vi (wr (x1 + 1))]) M106 rfl rfl rfl rfl (fun h109 M109 => ?_)
  replace M109 : Mem h109 [⟨.op i104 w104 0, 55, 3, [v103]⟩, ⟨.op i101 w101 0, 75, 3, [.agg [vu32 (BitVec.ofInt 32 ((ix x0 x1).N)), vi y107.1, vi (wr (x1 + 1))]]⟩] := M109
  refine rd_nil ?_
  refine pn_seq ?_
  subst hres
  exact rc_retV (.cell rfl (load_whole (k := 1) M109 rfl rfl) .nil) (deep_closed (TR.clo ref13_Value.t (show ref13_Value.t.R ({ V := (BitVec.ofInt 32 ((ix x0 x1).N)), W := y107.1, To := (wr (x1 + 1)) } : ref13_Value) (.agg [vu32 (BitVec.ofInt 32 ((ix x0 x1).N)), vi y107.1, vi (wr (x1 + 1))]) from rfl))) (show ref13_Value.t.R ({ V := (BitVec.ofInt 32 ((ix x0 x1).N)), W := y107.1, To := (wr (x1 + 1)) } : ref13_Value) (.agg [vu32 (BitVec.ofInt 32 ((ix x0 x1).N)), vi y107.1, vi (wr (x1 + 1))]) from rfl)
 ·replace hres := (ite_f hc108).symm.trans hres
  have hc108' := hc108
  try simp only [qa1, qa2, qa3, qa4, qa5, qa6, qa7, qa8, qa9, qaA, qaB, qaC, qaD] at hc108'
  refine rc_seq ?_
  refine rc_region ?_
  refine rd_op (ov_bin rfl rfl i_eql) ?_
  refine rd_op (ov_move rfl) ?_
  refine rd_nil ?_
  refine pn_seq ?_
  refine rc_cond rfl (fun hc110 => ?_) (fun hc110 => ?_)
  ·replace hres := (ite_t hc110).symm.trans hres
   have hc110' := hc110
   try simp only [qa1, qa2, qa3, qa4, qa5, qa6, qa7, qa8, qa9, qaA, qaB, qaC, qaD] at hc110'
   refine rc_seq ?_
   refine rc_region ?_
   refine rd_op (ov_load rfl (TR.cnt api_Env.t r3) (TR.agg api_Env.t r3)) ?_
   refine rd_op (ov_faddrO rfl) ?_
   refine rd_op (ov_loadf (k := 0) M106 rfl rfl (api_ExprNode.g_N r103)) ?_
   refine rd_op (ov_faddrO rfl) ?_
   refine rd_op (ov_loadf (k := 0) M106 rfl rfl (api_ExprNode.g_W r103)) ?_
   refine rd_op (v := .agg [vi ((ix x0 x1).N), vi ((ix x0 x1).W)]) (ov_build (cs := [vi ((ix x0 x1).N), vi ((ix x0 x1).W)]) rfl rfl) ?_
   obtain ⟨y111, hw111, hres⟩ := let_ex hres
   have f111 := f32_ok  r3 (show api_FieldRef.t.R ({ Header := (ix x0 x1).N, Field := (ix x0 x1).W } : api_FieldRef) (.agg [vi ((ix x0 x1).N), vi ((ix x0 x1).W)]) from rfl) 
   rw [hw111] at f111
   refine rd_call (cv_fn rfl rfl (clL_cons (TR.clo api_Env.t r3) (clL_cons (TR.clo api_FieldRef.t (show api_FieldRef.t.R ({ Header := (ix x0 x1).N, Field := (ix x0 x1).W } : api_FieldRef) (.agg [vi ((ix x0 x1).N), vi ((ix x0 x1).W)]) from rfl)) clL_nil)) f111) ?_
   refine rd_op (ov_conv (a := vu32 y111) rfl (c_wd Tryz.underlying42 Tryz.underlying93)) ?_
   refine rd_op (ov_move rfl) ?_
   obtain ⟨y112, hw112, hres⟩ := let_ex hres
   have f112 := f31_ok (x0 := (BitVec.setWidth 64 y111)) (x1 := y107.1)  
   rw [hw112] at f112
   refine rd_call (cv_fn rfl rfl (clL_cons rfl (clL_cons rfl clL_nil)) f112) ?_
   refine rd_op (ov_move rfl) ?_
   refine rd_op (ov_move rfl) ?_
   refine rd_op (ov_bin rfl rfl i_add) ?_
   refine rd_op (v := .agg [vu32 y112, vi y107.1, vi (wr (x1 + 1))]) (ov_build (cs := [vu32 y112, vi y107.1, vi (wr (x1 + 1))]) rfl rfl) ?_
   refine rd_storeO (k := 1) (v := .agg [vu32 y112, vi y107.1, vi (wr (x1 + 1))]) M106 rfl rfl rfl rfl (fun h113 M113 => ?_)
   replace M113 : Mem h113 [⟨.op i104 w104 0, 55, 3, [v103]⟩, ⟨.op i101 w101 0, 75, 3, [.agg [vu32 y112, vi y107.1, vi (wr (x1 + 1))]]⟩] := M113
   refine rd_nil ?_
   refine pn_seq ?_
   subst hres
   exact rc_retV (.cell rfl (load_whole (k := 1) M113 rfl rfl) .nil) (deep_closed (TR.clo ref13_Value.t (show ref13_Value.t.R ({ V := y112, W := y107.1, To := (wr (x1 + 1)) } : ref13_Value) (.agg [vu32 y112, vi y107.1, vi (wr (x1 + 1))]) from rfl))) (show ref13_Value.t.R ({ V := y112, W := y107.1, To := (wr (x1 + 1)) } : ref13_Value) (.agg [vu32 y112, vi y107.1, vi (wr (x1 + 1))]) from rfl)
  ·replace hres := (ite_f hc110).symm.trans hres
   have hc110' := hc110
   try simp only [qa1, qa2, qa3, qa4, qa5, qa6, qa7, qa8, qa9, qaA, qaB, qaC, qaD] at hc110'
   refine rc_seq ?_
   refine rc_region ?_
   refine rd_op (ov_bin rfl rfl i_eql) ?_
   refine rd_op (ov_move rfl) ?_
   refine rd_nil ?_
   refine pn_seq ?_
   refine rc_cond rfl (fun hc114 => ?_) (fun hc114 => ?_)
   ·replace hres := (ite_t hc114).symm.trans hres
    have hc114' := hc114
    try simp only [qa1, qa2, qa3, qa4, qa5, qa6, qa7, qa8, qa9, qaA, qaB, qaC, qaD] at hc114'
    refine rc_seq ?_
    refine rc_region ?_
    refine rd_op (v := vu32 0#32) (ov_move rfl) ?_
    refine rd_nil ?_
    refine pn_seq ?_
    refine rc_seq ?_
    refine rc_seq ?_
    refine rc_region ?_
    refine rd_op (ov_faddrO rfl) ?_
    refine rd_op (ov_loadf (k := 0) M106 rfl rfl (api_ExprNode.g_N r103)) ?_
    refine rd_op (ov_move rfl) ?_
    refine rd_op (ov_bi rfl (sl_len r4 Tryz.underlying35 _)) ?_
    refine rd_op (ov_bin rfl rfl i_lss) ?_
    refine rd_nil ?_
    refine pn_seq ?_
    obtain ⟨k117, hk117, hres⟩ := let_ex hres
    refine rc_join (F := fun b S Q => ∀ (x15_117 : BitVec 32) (hj117 : Heap) (Mj117 : Mem hj117 [⟨.op i101 w101 0, 75, 3, [.agg [vu32 0#32, vi 0, vi 0]]⟩]), k117 x15_117 = res → RC Tryz.prog b S Q [(15, vu32 x15_117), (12, vi y107.1), (10, .op i101 w101 0), (1, vi x1)] hj117) ?_ ?_
    ·intro x15_117 hj117 Mj117 hres
     rw [← hk117] at hres
     refine rc_seq ?_
     refine rc_region ?_
     refine rd_op (ov_move rfl) ?_
     refine rd_op (ov_move rfl) ?_
     refine rd_op (ov_move rfl) ?_
     refine rd_op (ov_bin rfl rfl i_add) ?_
     refine rd_op (v := .agg [vu32 x15_117, vi y107.1, vi (wr (x1 + 1))]) (ov_build (cs := [vu32 x15_117, vi y107.1, vi (wr (x1 + 1))]) rfl rfl) ?_
     refine rd_storeO (k := 0) (v := .agg [vu32 x15_117, vi y107.1, vi (wr (x1 + 1))]) Mj117 rfl rfl rfl rfl (fun h118 M118 => ?_)
     replace M118 : Mem h118 [⟨.op i101 w101 0, 75, 3, [.agg [vu32 x15_117, vi y107.1, vi (wr (x1 + 1))]]⟩] := M118
     refine rd_nil ?_
     refine pn_seq ?_
     subst hres
     exact rc_retV (.cell rfl (load_whole (k := 0) M118 rfl rfl) .nil) (deep_closed (TR.clo ref13_Value.t (show ref13_Value.t.R ({ V := x15_117, W := y107.1, To := (wr (x1 + 1)) } : ref13_Value) (.agg [vu32 x15_117, vi y107.1, vi (wr (x1 + 1))]) from rfl))) (show ref13_Value.t.R ({ V := x15_117, W := y107.1, To := (wr (x1 + 1)) } : ref13_Value) (.agg [vu32 x15_117, vi y107.1, vi (wr (x1 + 1))]) from rfl)
    ·intro J
     refine rc_cond rfl (fun hc119 => ?_) (fun hc119 => ?_)
     ·replace hres := (ite_t hc119).symm.trans hres
      have hc119' := hc119
      try simp only [qa1, qa2, qa3, qa4, qa5, qa6, qa7, qa8, qa9, qaA, qaB, qaC, qaD] at hc119'
      refine rc_region ?_
      refine rd_op (ov_move rfl) ?_
      refine rd_op (ov_faddrO rfl) ?_
      refine rd_op (ov_loadf (k := 0) M106 rfl rfl (api_ExprNode.g_N r103)) ?_
      refine rd_op (ov_iaddr rfl rfl (slU32 r4 (by first | omega | exact hv.lo | exact hv.lt | (have hk := lf3 hv (by assumption); omega) | (have hk := lf4 hv (by assumption); omega)) (by first | omega | exact hv.lo | exact hv.lt | (have hk := lf3 hv (by assumption); omega) | (have hk := lf4 hv (by assumption); omega)))) ?_
      refine rd_op (ov_load rfl rfl rfl) ?_
      refine rd_op (ov_conv (a := vu32 (ix x4 ((ix x0 x1).N))) rfl (c_wd Tryz.underlying42 Tryz.underlying93)) ?_
      refine rd_op (ov_move rfl) ?_
      obtain ⟨y120, hw120, hres⟩ := let_ex hres
      have f120 := f31_ok (x0 := (BitVec.setWidth 64 (ix x4 ((ix x0 x1).N)))) (x1 := y107.1)  
      rw [hw120] at f120
      refine rd_call (cv_fn rfl rfl (clL_cons rfl (clL_cons rfl clL_nil)) f120) ?_
      refine rd_op (ov_move rfl) ?_
      refine rd_nil ?_
      refine pn_seq (rc_weak ((sub_cons rfl (sub_cons rfl (sub_cons rfl (sub_cons rfl (sub_nil _)))))) (J _ _ (Mem.sub M106 (.cons _ (.cons_cons _ .slnil))) hres))
     ·replace hres := (ite_f hc119).symm.trans hres
      have hc119' := hc119
      try simp only [qa1, qa2, qa3, qa4, qa5, qa6, qa7, qa8, qa9, qaA, qaB, qaC, qaD] at hc119'
      refine rc_skip ?_
      refine pn_seq (rc_weak ((sub_cons rfl (sub_cons rfl (sub_cons rfl (sub_cons rfl (sub_nil _)))))) (J _ _ (Mem.sub M106 (.cons _ (.cons_cons _ .slnil))) hres))
   ·replace hres := (ite_f hc114).symm.trans hres
    have hc114' := hc114
    try simp only [qa1, qa2, qa3, qa4, qa5, qa6, qa7, qa8, qa9, qaA, qaB, qaC, qaD] at hc114'
    refine rc_seq ?_
    refine rc_region ?_
    refine rd_op (ov_bin rfl rfl i_eql) ?_
    refine rd_op (ov_move rfl) ?_
    refine rd_nil ?_
    refine pn_seq ?_
    refine rc_cond rfl (fun hc121 => ?_) (fun hc121 => ?_)
    ·replace hres := (ite_t hc121).symm.trans hres
     have hc121' := hc121
     try simp only [qa1, qa2, qa3, qa4, qa5, qa6, qa7, qa8, qa9, qaA, qaB, qaC, qaD] at hc121'
     refine rc_seq ?_
     refine rc_region ?_
     refine rd_op (ov_faddrO rfl) ?_
     refine rd_op (ov_loadf (k := 0) M106 rfl rfl (api_ExprNode.g_N r103)) ?_
     obtain ⟨v122, e122, r122⟩ := api_Env.g_Valid r3
     refine rd_op (ov_faddr rfl e122) ?_
     refine rd_op (ov_load rfl (TR.cnt (tSl tB) r122) (TR.agg (tSl tB) r122)) ?_
     refine rd_op (ov_bi rfl (sl_len r122 Tryz.underlying33 _)) ?_
     refine rd_op (ov_bin rfl rfl i_lss) ?_
     refine rd_op (ov_move rfl) ?_
     refine rd_cut (d := 94) (v := vb ((decide (((ix x0 x1).N) < (x3.Valid.length : Int))) && (ix x3.Valid ((ix x0 x1).N)))) ?_ ?_
     ·intro S Q r
      simp only [ac17_G1, List.cons_append, List.nil_append, List.append_assoc]
      cases hb123 : (decide (((ix x0 x1).N) < (x3.Valid.length : Int)))
      ·intro k
       refine rd_skip rfl rfl ?_
       refine rd_skip rfl rfl ?_
       refine rd_skip rfl rfl ?_
       refine rd_skip rfl rfl ?_
       refine rd_skip rfl rfl ?_
       refine rd_skip rfl rfl ?_
       refine rd_op (v := vb false) (ov_pick rfl rfl rfl rfl) ?_
       exact rd_weak (sub_cons rfl (sub_skip rfl (sub_skip rfl (sub_skip rfl (sub_skip rfl (sub_skip rfl (sub_skip rfl (sub_skip rfl (sub_refl _))))))))) k
      ·intro k
       have hb123' := hb123
       try simp only [qa1, qa2, qa3, qa4, qa5, qa6, qa7, qa8, qa9, qaA, qaB, qaC, qaD] at hb123'
       obtain ⟨v124, e124, r124⟩ := api_Env.g_Valid r3
       refine rd_yes rfl rfl (ov_faddr rfl e124) ?_
       refine rd_yes rfl rfl (ov_load rfl (TR.cnt (tSl tB) r124) (TR.agg (tSl tB) r124)) ?_
       refine rd_yes rfl rfl (ov_faddrO rfl) ?_
       refine rd_yes rfl rfl (ov_loadf (k := 0) M106 rfl rfl (api_ExprNode.g_N r103)) ?_
       refine rd_yes rfl rfl (ov_iaddr rfl rfl (slB r124 (by first | omega | exact hv.lo | exact hv.lt | (have hk := lf3 hv (by assumption); omega) | (have hk := lf4 hv (by assumption); omega)) (by first | omega | exact hv.lo | exact hv.lt | (have hk := lf3 hv (by assumption); omega) | (have hk := lf4 hv (by assumption); omega)))) ?_
       refine rd_yes rfl rfl (ov_load rfl rfl rfl) ?_
       refine rd_op (v := vb (ix x3.Valid ((ix x0 x1).N))) (ov_pick rfl rfl rfl rfl) ?_
       exact rd_weak (sub_cons rfl (sub_skip rfl (sub_skip rfl (sub_skip rfl (sub_skip rfl (sub_skip rfl (sub_skip rfl (sub_skip rfl (sub_refl _))))))))) k
     obtain ⟨y125, hw125, hres⟩ := let_ex hres
     have f125 := f33_ok (x0 := ((decide (((ix x0 x1).N) < (x3.Valid.length : Int))) && (ix x3.Valid ((ix x0 x1).N))))  
     rw [hw125] at f125
     refine rd_call (cv_fn rfl rfl (clL_cons rfl clL_nil) f125) ?_
     refine rd_op (ov_move rfl) ?_
     refine rd_op (ov_move rfl) ?_
     refine rd_op (ov_bin rfl rfl i_add) ?_
     refine rd_op (v := .agg [vu32 y125, vi y107.1, vi (wr (x1 + 1))]) (ov_build (cs := [vu32 y125, vi y107.1, vi (wr (x1 + 1))]) rfl rfl) ?_
     refine rd_storeO (k := 1) (v := .agg [vu32 y125, vi y107.1, vi (wr (x1 + 1))]) M106 rfl rfl rfl rfl (fun h126 M126 => ?_)
     replace M126 : Mem h126 [⟨.op i104 w104 0, 55, 3, [v103]⟩, ⟨.op i101 w101 0, 75, 3, [.agg [vu32 y125, vi y107.1, vi (wr (x1 + 1))]]⟩] := M126
     refine rd_nil ?_
     refine pn_seq ?_
     subst hres
     exact rc_retV (.cell rfl (load_whole (k := 1) M126 rfl rfl) .nil) (deep_closed (TR.clo ref13_Value.t (show ref13_Value.t.R ({ V := y125, W := y107.1, To := (wr (x1 + 1)) } : ref13_Value) (.agg [vu32 y125, vi y107.1, vi (wr (x1 + 1))]) from rfl))) (show ref13_Value.t.R ({ V := y125, W := y107.1, To := (wr (x1 + 1)) } : ref13_Value) (.agg [vu32 y125, vi y107.1, vi (wr (x1 + 1))]) from rfl)
    ·replace hres := (ite_f hc121).symm.trans hres
     have hc121' := hc121
     try simp only [qa1, qa2, qa3, qa4, qa5, qa6, qa7, qa8, qa9, qaA, qaB, qaC, qaD] at hc121'
     refine rc_skip ?_
     refine pn_blk ?_
     refine pn_seq ?_
     refine rc_seq ?_
     refine rc_region ?_
     refine rd_op (v := nilS) (ov_move rfl) ?_
     refine rd_nil ?_
     refine pn_seq ?_
     refine rc_seq ?_
     refine rc_region ?_
     refine rd_op (ov_move rfl) ?_
     refine rd_op (ov_bin rfl rfl i_add) ?_
     refine rd_op (ov_move rfl) ?_
     refine rd_nil ?_
     refine pn_seq ?_
     refine rc_seq ?_
     refine rc_seq ?_
     refine rc_region ?_
     refine rd_op (v := vi 0) (ov_move rfl) ?_
     refine rd_nil ?_
     refine pn_seq ?_
     refine rc_block ?_
     have M127 := mem_acc (sz := 3) (es := []) M106 75 (.inl ⟨none, rfl, rfl⟩) (by simp)
     have r129 : ref13_Value.t.R ({ V := 0#32, W := 0, To := 0 } : ref13_Value) (.agg [vu32 0#32, vi 0, vi 0]) := rfl
     refine rc_weak ?_ (ref13_eval_L1_ok (x0 := x0) (x1 := x1) (x2 := x2) (x3 := x3) (x4 := x4) (rec_ := rec_) (mu_ := mu_) (y107 := y107) (v0 := v0) (v2 := v2) (v3 := v3) (v4 := v4) (v103 := v103) (i101 := i101) (w101 := w101) (i104 := i104) (w104 := w104) (r0 := r0) (r2 := r2) (r3 := r3) (r4 := r4) (hv := hv) (ihR := ihR) (hmu := hmu) (hrec := hrec) (r103 := r103) (hw107 := hw107) (hc108 := hc108) (hc110 := hc110) (hc114 := hc114) (hc121 := hc121) ?_ (Int.toNat ((ref13_Arity ((ix x0 x1).Op) - 0))) (wr (x1 + 1)) 0 ([] : List ref13_Value) ([] : List PV) nilS (show All2 ref13_Value.t.R ([] : List ref13_Value) [] from trivial) rfl (.inl rfl) (by decide) (by omega) (by first | omega | exact ei_0 hv | simp | exact rar_0 hv (by assumption) (by assumption) (by assumption) (by assumption)) (by first | omega | exact ei_0 hv | simp | exact rar_0 hv (by assumption) (by assumption) (by assumption) (by assumption)) (by first | omega | exact ei_0 hv | simp | exact rar_0 hv (by assumption) (by assumption) (by assumption) (by assumption)) (by first | omega | exact ei_0 hv | simp | exact rar_0 hv (by assumption) (by assumption) (by assumption) (by assumption)) _ (Mem.sub M127 (.cons_cons _ (.cons_cons _ (.cons_cons _ .slnil)))) hres)
     ·exact ((sub_cons rfl (sub_cons rfl (sub_cons rfl (sub_cons rfl (sub_cons rfl (sub_cons rfl (sub_cons rfl (sub_cons rfl (sub_cons rfl (sub_cons rfl (sub_nil _))))))))))))
     ·intro x17_141 zE128_141 es141E128 a141E128 q141E128 n141E128 wr141E128 hl141E128 po141_0 h141 M141 hres
      refine px_blk ?_
      refine pn_seq ?_
      refine rc_seq ?_
      refine rc_region ?_
      refine rd_op (ov_load0 (k := 1) M141 rfl rfl (TR.agg api_ExprNode.t r103)) ?_
      refine rd_op (ov_move rfl) ?_
      obtain ⟨v143, d143, r143⟩ := own_sl (P := Tryz.prog) (k := 0) (t := ref13_Value.t) M141 rfl n141E128 q141E128 (Nat.le_trans hl141E128 (by decide))
      obtain ⟨y142, hw142, hres⟩ := let_ex hres
      have f142 := f35_ok  r103 r143 (by first | omega | (have hk := lf_pos hv (by assumption) (by assumption) (by assumption) (by assumption); omega)) (by first | omega | (have hk := lf_pos hv (by assumption) (by assumption) (by assumption) (by assumption); omega))
      rw [hw142] at f142
      refine rd_call (cv_lend rfl rfl (dl_cons (deep_closed (TR.clo api_ExprNode.t r103)) (dl_cons d143 dl_nil)) f142 rfl) ?_
      refine rd_op (ov_move rfl) ?_
      refine rd_op (ov_move rfl) ?_
      refine rd_op (v := .agg [vu32 y142, vi y107.1, vi x17_141]) (ov_build (cs := [vu32 y142, vi y107.1, vi x17_141]) rfl rfl) ?_
      refine rd_storeO (k := 2) (v := .agg [vu32 y142, vi y107.1, vi x17_141]) M141 rfl rfl rfl rfl (fun h144 M144 => ?_)
      replace M144 : Mem h144 [⟨a141E128, 75, 3, es141E128⟩, ⟨.op i104 w104 0, 55, 3, [v103]⟩, ⟨.op i101 w101 0, 75, 3, [.agg [vu32 y142, vi y107.1, vi x17_141]]⟩] := M144
      refine rd_nil ?_
      refine pn_seq ?_
      subst hres
      exact rc_retV (.cell rfl (load_whole (k := 2) M144 rfl rfl) .nil) (deep_closed (TR.clo ref13_Value.t (show ref13_Value.t.R ({ V := y142, W := y107.1, To := x17_141 } : ref13_Value) (.agg [vu32 y142, vi y107.1, vi x17_141]) from rfl))) (show ref13_Value.t.R ({ V := y142, W := y107.1, To := x17_141 } : ref13_Value) (.agg [vu32 y142, vi y107.1, vi x17_141]) from rfl)
theorem f17_okR : ∀ (n_ : Nat) {x0 : List api_ExprNode} {x1 : Int} {x2 : expr_Scope} {x3 : api_Env} {x4 : List (BitVec 32)} {v0 : PV} {v2 : PV} {v3 : PV} {v4 : PV} (r0 : (tSl api_ExprNode.t).R x0 v0) (r2 : expr_Scope.t.R x2 v2) (r3 : api_Env.t.R x3 v3) (r4 : (tSl tU32).R x4 v4) (hv : Ok x2 x0 x1), (x0.length - x1.toNat) < n_ → ∃ r, FnR Tryz.prog 17 [v0, vi x1, v2, v3, v4] r ∧ ref13_Value.t.R (ref13_eval_R n_ x0 x1 x2 x3 x4) r := by
 intro n_
 induction n_ with
 | zero => intros; rename_i hlt; exact absurd hlt (Nat.not_lt_zero _)
 | succ n_ ihn =>
  intro x0 x1 x2 x3 x4 v0 v2 v3 v4 r0 r2 r3 r4 hv hlt
  have e_ : ref13_eval_R (n_ + 1) x0 x1 x2 x3 x4 = ref13_eval_B (ref13_eval_R n_) x0 x1 x2 x3 x4 := by rw [ref13_eval_R]
  rw [e_]
  exact f17_okB r0 r2 r3 r4 hv rfl (reval_next n_) (fun {z0} {z1} {z2} {z3} {z4} {zv0} {zv2} {zv3} {zv4} zr0 zr2 zr3 zr4 hv hz => ihn zr0 zr2 zr3 zr4 hv (by omega))
theorem f17_ok {x0 : List api_ExprNode} {x1 : Int} {x2 : expr_Scope} {x3 : api_Env} {x4 : List (BitVec 32)} {v0 : PV} {v2 : PV} {v3 : PV} {v4 : PV} (r0 : (tSl api_ExprNode.t).R x0 v0) (r2 : expr_Scope.t.R x2 v2) (r3 : api_Env.t.R x3 v3) (r4 : (tSl tU32).R x4 v4) (hv : Ok x2 x0 x1) : ∃ r, FnR Tryz.prog 17 [v0, vi x1, v2, v3, v4] r ∧ ref13_Value.t.R (ref13_eval x0 x1 x2 x3 x4) r := f17_okR _ r0 r2 r3 r4 hv (Nat.lt_succ_self _)

/-- patchbay/patchbayref13.Eval -/
def RF7 (res : (BitVec 32)) (r : PV) : Prop := r = vu32 res
theorem f7_ok {x0 : List api_ExprNode} {x1 : expr_Scope} {x2 : api_Env} {x3 : List (BitVec 32)} {v0 : PV} {v1 : PV} {v2 : PV} {v3 : PV} (r0 : (tSl api_ExprNode.t).R x0 v0) (r1 : expr_Scope.t.R x1 v1) (r2 : api_Env.t.R x2 v2) (r3 : (tSl tU32).R x3 v3) : FnR Tryz.prog 7 [v0, v1, v2, v3] (vu32 (ref13_Eval x0 x1 x2 x3)) := by
 obtain ⟨res, hres⟩ : ∃ res, ref13_Eval x0 x1 x2 x3 = res := ⟨_, rfl⟩
 suffices H : RC Tryz.prog ac7 [] (QR Tryz.prog [(8, none)] (RF7 res)) (argE 0 [v0, v1, v2, v3]) ⟨0, []⟩ by
  obtain ⟨r, h1, h2⟩ := fnE text7 (by simp) H
  rw [hres]
  have h2 : r = vu32 res := h2
  rw [← h2]; exact h1
 unfold ref13_Eval at hres
 unfold ac7
 refine rc_seq ?_
 refine rc_region ?_
 refine rd_op (ov_box rfl (TR.cnt expr_Scope.t r1)) ?_
 refine rd_op (ov_box rfl (TR.cnt api_Env.t r2)) ?_
 refine rd_op (v := vu32 0#32) (ov_move rfl) ?_
 refine rd_nil ?_
 refine pn_seq ?_
 refine rc_seq ?_
 refine rc_region ?_
 refine rd_op (ov_move rfl) ?_
 refine rd_op (ov_load rfl (TR.cnt expr_Scope.t r1) (TR.agg expr_Scope.t r1)) ?_
 obtain ⟨y101, hw101, hres⟩ := let_ex hres
 have f101 := f16_ok  r0 r1 
 rw [hw101] at f101
 refine rd_call (cv_fn rfl rfl (clL_cons (TR.clo (tSl api_ExprNode.t) r0) (clL_cons (TR.clo expr_Scope.t r1) clL_nil)) f101) ?_
 refine rd_op (ov_move rfl) ?_
 refine rd_op (ov_extract rfl rfl) ?_
 refine rd_op (ov_extract rfl rfl) ?_
 refine rd_op (ov_move rfl) ?_
 refine rd_op (ov_move rfl) ?_
 refine rd_nil ?_
 refine pn_seq ?_
 refine rc_seq ?_
 refine rc_seq ?_
 refine rc_region ?_
 refine rd_op (ov_move rfl) ?_
 refine rd_op (ov_bin rfl rfl i_neq) ?_
 refine rd_nil ?_
 refine pn_seq ?_
 refine rc_cond rfl (fun hc102 => ?_) (fun hc102 => ?_)
 ·replace hres := (ite_t hc102).symm.trans hres
  have hc102' := hc102
  try simp only [qa1, qa2, qa3, qa4, qa5, qa6, qa7, qa8, qa9, qaA, qaB, qaC, qaD] at hc102'
  refine rc_seq ?_
  refine rc_region ?_
  refine rd_op (v := vu32 0#32) (ov_move rfl) ?_
  refine rd_nil ?_
  refine pn_seq ?_
  subst hres
  exact rc_retV (.tmp rfl .nil) (deep_closed rfl) rfl
 ·replace hres := (ite_f hc102).symm.trans hres
  have hc102' := hc102
  try simp only [qa1, qa2, qa3, qa4, qa5, qa6, qa7, qa8, qa9, qaA, qaB, qaC, qaD] at hc102'
  refine rc_skip ?_
  refine pn_seq ?_
  refine rc_seq ?_
  refine rc_region ?_
  refine rd_op (ov_move rfl) ?_
  refine rd_op (ov_load rfl (TR.cnt expr_Scope.t r1) (TR.agg expr_Scope.t r1)) ?_
  refine rd_op (ov_load rfl (TR.cnt api_Env.t r2) (TR.agg api_Env.t r2)) ?_
  refine rd_op (ov_move rfl) ?_
  obtain ⟨y103, hw103, hres⟩ := let_ex hres
  obtain ⟨v104, f103, r104⟩ := f17_ok (x1 := 0) r0 r1 r2 r3 (by exact rchk_ok (by assumption) (by assumption))
  rw [hw103] at r104
  refine rd_call (cv_fn rfl rfl (clL_cons (TR.clo (tSl api_ExprNode.t) r0) (clL_cons rfl (clL_cons (TR.clo expr_Scope.t r1) (clL_cons (TR.clo api_Env.t r2) (clL_cons (TR.clo (tSl tU32) r3) clL_nil))))) f103) ?_
  refine rd_op (ov_field rfl (ref13_Value.g_V r104)) ?_
  refine rd_op (ov_move rfl) ?_
  refine rd_nil ?_
  refine pn_seq ?_
  subst hres
  exact rc_retV (.tmp rfl .nil) (deep_closed rfl) rfl

end Go.Proofs.YtfekghenlhoamaaGreat
