/-
 The code of each function does what its plain program says.
-/
import Derived.Test.YtklfdkbemkommaaL8W7
set_option linter.unusedVariables false
set_option linter.unusedSimpArgs false
set_option maxRecDepth 100000
namespace Go.Proofs.Ytklfdkbemkommaa
open Go Go.Pb Go.RowKit
/-- patchbay/patchbayref01.PrefixMask -/
def RF94 (res : (BitVec 32)) (r : PV) : Prop := r = vu32 res
theorem f94_ok {x0 : Int} {x1 : Int} : FnR Try.prog 94 [vi x0, vi x1] (vu32 (ref01_PrefixMask x0 x1)) := by
 obtain ⟨res, hres⟩ : ∃ res, ref01_PrefixMask x0 x1 = res := ⟨_, rfl⟩
 suffices H : RC Try.prog ac94 [] (QR Try.prog [(4, none)] (RF94 res)) (argE 0 [vi x0, vi x1]) ⟨0, []⟩ by
  obtain ⟨r, h1, h2⟩ := fnE text94 (by simp) H
  rw [hres]
  have h2 : r = vu32 res := h2
  rw [← h2]; exact h1
 unfold ref01_PrefixMask at hres
 unfold ac94
 refine rc_seq ?_
 refine rc_region ?_
 refine rd_op (v := vu32 0#32) (ov_move rfl) ?_
 refine rd_nil ?_
 refine pn_seq ?_
 refine rc_seq ?_
 refine rc_seq ?_
 refine rc_region ?_
 refine rd_op (ov_move rfl) ?_
 obtain ⟨y101, hw101, hres⟩ := let_ex hres
 have f101 := f60_ok (x0 := x1)  
 rw [hw101] at f101
 refine rd_call (cv_fn rfl rfl (clL_cons rfl clL_nil) f101) ?_
 refine rd_op (ov_not rfl) ?_
 refine rd_nil ?_
 refine pn_seq ?_
 refine rc_cond rfl (fun hc102 => ?_) (fun hc102 => ?_)
 ·replace hres := (ite_t hc102).symm.trans hres
  have hc102' := hc102
  try simp only [qa1, qa2, qa3, qa4, qa5, qa6, qa7, qa8, qa9, qaA, qaB, qaC, qaD] at hc102'
  refine rc_seq ?_
  refine rc_region ?_
  refine rd_op (v := vu32 0#32) (ov_move rfl) ?_
  refine rd_nil ?_
  refine pn_seq ?_
  subst hres
  exact rc_retV (.tmp rfl .nil) (deep_closed rfl) rfl
 ·replace hres := (ite_f hc102).symm.trans hres
  have hc102' := hc102
  try simp only [qa1, qa2, qa3, qa4, qa5, qa6, qa7, qa8, qa9, qaA, qaB, qaC, qaD] at hc102'
  refine rc_skip ?_
  refine pn_seq ?_
  refine rc_seq ?_
  refine rc_region ?_
  refine rd_op (ov_move rfl) ?_
  refine rd_op (ov_bi rfl (max_int _ _)) ?_
  refine rd_op (ov_move rfl) ?_
  refine rd_op (ov_bi rfl (min_int _ _)) ?_
  refine rd_op (ov_move rfl) ?_
  refine rd_nil ?_
  refine pn_seq ?_
  refine rc_seq ?_
  refine rc_region ?_
  refine rd_op (ov_move rfl) ?_
  obtain ⟨y103, hw103, hres⟩ := let_ex hres
  have f103 := f61_ok (x0 := x1)  (by first | omega | (have hk := rv (by assumption) (by assumption); have e := wr_of (n := x1 - min (max x0 0) x1) (by omega) (by omega); omega))
  rw [hw103] at f103
  refine rd_call (cv_fn rfl rfl (clL_cons rfl clL_nil) f103) ?_
  refine rd_op (ov_move rfl) ?_
  refine rd_op (ov_move rfl) ?_
  refine rd_op (ov_bin rfl rfl i_sub) ?_
  obtain ⟨y104, hw104, hres⟩ := let_ex hres
  have f104 := f61_ok (x0 := (wr (x1 - (min (max x0 0) x1))))  (by first | omega | (have hk := rv (by assumption) (by assumption); have e := wr_of (n := x1 - min (max x0 0) x1) (by omega) (by omega); omega))
  rw [hw104] at f104
  refine rd_call (cv_fn rfl rfl (clL_cons rfl clL_nil) f104) ?_
  refine rd_op (ov_bin (a := vu64 y103) (b := vu64 y104) rfl rfl d_sub) ?_
  refine rd_op (ov_conv (a := vu64 (y103 - y104)) rfl (c_dw Try.underlying106 Try.underlying57)) ?_
  refine rd_op (ov_move rfl) ?_
  refine rd_nil ?_
  refine pn_seq ?_
  subst hres
  exact rc_retV (.tmp rfl .nil) (deep_closed rfl) rfl

/-- patchbay/patchbayref01.PrefixLen -/
def RF85 (res : Int × Bool) (r : PV) : Prop := r = .tup [vi res.1, vb res.2]
theorem ref01_PrefixLen_L1_ok {S : List Fr} {res : Int × Bool} {x0 : BitVec 32} {x1 : Int} {K0 : Unit → (Int × Bool)}
  (hK0 : K0 () = res → PX Try.prog 0 S (QR Try.prog [(4, none), (5, none)] (RF85 res)) [] ⟨0, []⟩) :
  ∀ (m : Nat) (x6_ : Int) (hm1 : m = Int.toNat ((x1 + 1) - x6_)) (hlo1 : 0 ≤ x6_), ref01_PrefixLen_L1 x0 x1 K0 m x6_ = res → RC Try.prog (.loop ac85_L1) S (QR Try.prog [(4, none), (5, none)] (RF85 res)) [(6, vi x6_), (1, vi x1), (0, vu32 x0)] ⟨0, []⟩ := by
 intro m
 induction m with
 | zero =>
  intro x6_ hm1 hlo1 hres
  rw [ref01_PrefixLen_L1] at hres
  refine rc_loop ?_
  unfold ac85_L1
  refine rc_seq ?_
  refine rc_seq ?_
  refine rc_region ?_
  refine rd_op (ov_move rfl) ?_
  refine rd_op (ov_move rfl) ?_
  refine rd_op (ov_bin rfl rfl i_leq) ?_
  refine rd_op (ov_move rfl) ?_
  refine rd_cut (d := 13) (v := vb ((decide (x6_ ≤ x1)) && (ref01_valid x1))) ?_ ?_
  ·intro S Q r
   simp only [ac85_G1, List.cons_append, List.nil_append, List.append_assoc]
   cases hb101 : (decide (x6_ ≤ x1))
   ·intro k
    refine rd_skip rfl rfl ?_
    refine rd_skip rfl rfl ?_
    refine rd_op (v := vb false) (ov_pick rfl rfl rfl rfl) ?_
    exact rd_weak (sub_cons rfl (sub_skip rfl (sub_skip rfl (sub_skip rfl (sub_refl _))))) k
   ·intro k
    have hb101' := hb101
    try simp only [qa1, qa2, qa3, qa4, qa5, qa6, qa7, qa8, qa9, qaA, qaB, qaC, qaD] at hb101'
    refine rd_yes rfl rfl (ov_move rfl) ?_
    have f102 := f60_ok (x0 := x1)  
    refine rd_ycall rfl rfl (cv_fn rfl rfl (clL_cons rfl clL_nil) f102) ?_
    refine rd_op (v := vb (ref01_valid x1)) (ov_pick rfl rfl rfl rfl) ?_
    exact rd_weak (sub_cons rfl (sub_skip rfl (sub_skip rfl (sub_skip rfl (sub_refl _))))) k
  refine rd_nil ?_
  refine pn_seq ?_
  refine rc_cond rfl (fun hc103 => ?_) (fun hc103 => ?_)
  ·exfalso
   try simp only [qa1, qa2, qa3, qa4, qa5, qa6, qa7, qa8, qa9, qaA, qaB, qaC, qaD] at hc103
   omega
  ·have hend := hres
   have hc103' := hc103
   try simp only [qa1, qa2, qa3, qa4, qa5, qa6, qa7, qa8, qa9, qaA, qaB, qaC, qaD] at hc103'
   refine rc_exit ?_
   refine px_seq ?_
   refine px_again ?_
   exact px_weak ((sub_nil _)) (hK0  hres)
 | succ m ih =>
  intro x6_ hm1 hlo1 hres
  rw [ref01_PrefixLen_L1] at hres
  refine rc_loop ?_
  unfold ac85_L1
  refine rc_seq ?_
  refine rc_seq ?_
  refine rc_region ?_
  refine rd_op (ov_move rfl) ?_
  refine rd_op (ov_move rfl) ?_
  refine rd_op (ov_bin rfl rfl i_leq) ?_
  refine rd_op (ov_move rfl) ?_
  refine rd_cut (d := 13) (v := vb ((decide (x6_ ≤ x1)) && (ref01_valid x1))) ?_ ?_
  ·intro S Q r
   simp only [ac85_G1, List.cons_append, List.nil_append, List.append_assoc]
   cases hb104 : (decide (x6_ ≤ x1))
   ·intro k
    refine rd_skip rfl rfl ?_
    refine rd_skip rfl rfl ?_
    refine rd_op (v := vb false) (ov_pick rfl rfl rfl rfl) ?_
    exact rd_weak (sub_cons rfl (sub_skip rfl (sub_skip rfl (sub_skip rfl (sub_refl _))))) k
   ·intro k
    have hb104' := hb104
    try simp only [qa1, qa2, qa3, qa4, qa5, qa6, qa7, qa8, qa9, qaA, qaB, qaC, qaD] at hb104'
    refine rd_yes rfl rfl (ov_move rfl) ?_
    have f105 := f60_ok (x0 := x1)  
    refine rd_ycall rfl rfl (cv_fn rfl rfl (clL_cons rfl clL_nil) f105) ?_
    refine rd_op (v := vb (ref01_valid x1)) (ov_pick rfl rfl rfl rfl) ?_
    exact rd_weak (sub_cons rfl (sub_skip rfl (sub_skip rfl (sub_skip rfl (sub_refl _))))) k
  refine rd_nil ?_
  refine pn_seq ?_
  refine rc_cond rfl (fun hc106 => ?_) (fun hc106 => ?_)
  ·replace hres := (ite_t hc106).symm.trans hres
   have hc106' := hc106
   try simp only [qa1, qa2, qa3, qa4, qa5, qa6, qa7, qa8, qa9, qaA, qaB, qaC, qaD] at hc106'
   refine rc_skip ?_
   refine pn_seq ?_
   refine rc_seq ?_
   refine rc_block ?_
   refine rc_seq ?_
   refine rc_region ?_
   refine rd_op (ov_move rfl) ?_
   refine rd_op (ov_move rfl) ?_
   obtain ⟨y107, hw107, hres⟩ := let_ex hres
   have f107 := f94_ok (x0 := x6_) (x1 := x1)  
   rw [hw107] at f107
   refine rd_call (cv_fn rfl rfl (clL_cons rfl (clL_cons rfl clL_nil)) f107) ?_
   refine rd_op (ov_move rfl) ?_
   refine rd_op (ov_bin (a := vu32 y107) (b := vu32 x0) rfl rfl w_eql) ?_
   refine rd_nil ?_
   refine pn_seq ?_
   refine rc_cond rfl (fun hc108 => ?_) (fun hc108 => ?_)
   ·replace hres := (ite_t hc108).symm.trans hres
    have hc108' := hc108
    try simp only [qa1, qa2, qa3, qa4, qa5, qa6, qa7, qa8, qa9, qaA, qaB, qaC, qaD] at hc108'
    refine rc_seq ?_
    refine rc_region ?_
    refine rd_op (ov_move rfl) ?_
    refine rd_op (ov_move rfl) ?_
    refine rd_op (v := vb true) (ov_move rfl) ?_
    refine rd_nil ?_
    refine pn_seq ?_
    subst hres
    exact rc_retV (.tmp rfl (.tmp rfl .nil)) (deep_closed (show closed (.tup _) = true from (clL_cons rfl (clL_cons rfl clL_nil)))) rfl
   ·replace hres := (ite_f hc108).symm.trans hres
    have hc108' := hc108
    try simp only [qa1, qa2, qa3, qa4, qa5, qa6, qa7, qa8, qa9, qaA, qaB, qaC, qaD] at hc108'
    refine rc_skip ?_
    refine pn_blk ?_
    refine pn_seq ?_
    refine rc_region ?_
    refine rd_op (ov_move rfl) ?_
    refine rd_op (ov_bin rfl rfl i_add) ?_
    refine rd_op (ov_move rfl) ?_
    refine rd_nil ?_
    refine pn_again ?_
    have hinc : wr (x6_ + 1) = x6_ + 1 := wr_of (by omega) (by have hk := rv (w := x1) rfl (And.right (by assumption)); omega)
    rw [hinc]
    refine rc_weak ?_ (ih (x6_ + 1)  (by omega) (by omega) hres)
    exact ((sub_cons rfl (sub_cons rfl (sub_cons rfl (sub_nil _)))))
  ·replace hres := (ite_f hc106).symm.trans hres
   have hc106' := hc106
   try simp only [qa1, qa2, qa3, qa4, qa5, qa6, qa7, qa8, qa9, qaA, qaB, qaC, qaD] at hc106'
   refine rc_exit ?_
   refine px_seq ?_
   refine px_again ?_
   exact px_weak ((sub_nil _)) (hK0  hres)

theorem f85_ok {x0 : BitVec 32} {x1 : Int} : FnR Try.prog 85 [vu32 x0, vi x1] (.tup [vi ((ref01_PrefixLen x0 x1).1), vb ((ref01_PrefixLen x0 x1).2)]) := by
 obtain ⟨res, hres⟩ : ∃ res, ref01_PrefixLen x0 x1 = res := ⟨_, rfl⟩
 suffices H : RC Try.prog ac85 [] (QR Try.prog [(4, none), (5, none)] (RF85 res)) (argE 0 [vu32 x0, vi x1]) ⟨0, []⟩ by
  obtain ⟨r, h1, h2⟩ := fnE text85 (by simp) H
  rw [hres]
  have h2 : r = .tup [vi res.1, vb res.2] := h2
  rw [← h2]; exact h1
 unfold ref01_PrefixLen at hres
 unfold ac85
 refine rc_seq ?_
 refine rc_region ?_
 refine rd_op (v := vi 0) (ov_move rfl) ?_
 refine rd_op (v := vb false) (ov_move rfl) ?_
 refine rd_nil ?_
 refine pn_seq ?_
 refine rc_seq ?_
 refine rc_seq ?_
 refine rc_region ?_
 refine rd_op (v := vi 0) (ov_move rfl) ?_
 refine rd_nil ?_
 refine pn_seq ?_
 refine rc_block ?_
 refine rc_weak ?_ (ref01_PrefixLen_L1_ok (x0 := x0) (x1 := x1)    ?_ (Int.toNat ((x1 + 1) - 0)) 0 rfl (by omega) hres)
 ·exact ((sub_cons rfl (sub_cons rfl (sub_cons rfl (sub_nil _)))))
 ·intro  hres
  refine px_blk ?_
  refine pn_seq ?_
  refine rc_seq ?_
  refine rc_region ?_
  refine rd_op (v := vi 0) (ov_move rfl) ?_
  refine rd_op (v := vb false) (ov_move rfl) ?_
  refine rd_nil ?_
  refine pn_seq ?_
  subst hres
  exact rc_retV (.tmp rfl (.tmp rfl .nil)) (deep_closed (show closed (.tup _) = true from (clL_cons rfl (clL_cons rfl clL_nil)))) rfl

/-- patchbay/patchbayref01.Mask -/
def RF31 (res : (BitVec 32)) (r : PV) : Prop := r = vu32 res
theorem f31_ok {x0 : Int} : FnR Try.prog 31 [vi x0] (vu32 (ref01_Mask x0)) := by
 obtain ⟨res, hres⟩ : ∃ res, ref01_Mask x0 = res := ⟨_, rfl⟩
 suffices H : RC Try.prog ac31 [] (QR Try.prog [(2, none)] (RF31 res)) (argE 0 [vi x0]) ⟨0, []⟩ by
  obtain ⟨r, h1, h2⟩ := fnE text31 (by simp) H
  rw [hres]
  have h2 : r = vu32 res := h2
  rw [← h2]; exact h1
 unfold ref01_Mask at hres
 unfold ac31
 refine rc_seq ?_
 refine rc_region ?_
 refine rd_op (v := vu32 0#32) (ov_move rfl) ?_
 refine rd_nil ?_
 refine pn_seq ?_
 refine rc_seq ?_
 refine rc_seq ?_
 refine rc_region ?_
 refine rd_op (ov_move rfl) ?_
 obtain ⟨y101, hw101, hres⟩ := let_ex hres
 have f101 := f60_ok (x0 := x0)  
 rw [hw101] at f101
 refine rd_call (cv_fn rfl rfl (clL_cons rfl clL_nil) f101) ?_
 refine rd_op (ov_not rfl) ?_
 refine rd_nil ?_
 refine pn_seq ?_
 refine rc_cond rfl (fun hc102 => ?_) (fun hc102 => ?_)
 ·replace hres := (ite_t hc102).symm.trans hres
  have hc102' := hc102
  try simp only [qa1, qa2, qa3, qa4, qa5, qa6, qa7, qa8, qa9, qaA, qaB, qaC, qaD] at hc102'
  refine rc_seq ?_
  refine rc_region ?_
  refine rd_op (v := vu32 0#32) (ov_move rfl) ?_
  refine rd_nil ?_
  refine pn_seq ?_
  subst hres
  exact rc_retV (.tmp rfl .nil) (deep_closed rfl) rfl
 ·replace hres := (ite_f hc102).symm.trans hres
  have hc102' := hc102
  try simp only [qa1, qa2, qa3, qa4, qa5, qa6, qa7, qa8, qa9, qaA, qaB, qaC, qaD] at hc102'
  refine rc_skip ?_
  refine pn_seq ?_
  refine rc_seq ?_
  refine rc_region ?_
  refine rd_op (ov_move rfl) ?_
  obtain ⟨y103, hw103, hres⟩ := let_ex hres
  have f103 := f61_ok (x0 := x0)  (by first | assumption | omega | (have := rv (by assumption) (by assumption); omega))
  rw [hw103] at f103
  refine rd_call (cv_fn rfl rfl (clL_cons rfl clL_nil) f103) ?_
  refine rd_op (ov_bin (a := vu64 y103) (b := vu64 1#64) rfl rfl d_sub) ?_
  refine rd_op (ov_conv (a := vu64 (y103 - 1#64)) rfl (c_dw Try.underlying106 Try.underlying57)) ?_
  refine rd_op (ov_move rfl) ?_
  refine rd_nil ?_
  refine pn_seq ?_
  subst hres
  exact rc_retV (.tmp rfl .nil) (deep_closed rfl) rfl

/-- patchbay/patchbayref23.checkKey -/
def RF65 (res : Int) (r : PV) : Prop := r = vi res
theorem f65_ok {x0 : api_KeyMatch} {x1 : Int} {x2 : Int} {v0 : PV} (r0 : api_KeyMatch.t.R x0 v0) : FnR Try.prog 65 [v0, vi x1, vi x2] (vi (ref23_checkKey x0 x1 x2)) := by
 obtain ⟨res, hres⟩ : ∃ res, ref23_checkKey x0 x1 x2 = res := ⟨_, rfl⟩
 suffices H : RC Try.prog ac65 [] (QR Try.prog [(6, none)] (RF65 res)) (argE 0 [v0, vi x1, vi x2]) ⟨0, []⟩ by
  obtain ⟨r, h1, h2⟩ := fnE text65 (by simp) H
  rw [hres]
  have h2 : r = vi res := h2
  rw [← h2]; exact h1
 unfold ref23_checkKey at hres
 unfold ac65
 refine rc_seq ?_
 refine rc_region ?_
 refine rd_op (ov_box rfl (TR.cnt api_KeyMatch.t r0)) ?_
 refine rd_op (v := vi 0) (ov_move rfl) ?_
 refine rd_nil ?_
 refine pn_seq ?_
 refine rc_seq ?_
 refine rc_region ?_
 refine rd_op (ov_faddr rfl (api_KeyMatch.g_Mask r0)) ?_
 refine rd_op (ov_load rfl rfl rfl) ?_
 refine rd_op (ov_move rfl) ?_
 obtain ⟨y101, hw101, hres⟩ := let_ex hres
 have f101 := f85_ok (x0 := x0.Mask) (x1 := x1)  
 rw [hw101] at f101
 refine rd_call (cv_fn rfl rfl (clL_cons rfl (clL_cons rfl clL_nil)) f101) ?_
 refine rd_op (ov_move rfl) ?_
 refine rd_op (ov_extract rfl rfl) ?_
 refine rd_op (ov_extract rfl rfl) ?_
 refine rd_op (ov_move rfl) ?_
 refine rd_op (ov_move rfl) ?_
 refine rd_nil ?_
 refine pn_seq ?_
 refine rc_seq ?_
 refine rc_block ?_
 refine rc_seq ?_
 refine rc_region ?_
 refine rd_op (ov_faddr rfl (api_KeyMatch.g_Value r0)) ?_
 refine rd_op (ov_load rfl rfl rfl) ?_
 refine rd_op (ov_move rfl) ?_
 obtain ⟨y102, hw102, hres⟩ := let_ex hres
 have f102 := f86_ok (x0 := x0.Value) (x1 := x1)  
 rw [hw102] at f102
 refine rd_call (cv_fn rfl rfl (clL_cons rfl (clL_cons rfl clL_nil)) f102) ?_
 refine rd_op (ov_not rfl) ?_
 refine rd_op (ov_move rfl) ?_
 refine rd_cut (d := 28) (v := vb ((!y102) || (!(ref01_Fits x0.Mask x1)))) ?_ ?_
 ·intro S Q r
  simp only [ac65_G1, List.cons_append, List.nil_append, List.append_assoc]
  cases hb103 : (!y102)
  ·intro k
   have hb103' := hb103
   try simp only [qa1, qa2, qa3, qa4, qa5, qa6, qa7, qa8, qa9, qaA, qaB, qaC, qaD] at hb103'
   refine rd_yes rfl rfl (ov_faddr rfl (api_KeyMatch.g_Mask r0)) ?_
   refine rd_yes rfl rfl (ov_load rfl rfl rfl) ?_
   refine rd_yes rfl rfl (ov_move rfl) ?_
   have f104 := f86_ok (x0 := x0.Mask) (x1 := x1)  
   refine rd_ycall rfl rfl (cv_fn rfl rfl (clL_cons rfl (clL_cons rfl clL_nil)) f104) ?_
   refine rd_yes rfl rfl (ov_not rfl) ?_
   refine rd_op (v := vb (!(ref01_Fits x0.Mask x1))) (ov_pick rfl rfl rfl rfl) ?_
   exact rd_weak (sub_cons rfl (sub_skip rfl (sub_skip rfl (sub_skip rfl (sub_skip rfl (sub_skip rfl (sub_skip rfl (sub_refl _)))))))) k
  ·intro k
   refine rd_skip rfl rfl ?_
   refine rd_skip rfl rfl ?_
   refine rd_skip rfl rfl ?_
   refine rd_skip rfl rfl ?_
   refine rd_skip rfl rfl ?_
   refine rd_op (v := vb true) (ov_pick rfl rfl rfl rfl) ?_
   exact rd_weak (sub_cons rfl (sub_skip rfl (sub_skip rfl (sub_skip rfl (sub_skip rfl (sub_skip rfl (sub_skip rfl (sub_refl _)))))))) k
 refine rd_op (ov_move rfl) ?_
 refine rd_nil ?_
 refine pn_seq ?_
 refine rc_cond rfl (fun hc105 => ?_) (fun hc105 => ?_)
 ·replace hres := (ite_t hc105).symm.trans hres
  have hc105' := hc105
  try simp only [qa1, qa2, qa3, qa4, qa5, qa6, qa7, qa8, qa9, qaA, qaB, qaC, qaD] at hc105'
  refine rc_seq ?_
  refine rc_region ?_
  refine rd_op (v := vi 9) (ov_move rfl) ?_
  refine rd_nil ?_
  refine pn_seq ?_
  subst hres
  exact rc_retV (.tmp rfl .nil) (deep_closed rfl) rfl
 ·replace hres := (ite_f hc105).symm.trans hres
  have hc105' := hc105
  try simp only [qa1, qa2, qa3, qa4, qa5, qa6, qa7, qa8, qa9, qaA, qaB, qaC, qaD] at hc105'
  refine rc_seq ?_
  refine rc_region ?_
  refine rd_op (ov_faddr rfl (api_KeyMatch.g_Value r0)) ?_
  refine rd_op (ov_load rfl rfl rfl) ?_
  refine rd_op (ov_faddr rfl (api_KeyMatch.g_Mask r0)) ?_
  refine rd_op (ov_load rfl rfl rfl) ?_
  refine rd_op (ov_bin (a := vu32 x0.Value) (b := vu32 x0.Mask) rfl rfl w_and) ?_
  refine rd_op (ov_faddr rfl (api_KeyMatch.g_Value r0)) ?_
  refine rd_op (ov_load rfl rfl rfl) ?_
  refine rd_op (ov_bin (a := vu32 (x0.Value &&& x0.Mask)) (b := vu32 x0.Value) rfl rfl w_neq) ?_
  refine rd_op (ov_move rfl) ?_
  refine rd_nil ?_
  refine pn_seq ?_
  refine rc_cond rfl (fun hc106 => ?_) (fun hc106 => ?_)
  ·replace hres := (ite_t hc106).symm.trans hres
   have hc106' := hc106
   try simp only [qa1, qa2, qa3, qa4, qa5, qa6, qa7, qa8, qa9, qaA, qaB, qaC, qaD] at hc106'
   refine rc_seq ?_
   refine rc_region ?_
   refine rd_op (v := vi 5) (ov_move rfl) ?_
   refine rd_nil ?_
   refine pn_seq ?_
   subst hres
   exact rc_retV (.tmp rfl .nil) (deep_closed rfl) rfl
  ·replace hres := (ite_f hc106).symm.trans hres
   have hc106' := hc106
   try simp only [qa1, qa2, qa3, qa4, qa5, qa6, qa7, qa8, qa9, qaA, qaB, qaC, qaD] at hc106'
   refine rc_seq ?_
   refine rc_region ?_
   refine rd_op (ov_move rfl) ?_
   refine rd_op (ov_bin rfl rfl i_eql) ?_
   refine rd_op (ov_move rfl) ?_
   refine rd_cut (d := 47) (v := vb ((decide (x2 = 1)) && (!decide (x0.Mask = (ref01_Mask x1))))) ?_ ?_
   ·intro S Q r
    simp only [ac65_G2, List.cons_append, List.nil_append, List.append_assoc]
    cases hb107 : (decide (x2 = 1))
    ·intro k
     refine rd_skip rfl rfl ?_
     refine rd_skip rfl rfl ?_
     refine rd_skip rfl rfl ?_
     refine rd_skip rfl rfl ?_
     refine rd_skip rfl rfl ?_
     refine rd_op (v := vb false) (ov_pick rfl rfl rfl rfl) ?_
     exact rd_weak (sub_cons rfl (sub_skip rfl (sub_skip rfl (sub_skip rfl (sub_skip rfl (sub_skip rfl (sub_skip rfl (sub_refl _)))))))) k
    ·intro k
     have hb107' := hb107
     try simp only [qa1, qa2, qa3, qa4, qa5, qa6, qa7, qa8, qa9, qaA, qaB, qaC, qaD] at hb107'
     refine rd_yes rfl rfl (ov_faddr rfl (api_KeyMatch.g_Mask r0)) ?_
     refine rd_yes rfl rfl (ov_load rfl rfl rfl) ?_
     refine rd_yes rfl rfl (ov_move rfl) ?_
     have f108 := f31_ok (x0 := x1)  
     refine rd_ycall rfl rfl (cv_fn rfl rfl (clL_cons rfl clL_nil) f108) ?_
     refine rd_yes rfl rfl (ov_bin (a := vu32 x0.Mask) (b := vu32 (ref01_Mask x1)) rfl rfl w_neq) ?_
     refine rd_op (v := vb (!decide (x0.Mask = (ref01_Mask x1)))) (ov_pick rfl rfl rfl rfl) ?_
     exact rd_weak (sub_cons rfl (sub_skip rfl (sub_skip rfl (sub_skip rfl (sub_skip rfl (sub_skip rfl (sub_skip rfl (sub_refl _)))))))) k
   refine rd_op (ov_move rfl) ?_
   refine rd_cut (d := 55) (v := vb (((decide (x2 = 1)) && (!decide (x0.Mask = (ref01_Mask x1)))) || ((decide (x2 = 2)) && (!y101.2)))) ?_ ?_
   ·intro S Q r
    simp only [ac65_G3, List.cons_append, List.nil_append, List.append_assoc]
    cases hb109 : ((decide (x2 = 1)) && (!decide (x0.Mask = (ref01_Mask x1))))
    ·intro k
     have hb109' := hb109
     try simp only [qa1, qa2, qa3, qa4, qa5, qa6, qa7, qa8, qa9, qaA, qaB, qaC, qaD] at hb109'
     refine rd_yes rfl rfl (ov_move rfl) ?_
     refine rd_yes rfl rfl (ov_bin rfl rfl i_eql) ?_
     refine rd_yes rfl rfl (ov_move rfl) ?_
     refine rd_cut (d := 54) (v := vb ((decide (x2 = 2)) && (!y101.2))) ?_ ?_
     ·intro S Q r
      simp only [ac65_G4, List.cons_append, List.nil_append, List.append_assoc]
      cases hb110 : (decide (x2 = 2))
      ·intro k
       refine rd_skip rfl rfl ?_
       refine rd_skip rfl rfl ?_
       refine rd_yes (v := vb false) rfl rfl (ov_pick rfl rfl rfl rfl) ?_
       exact rd_weak (sub_cons rfl (sub_skip rfl (sub_skip rfl (sub_skip rfl (sub_refl _))))) k
      ·intro k
       have hb110' := hb110
       try simp only [qa1, qa2, qa3, qa4, qa5, qa6, qa7, qa8, qa9, qaA, qaB, qaC, qaD] at hb110'
       refine rd_yes rfl rfl (ov_move rfl) ?_
       refine rd_yes rfl rfl (ov_not rfl) ?_
       refine rd_yes (v := vb (!y101.2)) rfl rfl (ov_pick rfl rfl rfl rfl) ?_
       exact rd_weak (sub_cons rfl (sub_skip rfl (sub_skip rfl (sub_skip rfl (sub_refl _))))) k
     refine rd_op (v := vb ((decide (x2 = 2)) && (!y101.2))) (ov_pick rfl rfl rfl rfl) ?_
     exact rd_weak (sub_cons rfl (sub_skip rfl (sub_skip rfl (sub_skip rfl (sub_skip rfl (sub_skip rfl (sub_refl _))))))) k
    ·intro k
     simp only [ac65_G4, List.cons_append, List.nil_append, List.append_assoc]
     refine rd_skip rfl rfl ?_
     refine rd_skip rfl rfl ?_
     refine rd_skip rfl rfl ?_
     refine rd_skipU rfl ?_
     refine rd_skipU rfl ?_
     refine rd_skip rfl rfl ?_
     refine rd_op (v := vb true) (ov_pick rfl rfl rfl rfl) ?_
     exact rd_weak (sub_cons rfl (sub_skip rfl (sub_skip rfl (sub_skip rfl (sub_skip rfl (sub_skip rfl (sub_skip rfl (sub_skip rfl (sub_refl _))))))))) k
   refine rd_op (ov_move rfl) ?_
   refine rd_nil ?_
   refine pn_seq ?_
   refine rc_cond rfl (fun hc111 => ?_) (fun hc111 => ?_)
   ·replace hres := (ite_t hc111).symm.trans hres
    have hc111' := hc111
    try simp only [qa1, qa2, qa3, qa4, qa5, qa6, qa7, qa8, qa9, qaA, qaB, qaC, qaD] at hc111'
    refine rc_seq ?_
    refine rc_region ?_
    refine rd_op (v := vi 11) (ov_move rfl) ?_
    refine rd_nil ?_
    refine pn_seq ?_
    subst hres
    exact rc_retV (.tmp rfl .nil) (deep_closed rfl) rfl
   ·replace hres := (ite_f hc111).symm.trans hres
    have hc111' := hc111
    try simp only [qa1, qa2, qa3, qa4, qa5, qa6, qa7, qa8, qa9, qaA, qaB, qaC, qaD] at hc111'
    refine rc_skip ?_
    refine pn_blk ?_
    refine pn_seq ?_
    refine rc_seq ?_
    refine rc_region ?_
    refine rd_op (v := vi 0) (ov_move rfl) ?_
    refine rd_nil ?_
    refine pn_seq ?_
    subst hres
    exact rc_retV (.tmp rfl .nil) (deep_closed rfl) rfl

/-- patchbay/patchbayref17.Kind -/
def RF19 (res : Int) (r : PV) : Prop := r = vi res
theorem ref17_Kind_L1_ok {S : List Fr} {res : Int} {x0 : api_Program} {x1 : Int} {y101 : Bool} {v0 : PV} (r0 : api_Program.t.R x0 v0) (hw101 : ref17_valid x0 x1 = y101) (hc102 : (!y101) = false) {K0 : Int → Int}
  (hK0 : ∀ (x5_ : Int), K0 x5_ = res → PX Try.prog 0 S (QR Try.prog [(4, none)] (RF19 res)) [(5, vi x5_)] ⟨0, []⟩) :
  ∀ (m : Nat) (x5_ : Int) (x6_ : Int) (hm1 : m = Int.toNat ((((ix x0.Tables x1).Keys).length : Int) - x6_)) (hlo1 : 0 ≤ x6_), ref17_Kind_L1 x0 x1 K0 m x5_ x6_ = res → RC Try.prog (.loop ac19_L1) S (QR Try.prog [(4, none)] (RF19 res)) [(6, vi x6_), (5, vi x5_), (2, .fp v0), (1, vi x1)] ⟨0, []⟩ := by
 have hc102' := hc102
 try simp only [qa1, qa2, qa3, qa4, qa5, qa6, qa7, qa8, qa9, qaA, qaB, qaC, qaD] at hc102'
 intro m
 induction m with
 | zero =>
  intro x5_ x6_ hm1 hlo1 hres
  rw [ref17_Kind_L1] at hres
  refine rc_loop ?_
  unfold ac19_L1
  refine rc_seq ?_
  refine rc_seq ?_
  refine rc_region ?_
  refine rd_op (ov_move rfl) ?_
  obtain ⟨v103, e103, r103⟩ := api_Program.g_Tables r0
  refine rd_op (ov_faddr rfl e103) ?_
  refine rd_op (ov_load rfl (TR.cnt (tSl api_Table.t) r103) (TR.agg (tSl api_Table.t) r103)) ?_
  refine rd_op (ov_move rfl) ?_
  obtain ⟨v104, e104, r104⟩ := sl_idx (i := x1) r103 (by first | omega | (have hk := tck (by assumption) (by assumption); omega) | (have hk := rtck (by assumption) (by assumption); omega) | (have hk := eck (by assumption) (by assumption) (by assumption); omega) | (have hk := tv (by assumption) (by assumption); omega) | (have hk := rtv (by assumption) (by assumption); omega)) (by first | omega | (have hk := tck (by assumption) (by assumption); omega) | (have hk := rtck (by assumption) (by assumption); omega) | (have hk := eck (by assumption) (by assumption) (by assumption); omega) | (have hk := tv (by assumption) (by assumption); omega) | (have hk := rtv (by assumption) (by assumption); omega))
  refine rd_op (ov_iaddr rfl rfl e104) ?_
  obtain ⟨v105, e105, r105⟩ := api_Table.g_Keys r104
  refine rd_op (ov_faddr rfl e105) ?_
  refine rd_op (ov_load rfl (TR.cnt (tSl api_TableKey.t) r105) (TR.agg (tSl api_TableKey.t) r105)) ?_
  refine rd_op (ov_bi rfl (sl_len r105 Try.underlying52 _)) ?_
  refine rd_op (ov_bin rfl rfl i_lss) ?_
  refine rd_nil ?_
  refine pn_seq ?_
  refine rc_cond rfl (fun hc106 => ?_) (fun hc106 => ?_)
  ·exfalso
   try simp only [qa1, qa2, qa3, qa4, qa5, qa6, qa7, qa8, qa9, qaA, qaB, qaC, qaD] at hc106
   omega
  ·have hend := hres
   have hc106' := hc106
   try simp only [qa1, qa2, qa3, qa4, qa5, qa6, qa7, qa8, qa9, qaA, qaB, qaC, qaD] at hc106'
   refine rc_exit ?_
   refine px_seq ?_
   refine px_again ?_
   exact px_weak ((sub_cons rfl (sub_nil _))) (hK0 x5_ hres)
 | succ m ih =>
  intro x5_ x6_ hm1 hlo1 hres
  rw [ref17_Kind_L1] at hres
  refine rc_loop ?_
  unfold ac19_L1
  refine rc_seq ?_
  refine rc_seq ?_
  refine rc_region ?_
  refine rd_op (ov_move rfl) ?_
  obtain ⟨v107, e107, r107⟩ := api_Program.g_Tables r0
  refine rd_op (ov_faddr rfl e107) ?_
  refine rd_op (ov_load rfl (TR.cnt (tSl api_Table.t) r107) (TR.agg (tSl api_Table.t) r107)) ?_
  refine rd_op (ov_move rfl) ?_
  obtain ⟨v108, e108, r108⟩ := sl_idx (i := x1) r107 (by first | omega | (have hk := tck (by assumption) (by assumption); omega) | (have hk := rtck (by assumption) (by assumption); omega) | (have hk := eck (by assumption) (by assumption) (by assumption); omega) | (have hk := tv (by assumption) (by assumption); omega) | (have hk := rtv (by assumption) (by assumption); omega)) (by first | omega | (have hk := tck (by assumption) (by assumption); omega) | (have hk := rtck (by assumption) (by assumption); omega) | (have hk := eck (by assumption) (by assumption) (by assumption); omega) | (have hk := tv (by assumption) (by assumption); omega) | (have hk := rtv (by assumption) (by assumption); omega))
  refine rd_op (ov_iaddr rfl rfl e108) ?_
  obtain ⟨v109, e109, r109⟩ := api_Table.g_Keys r108
  refine rd_op (ov_faddr rfl e109) ?_
  refine rd_op (ov_load rfl (TR.cnt (tSl api_TableKey.t) r109) (TR.agg (tSl api_TableKey.t) r109)) ?_
  refine rd_op (ov_bi rfl (sl_len r109 Try.underlying52 _)) ?_
  refine rd_op (ov_bin rfl rfl i_lss) ?_
  refine rd_nil ?_
  refine pn_seq ?_
  refine rc_cond rfl (fun hc110 => ?_) (fun hc110 => ?_)
  ·have hgo := hres
   have hc110' := hc110
   try simp only [qa1, qa2, qa3, qa4, qa5, qa6, qa7, qa8, qa9, qaA, qaB, qaC, qaD] at hc110'
   refine rc_skip ?_
   refine pn_seq ?_
   refine rc_seq ?_
   refine rc_block ?_
   refine rc_region ?_
   refine rd_op (ov_move rfl) ?_
   obtain ⟨v111, e111, r111⟩ := api_Program.g_Tables r0
   refine rd_op (ov_faddr rfl e111) ?_
   refine rd_op (ov_load rfl (TR.cnt (tSl api_Table.t) r111) (TR.agg (tSl api_Table.t) r111)) ?_
   refine rd_op (ov_move rfl) ?_
   obtain ⟨v112, e112, r112⟩ := sl_idx (i := x1) r111 (by first | omega | (have hk := tck (by assumption) (by assumption); omega) | (have hk := rtck (by assumption) (by assumption); omega) | (have hk := eck (by assumption) (by assumption) (by assumption); omega) | (have hk := tv (by assumption) (by assumption); omega) | (have hk := rtv (by assumption) (by assumption); omega)) (by first | omega | (have hk := tck (by assumption) (by assumption); omega) | (have hk := rtck (by assumption) (by assumption); omega) | (have hk := eck (by assumption) (by assumption) (by assumption); omega) | (have hk := tv (by assumption) (by assumption); omega) | (have hk := rtv (by assumption) (by assumption); omega))
   refine rd_op (ov_iaddr rfl rfl e112) ?_
   obtain ⟨v113, e113, r113⟩ := api_Table.g_Keys r112
   refine rd_op (ov_faddr rfl e113) ?_
   refine rd_op (ov_load rfl (TR.cnt (tSl api_TableKey.t) r113) (TR.agg (tSl api_TableKey.t) r113)) ?_
   refine rd_op (ov_move rfl) ?_
   obtain ⟨v114, e114, r114⟩ := sl_idx (i := x6_) r113 (by first | omega | (have hk := tck (by assumption) (by assumption); omega) | (have hk := rtck (by assumption) (by assumption); omega) | (have hk := eck (by assumption) (by assumption) (by assumption); omega) | (have hk := tv (by assumption) (by assumption); omega) | (have hk := rtv (by assumption) (by assumption); omega)) (by first | omega | (have hk := tck (by assumption) (by assumption); omega) | (have hk := rtck (by assumption) (by assumption); omega) | (have hk := eck (by assumption) (by assumption) (by assumption); omega) | (have hk := tv (by assumption) (by assumption); omega) | (have hk := rtv (by assumption) (by assumption); omega))
   refine rd_op (ov_iaddr rfl rfl e114) ?_
   refine rd_op (ov_faddr rfl (api_TableKey.g_Kind r114)) ?_
   refine rd_op (ov_load rfl rfl rfl) ?_
   refine rd_op (ov_bi rfl (max_int _ _)) ?_
   refine rd_op (ov_move rfl) ?_
   refine rd_nil ?_
   refine pn_blk ?_
   refine pn_seq ?_
   refine rc_region ?_
   refine rd_op (ov_move rfl) ?_
   refine rd_op (ov_bin rfl rfl i_add) ?_
   refine rd_op (ov_move rfl) ?_
   refine rd_nil ?_
   refine pn_again ?_
   have hbd := sl_bound r109
   have hinc : wr (x6_ + 1) = x6_ + 1 := wr_of (by omega) (by omega)
   rw [hinc]
   refine rc_weak ?_ (ih (max x5_ ((ix ((ix x0.Tables x1).Keys) x6_).Kind)) (x6_ + 1)  (by omega) (by omega) hres)
   exact ((sub_cons rfl (sub_cons rfl (sub_cons rfl (sub_cons rfl (sub_nil _))))))
  ·exfalso
   try simp only [qa1, qa2, qa3, qa4, qa5, qa6, qa7, qa8, qa9, qaA, qaB, qaC, qaD] at hc110
   omega

theorem f19_ok {x0 : api_Program} {x1 : Int} {v0 : PV} (r0 : api_Program.t.R x0 v0) : FnR Try.prog 19 [v0, vi x1] (vi (ref17_Kind x0 x1)) := by
 obtain ⟨res, hres⟩ : ∃ res, ref17_Kind x0 x1 = res := ⟨_, rfl⟩
 suffices H : RC Try.prog ac19 [] (QR Try.prog [(4, none)] (RF19 res)) (argE 0 [v0, vi x1]) ⟨0, []⟩ by
  obtain ⟨r, h1, h2⟩ := fnE text19 (by simp) H
  rw [hres]
  have h2 : r = vi res := h2
  rw [← h2]; exact h1
 unfold ref17_Kind at hres
 unfold ac19
 refine rc_seq ?_
 refine rc_region ?_
 refine rd_op (ov_box rfl (TR.cnt api_Program.t r0)) ?_
 refine rd_op (v := vi 0) (ov_move rfl) ?_
 refine rd_nil ?_
 refine pn_seq ?_
 refine rc_seq ?_
 refine rc_seq ?_
 refine rc_region ?_
 refine rd_op (ov_load rfl (TR.cnt api_Program.t r0) (TR.agg api_Program.t r0)) ?_
 refine rd_op (ov_move rfl) ?_
 obtain ⟨y101, hw101, hres⟩ := let_ex hres
 have f101 := f53_ok (x1 := x1) r0 
 rw [hw101] at f101
 refine rd_call (cv_fn rfl rfl (clL_cons (TR.clo api_Program.t r0) (clL_cons rfl clL_nil)) f101) ?_
 refine rd_op (ov_not rfl) ?_
 refine rd_nil ?_
 refine pn_seq ?_
 refine rc_cond rfl (fun hc102 => ?_) (fun hc102 => ?_)
 ·replace hres := (ite_t hc102).symm.trans hres
  have hc102' := hc102
  try simp only [qa1, qa2, qa3, qa4, qa5, qa6, qa7, qa8, qa9, qaA, qaB, qaC, qaD] at hc102'
  refine rc_seq ?_
  refine rc_region ?_
  refine rd_op (v := vi 0) (ov_move rfl) ?_
  refine rd_nil ?_
  refine pn_seq ?_
  subst hres
  exact rc_retV (.tmp rfl .nil) (deep_closed rfl) rfl
 ·replace hres := (ite_f hc102).symm.trans hres
  have hc102' := hc102
  try simp only [qa1, qa2, qa3, qa4, qa5, qa6, qa7, qa8, qa9, qaA, qaB, qaC, qaD] at hc102'
  refine rc_skip ?_
  refine pn_seq ?_
  refine rc_seq ?_
  refine rc_region ?_
  refine rd_op (v := vi 1) (ov_move rfl) ?_
  refine rd_nil ?_
  refine pn_seq ?_
  refine rc_seq ?_
  refine rc_seq ?_
  refine rc_region ?_
  refine rd_op (v := vi 0) (ov_move rfl) ?_
  refine rd_nil ?_
  refine pn_seq ?_
  refine rc_block ?_
  refine rc_weak ?_ (ref17_Kind_L1_ok (x0 := x0) (x1 := x1) (y101 := y101) (v0 := v0)  (r0 := r0) (hw101 := hw101) (hc102 := hc102) ?_ (Int.toNat ((((ix x0.Tables x1).Keys).length : Int) - 0)) 1 0 rfl (by omega) hres)
  ·exact ((sub_cons rfl (sub_cons rfl (sub_cons rfl (sub_cons rfl (sub_nil _))))))
  ·intro x5_115 hres
   refine px_blk ?_
   refine pn_seq ?_
   refine rc_seq ?_
   refine rc_region ?_
   refine rd_op (ov_move rfl) ?_
   refine rd_op (ov_move rfl) ?_
   refine rd_nil ?_
   refine pn_seq ?_
   subst hres
   exact rc_retV (.tmp rfl .nil) (deep_closed rfl) rfl

/-- patchbay/patchbayref17.Allows -/
def RF26 (res : Bool) (r : PV) : Prop := r = vb res
theorem f26_ok {x0 : api_Program} {x1 : Int} {x2 : Int} {v0 : PV} (r0 : api_Program.t.R x0 v0) : FnR Try.prog 26 [v0, vi x1, vi x2] (vb (ref17_Allows x0 x1 x2)) := by
 obtain ⟨res, hres⟩ : ∃ res, ref17_Allows x0 x1 x2 = res := ⟨_, rfl⟩
 suffices H : RC Try.prog ac26 [] (QR Try.prog [(6, none)] (RF26 res)) (argE 0 [v0, vi x1, vi x2]) ⟨0, []⟩ by
  obtain ⟨r, h1, h2⟩ := fnE text26 (by simp) H
  rw [hres]
  have h2 : r = vb res := h2
  rw [← h2]; exact h1
 unfold ref17_Allows at hres
 unfold ac26
 refine rc_seq ?_
 refine rc_region ?_
 refine rd_op (ov_box rfl (TR.cnt api_Program.t r0)) ?_
 refine rd_op (v := vb false) (ov_move rfl) ?_
 refine rd_nil ?_
 refine pn_seq ?_
 refine rc_seq ?_
 refine rc_region ?_
 refine rd_op (ov_load rfl (TR.cnt api_Program.t r0) (TR.agg api_Program.t r0)) ?_
 refine rd_op (ov_move rfl) ?_
 obtain ⟨y101, hw101, hres⟩ := let_ex hres
 have f101 := f53_ok (x1 := x1) r0 
 rw [hw101] at f101
 refine rd_call (cv_fn rfl rfl (clL_cons (TR.clo api_Program.t r0) (clL_cons rfl clL_nil)) f101) ?_
 refine rd_op (ov_move rfl) ?_
 refine rd_cut (d := 20) (v := vb (y101 && (decide (0 ≤ (ref17_index ((ix x0.Tables x1).Actions) x2))))) ?_ ?_
 ·intro S Q r
  simp only [ac26_G1, List.cons_append, List.nil_append, List.append_assoc]
  cases hb102 : y101
  ·intro k
   refine rd_skip rfl rfl ?_
   refine rd_skip rfl rfl ?_
   refine rd_skip rfl rfl ?_
   refine rd_skip rfl rfl ?_
   refine rd_skip rfl rfl ?_
   refine rd_skip rfl rfl ?_
   refine rd_skip rfl rfl ?_
   refine rd_skip rfl rfl ?_
   refine rd_skip rfl rfl ?_
   refine rd_op (v := vb false) (ov_pick rfl rfl rfl rfl) ?_
   exact rd_weak (sub_cons rfl (sub_skip rfl (sub_skip rfl (sub_skip rfl (sub_skip rfl (sub_skip rfl (sub_skip rfl (sub_skip rfl (sub_skip rfl (sub_skip rfl (sub_skip rfl (sub_refl _)))))))))))) k
  ·intro k
   have hb102' := hb102
   try simp only [qa1, qa2, qa3, qa4, qa5, qa6, qa7, qa8, qa9, qaA, qaB, qaC, qaD] at hb102'
   obtain ⟨v103, e103, r103⟩ := api_Program.g_Tables r0
   refine rd_yes rfl rfl (ov_faddr rfl e103) ?_
   refine rd_yes rfl rfl (ov_load rfl (TR.cnt (tSl api_Table.t) r103) (TR.agg (tSl api_Table.t) r103)) ?_
   refine rd_yes rfl rfl (ov_move rfl) ?_
   obtain ⟨v104, e104, r104⟩ := sl_idx (i := x1) r103 (by first | omega | (have hk := tck (by assumption) (by assumption); omega) | (have hk := rtck (by assumption) (by assumption); omega) | (have hk := eck (by assumption) (by assumption) (by assumption); omega) | (have hk := tv (by assumption) (by assumption); omega) | (have hk := rtv (by assumption) (by assumption); omega)) (by first | omega | (have hk := tck (by assumption) (by assumption); omega) | (have hk := rtck (by assumption) (by assumption); omega) | (have hk := eck (by assumption) (by assumption) (by assumption); omega) | (have hk := tv (by assumption) (by assumption); omega) | (have hk := rtv (by assumption) (by assumption); omega))
   refine rd_yes rfl rfl (ov_iaddr rfl rfl e104) ?_
   obtain ⟨v105, e105, r105⟩ := api_Table.g_Actions r104
   refine rd_yes rfl rfl (ov_faddr rfl e105) ?_
   refine rd_yes rfl rfl (ov_load rfl (TR.cnt (tSl tI) r105) (TR.agg (tSl tI) r105)) ?_
   refine rd_yes rfl rfl (ov_move rfl) ?_
   have f106 := f56_ok (x1 := x2) r105 
   refine rd_ycall rfl rfl (cv_fn rfl rfl (clL_cons (TR.clo (tSl tI) r105) (clL_cons rfl clL_nil)) f106) ?_
   refine rd_yes rfl rfl (ov_bin rfl rfl i_geq) ?_
   refine rd_op (v := vb (decide (0 ≤ (ref17_index ((ix x0.Tables x1).Actions) x2)))) (ov_pick rfl rfl rfl rfl) ?_
   exact rd_weak (sub_cons rfl (sub_skip rfl (sub_skip rfl (sub_skip rfl (sub_skip rfl (sub_skip rfl (sub_skip rfl (sub_skip rfl (sub_skip rfl (sub_skip rfl (sub_skip rfl (sub_refl _)))))))))))) k
 refine rd_op (ov_move rfl) ?_
 refine rd_nil ?_
 refine pn_seq ?_
 subst hres
 exact rc_retV (.tmp rfl .nil) (deep_closed rfl) rfl

/-- patchbay/patchbayref23.Check -/
def RF35 (res : Int) (r : PV) : Prop := r = vi res
theorem ref23_Check_L1_ok {S : List Fr} {res : Int} {x0 : api_Program} {x1 : Int} {x2 : api_Entry} {y101 : Int × Int} {y103 : (List Int)} {v0 : PV} {v2 : PV} {v104 : PV} (r0 : api_Program.t.R x0 v0) (r2 : api_Entry.t.R x2 v2) (hw101 : ref17_Check x0 x1 = y101) (hc102 : (!decide (y101.2 = 0)) = false) (hw103 : ref17_Widths x0 x1 = y103) (r104 : (tSl tI).R y103 v104) (ek103 : (0 ≤ x1 ∧ x1 < x0.Tables.length) ∧ y103.length = (ix x0.Tables x1).Keys.length ∧ y103.length ≤ 6) (hc106 : (!decide ((x2.Keys.length : Int) = (y103.length : Int))) = false) {K0 : Unit → Int}
  (hK0 : K0 () = res → PX Try.prog 0 S (QR Try.prog [(6, none)] (RF35 res)) [(1, vi x1), (3, .fp v0), (5, .fp v2)] ⟨0, []⟩) :
  ∀ (m : Nat) (x10_ : Int) (hm1 : m = Int.toNat ((y103.length : Int) - x10_)) (hlo1 : 0 ≤ x10_), ref23_Check_L1 x0 x1 x2 y103 K0 m x10_ = res → RC Try.prog (.loop ac35_L1) S (QR Try.prog [(6, none)] (RF35 res)) [(10, vi x10_), (9, v104), (5, .fp v2), (3, .fp v0), (1, vi x1)] ⟨0, []⟩ := by
 have hc102' := hc102
 try simp only [qa1, qa2, qa3, qa4, qa5, qa6, qa7, qa8, qa9, qaA, qaB, qaC, qaD] at hc102'
 have hc106' := hc106
 try simp only [qa1, qa2, qa3, qa4, qa5, qa6, qa7, qa8, qa9, qaA, qaB, qaC, qaD] at hc106'
 intro m
 induction m with
 | zero =>
  intro x10_ hm1 hlo1 hres
  rw [ref23_Check_L1] at hres
  refine rc_loop ?_
  unfold ac35_L1
  refine rc_seq ?_
  refine rc_seq ?_
  refine rc_region ?_
  refine rd_op (ov_move rfl) ?_
  refine rd_op (ov_move rfl) ?_
  refine rd_op (ov_bi rfl (sl_len r104 Try.underlying29 _)) ?_
  refine rd_op (ov_bin rfl rfl i_lss) ?_
  refine rd_nil ?_
  refine pn_seq ?_
  refine rc_cond rfl (fun hc107 => ?_) (fun hc107 => ?_)
  ·exfalso
   try simp only [qa1, qa2, qa3, qa4, qa5, qa6, qa7, qa8, qa9, qaA, qaB, qaC, qaD] at hc107
   omega
  ·have hend := hres
   have hc107' := hc107
   try simp only [qa1, qa2, qa3, qa4, qa5, qa6, qa7, qa8, qa9, qaA, qaB, qaC, qaD] at hc107'
   refine rc_exit ?_
   refine px_seq ?_
   refine px_again ?_
   exact px_weak ((sub_cons rfl (sub_cons rfl (sub_cons rfl (sub_nil _))))) (hK0  hres)
 | succ m ih =>
  intro x10_ hm1 hlo1 hres
  rw [ref23_Check_L1] at hres
  refine rc_loop ?_
  unfold ac35_L1
  refine rc_seq ?_
  refine rc_seq ?_
  refine rc_region ?_
  refine rd_op (ov_move rfl) ?_
  refine rd_op (ov_move rfl) ?_
  refine rd_op (ov_bi rfl (sl_len r104 Try.underlying29 _)) ?_
  refine rd_op (ov_bin rfl rfl i_lss) ?_
  refine rd_nil ?_
  refine pn_seq ?_
  refine rc_cond rfl (fun hc108 => ?_) (fun hc108 => ?_)
  ·have hgo := hres
   have hc108' := hc108
   try simp only [qa1, qa2, qa3, qa4, qa5, qa6, qa7, qa8, qa9, qaA, qaB, qaC, qaD] at hc108'
   refine rc_skip ?_
   refine pn_seq ?_
   refine rc_seq ?_
   refine rc_block ?_
   refine rc_seq ?_
   refine rc_region ?_
   obtain ⟨v109, e109, r109⟩ := api_Entry.g_Keys r2
   refine rd_op (ov_faddr rfl e109) ?_
   refine rd_op (ov_load rfl (TR.cnt (tSl api_KeyMatch.t) r109) (TR.agg (tSl api_KeyMatch.t) r109)) ?_
   refine rd_op (ov_move rfl) ?_
   obtain ⟨v110, e110, r110⟩ := sl_idx (i := x10_) r109 (by first | omega | (have hk := tck (by assumption) (by assumption); omega) | (have hk := rtck (by assumption) (by assumption); omega) | (have hk := eck (by assumption) (by assumption) (by assumption); omega) | (have hk := tv (by assumption) (by assumption); omega) | (have hk := rtv (by assumption) (by assumption); omega)) (by first | omega | (have hk := tck (by assumption) (by assumption); omega) | (have hk := rtck (by assumption) (by assumption); omega) | (have hk := eck (by assumption) (by assumption) (by assumption); omega) | (have hk := tv (by assumption) (by assumption); omega) | (have hk := rtv (by assumption) (by assumption); omega))
   refine rd_op (ov_iaddr rfl rfl e110) ?_
   refine rd_op (ov_load rfl (TR.cnt api_KeyMatch.t r110) (TR.agg api_KeyMatch.t r110)) ?_
   refine rd_op (ov_move rfl) ?_
   refine rd_op (ov_move rfl) ?_
   refine rd_op (ov_iaddr rfl rfl (slI r104 (by first | omega | (have hk := tck (by assumption) (by assumption); omega) | (have hk := rtck (by assumption) (by assumption); omega) | (have hk := eck (by assumption) (by assumption) (by assumption); omega) | (have hk := tv (by assumption) (by assumption); omega) | (have hk := rtv (by assumption) (by assumption); omega)) (by first | omega | (have hk := tck (by assumption) (by assumption); omega) | (have hk := rtck (by assumption) (by assumption); omega) | (have hk := eck (by assumption) (by assumption) (by assumption); omega) | (have hk := tv (by assumption) (by assumption); omega) | (have hk := rtv (by assumption) (by assumption); omega)))) ?_
   refine rd_op (ov_load rfl rfl rfl) ?_
   obtain ⟨v111, e111, r111⟩ := api_Program.g_Tables r0
   refine rd_op (ov_faddr rfl e111) ?_
   refine rd_op (ov_load rfl (TR.cnt (tSl api_Table.t) r111) (TR.agg (tSl api_Table.t) r111)) ?_
   refine rd_op (ov_move rfl) ?_
   obtain ⟨v112, e112, r112⟩ := sl_idx (i := x1) r111 (by first | omega | (have hk := tck (by assumption) (by assumption); omega) | (have hk := rtck (by assumption) (by assumption); omega) | (have hk := eck (by assumption) (by assumption) (by assumption); omega) | (have hk := tv (by assumption) (by assumption); omega) | (have hk := rtv (by assumption) (by assumption); omega)) (by first | omega | (have hk := tck (by assumption) (by assumption); omega) | (have hk := rtck (by assumption) (by assumption); omega) | (have hk := eck (by assumption) (by assumption) (by assumption); omega) | (have hk := tv (by assumption) (by assumption); omega) | (have hk := rtv (by assumption) (by assumption); omega))
   refine rd_op (ov_iaddr rfl rfl e112) ?_
   obtain ⟨v113, e113, r113⟩ := api_Table.g_Keys r112
   refine rd_op (ov_faddr rfl e113) ?_
   refine rd_op (ov_load rfl (TR.cnt (tSl api_TableKey.t) r113) (TR.agg (tSl api_TableKey.t) r113)) ?_
   refine rd_op (ov_move rfl) ?_
   obtain ⟨v114, e114, r114⟩ := sl_idx (i := x10_) r113 (by first | omega | (have hk := tck (by assumption) (by assumption); omega) | (have hk := rtck (by assumption) (by assumption); omega) | (have hk := eck (by assumption) (by assumption) (by assumption); omega) | (have hk := tv (by assumption) (by assumption); omega) | (have hk := rtv (by assumption) (by assumption); omega)) (by first | omega | (have hk := tck (by assumption) (by assumption); omega) | (have hk := rtck (by assumption) (by assumption); omega) | (have hk := eck (by assumption) (by assumption) (by assumption); omega) | (have hk := tv (by assumption) (by assumption); omega) | (have hk := rtv (by assumption) (by assumption); omega))
   refine rd_op (ov_iaddr rfl rfl e114) ?_
   refine rd_op (ov_faddr rfl (api_TableKey.g_Kind r114)) ?_
   refine rd_op (ov_load rfl rfl rfl) ?_
   obtain ⟨y115, hw115, hres⟩ := let_ex hres
   have f115 := f65_ok (x1 := (ix y103 x10_)) (x2 := (ix ((ix x0.Tables x1).Keys) x10_).Kind) r110 
   rw [hw115] at f115
   refine rd_call (cv_fn rfl rfl (clL_cons (TR.clo api_KeyMatch.t r110) (clL_cons rfl (clL_cons rfl clL_nil))) f115) ?_
   refine rd_op (ov_move rfl) ?_
   refine rd_nil ?_
   refine pn_seq ?_
   refine rc_seq ?_
   refine rc_region ?_
   refine rd_op (ov_move rfl) ?_
   refine rd_op (ov_bin rfl rfl i_neq) ?_
   refine rd_nil ?_
   refine pn_seq ?_
   refine rc_cond rfl (fun hc116 => ?_) (fun hc116 => ?_)
   ·replace hres := (ite_t hc116).symm.trans hres
    have hc116' := hc116
    try simp only [qa1, qa2, qa3, qa4, qa5, qa6, qa7, qa8, qa9, qaA, qaB, qaC, qaD] at hc116'
    refine rc_seq ?_
    refine rc_region ?_
    refine rd_op (ov_move rfl) ?_
    refine rd_op (ov_move rfl) ?_
    refine rd_nil ?_
    refine pn_seq ?_
    subst hres
    exact rc_retV (.tmp rfl .nil) (deep_closed rfl) rfl
   ·replace hres := (ite_f hc116).symm.trans hres
    have hc116' := hc116
    try simp only [qa1, qa2, qa3, qa4, qa5, qa6, qa7, qa8, qa9, qaA, qaB, qaC, qaD] at hc116'
    refine rc_skip ?_
    refine pn_blk ?_
    refine pn_seq ?_
    refine rc_region ?_
    refine rd_op (ov_move rfl) ?_
    refine rd_op (ov_bin rfl rfl i_add) ?_
    refine rd_op (ov_move rfl) ?_
    refine rd_nil ?_
    refine pn_again ?_
    have hbd := sl_bound r104
    have hinc : wr (x10_ + 1) = x10_ + 1 := wr_of (by omega) (by omega)
    rw [hinc]
    refine rc_weak ?_ (ih (x10_ + 1)  (by omega) (by omega) hres)
    exact ((sub_cons rfl (sub_cons rfl (sub_cons rfl (sub_cons rfl (sub_cons rfl (sub_nil _)))))))
  ·exfalso
   try simp only [qa1, qa2, qa3, qa4, qa5, qa6, qa7, qa8, qa9, qaA, qaB, qaC, qaD] at hc108
   omega

theorem f35_ok {x0 : api_Program} {x1 : Int} {x2 : api_Entry} {v0 v2 : PV} (r0 : api_Program.t.R x0 v0) (r2 : api_Entry.t.R x2 v2) : FnR Try.prog 35 [v0, vi x1, v2] (vi (ref23_Check x0 x1 x2)) := by
 obtain ⟨res, hres⟩ : ∃ res, ref23_Check x0 x1 x2 = res := ⟨_, rfl⟩
 suffices H : RC Try.prog ac35 [] (QR Try.prog [(6, none)] (RF35 res)) (argE 0 [v0, vi x1, v2]) ⟨0, []⟩ by
  obtain ⟨r, h1, h2⟩ := fnE text35 (by simp) H
  rw [hres]
  have h2 : r = vi res := h2
  rw [← h2]; exact h1
 unfold ref23_Check at hres
 unfold ac35
 refine rc_seq ?_
 refine rc_region ?_
 refine rd_op (ov_box rfl (TR.cnt api_Program.t r0)) ?_
 refine rd_op (ov_box rfl (TR.cnt api_Entry.t r2)) ?_
 refine rd_op (v := vi 0) (ov_move rfl) ?_
 refine rd_nil ?_
 refine pn_seq ?_
 refine rc_seq ?_
 refine rc_region ?_
 refine rd_op (ov_load rfl (TR.cnt api_Program.t r0) (TR.agg api_Program.t r0)) ?_
 refine rd_op (ov_move rfl) ?_
 obtain ⟨y101, hw101, hres⟩ := let_ex hres
 have f101 := f17_ok (x1 := x1) r0 
 rw [hw101] at f101
 refine rd_call (cv_fn rfl rfl (clL_cons (TR.clo api_Program.t r0) (clL_cons rfl clL_nil)) f101) ?_
 refine rd_op (ov_move rfl) ?_
 refine rd_op (ov_extract rfl rfl) ?_
 refine rd_op (ov_extract rfl rfl) ?_
 refine rd_op (ov_move rfl) ?_
 refine rd_op (ov_move rfl) ?_
 refine rd_nil ?_
 refine pn_seq ?_
 refine rc_seq ?_
 refine rc_seq ?_
 refine rc_region ?_
 refine rd_op (ov_move rfl) ?_
 refine rd_op (ov_bin rfl rfl i_neq) ?_
 refine rd_nil ?_
 refine pn_seq ?_
 refine rc_cond rfl (fun hc102 => ?_) (fun hc102 => ?_)
 ·replace hres := (ite_t hc102).symm.trans hres
  have hc102' := hc102
  try simp only [qa1, qa2, qa3, qa4, qa5, qa6, qa7, qa8, qa9, qaA, qaB, qaC, qaD] at hc102'
  refine rc_seq ?_
  refine rc_region ?_
  refine rd_op (ov_move rfl) ?_
  refine rd_op (ov_move rfl) ?_
  refine rd_nil ?_
  refine pn_seq ?_
  subst hres
  exact rc_retV (.tmp rfl .nil) (deep_closed rfl) rfl
 ·replace hres := (ite_f hc102).symm.trans hres
  have hc102' := hc102
  try simp only [qa1, qa2, qa3, qa4, qa5, qa6, qa7, qa8, qa9, qaA, qaB, qaC, qaD] at hc102'
  refine rc_skip ?_
  refine pn_seq ?_
  refine rc_seq ?_
  refine rc_region ?_
  refine rd_op (ov_load rfl (TR.cnt api_Program.t r0) (TR.agg api_Program.t r0)) ?_
  refine rd_op (ov_move rfl) ?_
  obtain ⟨y103, hw103, hres⟩ := let_ex hres
  obtain ⟨v104, f103, r104⟩ := f22_ok (x1 := x1) r0 
  rw [hw103] at r104
  have ek103 : (0 ≤ x1 ∧ x1 < x0.Tables.length) ∧ y103.length = (ix x0.Tables x1).Keys.length ∧ y103.length ≤ 6 := reck (by assumption) (by assumption) hw103
  refine rd_call (cv_fn rfl rfl (clL_cons (TR.clo api_Program.t r0) (clL_cons rfl clL_nil)) f103) ?_
  refine rd_op (ov_move rfl) ?_
  refine rd_nil ?_
  refine pn_seq ?_
  refine rc_seq ?_
  refine rc_seq ?_
  refine rc_region ?_
  obtain ⟨v105, e105, r105⟩ := api_Entry.g_Keys r2
  refine rd_op (ov_faddr rfl e105) ?_
  refine rd_op (ov_load rfl (TR.cnt (tSl api_KeyMatch.t) r105) (TR.agg (tSl api_KeyMatch.t) r105)) ?_
  refine rd_op (ov_bi rfl (sl_len r105 Try.underlying67 _)) ?_
  refine rd_op (ov_move rfl) ?_
  refine rd_op (ov_bi rfl (sl_len r104 Try.underlying29 _)) ?_
  refine rd_op (ov_bin rfl rfl i_neq) ?_
  refine rd_nil ?_
  refine pn_seq ?_
  refine rc_cond rfl (fun hc106 => ?_) (fun hc106 => ?_)
  ·replace hres := (ite_t hc106).symm.trans hres
   have hc106' := hc106
   try simp only [qa1, qa2, qa3, qa4, qa5, qa6, qa7, qa8, qa9, qaA, qaB, qaC, qaD] at hc106'
   refine rc_seq ?_
   refine rc_region ?_
   refine rd_op (v := vi 2) (ov_move rfl) ?_
   refine rd_nil ?_
   refine pn_seq ?_
   subst hres
   exact rc_retV (.tmp rfl .nil) (deep_closed rfl) rfl
  ·replace hres := (ite_f hc106).symm.trans hres
   have hc106' := hc106
   try simp only [qa1, qa2, qa3, qa4, qa5, qa6, qa7, qa8, qa9, qaA, qaB, qaC, qaD] at hc106'
   refine rc_skip ?_
   refine pn_seq ?_
   refine rc_seq ?_
   refine rc_seq ?_
   refine rc_region ?_
   refine rd_op (v := vi 0) (ov_move rfl) ?_
   refine rd_nil ?_
   refine pn_seq ?_
   refine rc_block ?_
   refine rc_weak ?_ (ref23_Check_L1_ok (x0 := x0) (x1 := x1) (x2 := x2) (y101 := y101) (y103 := y103) (v0 := v0) (v2 := v2) (v104 := v104)  (r0 := r0) (r2 := r2) (hw101 := hw101) (hc102 := hc102) (hw103 := hw103) (r104 := r104) (ek103 := ek103) (hc106 := hc106) ?_ (Int.toNat ((y103.length : Int) - 0)) 0 rfl (by omega) hres)
   ·exact ((sub_cons rfl (sub_cons rfl (sub_cons rfl (sub_cons rfl (sub_cons rfl (sub_nil _)))))))
   ·intro  hres
    refine px_blk ?_
    refine pn_seq ?_
    refine rc_seq ?_
    refine rc_block ?_
    refine rc_seq ?_
    refine rc_region ?_
    refine rd_op (ov_faddr rfl (api_Entry.g_Priority r2)) ?_
    refine rd_op (ov_load rfl rfl rfl) ?_
    refine rd_op (ov_bin rfl rfl i_lss) ?_
    refine rd_op (ov_move rfl) ?_
    refine rd_cut (d := 66) (v := vb ((decide (x2.Priority < 0)) || (decide (255 < x2.Priority)))) ?_ ?_
    ·intro S Q r
     simp only [ac35_G1, List.cons_append, List.nil_append, List.append_assoc]
     cases hb118 : (decide (x2.Priority < 0))
     ·intro k
      have hb118' := hb118
      try simp only [qa1, qa2, qa3, qa4, qa5, qa6, qa7, qa8, qa9, qaA, qaB, qaC, qaD] at hb118'
      refine rd_yes rfl rfl (ov_faddr rfl (api_Entry.g_Priority r2)) ?_
      refine rd_yes rfl rfl (ov_load rfl rfl rfl) ?_
      refine rd_yes rfl rfl (ov_bin rfl rfl i_gtr) ?_
      refine rd_op (v := vb (decide (255 < x2.Priority))) (ov_pick rfl rfl rfl rfl) ?_
      exact rd_weak (sub_cons rfl (sub_skip rfl (sub_skip rfl (sub_skip rfl (sub_skip rfl (sub_refl _)))))) k
     ·intro k
      refine rd_skip rfl rfl ?_
      refine rd_skip rfl rfl ?_
      refine rd_skip rfl rfl ?_
      refine rd_op (v := vb true) (ov_pick rfl rfl rfl rfl) ?_
      exact rd_weak (sub_cons rfl (sub_skip rfl (sub_skip rfl (sub_skip rfl (sub_skip rfl (sub_refl _)))))) k
    refine rd_op (ov_move rfl) ?_
    refine rd_nil ?_
    refine pn_seq ?_
    refine rc_cond rfl (fun hc119 => ?_) (fun hc119 => ?_)
    ·replace hres := (ite_t hc119).symm.trans hres
     have hc119' := hc119
     try simp only [qa1, qa2, qa3, qa4, qa5, qa6, qa7, qa8, qa9, qaA, qaB, qaC, qaD] at hc119'
     refine rc_seq ?_
     refine rc_region ?_
     refine rd_op (v := vi 9) (ov_move rfl) ?_
     refine rd_nil ?_
     refine pn_seq ?_
     subst hres
     exact rc_retV (.tmp rfl .nil) (deep_closed rfl) rfl
    ·replace hres := (ite_f hc119).symm.trans hres
     have hc119' := hc119
     try simp only [qa1, qa2, qa3, qa4, qa5, qa6, qa7, qa8, qa9, qaA, qaB, qaC, qaD] at hc119'
     refine rc_seq ?_
     refine rc_region ?_
     refine rd_op (ov_faddr rfl (api_Entry.g_Priority r2)) ?_
     refine rd_op (ov_load rfl rfl rfl) ?_
     refine rd_op (ov_bin rfl rfl i_gtr) ?_
     refine rd_op (ov_move rfl) ?_
     refine rd_cut (d := 76) (v := vb ((decide (0 < x2.Priority)) && (!decide ((ref17_Kind x0 x1) = 3)))) ?_ ?_
     ·intro S Q r
      simp only [ac35_G2, List.cons_append, List.nil_append, List.append_assoc]
      cases hb120 : (decide (0 < x2.Priority))
      ·intro k
       refine rd_skip rfl rfl ?_
       refine rd_skip rfl rfl ?_
       refine rd_skip rfl rfl ?_
       refine rd_skip rfl rfl ?_
       refine rd_op (v := vb false) (ov_pick rfl rfl rfl rfl) ?_
       exact rd_weak (sub_cons rfl (sub_skip rfl (sub_skip rfl (sub_skip rfl (sub_skip rfl (sub_skip rfl (sub_refl _))))))) k
      ·intro k
       have hb120' := hb120
       try simp only [qa1, qa2, qa3, qa4, qa5, qa6, qa7, qa8, qa9, qaA, qaB, qaC, qaD] at hb120'
       refine rd_yes rfl rfl (ov_load rfl (TR.cnt api_Program.t r0) (TR.agg api_Program.t r0)) ?_
       refine rd_yes rfl rfl (ov_move rfl) ?_
       have f121 := f19_ok (x1 := x1) r0 
       refine rd_ycall rfl rfl (cv_fn rfl rfl (clL_cons (TR.clo api_Program.t r0) (clL_cons rfl clL_nil)) f121) ?_
       refine rd_yes rfl rfl (ov_bin rfl rfl i_neq) ?_
       refine rd_op (v := vb (!decide ((ref17_Kind x0 x1) = 3))) (ov_pick rfl rfl rfl rfl) ?_
       exact rd_weak (sub_cons rfl (sub_skip rfl (sub_skip rfl (sub_skip rfl (sub_skip rfl (sub_skip rfl (sub_refl _))))))) k
     refine rd_op (ov_move rfl) ?_
     refine rd_nil ?_
     refine pn_seq ?_
     refine rc_cond rfl (fun hc122 => ?_) (fun hc122 => ?_)
     ·replace hres := (ite_t hc122).symm.trans hres
      have hc122' := hc122
      try simp only [qa1, qa2, qa3, qa4, qa5, qa6, qa7, qa8, qa9, qaA, qaB, qaC, qaD] at hc122'
      refine rc_seq ?_
      refine rc_region ?_
      refine rd_op (v := vi 11) (ov_move rfl) ?_
      refine rd_nil ?_
      refine pn_seq ?_
      subst hres
      exact rc_retV (.tmp rfl .nil) (deep_closed rfl) rfl
     ·replace hres := (ite_f hc122).symm.trans hres
      have hc122' := hc122
      try simp only [qa1, qa2, qa3, qa4, qa5, qa6, qa7, qa8, qa9, qaA, qaB, qaC, qaD] at hc122'
      refine rc_seq ?_
      refine rc_region ?_
      refine rd_op (ov_load rfl (TR.cnt api_Program.t r0) (TR.agg api_Program.t r0)) ?_
      refine rd_op (ov_move rfl) ?_
      obtain ⟨v123, e123, r123⟩ := api_Entry.g_Call r2
      refine rd_op (ov_faddr rfl e123) ?_
      refine rd_op (ov_faddr rfl (api_ActionCall.g_Action r123)) ?_
      refine rd_op (ov_load rfl rfl rfl) ?_
      obtain ⟨y124, hw124, hres⟩ := let_ex hres
      have f124 := f26_ok (x1 := x1) (x2 := x2.Call.Action) r0 
      rw [hw124] at f124
      refine rd_call (cv_fn rfl rfl (clL_cons (TR.clo api_Program.t r0) (clL_cons rfl (clL_cons rfl clL_nil))) f124) ?_
      refine rd_op (ov_not rfl) ?_
      refine rd_op (ov_move rfl) ?_
      refine rd_nil ?_
      refine pn_seq ?_
      refine rc_cond rfl (fun hc125 => ?_) (fun hc125 => ?_)
      ·replace hres := (ite_t hc125).symm.trans hres
       have hc125' := hc125
       try simp only [qa1, qa2, qa3, qa4, qa5, qa6, qa7, qa8, qa9, qaA, qaB, qaC, qaD] at hc125'
       refine rc_seq ?_
       refine rc_region ?_
       refine rd_op (v := vi 8) (ov_move rfl) ?_
       refine rd_nil ?_
       refine pn_seq ?_
       subst hres
       exact rc_retV (.tmp rfl .nil) (deep_closed rfl) rfl
      ·replace hres := (ite_f hc125).symm.trans hres
       have hc125' := hc125
       try simp only [qa1, qa2, qa3, qa4, qa5, qa6, qa7, qa8, qa9, qaA, qaB, qaC, qaD] at hc125'
       refine rc_skip ?_
       refine pn_blk ?_
       refine pn_seq ?_
       refine rc_seq ?_
       refine rc_region ?_
       refine rd_op (ov_load rfl (TR.cnt api_Program.t r0) (TR.agg api_Program.t r0)) ?_
       obtain ⟨v126, e126, r126⟩ := api_Entry.g_Call r2
       refine rd_op (ov_faddr rfl e126) ?_
       refine rd_op (ov_load rfl (TR.cnt api_ActionCall.t r126) (TR.agg api_ActionCall.t r126)) ?_
       obtain ⟨y127, hw127, hres⟩ := let_ex hres
       have f127 := f66_ok  r0 r126 
       rw [hw127] at f127
       refine rd_call (cv_fn rfl rfl (clL_cons (TR.clo api_Program.t r0) (clL_cons (TR.clo api_ActionCall.t r126) clL_nil)) f127) ?_
       refine rd_op (ov_move rfl) ?_
       refine rd_nil ?_
       refine pn_seq ?_
       subst hres
       exact rc_retV (.tmp rfl .nil) (deep_closed rfl) rfl

end Go.Proofs.Ytklfdkbemkommaa
