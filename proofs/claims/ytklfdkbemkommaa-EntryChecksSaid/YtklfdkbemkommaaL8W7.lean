/-
 The code of each function does what its plain program says.
-/
import Derived.Test.YtklfdkbemkommaaL8W6
set_option linter.unusedVariables false
set_option linter.unusedSimpArgs false
set_option maxRecDepth 100000
namespace Go.Proofs.Ytklfdkbemkommaa
open Go Go.Pb Go.RowKit
/-- patchbay/patchbayref01.valid -/
def RF60 (res : Bool) (r : PV) : Prop := r = vb res
theorem f60_ok {x0 : Int} : FnR Try.prog 60 [vi x0] (vb (ref01_valid x0)) := by
 obtain ⟨res, hres⟩ : ∃ res, ref01_valid x0 = res := ⟨_, rfl⟩
 suffices H : RC Try.prog ac60 [] (QR Try.prog [(2, none)] (RF60 res)) (argE 0 [vi x0]) ⟨0, []⟩ by
  obtain ⟨r, h1, h2⟩ := fnE text60 (by simp) H
  rw [hres]
  have h2 : r = vb res := h2
  rw [← h2]; exact h1
 unfold ref01_valid at hres
 unfold ac60
 refine rc_seq ?_
 refine rc_region ?_
 refine rd_op (v := vb false) (ov_move rfl) ?_
 refine rd_nil ?_
 refine pn_seq ?_
 refine rc_seq ?_
 refine rc_region ?_
 refine rd_op (ov_move rfl) ?_
 refine rd_op (ov_bin rfl rfl i_geq) ?_
 refine rd_op (ov_move rfl) ?_
 refine rd_cut (d := 8) (v := vb ((decide (1 ≤ x0)) && (decide (x0 ≤ 32)))) ?_ ?_
 ·intro S Q r
  simp only [ac60_G1, List.cons_append, List.nil_append, List.append_assoc]
  cases hb101 : (decide (1 ≤ x0))
  ·intro k
   refine rd_skip rfl rfl ?_
   refine rd_skip rfl rfl ?_
   refine rd_op (v := vb false) (ov_pick rfl rfl rfl rfl) ?_
   exact rd_weak (sub_cons rfl (sub_skip rfl (sub_skip rfl (sub_skip rfl (sub_refl _))))) k
  ·intro k
   have hb101' := hb101
   try simp only [qa1, qa2, qa3, qa4, qa5, qa6, qa7, qa8, qa9, qaA, qaB, qaC, qaD] at hb101'
   refine rd_yes rfl rfl (ov_move rfl) ?_
   refine rd_yes rfl rfl (ov_bin rfl rfl i_leq) ?_
   refine rd_op (v := vb (decide (x0 ≤ 32))) (ov_pick rfl rfl rfl rfl) ?_
   exact rd_weak (sub_cons rfl (sub_skip rfl (sub_skip rfl (sub_skip rfl (sub_refl _))))) k
 refine rd_op (ov_move rfl) ?_
 refine rd_nil ?_
 refine pn_seq ?_
 subst hres
 exact rc_retV (.tmp rfl .nil) (deep_closed rfl) rfl

/-- patchbay/patchbayref01.power -/
def RF61 (res : (BitVec 64)) (r : PV) : Prop := r = vu64 res
theorem ref01_power_L1_ok {S : List Fr} {res : (BitVec 64)} {x0 : Int} (hn : x0 ≤ 64) {K0 : (BitVec 64) → (BitVec 64)}
  (hK0 : ∀ (x3_ : BitVec 64), K0 x3_ = res → PX Try.prog 0 S (QR Try.prog [(2, none)] (RF61 res)) [(3, vu64 x3_)] ⟨0, []⟩) :
  ∀ (m : Nat) (x3_ : BitVec 64) (x4_ : Int) (hm1 : m = Int.toNat (x0 - x4_)) (hlo1 : 0 ≤ x4_), ref01_power_L1 K0 m x3_ x4_ = res → RC Try.prog (.loop ac61_L1) S (QR Try.prog [(2, none)] (RF61 res)) [(4, vi x4_), (3, vu64 x3_), (0, vi x0)] ⟨0, []⟩ := by
 intro m
 induction m with
 | zero =>
  intro x3_ x4_ hm1 hlo1 hres
  rw [ref01_power_L1] at hres
  refine rc_loop ?_
  unfold ac61_L1
  refine rc_seq ?_
  refine rc_seq ?_
  refine rc_region ?_
  refine rd_op (ov_move rfl) ?_
  refine rd_op (ov_move rfl) ?_
  refine rd_op (ov_bin rfl rfl i_lss) ?_
  refine rd_nil ?_
  refine pn_seq ?_
  refine rc_cond rfl (fun hc101 => ?_) (fun hc101 => ?_)
  ·exfalso
   try simp only [qa1, qa2, qa3, qa4, qa5, qa6, qa7, qa8, qa9, qaA, qaB, qaC, qaD] at hc101
   omega
  ·have hend := hres
   have hc101' := hc101
   try simp only [qa1, qa2, qa3, qa4, qa5, qa6, qa7, qa8, qa9, qaA, qaB, qaC, qaD] at hc101'
   refine rc_exit ?_
   refine px_seq ?_
   refine px_again ?_
   exact px_weak ((sub_cons rfl (sub_nil _))) (hK0 x3_ hres)
 | succ m ih =>
  intro x3_ x4_ hm1 hlo1 hres
  rw [ref01_power_L1] at hres
  refine rc_loop ?_
  unfold ac61_L1
  refine rc_seq ?_
  refine rc_seq ?_
  refine rc_region ?_
  refine rd_op (ov_move rfl) ?_
  refine rd_op (ov_move rfl) ?_
  refine rd_op (ov_bin rfl rfl i_lss) ?_
  refine rd_nil ?_
  refine pn_seq ?_
  refine rc_cond rfl (fun hc102 => ?_) (fun hc102 => ?_)
  ·have hgo := hres
   have hc102' := hc102
   try simp only [qa1, qa2, qa3, qa4, qa5, qa6, qa7, qa8, qa9, qaA, qaB, qaC, qaD] at hc102'
   refine rc_skip ?_
   refine pn_seq ?_
   refine rc_seq ?_
   refine rc_block ?_
   refine rc_region ?_
   refine rd_op (ov_move rfl) ?_
   refine rd_op (ov_bin (a := vu64 2#64) (b := vu64 x3_) rfl rfl d_mul) ?_
   refine rd_op (ov_move rfl) ?_
   refine rd_nil ?_
   refine pn_blk ?_
   refine pn_seq ?_
   refine rc_region ?_
   refine rd_op (ov_move rfl) ?_
   refine rd_op (ov_bin rfl rfl i_add) ?_
   refine rd_op (ov_move rfl) ?_
   refine rd_nil ?_
   refine pn_again ?_
   have hinc : wr (x4_ + 1) = x4_ + 1 := wr_of (by omega) (by omega)
   rw [hinc]
   refine rc_weak ?_ (ih (2#64 * x3_) (x4_ + 1)  (by omega) (by omega) hres)
   exact ((sub_cons rfl (sub_cons rfl (sub_cons rfl (sub_nil _)))))
  ·exfalso
   try simp only [qa1, qa2, qa3, qa4, qa5, qa6, qa7, qa8, qa9, qaA, qaB, qaC, qaD] at hc102
   omega

theorem f61_ok {x0 : Int} (hn : x0 ≤ 64) : FnR Try.prog 61 [vi x0] (vu64 (ref01_power x0)) := by
 obtain ⟨res, hres⟩ : ∃ res, ref01_power x0 = res := ⟨_, rfl⟩
 suffices H : RC Try.prog ac61 [] (QR Try.prog [(2, none)] (RF61 res)) (argE 0 [vi x0]) ⟨0, []⟩ by
  obtain ⟨r, h1, h2⟩ := fnE text61 (by simp) H
  rw [hres]
  have h2 : r = vu64 res := h2
  rw [← h2]; exact h1
 unfold ref01_power at hres
 unfold ac61
 refine rc_seq ?_
 refine rc_region ?_
 refine rd_op (v := vu64 0#64) (ov_move rfl) ?_
 refine rd_nil ?_
 refine pn_seq ?_
 refine rc_seq ?_
 refine rc_region ?_
 refine rd_op (v := vu64 1#64) (ov_move rfl) ?_
 refine rd_nil ?_
 refine pn_seq ?_
 refine rc_seq ?_
 refine rc_seq ?_
 refine rc_region ?_
 refine rd_op (v := vi 0) (ov_move rfl) ?_
 refine rd_nil ?_
 refine pn_seq ?_
 refine rc_block ?_
 refine rc_weak ?_ (ref01_power_L1_ok (x0 := x0)   (hn := hn) ?_ (Int.toNat (x0 - 0)) 1#64 0 rfl (by omega) hres)
 ·exact ((sub_cons rfl (sub_cons rfl (sub_cons rfl (sub_nil _)))))
 ·intro x3_103 hres
  refine px_blk ?_
  refine pn_seq ?_
  refine rc_seq ?_
  refine rc_region ?_
  refine rd_op (ov_move rfl) ?_
  refine rd_op (ov_move rfl) ?_
  refine rd_nil ?_
  refine pn_seq ?_
  subst hres
  exact rc_retV (.tmp rfl .nil) (deep_closed rfl) rfl

/-- patchbay/patchbayref01.Fits -/
def RF86 (res : Bool) (r : PV) : Prop := r = vb res
theorem f86_ok {x0 : BitVec 32} {x1 : Int} : FnR Try.prog 86 [vu32 x0, vi x1] (vb (ref01_Fits x0 x1)) := by
 obtain ⟨res, hres⟩ : ∃ res, ref01_Fits x0 x1 = res := ⟨_, rfl⟩
 suffices H : RC Try.prog ac86 [] (QR Try.prog [(4, none)] (RF86 res)) (argE 0 [vu32 x0, vi x1]) ⟨0, []⟩ by
  obtain ⟨r, h1, h2⟩ := fnE text86 (by simp) H
  rw [hres]
  have h2 : r = vb res := h2
  rw [← h2]; exact h1
 unfold ref01_Fits at hres
 unfold ac86
 refine rc_seq ?_
 refine rc_region ?_
 refine rd_op (v := vb false) (ov_move rfl) ?_
 refine rd_nil ?_
 refine pn_seq ?_
 refine rc_seq ?_
 refine rc_region ?_
 refine rd_op (ov_move rfl) ?_
 obtain ⟨y101, hw101, hres⟩ := let_ex hres
 have f101 := f60_ok (x0 := x1)  
 rw [hw101] at f101
 refine rd_call (cv_fn rfl rfl (clL_cons rfl clL_nil) f101) ?_
 refine rd_op (ov_move rfl) ?_
 refine rd_cut (d := 13) (v := vb (y101 && (decide ((BitVec.setWidth 64 x0) < (ref01_power x1))))) ?_ ?_
 ·intro S Q r
  simp only [ac86_G1, List.cons_append, List.nil_append, List.append_assoc]
  cases hb102 : y101
  ·intro k
   refine rd_skip rfl rfl ?_
   refine rd_skip rfl rfl ?_
   refine rd_skip rfl rfl ?_
   refine rd_skip rfl rfl ?_
   refine rd_skip rfl rfl ?_
   refine rd_op (v := vb false) (ov_pick rfl rfl rfl rfl) ?_
   exact rd_weak (sub_cons rfl (sub_skip rfl (sub_skip rfl (sub_skip rfl (sub_skip rfl (sub_skip rfl (sub_skip rfl (sub_refl _)))))))) k
  ·intro k
   have hb102' := hb102
   try simp only [qa1, qa2, qa3, qa4, qa5, qa6, qa7, qa8, qa9, qaA, qaB, qaC, qaD] at hb102'
   refine rd_yes rfl rfl (ov_move rfl) ?_
   refine rd_yes rfl rfl (ov_conv (a := vu32 x0) rfl (c_wd Try.underlying57 Try.underlying106)) ?_
   refine rd_yes rfl rfl (ov_move rfl) ?_
   have f103 := f61_ok (x0 := x1)  (by first | assumption | omega | (have := rv (by assumption) (by assumption); omega))
   refine rd_ycall rfl rfl (cv_fn rfl rfl (clL_cons rfl clL_nil) f103) ?_
   refine rd_yes rfl rfl (ov_bin (a := vu64 (BitVec.setWidth 64 x0)) (b := vu64 (ref01_power x1)) rfl rfl d_lss) ?_
   refine rd_op (v := vb (decide ((BitVec.setWidth 64 x0) < (ref01_power x1)))) (ov_pick rfl rfl rfl rfl) ?_
   exact rd_weak (sub_cons rfl (sub_skip rfl (sub_skip rfl (sub_skip rfl (sub_skip rfl (sub_skip rfl (sub_skip rfl (sub_refl _)))))))) k
 refine rd_op (ov_move rfl) ?_
 refine rd_nil ?_
 refine pn_seq ?_
 subst hres
 exact rc_retV (.tmp rfl .nil) (deep_closed rfl) rfl

/-- patchbay/patchbayref16.CheckCall -/
def RF66 (res : Int) (r : PV) : Prop := r = vi res
theorem ref16_CheckCall_L1_ok {S : List Fr} {res : Int} {x0 : api_Program} {x1 : api_ActionCall} {v1 : PV} {v106 : PV} (r1 : api_ActionCall.t.R x1 v1) (hc103 : ((decide (x1.Action < 0)) || (decide ((x0.Actions.length : Int) ≤ x1.Action))) = false) (r106 : (tSl api_Field.t).R ((ix x0.Actions x1.Action).Params) v106) (hc108 : (!decide ((x1.Args.length : Int) = (((ix x0.Actions x1.Action).Params).length : Int))) = false) {K0 : Unit → Int}
  (hK0 : K0 () = res → PX Try.prog 0 S (QR Try.prog [(4, none)] (RF66 res)) [] ⟨0, []⟩) :
  ∀ (m : Nat) (x6_ : Int) (hm1 : m = Int.toNat ((((ix x0.Actions x1.Action).Params).length : Int) - x6_)) (hlo1 : 0 ≤ x6_), ref16_CheckCall_L1 x0 x1 K0 m x6_ = res → RC Try.prog (.loop ac66_L1) S (QR Try.prog [(4, none)] (RF66 res)) [(6, vi x6_), (5, v106), (3, .fp v1)] ⟨0, []⟩ := by
 have hc103' := hc103
 try simp only [qa1, qa2, qa3, qa4, qa5, qa6, qa7, qa8, qa9, qaA, qaB, qaC, qaD] at hc103'
 have hc108' := hc108
 try simp only [qa1, qa2, qa3, qa4, qa5, qa6, qa7, qa8, qa9, qaA, qaB, qaC, qaD] at hc108'
 intro m
 induction m with
 | zero =>
  intro x6_ hm1 hlo1 hres
  rw [ref16_CheckCall_L1] at hres
  refine rc_loop ?_
  unfold ac66_L1
  refine rc_seq ?_
  refine rc_seq ?_
  refine rc_region ?_
  refine rd_op (ov_move rfl) ?_
  refine rd_op (ov_move rfl) ?_
  refine rd_op (ov_bi rfl (sl_len r106 Try.underlying23 _)) ?_
  refine rd_op (ov_bin rfl rfl i_lss) ?_
  refine rd_nil ?_
  refine pn_seq ?_
  refine rc_cond rfl (fun hc109 => ?_) (fun hc109 => ?_)
  ·exfalso
   try simp only [qa1, qa2, qa3, qa4, qa5, qa6, qa7, qa8, qa9, qaA, qaB, qaC, qaD] at hc109
   omega
  ·have hend := hres
   have hc109' := hc109
   try simp only [qa1, qa2, qa3, qa4, qa5, qa6, qa7, qa8, qa9, qaA, qaB, qaC, qaD] at hc109'
   refine rc_exit ?_
   refine px_seq ?_
   refine px_again ?_
   exact px_weak ((sub_nil _)) (hK0  hres)
 | succ m ih =>
  intro x6_ hm1 hlo1 hres
  rw [ref16_CheckCall_L1] at hres
  refine rc_loop ?_
  unfold ac66_L1
  refine rc_seq ?_
  refine rc_seq ?_
  refine rc_region ?_
  refine rd_op (ov_move rfl) ?_
  refine rd_op (ov_move rfl) ?_
  refine rd_op (ov_bi rfl (sl_len r106 Try.underlying23 _)) ?_
  refine rd_op (ov_bin rfl rfl i_lss) ?_
  refine rd_nil ?_
  refine pn_seq ?_
  refine rc_cond rfl (fun hc110 => ?_) (fun hc110 => ?_)
  ·have hgo := hres
   have hc110' := hc110
   try simp only [qa1, qa2, qa3, qa4, qa5, qa6, qa7, qa8, qa9, qaA, qaB, qaC, qaD] at hc110'
   refine rc_skip ?_
   refine pn_seq ?_
   refine rc_seq ?_
   refine rc_block ?_
   refine rc_seq ?_
   refine rc_region ?_
   obtain ⟨v111, e111, r111⟩ := api_ActionCall.g_Args r1
   refine rd_op (ov_faddr rfl e111) ?_
   refine rd_op (ov_load rfl (TR.cnt (tSl tU32) r111) (TR.agg (tSl tU32) r111)) ?_
   refine rd_op (ov_move rfl) ?_
   refine rd_op (ov_iaddr rfl rfl (slU32 r111 (by first | omega | (have hk := tck (by assumption) (by assumption); omega) | (have hk := rtck (by assumption) (by assumption); omega) | (have hk := eck (by assumption) (by assumption) (by assumption); omega) | (have hk := tv (by assumption) (by assumption); omega) | (have hk := rtv (by assumption) (by assumption); omega)) (by first | omega | (have hk := tck (by assumption) (by assumption); omega) | (have hk := rtck (by assumption) (by assumption); omega) | (have hk := eck (by assumption) (by assumption) (by assumption); omega) | (have hk := tv (by assumption) (by assumption); omega) | (have hk := rtv (by assumption) (by assumption); omega)))) ?_
   refine rd_op (ov_load rfl rfl rfl) ?_
   refine rd_op (ov_move rfl) ?_
   refine rd_op (ov_move rfl) ?_
   obtain ⟨v112, e112, r112⟩ := sl_idx (i := x6_) r106 (by first | omega | (have hk := tck (by assumption) (by assumption); omega) | (have hk := rtck (by assumption) (by assumption); omega) | (have hk := eck (by assumption) (by assumption) (by assumption); omega) | (have hk := tv (by assumption) (by assumption); omega) | (have hk := rtv (by assumption) (by assumption); omega)) (by first | omega | (have hk := tck (by assumption) (by assumption); omega) | (have hk := rtck (by assumption) (by assumption); omega) | (have hk := eck (by assumption) (by assumption) (by assumption); omega) | (have hk := tv (by assumption) (by assumption); omega) | (have hk := rtv (by assumption) (by assumption); omega))
   refine rd_op (ov_iaddr rfl rfl e112) ?_
   refine rd_op (ov_faddr rfl (api_Field.g_Width r112)) ?_
   refine rd_op (ov_load rfl rfl rfl) ?_
   obtain ⟨y113, hw113, hres⟩ := let_ex hres
   have f113 := f86_ok (x0 := (ix x1.Args x6_)) (x1 := (ix ((ix x0.Actions x1.Action).Params) x6_).Width)  
   rw [hw113] at f113
   refine rd_call (cv_fn rfl rfl (clL_cons rfl (clL_cons rfl clL_nil)) f113) ?_
   refine rd_op (ov_not rfl) ?_
   refine rd_nil ?_
   refine pn_seq ?_
   refine rc_cond rfl (fun hc114 => ?_) (fun hc114 => ?_)
   ·replace hres := (ite_t hc114).symm.trans hres
    have hc114' := hc114
    try simp only [qa1, qa2, qa3, qa4, qa5, qa6, qa7, qa8, qa9, qaA, qaB, qaC, qaD] at hc114'
    refine rc_seq ?_
    refine rc_region ?_
    refine rd_op (v := vi 9) (ov_move rfl) ?_
    refine rd_nil ?_
    refine pn_seq ?_
    subst hres
    exact rc_retV (.tmp rfl .nil) (deep_closed rfl) rfl
   ·replace hres := (ite_f hc114).symm.trans hres
    have hc114' := hc114
    try simp only [qa1, qa2, qa3, qa4, qa5, qa6, qa7, qa8, qa9, qaA, qaB, qaC, qaD] at hc114'
    refine rc_skip ?_
    refine pn_blk ?_
    refine pn_seq ?_
    refine rc_region ?_
    refine rd_op (ov_move rfl) ?_
    refine rd_op (ov_bin rfl rfl i_add) ?_
    refine rd_op (ov_move rfl) ?_
    refine rd_nil ?_
    refine pn_again ?_
    have hbd := sl_bound r106
    have hinc : wr (x6_ + 1) = x6_ + 1 := wr_of (by omega) (by omega)
    rw [hinc]
    refine rc_weak ?_ (ih (x6_ + 1)  (by omega) (by omega) hres)
    exact ((sub_cons rfl (sub_cons rfl (sub_cons rfl (sub_nil _)))))
  ·exfalso
   try simp only [qa1, qa2, qa3, qa4, qa5, qa6, qa7, qa8, qa9, qaA, qaB, qaC, qaD] at hc110
   omega

theorem f66_ok {x0 : api_Program} {x1 : api_ActionCall} {v0 v1 : PV} (r0 : api_Program.t.R x0 v0) (r1 : api_ActionCall.t.R x1 v1) : FnR Try.prog 66 [v0, v1] (vi (ref16_CheckCall x0 x1)) := by
 obtain ⟨res, hres⟩ : ∃ res, ref16_CheckCall x0 x1 = res := ⟨_, rfl⟩
 suffices H : RC Try.prog ac66 [] (QR Try.prog [(4, none)] (RF66 res)) (argE 0 [v0, v1]) ⟨0, []⟩ by
  obtain ⟨r, h1, h2⟩ := fnE text66 (by simp) H
  rw [hres]
  have h2 : r = vi res := h2
  rw [← h2]; exact h1
 unfold ref16_CheckCall at hres
 unfold ac66
 refine rc_seq ?_
 refine rc_region ?_
 refine rd_op (ov_box rfl (TR.cnt api_Program.t r0)) ?_
 refine rd_op (ov_box rfl (TR.cnt api_ActionCall.t r1)) ?_
 refine rd_op (v := vi 0) (ov_move rfl) ?_
 refine rd_nil ?_
 refine pn_seq ?_
 refine rc_seq ?_
 refine rc_seq ?_
 refine rc_region ?_
 refine rd_op (ov_faddr rfl (api_ActionCall.g_Action r1)) ?_
 refine rd_op (ov_load rfl rfl rfl) ?_
 refine rd_op (ov_bin rfl rfl i_lss) ?_
 refine rd_op (ov_move rfl) ?_
 refine rd_cut (d := 17) (v := vb ((decide (x1.Action < 0)) || (decide ((x0.Actions.length : Int) ≤ x1.Action)))) ?_ ?_
 ·intro S Q r
  simp only [ac66_G1, List.cons_append, List.nil_append, List.append_assoc]
  cases hb101 : (decide (x1.Action < 0))
  ·intro k
   have hb101' := hb101
   try simp only [qa1, qa2, qa3, qa4, qa5, qa6, qa7, qa8, qa9, qaA, qaB, qaC, qaD] at hb101'
   refine rd_yes rfl rfl (ov_faddr rfl (api_ActionCall.g_Action r1)) ?_
   refine rd_yes rfl rfl (ov_load rfl rfl rfl) ?_
   obtain ⟨v102, e102, r102⟩ := api_Program.g_Actions r0
   refine rd_yes rfl rfl (ov_faddr rfl e102) ?_
   refine rd_yes rfl rfl (ov_load rfl (TR.cnt (tSl api_Action.t) r102) (TR.agg (tSl api_Action.t) r102)) ?_
   refine rd_yes rfl rfl (ov_bi rfl (sl_len r102 Try.underlying25 _)) ?_
   refine rd_yes rfl rfl (ov_bin rfl rfl i_geq) ?_
   refine rd_op (v := vb (decide ((x0.Actions.length : Int) ≤ x1.Action))) (ov_pick rfl rfl rfl rfl) ?_
   exact rd_weak (sub_cons rfl (sub_skip rfl (sub_skip rfl (sub_skip rfl (sub_skip rfl (sub_skip rfl (sub_skip rfl (sub_skip rfl (sub_refl _))))))))) k
  ·intro k
   refine rd_skip rfl rfl ?_
   refine rd_skip rfl rfl ?_
   refine rd_skip rfl rfl ?_
   refine rd_skip rfl rfl ?_
   refine rd_skip rfl rfl ?_
   refine rd_skip rfl rfl ?_
   refine rd_op (v := vb true) (ov_pick rfl rfl rfl rfl) ?_
   exact rd_weak (sub_cons rfl (sub_skip rfl (sub_skip rfl (sub_skip rfl (sub_skip rfl (sub_skip rfl (sub_skip rfl (sub_skip rfl (sub_refl _))))))))) k
 refine rd_nil ?_
 refine pn_seq ?_
 refine rc_cond rfl (fun hc103 => ?_) (fun hc103 => ?_)
 ·replace hres := (ite_t hc103).symm.trans hres
  have hc103' := hc103
  try simp only [qa1, qa2, qa3, qa4, qa5, qa6, qa7, qa8, qa9, qaA, qaB, qaC, qaD] at hc103'
  refine rc_seq ?_
  refine rc_region ?_
  refine rd_op (v := vi 8) (ov_move rfl) ?_
  refine rd_nil ?_
  refine pn_seq ?_
  subst hres
  exact rc_retV (.tmp rfl .nil) (deep_closed rfl) rfl
 ·replace hres := (ite_f hc103).symm.trans hres
  have hc103' := hc103
  try simp only [qa1, qa2, qa3, qa4, qa5, qa6, qa7, qa8, qa9, qaA, qaB, qaC, qaD] at hc103'
  refine rc_skip ?_
  refine pn_seq ?_
  refine rc_seq ?_
  refine rc_region ?_
  obtain ⟨v104, e104, r104⟩ := api_Program.g_Actions r0
  refine rd_op (ov_faddr rfl e104) ?_
  refine rd_op (ov_load rfl (TR.cnt (tSl api_Action.t) r104) (TR.agg (tSl api_Action.t) r104)) ?_
  refine rd_op (ov_faddr rfl (api_ActionCall.g_Action r1)) ?_
  refine rd_op (ov_load rfl rfl rfl) ?_
  obtain ⟨v105, e105, r105⟩ := sl_idx (i := x1.Action) r104 (by first | omega | (have hk := tck (by assumption) (by assumption); omega) | (have hk := rtck (by assumption) (by assumption); omega) | (have hk := eck (by assumption) (by assumption) (by assumption); omega) | (have hk := tv (by assumption) (by assumption); omega) | (have hk := rtv (by assumption) (by assumption); omega)) (by first | omega | (have hk := tck (by assumption) (by assumption); omega) | (have hk := rtck (by assumption) (by assumption); omega) | (have hk := eck (by assumption) (by assumption) (by assumption); omega) | (have hk := tv (by assumption) (by assumption); omega) | (have hk := rtv (by assumption) (by assumption); omega))
  refine rd_op (ov_iaddr rfl rfl e105) ?_
  obtain ⟨v106, e106, r106⟩ := api_Action.g_Params r105
  refine rd_op (ov_faddr rfl e106) ?_
  refine rd_op (ov_load rfl (TR.cnt (tSl api_Field.t) r106) (TR.agg (tSl api_Field.t) r106)) ?_
  refine rd_op (ov_move rfl) ?_
  refine rd_nil ?_
  refine pn_seq ?_
  refine rc_seq ?_
  refine rc_seq ?_
  refine rc_region ?_
  obtain ⟨v107, e107, r107⟩ := api_ActionCall.g_Args r1
  refine rd_op (ov_faddr rfl e107) ?_
  refine rd_op (ov_load rfl (TR.cnt (tSl tU32) r107) (TR.agg (tSl tU32) r107)) ?_
  refine rd_op (ov_bi rfl (sl_len r107 Try.underlying44 _)) ?_
  refine rd_op (ov_move rfl) ?_
  refine rd_op (ov_bi rfl (sl_len r106 Try.underlying23 _)) ?_
  refine rd_op (ov_bin rfl rfl i_neq) ?_
  refine rd_nil ?_
  refine pn_seq ?_
  refine rc_cond rfl (fun hc108 => ?_) (fun hc108 => ?_)
  ·replace hres := (ite_t hc108).symm.trans hres
   have hc108' := hc108
   try simp only [qa1, qa2, qa3, qa4, qa5, qa6, qa7, qa8, qa9, qaA, qaB, qaC, qaD] at hc108'
   refine rc_seq ?_
   refine rc_region ?_
   refine rd_op (v := vi 2) (ov_move rfl) ?_
   refine rd_nil ?_
   refine pn_seq ?_
   subst hres
   exact rc_retV (.tmp rfl .nil) (deep_closed rfl) rfl
  ·replace hres := (ite_f hc108).symm.trans hres
   have hc108' := hc108
   try simp only [qa1, qa2, qa3, qa4, qa5, qa6, qa7, qa8, qa9, qaA, qaB, qaC, qaD] at hc108'
   refine rc_skip ?_
   refine pn_seq ?_
   refine rc_seq ?_
   refine rc_seq ?_
   refine rc_region ?_
   refine rd_op (v := vi 0) (ov_move rfl) ?_
   refine rd_nil ?_
   refine pn_seq ?_
   refine rc_block ?_
   refine rc_weak ?_ (ref16_CheckCall_L1_ok (x0 := x0) (x1 := x1) (v1 := v1) (v106 := v106)  (r1 := r1) (hc103 := hc103) (r106 := r106) (hc108 := hc108) ?_ (Int.toNat ((((ix x0.Actions x1.Action).Params).length : Int) - 0)) 0 rfl (by omega) hres)
   ·exact ((sub_cons rfl (sub_cons rfl (sub_cons rfl (sub_nil _)))))
   ·intro  hres
    refine px_blk ?_
    refine pn_seq ?_
    refine rc_seq ?_
    refine rc_region ?_
    refine rd_op (v := vi 0) (ov_move rfl) ?_
    refine rd_nil ?_
    refine pn_seq ?_
    subst hres
    exact rc_retV (.tmp rfl .nil) (deep_closed rfl) rfl

/-- patchbay/patchbayref17.actions -/
def RF51 (res : Int) (r : PV) : Prop := r = vi res
theorem ref17_actions_L1_ok {S : List Fr} {res : Int} {x0 : api_Program} {x1 : api_Table} {v0 : PV} {v1 : PV} (r0 : api_Program.t.R x0 v0) (r1 : api_Table.t.R x1 v1) {K0 : Unit → Int}
  (hK0 : K0 () = res → PX Try.prog 0 S (QR Try.prog [(4, none)] (RF51 res)) [(2, .fp v0), (3, .fp v1)] ⟨0, []⟩) :
  ∀ (m : Nat) (x5_ : Int) (hm1 : m = Int.toNat ((x1.Actions.length : Int) - x5_)) (hlo1 : 0 ≤ x5_), ref17_actions_L1 x0 x1 K0 m x5_ = res → RC Try.prog (.loop ac51_L1) S (QR Try.prog [(4, none)] (RF51 res)) [(5, vi x5_), (3, .fp v1), (2, .fp v0)] ⟨0, []⟩ := by
 intro m
 induction m with
 | zero =>
  intro x5_ hm1 hlo1 hres
  rw [ref17_actions_L1] at hres
  refine rc_loop ?_
  unfold ac51_L1
  refine rc_seq ?_
  refine rc_seq ?_
  refine rc_region ?_
  refine rd_op (ov_move rfl) ?_
  obtain ⟨v101, e101, r101⟩ := api_Table.g_Actions r1
  refine rd_op (ov_faddr rfl e101) ?_
  refine rd_op (ov_load rfl (TR.cnt (tSl tI) r101) (TR.agg (tSl tI) r101)) ?_
  refine rd_op (ov_bi rfl (sl_len r101 Try.underlying29 _)) ?_
  refine rd_op (ov_bin rfl rfl i_lss) ?_
  refine rd_nil ?_
  refine pn_seq ?_
  refine rc_cond rfl (fun hc102 => ?_) (fun hc102 => ?_)
  ·exfalso
   try simp only [qa1, qa2, qa3, qa4, qa5, qa6, qa7, qa8, qa9, qaA, qaB, qaC, qaD] at hc102
   omega
  ·have hend := hres
   have hc102' := hc102
   try simp only [qa1, qa2, qa3, qa4, qa5, qa6, qa7, qa8, qa9, qaA, qaB, qaC, qaD] at hc102'
   refine rc_exit ?_
   refine px_seq ?_
   refine px_again ?_
   exact px_weak ((sub_cons rfl (sub_cons rfl (sub_nil _)))) (hK0  hres)
 | succ m ih =>
  intro x5_ hm1 hlo1 hres
  rw [ref17_actions_L1] at hres
  refine rc_loop ?_
  unfold ac51_L1
  refine rc_seq ?_
  refine rc_seq ?_
  refine rc_region ?_
  refine rd_op (ov_move rfl) ?_
  obtain ⟨v103, e103, r103⟩ := api_Table.g_Actions r1
  refine rd_op (ov_faddr rfl e103) ?_
  refine rd_op (ov_load rfl (TR.cnt (tSl tI) r103) (TR.agg (tSl tI) r103)) ?_
  refine rd_op (ov_bi rfl (sl_len r103 Try.underlying29 _)) ?_
  refine rd_op (ov_bin rfl rfl i_lss) ?_
  refine rd_nil ?_
  refine pn_seq ?_
  refine rc_cond rfl (fun hc104 => ?_) (fun hc104 => ?_)
  ·have hgo := hres
   have hc104' := hc104
   try simp only [qa1, qa2, qa3, qa4, qa5, qa6, qa7, qa8, qa9, qaA, qaB, qaC, qaD] at hc104'
   refine rc_skip ?_
   refine pn_seq ?_
   refine rc_seq ?_
   refine rc_block ?_
   refine rc_block ?_
   refine rc_seq ?_
   refine rc_region ?_
   obtain ⟨v105, e105, r105⟩ := api_Table.g_Actions r1
   refine rd_op (ov_faddr rfl e105) ?_
   refine rd_op (ov_load rfl (TR.cnt (tSl tI) r105) (TR.agg (tSl tI) r105)) ?_
   refine rd_op (ov_move rfl) ?_
   refine rd_op (ov_iaddr rfl rfl (slI r105 (by first | omega | (have hk := tck (by assumption) (by assumption); omega) | (have hk := rtck (by assumption) (by assumption); omega) | (have hk := eck (by assumption) (by assumption) (by assumption); omega) | (have hk := tv (by assumption) (by assumption); omega) | (have hk := rtv (by assumption) (by assumption); omega)) (by first | omega | (have hk := tck (by assumption) (by assumption); omega) | (have hk := rtck (by assumption) (by assumption); omega) | (have hk := eck (by assumption) (by assumption) (by assumption); omega) | (have hk := tv (by assumption) (by assumption); omega) | (have hk := rtv (by assumption) (by assumption); omega)))) ?_
   refine rd_op (ov_load rfl rfl rfl) ?_
   refine rd_op (ov_bin rfl rfl i_lss) ?_
   refine rd_op (ov_move rfl) ?_
   refine rd_cut (d := 30) (v := vb ((decide ((ix x1.Actions x5_) < 0)) || (decide ((x0.Actions.length : Int) ≤ (ix x1.Actions x5_))))) ?_ ?_
   ·intro S Q r
    simp only [ac51_G1, List.cons_append, List.nil_append, List.append_assoc]
    cases hb106 : (decide ((ix x1.Actions x5_) < 0))
    ·intro k
     have hb106' := hb106
     try simp only [qa1, qa2, qa3, qa4, qa5, qa6, qa7, qa8, qa9, qaA, qaB, qaC, qaD] at hb106'
     obtain ⟨v107, e107, r107⟩ := api_Table.g_Actions r1
     refine rd_yes rfl rfl (ov_faddr rfl e107) ?_
     refine rd_yes rfl rfl (ov_load rfl (TR.cnt (tSl tI) r107) (TR.agg (tSl tI) r107)) ?_
     refine rd_yes rfl rfl (ov_move rfl) ?_
     refine rd_yes rfl rfl (ov_iaddr rfl rfl (slI r107 (by first | omega | (have hk := tck (by assumption) (by assumption); omega) | (have hk := rtck (by assumption) (by assumption); omega) | (have hk := eck (by assumption) (by assumption) (by assumption); omega) | (have hk := tv (by assumption) (by assumption); omega) | (have hk := rtv (by assumption) (by assumption); omega)) (by first | omega | (have hk := tck (by assumption) (by assumption); omega) | (have hk := rtck (by assumption) (by assumption); omega) | (have hk := eck (by assumption) (by assumption) (by assumption); omega) | (have hk := tv (by assumption) (by assumption); omega) | (have hk := rtv (by assumption) (by assumption); omega)))) ?_
     refine rd_yes rfl rfl (ov_load rfl rfl rfl) ?_
     obtain ⟨v108, e108, r108⟩ := api_Program.g_Actions r0
     refine rd_yes rfl rfl (ov_faddr rfl e108) ?_
     refine rd_yes rfl rfl (ov_load rfl (TR.cnt (tSl api_Action.t) r108) (TR.agg (tSl api_Action.t) r108)) ?_
     refine rd_yes rfl rfl (ov_bi rfl (sl_len r108 Try.underlying25 _)) ?_
     refine rd_yes rfl rfl (ov_bin rfl rfl i_geq) ?_
     refine rd_op (v := vb (decide ((x0.Actions.length : Int) ≤ (ix x1.Actions x5_)))) (ov_pick rfl rfl rfl rfl) ?_
     exact rd_weak (sub_cons rfl (sub_skip rfl (sub_skip rfl (sub_skip rfl (sub_skip rfl (sub_skip rfl (sub_skip rfl (sub_skip rfl (sub_skip rfl (sub_skip rfl (sub_skip rfl (sub_refl _)))))))))))) k
    ·intro k
     refine rd_skip rfl rfl ?_
     refine rd_skip rfl rfl ?_
     refine rd_skip rfl rfl ?_
     refine rd_skip rfl rfl ?_
     refine rd_skip rfl rfl ?_
     refine rd_skip rfl rfl ?_
     refine rd_skip rfl rfl ?_
     refine rd_skip rfl rfl ?_
     refine rd_skip rfl rfl ?_
     refine rd_op (v := vb true) (ov_pick rfl rfl rfl rfl) ?_
     exact rd_weak (sub_cons rfl (sub_skip rfl (sub_skip rfl (sub_skip rfl (sub_skip rfl (sub_skip rfl (sub_skip rfl (sub_skip rfl (sub_skip rfl (sub_skip rfl (sub_skip rfl (sub_refl _)))))))))))) k
   refine rd_op (ov_move rfl) ?_
   refine rd_nil ?_
   refine pn_seq ?_
   refine rc_cond rfl (fun hc109 => ?_) (fun hc109 => ?_)
   ·replace hres := (ite_t hc109).symm.trans hres
    have hc109' := hc109
    try simp only [qa1, qa2, qa3, qa4, qa5, qa6, qa7, qa8, qa9, qaA, qaB, qaC, qaD] at hc109'
    refine rc_seq ?_
    refine rc_region ?_
    refine rd_op (v := vi 8) (ov_move rfl) ?_
    refine rd_nil ?_
    refine pn_seq ?_
    subst hres
    exact rc_retV (.tmp rfl .nil) (deep_closed rfl) rfl
   ·replace hres := (ite_f hc109).symm.trans hres
    have hc109' := hc109
    try simp only [qa1, qa2, qa3, qa4, qa5, qa6, qa7, qa8, qa9, qaA, qaB, qaC, qaD] at hc109'
    refine rc_seq ?_
    refine rc_region ?_
    obtain ⟨v110, e110, r110⟩ := api_Table.g_Actions r1
    refine rd_op (ov_faddr rfl e110) ?_
    refine rd_op (ov_load rfl (TR.cnt (tSl tI) r110) (TR.agg (tSl tI) r110)) ?_
    obtain ⟨v111, e111, r111⟩ := api_Table.g_Actions r1
    refine rd_op (ov_faddr rfl e111) ?_
    refine rd_op (ov_load rfl (TR.cnt (tSl tI) r111) (TR.agg (tSl tI) r111)) ?_
    refine rd_op (ov_move rfl) ?_
    refine rd_op (ov_iaddr rfl rfl (slI r111 (by first | omega | (have hk := tck (by assumption) (by assumption); omega) | (have hk := rtck (by assumption) (by assumption); omega) | (have hk := eck (by assumption) (by assumption) (by assumption); omega) | (have hk := tv (by assumption) (by assumption); omega) | (have hk := rtv (by assumption) (by assumption); omega)) (by first | omega | (have hk := tck (by assumption) (by assumption); omega) | (have hk := rtck (by assumption) (by assumption); omega) | (have hk := eck (by assumption) (by assumption) (by assumption); omega) | (have hk := tv (by assumption) (by assumption); omega) | (have hk := rtv (by assumption) (by assumption); omega)))) ?_
    refine rd_op (ov_load rfl rfl rfl) ?_
    obtain ⟨y112, hw112, hres⟩ := let_ex hres
    have f112 := f56_ok (x1 := (ix x1.Actions x5_)) r110 
    rw [hw112] at f112
    refine rd_call (cv_fn rfl rfl (clL_cons (TR.clo (tSl tI) r110) (clL_cons rfl clL_nil)) f112) ?_
    refine rd_op (ov_move rfl) ?_
    refine rd_op (ov_bin rfl rfl i_lss) ?_
    refine rd_op (ov_move rfl) ?_
    refine rd_nil ?_
    refine pn_seq ?_
    refine rc_cond rfl (fun hc113 => ?_) (fun hc113 => ?_)
    ·replace hres := (ite_t hc113).symm.trans hres
     have hc113' := hc113
     try simp only [qa1, qa2, qa3, qa4, qa5, qa6, qa7, qa8, qa9, qaA, qaB, qaC, qaD] at hc113'
     refine rc_seq ?_
     refine rc_region ?_
     refine rd_op (v := vi 7) (ov_move rfl) ?_
     refine rd_nil ?_
     refine pn_seq ?_
     subst hres
     exact rc_retV (.tmp rfl .nil) (deep_closed rfl) rfl
    ·replace hres := (ite_f hc113).symm.trans hres
     have hc113' := hc113
     try simp only [qa1, qa2, qa3, qa4, qa5, qa6, qa7, qa8, qa9, qaA, qaB, qaC, qaD] at hc113'
     refine rc_skip ?_
     refine pn_blk ?_
     refine pn_blk ?_
     refine pn_seq ?_
     refine rc_region ?_
     refine rd_op (ov_move rfl) ?_
     refine rd_op (ov_bin rfl rfl i_add) ?_
     refine rd_op (ov_move rfl) ?_
     refine rd_nil ?_
     refine pn_again ?_
     have hbd := sl_bound r103
     have hinc : wr (x5_ + 1) = x5_ + 1 := wr_of (by omega) (by omega)
     rw [hinc]
     refine rc_weak ?_ (ih (x5_ + 1)  (by omega) (by omega) hres)
     exact ((sub_cons rfl (sub_cons rfl (sub_cons rfl (sub_nil _)))))
  ·exfalso
   try simp only [qa1, qa2, qa3, qa4, qa5, qa6, qa7, qa8, qa9, qaA, qaB, qaC, qaD] at hc104
   omega

theorem f51_ok {x0 : api_Program} {x1 : api_Table} {v0 v1 : PV} (r0 : api_Program.t.R x0 v0) (r1 : api_Table.t.R x1 v1) : FnR Try.prog 51 [v0, v1] (vi (ref17_actions x0 x1)) := by
 obtain ⟨res, hres⟩ : ∃ res, ref17_actions x0 x1 = res := ⟨_, rfl⟩
 suffices H : RC Try.prog ac51 [] (QR Try.prog [(4, none)] (RF51 res)) (argE 0 [v0, v1]) ⟨0, []⟩ by
  obtain ⟨r, h1, h2⟩ := fnE text51 (by simp) H
  rw [hres]
  have h2 : r = vi res := h2
  rw [← h2]; exact h1
 unfold ref17_actions at hres
 unfold ac51
 refine rc_seq ?_
 refine rc_region ?_
 refine rd_op (ov_box rfl (TR.cnt api_Program.t r0)) ?_
 refine rd_op (ov_box rfl (TR.cnt api_Table.t r1)) ?_
 refine rd_op (v := vi 0) (ov_move rfl) ?_
 refine rd_nil ?_
 refine pn_seq ?_
 refine rc_seq ?_
 refine rc_seq ?_
 refine rc_region ?_
 refine rd_op (v := vi 0) (ov_move rfl) ?_
 refine rd_nil ?_
 refine pn_seq ?_
 refine rc_block ?_
 refine rc_weak ?_ (ref17_actions_L1_ok (x0 := x0) (x1 := x1) (v0 := v0) (v1 := v1)  (r0 := r0) (r1 := r1) ?_ (Int.toNat ((x1.Actions.length : Int) - 0)) 0 rfl (by omega) hres)
 ·exact ((sub_cons rfl (sub_cons rfl (sub_cons rfl (sub_nil _)))))
 ·intro  hres
  refine px_blk ?_
  refine pn_seq ?_
  refine rc_seq ?_
  refine rc_seq ?_
  refine rc_region ?_
  obtain ⟨v115, e115, r115⟩ := api_Table.g_Actions r1
  refine rd_op (ov_faddr rfl e115) ?_
  refine rd_op (ov_load rfl (TR.cnt (tSl tI) r115) (TR.agg (tSl tI) r115)) ?_
  obtain ⟨v116, e116, r116⟩ := api_Table.g_Default r1
  refine rd_op (ov_faddr rfl e116) ?_
  refine rd_op (ov_faddr rfl (api_ActionCall.g_Action r116)) ?_
  refine rd_op (ov_load rfl rfl rfl) ?_
  obtain ⟨y117, hw117, hres⟩ := let_ex hres
  have f117 := f56_ok (x1 := x1.Default.Action) r115 
  rw [hw117] at f117
  refine rd_call (cv_fn rfl rfl (clL_cons (TR.clo (tSl tI) r115) (clL_cons rfl clL_nil)) f117) ?_
  refine rd_op (ov_bin rfl rfl i_lss) ?_
  refine rd_nil ?_
  refine pn_seq ?_
  refine rc_cond rfl (fun hc118 => ?_) (fun hc118 => ?_)
  ·replace hres := (ite_t hc118).symm.trans hres
   have hc118' := hc118
   try simp only [qa1, qa2, qa3, qa4, qa5, qa6, qa7, qa8, qa9, qaA, qaB, qaC, qaD] at hc118'
   refine rc_seq ?_
   refine rc_region ?_
   refine rd_op (v := vi 8) (ov_move rfl) ?_
   refine rd_nil ?_
   refine pn_seq ?_
   subst hres
   exact rc_retV (.tmp rfl .nil) (deep_closed rfl) rfl
  ·replace hres := (ite_f hc118).symm.trans hres
   have hc118' := hc118
   try simp only [qa1, qa2, qa3, qa4, qa5, qa6, qa7, qa8, qa9, qaA, qaB, qaC, qaD] at hc118'
   refine rc_skip ?_
   refine pn_seq ?_
   refine rc_seq ?_
   refine rc_region ?_
   refine rd_op (ov_load rfl (TR.cnt api_Program.t r0) (TR.agg api_Program.t r0)) ?_
   obtain ⟨v119, e119, r119⟩ := api_Table.g_Default r1
   refine rd_op (ov_faddr rfl e119) ?_
   refine rd_op (ov_load rfl (TR.cnt api_ActionCall.t r119) (TR.agg api_ActionCall.t r119)) ?_
   obtain ⟨y120, hw120, hres⟩ := let_ex hres
   have f120 := f66_ok  r0 r119 
   rw [hw120] at f120
   refine rd_call (cv_fn rfl rfl (clL_cons (TR.clo api_Program.t r0) (clL_cons (TR.clo api_ActionCall.t r119) clL_nil)) f120) ?_
   refine rd_op (ov_move rfl) ?_
   refine rd_nil ?_
   refine pn_seq ?_
   subst hres
   exact rc_retV (.tmp rfl .nil) (deep_closed rfl) rfl

/-- patchbay/patchbayref17.Check -/
def RF17 (res : Int × Int) (r : PV) : Prop := r = .tup [vi res.1, vi res.2]
theorem f17_ok {x0 : api_Program} {x1 : Int} {v0 : PV} (r0 : api_Program.t.R x0 v0) : FnR Try.prog 17 [v0, vi x1] (.tup [vi ((ref17_Check x0 x1).1), vi ((ref17_Check x0 x1).2)]) := by
 obtain ⟨res, hres⟩ : ∃ res, ref17_Check x0 x1 = res := ⟨_, rfl⟩
 suffices H : RC Try.prog ac17 [] (QR Try.prog [(4, none), (5, none)] (RF17 res)) (argE 0 [v0, vi x1]) ⟨0, []⟩ by
  obtain ⟨r, h1, h2⟩ := fnE text17 (by simp) H
  rw [hres]
  have h2 : r = .tup [vi res.1, vi res.2] := h2
  rw [← h2]; exact h1
 unfold ref17_Check at hres
 unfold ac17
 refine rc_seq ?_
 refine rc_region ?_
 refine rd_op (ov_box rfl (TR.cnt api_Program.t r0)) ?_
 refine rd_op (v := vi 0) (ov_move rfl) ?_
 refine rd_op (v := vi 0) (ov_move rfl) ?_
 refine rd_nil ?_
 refine pn_seq ?_
 refine rc_seq ?_
 refine rc_seq ?_
 refine rc_region ?_
 refine rd_op (ov_move rfl) ?_
 refine rd_op (ov_bin rfl rfl i_lss) ?_
 refine rd_op (ov_move rfl) ?_
 refine rd_cut (d := 17) (v := vb ((decide (x1 < 0)) || (decide ((x0.Tables.length : Int) ≤ x1)))) ?_ ?_
 ·intro S Q r
  simp only [ac17_G1, List.cons_append, List.nil_append, List.append_assoc]
  cases hb101 : (decide (x1 < 0))
  ·intro k
   have hb101' := hb101
   try simp only [qa1, qa2, qa3, qa4, qa5, qa6, qa7, qa8, qa9, qaA, qaB, qaC, qaD] at hb101'
   refine rd_yes rfl rfl (ov_move rfl) ?_
   obtain ⟨v102, e102, r102⟩ := api_Program.g_Tables r0
   refine rd_yes rfl rfl (ov_faddr rfl e102) ?_
   refine rd_yes rfl rfl (ov_load rfl (TR.cnt (tSl api_Table.t) r102) (TR.agg (tSl api_Table.t) r102)) ?_
   refine rd_yes rfl rfl (ov_bi rfl (sl_len r102 Try.underlying26 _)) ?_
   refine rd_yes rfl rfl (ov_bin rfl rfl i_geq) ?_
   refine rd_op (v := vb (decide ((x0.Tables.length : Int) ≤ x1))) (ov_pick rfl rfl rfl rfl) ?_
   exact rd_weak (sub_cons rfl (sub_skip rfl (sub_skip rfl (sub_skip rfl (sub_skip rfl (sub_skip rfl (sub_skip rfl (sub_refl _)))))))) k
  ·intro k
   refine rd_skip rfl rfl ?_
   refine rd_skip rfl rfl ?_
   refine rd_skip rfl rfl ?_
   refine rd_skip rfl rfl ?_
   refine rd_skip rfl rfl ?_
   refine rd_op (v := vb true) (ov_pick rfl rfl rfl rfl) ?_
   exact rd_weak (sub_cons rfl (sub_skip rfl (sub_skip rfl (sub_skip rfl (sub_skip rfl (sub_skip rfl (sub_skip rfl (sub_refl _)))))))) k
 refine rd_nil ?_
 refine pn_seq ?_
 refine rc_cond rfl (fun hc103 => ?_) (fun hc103 => ?_)
 ·replace hres := (ite_t hc103).symm.trans hres
  have hc103' := hc103
  try simp only [qa1, qa2, qa3, qa4, qa5, qa6, qa7, qa8, qa9, qaA, qaB, qaC, qaD] at hc103'
  refine rc_seq ?_
  refine rc_region ?_
  refine rd_op (v := vi (-1)) (ov_move rfl) ?_
  refine rd_op (v := vi 8) (ov_move rfl) ?_
  refine rd_nil ?_
  refine pn_seq ?_
  subst hres
  exact rc_retV (.tmp rfl (.tmp rfl .nil)) (deep_closed (show closed (.tup _) = true from (clL_cons rfl (clL_cons rfl clL_nil)))) rfl
 ·replace hres := (ite_f hc103).symm.trans hres
  have hc103' := hc103
  try simp only [qa1, qa2, qa3, qa4, qa5, qa6, qa7, qa8, qa9, qaA, qaB, qaC, qaD] at hc103'
  refine rc_skip ?_
  refine pn_seq ?_
  refine rc_seq ?_
  refine rc_region ?_
  obtain ⟨v104, e104, r104⟩ := api_Program.g_Tables r0
  refine rd_op (ov_faddr rfl e104) ?_
  refine rd_op (ov_load rfl (TR.cnt (tSl api_Table.t) r104) (TR.agg (tSl api_Table.t) r104)) ?_
  refine rd_op (ov_move rfl) ?_
  obtain ⟨v105, e105, r105⟩ := sl_idx (i := x1) r104 (by first | omega | (have hk := tck (by assumption) (by assumption); omega) | (have hk := rtck (by assumption) (by assumption); omega) | (have hk := eck (by assumption) (by assumption) (by assumption); omega) | (have hk := tv (by assumption) (by assumption); omega) | (have hk := rtv (by assumption) (by assumption); omega)) (by first | omega | (have hk := tck (by assumption) (by assumption); omega) | (have hk := rtck (by assumption) (by assumption); omega) | (have hk := eck (by assumption) (by assumption) (by assumption); omega) | (have hk := tv (by assumption) (by assumption); omega) | (have hk := rtv (by assumption) (by assumption); omega))
  refine rd_op (ov_iaddr rfl rfl e105) ?_
  refine rd_op (ov_load rfl (TR.cnt api_Table.t r105) (TR.agg api_Table.t r105)) ?_
  refine rd_allocO (x := .agg [vs [], nilS, nilS, vi 0, nilS, vi 0]) (Mem.nil ⟨0, []⟩) rfl rfl (fun i106 w106 h106 M106 => ?_)
  refine rd_storeO (k := 0) (v := v105) M106 rfl rfl rfl (TR.cnt api_Table.t r105) (fun h108 M108 => ?_)
  replace M108 : Mem h108 [⟨.op i106 w106 0, 56, 6, [v105]⟩] := M108
  refine rd_nil ?_
  refine pn_seq ?_
  refine rc_seq ?_
  refine rc_block ?_
  refine rc_seq ?_
  refine rc_region ?_
  refine rd_op (ov_faddrO rfl) ?_
  refine rd_op (ov_loadf (k := 0) M108 rfl rfl (api_Table.g_Name r105)) ?_
  obtain ⟨y109, hw109, hres⟩ := let_ex hres
  have f109 := f49_ok (x0 := (ix x0.Tables x1).Name)  
  rw [hw109] at f109
  refine rd_call (cv_fn rfl rfl (clL_cons rfl clL_nil) f109) ?_
  refine rd_op (ov_not rfl) ?_
  refine rd_op (ov_move rfl) ?_
  refine rd_nil ?_
  refine pn_seq ?_
  refine rc_cond rfl (fun hc110 => ?_) (fun hc110 => ?_)
  ·replace hres := (ite_t hc110).symm.trans hres
   have hc110' := hc110
   try simp only [qa1, qa2, qa3, qa4, qa5, qa6, qa7, qa8, qa9, qaA, qaB, qaC, qaD] at hc110'
   refine rc_seq ?_
   refine rc_region ?_
   refine rd_op (v := vi (-1)) (ov_move rfl) ?_
   refine rd_op (v := vi 6) (ov_move rfl) ?_
   refine rd_nil ?_
   refine pn_seq ?_
   subst hres
   exact rc_retV (.tmp rfl (.tmp rfl .nil)) (deep_closed (show closed (.tup _) = true from (clL_cons rfl (clL_cons rfl clL_nil)))) rfl
  ·replace hres := (ite_f hc110).symm.trans hres
   have hc110' := hc110
   try simp only [qa1, qa2, qa3, qa4, qa5, qa6, qa7, qa8, qa9, qaA, qaB, qaC, qaD] at hc110'
   refine rc_seq ?_
   refine rc_region ?_
   refine rd_op (ov_faddrO rfl) ?_
   obtain ⟨v111, e111, r111⟩ := api_Table.g_Keys r105
   refine rd_op (ov_loadf (k := 0) M108 rfl rfl e111) ?_
   refine rd_op (ov_bi rfl (sl_len r111 Try.underlying52 _)) ?_
   refine rd_op (ov_bin rfl rfl i_gtr) ?_
   refine rd_op (ov_move rfl) ?_
   refine rd_cut (d := 38) (v := vb ((decide (6 < (((ix x0.Tables x1).Keys).length : Int))) || (decide (16 < (((ix x0.Tables x1).Actions).length : Int))))) ?_ ?_
   ·intro S Q r
    simp only [ac17_G2, List.cons_append, List.nil_append, List.append_assoc]
    cases hb112 : (decide (6 < (((ix x0.Tables x1).Keys).length : Int)))
    ·intro k
     have hb112' := hb112
     try simp only [qa1, qa2, qa3, qa4, qa5, qa6, qa7, qa8, qa9, qaA, qaB, qaC, qaD] at hb112'
     refine rd_yes rfl rfl (ov_faddrO rfl) ?_
     obtain ⟨v113, e113, r113⟩ := api_Table.g_Actions r105
     refine rd_yes rfl rfl (ov_loadf (k := 0) M108 rfl rfl e113) ?_
     refine rd_yes rfl rfl (ov_bi rfl (sl_len r113 Try.underlying29 _)) ?_
     refine rd_yes rfl rfl (ov_bin rfl rfl i_gtr) ?_
     refine rd_op (v := vb (decide (16 < (((ix x0.Tables x1).Actions).length : Int)))) (ov_pick rfl rfl rfl rfl) ?_
     exact rd_weak (sub_cons rfl (sub_skip rfl (sub_skip rfl (sub_skip rfl (sub_skip rfl (sub_skip rfl (sub_refl _))))))) k
    ·intro k
     refine rd_skip rfl rfl ?_
     refine rd_skip rfl rfl ?_
     refine rd_skip rfl rfl ?_
     refine rd_skip rfl rfl ?_
     refine rd_op (v := vb true) (ov_pick rfl rfl rfl rfl) ?_
     exact rd_weak (sub_cons rfl (sub_skip rfl (sub_skip rfl (sub_skip rfl (sub_skip rfl (sub_skip rfl (sub_refl _))))))) k
   refine rd_op (ov_move rfl) ?_
   refine rd_nil ?_
   refine pn_seq ?_
   refine rc_cond rfl (fun hc114 => ?_) (fun hc114 => ?_)
   ·replace hres := (ite_t hc114).symm.trans hres
    have hc114' := hc114
    try simp only [qa1, qa2, qa3, qa4, qa5, qa6, qa7, qa8, qa9, qaA, qaB, qaC, qaD] at hc114'
    refine rc_seq ?_
    refine rc_region ?_
    refine rd_op (v := vi (-1)) (ov_move rfl) ?_
    refine rd_op (v := vi 12) (ov_move rfl) ?_
    refine rd_nil ?_
    refine pn_seq ?_
    subst hres
    exact rc_retV (.tmp rfl (.tmp rfl .nil)) (deep_closed (show closed (.tup _) = true from (clL_cons rfl (clL_cons rfl clL_nil)))) rfl
   ·replace hres := (ite_f hc114).symm.trans hres
    have hc114' := hc114
    try simp only [qa1, qa2, qa3, qa4, qa5, qa6, qa7, qa8, qa9, qaA, qaB, qaC, qaD] at hc114'
    refine rc_seq ?_
    refine rc_region ?_
    refine rd_op (ov_faddrO rfl) ?_
    refine rd_op (ov_loadf (k := 0) M108 rfl rfl (api_Table.g_Size r105)) ?_
    refine rd_op (ov_bin rfl rfl i_lss) ?_
    refine rd_op (ov_move rfl) ?_
    refine rd_cut (d := 47) (v := vb ((decide (((ix x0.Tables x1).Size) < 1)) || (decide (256 < ((ix x0.Tables x1).Size))))) ?_ ?_
    ·intro S Q r
     simp only [ac17_G3, List.cons_append, List.nil_append, List.append_assoc]
     cases hb115 : (decide (((ix x0.Tables x1).Size) < 1))
     ·intro k
      have hb115' := hb115
      try simp only [qa1, qa2, qa3, qa4, qa5, qa6, qa7, qa8, qa9, qaA, qaB, qaC, qaD] at hb115'
      refine rd_yes rfl rfl (ov_faddrO rfl) ?_
      refine rd_yes rfl rfl (ov_loadf (k := 0) M108 rfl rfl (api_Table.g_Size r105)) ?_
      refine rd_yes rfl rfl (ov_bin rfl rfl i_gtr) ?_
      refine rd_op (v := vb (decide (256 < ((ix x0.Tables x1).Size)))) (ov_pick rfl rfl rfl rfl) ?_
      exact rd_weak (sub_cons rfl (sub_skip rfl (sub_skip rfl (sub_skip rfl (sub_skip rfl (sub_refl _)))))) k
     ·intro k
      refine rd_skip rfl rfl ?_
      refine rd_skip rfl rfl ?_
      refine rd_skip rfl rfl ?_
      refine rd_op (v := vb true) (ov_pick rfl rfl rfl rfl) ?_
      exact rd_weak (sub_cons rfl (sub_skip rfl (sub_skip rfl (sub_skip rfl (sub_skip rfl (sub_refl _)))))) k
    refine rd_op (ov_move rfl) ?_
    refine rd_nil ?_
    refine pn_seq ?_
    refine rc_cond rfl (fun hc116 => ?_) (fun hc116 => ?_)
    ·replace hres := (ite_t hc116).symm.trans hres
     have hc116' := hc116
     try simp only [qa1, qa2, qa3, qa4, qa5, qa6, qa7, qa8, qa9, qaA, qaB, qaC, qaD] at hc116'
     refine rc_seq ?_
     refine rc_region ?_
     refine rd_op (v := vi (-1)) (ov_move rfl) ?_
     refine rd_op (v := vi 9) (ov_move rfl) ?_
     refine rd_nil ?_
     refine pn_seq ?_
     subst hres
     exact rc_retV (.tmp rfl (.tmp rfl .nil)) (deep_closed (show closed (.tup _) = true from (clL_cons rfl (clL_cons rfl clL_nil)))) rfl
    ·replace hres := (ite_f hc116).symm.trans hres
     have hc116' := hc116
     try simp only [qa1, qa2, qa3, qa4, qa5, qa6, qa7, qa8, qa9, qaA, qaB, qaC, qaD] at hc116'
     refine rc_skip ?_
     refine pn_blk ?_
     refine pn_seq ?_
     refine rc_seq ?_
     refine rc_region ?_
     refine rd_op (ov_load rfl (TR.cnt api_Program.t r0) (TR.agg api_Program.t r0)) ?_
     refine rd_op (ov_load0 (k := 0) M108 rfl rfl (TR.agg api_Table.t r105)) ?_
     obtain ⟨y117, hw117, hres⟩ := let_ex hres
     have f117 := f50_ok  r0 r105 
     rw [hw117] at f117
     refine rd_call (cv_fn rfl rfl (clL_cons (TR.clo api_Program.t r0) (clL_cons (TR.clo api_Table.t r105) clL_nil)) f117) ?_
     refine rd_op (ov_move rfl) ?_
     refine rd_op (ov_extract rfl rfl) ?_
     refine rd_op (ov_extract rfl rfl) ?_
     refine rd_op (ov_move rfl) ?_
     refine rd_op (ov_move rfl) ?_
     refine rd_nil ?_
     refine pn_seq ?_
     refine rc_seq ?_
     refine rc_seq ?_
     refine rc_region ?_
     refine rd_op (ov_move rfl) ?_
     refine rd_op (ov_bin rfl rfl i_neq) ?_
     refine rd_nil ?_
     refine pn_seq ?_
     refine rc_cond rfl (fun hc118 => ?_) (fun hc118 => ?_)
     ·replace hres := (ite_t hc118).symm.trans hres
      have hc118' := hc118
      try simp only [qa1, qa2, qa3, qa4, qa5, qa6, qa7, qa8, qa9, qaA, qaB, qaC, qaD] at hc118'
      refine rc_seq ?_
      refine rc_region ?_
      refine rd_op (ov_move rfl) ?_
      refine rd_op (ov_move rfl) ?_
      refine rd_op (ov_move rfl) ?_
      refine rd_op (ov_move rfl) ?_
      refine rd_nil ?_
      refine pn_seq ?_
      subst hres
      exact rc_retV (.tmp rfl (.tmp rfl .nil)) (deep_closed (show closed (.tup _) = true from (clL_cons rfl (clL_cons rfl clL_nil)))) rfl
     ·replace hres := (ite_f hc118).symm.trans hres
      have hc118' := hc118
      try simp only [qa1, qa2, qa3, qa4, qa5, qa6, qa7, qa8, qa9, qaA, qaB, qaC, qaD] at hc118'
      refine rc_skip ?_
      refine pn_seq ?_
      refine rc_seq ?_
      refine rc_region ?_
      refine rd_op (ov_load rfl (TR.cnt api_Program.t r0) (TR.agg api_Program.t r0)) ?_
      refine rd_op (ov_load0 (k := 0) M108 rfl rfl (TR.agg api_Table.t r105)) ?_
      obtain ⟨y119, hw119, hres⟩ := let_ex hres
      have f119 := f51_ok  r0 r105 
      rw [hw119] at f119
      refine rd_call (cv_fn rfl rfl (clL_cons (TR.clo api_Program.t r0) (clL_cons (TR.clo api_Table.t r105) clL_nil)) f119) ?_
      refine rd_op (ov_move rfl) ?_
      refine rd_nil ?_
      refine pn_seq ?_
      refine rc_seq ?_
      refine rc_seq ?_
      refine rc_region ?_
      refine rd_op (ov_move rfl) ?_
      refine rd_op (ov_bin rfl rfl i_neq) ?_
      refine rd_nil ?_
      refine pn_seq ?_
      refine rc_cond rfl (fun hc120 => ?_) (fun hc120 => ?_)
      ·replace hres := (ite_t hc120).symm.trans hres
       have hc120' := hc120
       try simp only [qa1, qa2, qa3, qa4, qa5, qa6, qa7, qa8, qa9, qaA, qaB, qaC, qaD] at hc120'
       refine rc_seq ?_
       refine rc_region ?_
       refine rd_op (ov_move rfl) ?_
       refine rd_op (v := vi (-3)) (ov_move rfl) ?_
       refine rd_op (ov_move rfl) ?_
       refine rd_nil ?_
       refine pn_seq ?_
       subst hres
       exact rc_retV (.tmp rfl (.tmp rfl .nil)) (deep_closed (show closed (.tup _) = true from (clL_cons rfl (clL_cons rfl clL_nil)))) rfl
      ·replace hres := (ite_f hc120).symm.trans hres
       have hc120' := hc120
       try simp only [qa1, qa2, qa3, qa4, qa5, qa6, qa7, qa8, qa9, qaA, qaB, qaC, qaD] at hc120'
       refine rc_skip ?_
       refine pn_seq ?_
       refine rc_seq ?_
       refine rc_region ?_
       refine rd_op (v := vi 0) (ov_move rfl) ?_
       refine rd_op (v := vi 0) (ov_move rfl) ?_
       refine rd_nil ?_
       refine pn_seq ?_
       subst hres
       exact rc_retV (.tmp rfl (.tmp rfl .nil)) (deep_closed (show closed (.tup _) = true from (clL_cons rfl (clL_cons rfl clL_nil)))) rfl

/-- patchbay/patchbayref17.valid -/
def RF53 (res : Bool) (r : PV) : Prop := r = vb res
theorem f53_ok {x0 : api_Program} {x1 : Int} {v0 : PV} (r0 : api_Program.t.R x0 v0) : FnR Try.prog 53 [v0, vi x1] (vb (ref17_valid x0 x1)) := by
 obtain ⟨res, hres⟩ : ∃ res, ref17_valid x0 x1 = res := ⟨_, rfl⟩
 suffices H : RC Try.prog ac53 [] (QR Try.prog [(4, none)] (RF53 res)) (argE 0 [v0, vi x1]) ⟨0, []⟩ by
  obtain ⟨r, h1, h2⟩ := fnE text53 (by simp) H
  rw [hres]
  have h2 : r = vb res := h2
  rw [← h2]; exact h1
 unfold ref17_valid at hres
 unfold ac53
 refine rc_seq ?_
 refine rc_region ?_
 refine rd_op (ov_box rfl (TR.cnt api_Program.t r0)) ?_
 refine rd_op (v := vb false) (ov_move rfl) ?_
 refine rd_nil ?_
 refine pn_seq ?_
 refine rc_seq ?_
 refine rc_region ?_
 refine rd_op (ov_load rfl (TR.cnt api_Program.t r0) (TR.agg api_Program.t r0)) ?_
 refine rd_op (ov_move rfl) ?_
 obtain ⟨y101, hw101, hres⟩ := let_ex hres
 have f101 := f17_ok (x1 := x1) r0 
 rw [hw101] at f101
 refine rd_call (cv_fn rfl rfl (clL_cons (TR.clo api_Program.t r0) (clL_cons rfl clL_nil)) f101) ?_
 refine rd_op (ov_move rfl) ?_
 refine rd_op (ov_extract rfl rfl) ?_
 refine rd_op (ov_extract rfl rfl) ?_
 refine rd_op (ov_move rfl) ?_
 refine rd_op (ov_move rfl) ?_
 refine rd_nil ?_
 refine pn_seq ?_
 refine rc_seq ?_
 refine rc_region ?_
 refine rd_op (ov_move rfl) ?_
 refine rd_op (ov_bin rfl rfl i_eql) ?_
 refine rd_op (ov_move rfl) ?_
 refine rd_nil ?_
 refine pn_seq ?_
 subst hres
 exact rc_retV (.tmp rfl .nil) (deep_closed rfl) rfl

/-- patchbay/patchbayref17.Widths -/
def RF22 (res : (List Int)) (r : PV) : Prop := (tSl tI).R res r
theorem ref17_Widths_L1_ok {S : List Fr} {res : (List Int)} {x0 : api_Program} {x1 : Int} {y101 : Bool} {v0 : PV} (r0 : api_Program.t.R x0 v0) (hw101 : ref17_valid x0 x1 = y101) (hc102 : (!y101) = false) {K0 : (List Int) → (List Int)}
  (hK0 : ∀ (zE104 : List Int) (esE104 : List PV) (aE104 : PV) (qE104 : All2 tI.R zE104 esE104) (nE104 : isL aE104 = true) (wrE104 : Wri aE104 esE104) (hlE104 : zE104.length ≤ 4611686018427387904) (h : Heap) (M0 : Mem h [⟨aE104, 3, 1, esE104⟩]), K0 zE104 = res → PX Try.prog 0 S (QR Try.prog [(4, none)] (RF22 res)) [(5, aE104)] h) :
  ∀ (m : Nat) (x6_ : Int) (zE104 : List Int) (esE104 : List PV) (aE104 : PV) (qE104 : All2 tI.R zE104 esE104) (nE104 : isL aE104 = true) (wrE104 : Wri aE104 esE104) (hlE104 : zE104.length ≤ 4611686018427387904) (hm1 : m = Int.toNat ((((ix x0.Tables x1).Keys).length : Int) - x6_)) (hlo1 : 0 ≤ x6_) (iv1_0 : (zE104.length : Int) ≤ x6_) (h : Heap) (M0 : Mem h [⟨aE104, 3, 1, esE104⟩]), ref17_Widths_L1 x0 x1 K0 m x6_ zE104 = res → RC Try.prog (.loop ac22_L1) S (QR Try.prog [(4, none)] (RF22 res)) [(6, vi x6_), (5, aE104), (2, .fp v0), (1, vi x1)] h := by
 have hc102' := hc102
 try simp only [qa1, qa2, qa3, qa4, qa5, qa6, qa7, qa8, qa9, qaA, qaB, qaC, qaD] at hc102'
 intro m
 induction m with
 | zero =>
  intro x6_ zE104 esE104 aE104 qE104 nE104 wrE104 hlE104 hm1 hlo1 iv1_0 h M0 hres
  rw [ref17_Widths_L1] at hres
  refine rc_loop ?_
  unfold ac22_L1
  refine rc_seq ?_
  refine rc_seq ?_
  refine rc_region ?_
  refine rd_op (ov_move rfl) ?_
  obtain ⟨v105, e105, r105⟩ := api_Program.g_Tables r0
  refine rd_op (ov_faddr rfl e105) ?_
  refine rd_op (ov_load rfl (TR.cnt (tSl api_Table.t) r105) (TR.agg (tSl api_Table.t) r105)) ?_
  refine rd_op (ov_move rfl) ?_
  obtain ⟨v106, e106, r106⟩ := sl_idx (i := x1) r105 (by first | omega | (have hk := tck (by assumption) (by assumption); omega) | (have hk := rtck (by assumption) (by assumption); omega) | (have hk := eck (by assumption) (by assumption) (by assumption); omega) | (have hk := tv (by assumption) (by assumption); omega) | (have hk := rtv (by assumption) (by assumption); omega)) (by first | omega | (have hk := tck (by assumption) (by assumption); omega) | (have hk := rtck (by assumption) (by assumption); omega) | (have hk := eck (by assumption) (by assumption) (by assumption); omega) | (have hk := tv (by assumption) (by assumption); omega) | (have hk := rtv (by assumption) (by assumption); omega))
  refine rd_op (ov_iaddr rfl rfl e106) ?_
  obtain ⟨v107, e107, r107⟩ := api_Table.g_Keys r106
  refine rd_op (ov_faddr rfl e107) ?_
  refine rd_op (ov_load rfl (TR.cnt (tSl api_TableKey.t) r107) (TR.agg (tSl api_TableKey.t) r107)) ?_
  refine rd_op (ov_bi rfl (sl_len r107 Try.underlying52 _)) ?_
  refine rd_op (ov_bin rfl rfl i_lss) ?_
  refine rd_nil ?_
  refine pn_seq ?_
  refine rc_cond rfl (fun hc108 => ?_) (fun hc108 => ?_)
  ·exfalso
   try simp only [qa1, qa2, qa3, qa4, qa5, qa6, qa7, qa8, qa9, qaA, qaB, qaC, qaD] at hc108
   omega
  ·have hend := hres
   have hc108' := hc108
   try simp only [qa1, qa2, qa3, qa4, qa5, qa6, qa7, qa8, qa9, qaA, qaB, qaC, qaD] at hc108'
   refine rc_exit ?_
   refine px_seq ?_
   refine px_again ?_
   exact px_weak ((sub_cons rfl (sub_nil _))) (hK0 zE104 esE104 aE104 qE104 nE104 wrE104 hlE104 _ (Mem.sub M0 (.cons_cons _ .slnil)) hres)
 | succ m ih =>
  intro x6_ zE104 esE104 aE104 qE104 nE104 wrE104 hlE104 hm1 hlo1 iv1_0 h M0 hres
  rw [ref17_Widths_L1] at hres
  refine rc_loop ?_
  unfold ac22_L1
  refine rc_seq ?_
  refine rc_seq ?_
  refine rc_region ?_
  refine rd_op (ov_move rfl) ?_
  obtain ⟨v109, e109, r109⟩ := api_Program.g_Tables r0
  refine rd_op (ov_faddr rfl e109) ?_
  refine rd_op (ov_load rfl (TR.cnt (tSl api_Table.t) r109) (TR.agg (tSl api_Table.t) r109)) ?_
  refine rd_op (ov_move rfl) ?_
  obtain ⟨v110, e110, r110⟩ := sl_idx (i := x1) r109 (by first | omega | (have hk := tck (by assumption) (by assumption); omega) | (have hk := rtck (by assumption) (by assumption); omega) | (have hk := eck (by assumption) (by assumption) (by assumption); omega) | (have hk := tv (by assumption) (by assumption); omega) | (have hk := rtv (by assumption) (by assumption); omega)) (by first | omega | (have hk := tck (by assumption) (by assumption); omega) | (have hk := rtck (by assumption) (by assumption); omega) | (have hk := eck (by assumption) (by assumption) (by assumption); omega) | (have hk := tv (by assumption) (by assumption); omega) | (have hk := rtv (by assumption) (by assumption); omega))
  refine rd_op (ov_iaddr rfl rfl e110) ?_
  obtain ⟨v111, e111, r111⟩ := api_Table.g_Keys r110
  refine rd_op (ov_faddr rfl e111) ?_
  refine rd_op (ov_load rfl (TR.cnt (tSl api_TableKey.t) r111) (TR.agg (tSl api_TableKey.t) r111)) ?_
  refine rd_op (ov_bi rfl (sl_len r111 Try.underlying52 _)) ?_
  refine rd_op (ov_bin rfl rfl i_lss) ?_
  refine rd_nil ?_
  refine pn_seq ?_
  refine rc_cond rfl (fun hc112 => ?_) (fun hc112 => ?_)
  ·have hgo := hres
   have hc112' := hc112
   try simp only [qa1, qa2, qa3, qa4, qa5, qa6, qa7, qa8, qa9, qaA, qaB, qaC, qaD] at hc112'
   refine rc_skip ?_
   refine pn_seq ?_
   refine rc_seq ?_
   refine rc_block ?_
   refine rc_region ?_
   refine rd_op (ov_move rfl) ?_
   refine rd_op (ov_load rfl (TR.cnt api_Program.t r0) (TR.agg api_Program.t r0)) ?_
   obtain ⟨v113, e113, r113⟩ := api_Program.g_Tables r0
   refine rd_op (ov_faddr rfl e113) ?_
   refine rd_op (ov_load rfl (TR.cnt (tSl api_Table.t) r113) (TR.agg (tSl api_Table.t) r113)) ?_
   refine rd_op (ov_move rfl) ?_
   obtain ⟨v114, e114, r114⟩ := sl_idx (i := x1) r113 (by first | omega | (have hk := tck (by assumption) (by assumption); omega) | (have hk := rtck (by assumption) (by assumption); omega) | (have hk := eck (by assumption) (by assumption) (by assumption); omega) | (have hk := tv (by assumption) (by assumption); omega) | (have hk := rtv (by assumption) (by assumption); omega)) (by first | omega | (have hk := tck (by assumption) (by assumption); omega) | (have hk := rtck (by assumption) (by assumption); omega) | (have hk := eck (by assumption) (by assumption) (by assumption); omega) | (have hk := tv (by assumption) (by assumption); omega) | (have hk := rtv (by assumption) (by assumption); omega))
   refine rd_op (ov_iaddr rfl rfl e114) ?_
   obtain ⟨v115, e115, r115⟩ := api_Table.g_Keys r114
   refine rd_op (ov_faddr rfl e115) ?_
   refine rd_op (ov_load rfl (TR.cnt (tSl api_TableKey.t) r115) (TR.agg (tSl api_TableKey.t) r115)) ?_
   refine rd_op (ov_move rfl) ?_
   obtain ⟨v116, e116, r116⟩ := sl_idx (i := x6_) r115 (by first | omega | (have hk := tck (by assumption) (by assumption); omega) | (have hk := rtck (by assumption) (by assumption); omega) | (have hk := eck (by assumption) (by assumption) (by assumption); omega) | (have hk := tv (by assumption) (by assumption); omega) | (have hk := rtv (by assumption) (by assumption); omega)) (by first | omega | (have hk := tck (by assumption) (by assumption); omega) | (have hk := rtck (by assumption) (by assumption); omega) | (have hk := eck (by assumption) (by assumption) (by assumption); omega) | (have hk := tv (by assumption) (by assumption); omega) | (have hk := rtv (by assumption) (by assumption); omega))
   refine rd_op (ov_iaddr rfl rfl e116) ?_
   obtain ⟨v117, e117, r117⟩ := api_TableKey.g_Field r116
   refine rd_op (ov_faddr rfl e117) ?_
   refine rd_op (ov_load rfl (TR.cnt api_FieldRef.t r117) (TR.agg api_FieldRef.t r117)) ?_
   obtain ⟨y118, hw118, hres⟩ := let_ex hres
   have f118 := f55_ok  r0 r117 
   rw [hw118] at f118
   refine rd_call (cv_fn rfl rfl (clL_cons (TR.clo api_Program.t r0) (clL_cons (TR.clo api_FieldRef.t r117) clL_nil)) f118) ?_
   refine rd_op (v := .fs true [vi y118]) (ov_bslice rfl (all_cons rfl all_nil)) ?_
   have r119 : (tSl tI).R ([y118] : List Int) (.fs true [vi y118]) := sl_fs ⟨rfl, trivial⟩ (by simp)
   obtain ⟨nw120, sr120, ar120⟩ := src_of (t := tI) (h := h) r119
   have f120 : fits (esE104.length + nw120.length) 8 = true := by rw [All2.length_eq qE104, All2.length_eq ar120]; (try simp only [List.length_cons, List.length_nil]); exact fits_of (by have hk := rtv (by assumption) (by assumption); omega) (by have hk := rtv (by assumption) (by assumption); omega)
   refine rd_appW (k := 0) (es := esE104) (news := nw120) M0 rfl rfl rfl nE104 wrE104 sr120 f120 (fun a120 h120 n120 wr120 M120 => ?_)
   have q120 : All2 tI.R (zE104 ++ ([y118] : List Int)) (esE104 ++ nw120) := All2.app qE104 ar120
   have hl120 : (zE104 ++ ([y118] : List Int)).length ≤ 4611686018427387904 := by rw [← All2.length_eq q120, List.length_append]; exact fits_len f120
   refine rd_op (ov_move rfl) ?_
   refine rd_nil ?_
   refine pn_blk ?_
   refine pn_seq ?_
   refine rc_region ?_
   refine rd_op (ov_move rfl) ?_
   refine rd_op (ov_bin rfl rfl i_add) ?_
   refine rd_op (ov_move rfl) ?_
   refine rd_nil ?_
   refine pn_again ?_
   have hbd := sl_bound r111
   have hinc : wr (x6_ + 1) = x6_ + 1 := wr_of (by omega) (by omega)
   rw [hinc]
   refine rc_weak ?_ (ih (x6_ + 1) (zE104 ++ ([y118] : List Int)) (esE104 ++ nw120) a120 q120 n120 wr120 hl120 (by omega) (by omega) (by first | omega | (simp; done) | (simp only [List.length_append, List.length_cons, List.length_nil, List.length_set]; omega)) _ (Mem.sub M120 (.cons_cons _ .slnil)) hres)
   exact ((sub_cons rfl (sub_cons rfl (sub_cons rfl (sub_cons rfl (sub_nil _))))))
  ·exfalso
   try simp only [qa1, qa2, qa3, qa4, qa5, qa6, qa7, qa8, qa9, qaA, qaB, qaC, qaD] at hc112
   omega

theorem f22_ok {x0 : api_Program} {x1 : Int} {v0 : PV} (r0 : api_Program.t.R x0 v0) : ∃ r, FnR Try.prog 22 [v0, vi x1] r ∧ (tSl tI).R (ref17_Widths x0 x1) r := by
 obtain ⟨res, hres⟩ : ∃ res, ref17_Widths x0 x1 = res := ⟨_, rfl⟩
 suffices H : RC Try.prog ac22 [] (QR Try.prog [(4, none)] (RF22 res)) (argE 0 [v0, vi x1]) ⟨0, []⟩ by
  rw [hres]
  exact fnE text22 (by simp) H
 unfold ref17_Widths at hres
 unfold ac22
 refine rc_seq ?_
 refine rc_region ?_
 refine rd_op (ov_box rfl (TR.cnt api_Program.t r0)) ?_
 refine rd_op (v := nilS) (ov_move rfl) ?_
 refine rd_nil ?_
 refine pn_seq ?_
 refine rc_seq ?_
 refine rc_seq ?_
 refine rc_region ?_
 refine rd_op (ov_load rfl (TR.cnt api_Program.t r0) (TR.agg api_Program.t r0)) ?_
 refine rd_op (ov_move rfl) ?_
 obtain ⟨y101, hw101, hres⟩ := let_ex hres
 have f101 := f53_ok (x1 := x1) r0 
 rw [hw101] at f101
 refine rd_call (cv_fn rfl rfl (clL_cons (TR.clo api_Program.t r0) (clL_cons rfl clL_nil)) f101) ?_
 refine rd_op (ov_not rfl) ?_
 refine rd_nil ?_
 refine pn_seq ?_
 refine rc_cond rfl (fun hc102 => ?_) (fun hc102 => ?_)
 ·replace hres := (ite_t hc102).symm.trans hres
  have hc102' := hc102
  try simp only [qa1, qa2, qa3, qa4, qa5, qa6, qa7, qa8, qa9, qaA, qaB, qaC, qaD] at hc102'
  refine rc_seq ?_
  refine rc_region ?_
  refine rd_op (v := nilS) (ov_move rfl) ?_
  refine rd_nil ?_
  refine pn_seq ?_
  subst hres
  exact rc_retV (.tmp rfl .nil) (deep_closed (TR.clo (tSl tI) sl_nil)) sl_nil
 ·replace hres := (ite_f hc102).symm.trans hres
  have hc102' := hc102
  try simp only [qa1, qa2, qa3, qa4, qa5, qa6, qa7, qa8, qa9, qaA, qaB, qaC, qaD] at hc102'
  refine rc_skip ?_
  refine pn_seq ?_
  refine rc_seq ?_
  refine rc_region ?_
  refine rd_op (v := nilS) (ov_move rfl) ?_
  refine rd_nil ?_
  refine pn_seq ?_
  refine rc_seq ?_
  refine rc_seq ?_
  refine rc_region ?_
  refine rd_op (v := vi 0) (ov_move rfl) ?_
  refine rd_nil ?_
  refine pn_seq ?_
  refine rc_block ?_
  have M103 := mem_acc (sz := 1) (es := []) (Mem.nil ⟨0, []⟩) 3 (.inl ⟨none, rfl, rfl⟩) (by simp)
  refine rc_weak ?_ (ref17_Widths_L1_ok (x0 := x0) (x1 := x1) (y101 := y101) (v0 := v0)  (r0 := r0) (hw101 := hw101) (hc102 := hc102) ?_ (Int.toNat ((((ix x0.Tables x1).Keys).length : Int) - 0)) 0 ([] : List Int) ([] : List PV) nilS (show All2 tI.R ([] : List Int) [] from trivial) rfl (.inl rfl) (by decide) rfl (by omega) (by first | omega | (simp; done) | (simp only [List.length_append, List.length_cons, List.length_nil, List.length_set]; omega)) _ (Mem.sub M103 (.cons_cons _ .slnil)) hres)
  ·exact ((sub_cons rfl (sub_cons rfl (sub_cons rfl (sub_cons rfl (sub_nil _))))))
  ·intro zE104_121 es121E104 a121E104 q121E104 n121E104 wr121E104 hl121E104 h121 M121 hres
   refine px_blk ?_
   refine pn_seq ?_
   refine rc_seq ?_
   refine rc_region ?_
   refine rd_op (ov_move rfl) ?_
   refine rd_op (ov_move rfl) ?_
   refine rd_nil ?_
   refine pn_seq ?_
   obtain ⟨v122, d122, r122⟩ := own_sl (P := Try.prog) (k := 0) (t := tI) M121 rfl n121E104 q121E104 (Nat.le_trans hl121E104 (by decide))
   subst hres
   exact rc_retV (.tmp rfl .nil) d122 r122

end Go.Proofs.Ytklfdkbemkommaa
