/-
 The code of each function does what its plain program says.
-/
import Derived.Test.YtklfdkbemkommaaL8W4
set_option linter.unusedVariables false
set_option linter.unusedSimpArgs false
set_option maxRecDepth 100000
namespace Go.Proofs.Ytklfdkbemkommaa
open Go Go.Pb Go.RowKit
/-- patchbay/entry.SameKey -/
def RF40 (res : Bool) (r : PV) : Prop := r = vb res
theorem entry_SameKey_L1_ok {S : List Fr} {res : Bool} {x0 : api_Entry} {x1 : api_Entry} {v1 : PV} {v105 : PV} (r1 : api_Entry.t.R x1 v1) (hc104 : ((!decide (x0.Priority = x1.Priority)) || (!decide ((x0.Keys.length : Int) = (x1.Keys.length : Int)))) = false) (r105 : (tSl api_KeyMatch.t).R x0.Keys v105) {K0 : Unit → Bool}
  (hK0 : ∀ (h : Heap) (M0 : Mem h []), K0 () = res → PX Try.prog 0 S (QR Try.prog [(4, none)] (RF40 res)) [] h) :
  ∀ (m : Nat) (x24_ : Int) (hm1 : m = Int.toNat ((x0.Keys.length : Int) - x24_)) (hlo1 : 0 ≤ x24_) (h : Heap) (M0 : Mem h []), entry_SameKey_L1 x0 x1 K0 m x24_ = res → RC Try.prog (.loop ac40_L1) S (QR Try.prog [(4, none)] (RF40 res)) [(24, vi x24_), (23, vi (x0.Keys.length : Int)), (22, v105), (3, .fp v1)] h := by
 have hc104' := hc104
 try simp only [qa1, qa2, qa3, qa4, qa5, qa6, qa7, qa8, qa9, qaA, qaB, qaC, qaD] at hc104'
 intro m
 induction m with
 | zero =>
  intro x24_ hm1 hlo1 h M0 hres
  rw [entry_SameKey_L1] at hres
  refine rc_loop ?_
  unfold ac40_L1
  refine rc_seq ?_
  refine rc_region ?_
  refine rd_op (ov_bin rfl rfl i_lss) ?_
  refine rd_nil ?_
  refine pn_seq ?_
  refine rc_seq ?_
  refine rc_cond rfl (fun hc106 => ?_) (fun hc106 => ?_)
  ·exfalso
   try simp only [qa1, qa2, qa3, qa4, qa5, qa6, qa7, qa8, qa9, qaA, qaB, qaC, qaD] at hc106
   omega
  ·have hend := hres
   have hc106' := hc106
   try simp only [qa1, qa2, qa3, qa4, qa5, qa6, qa7, qa8, qa9, qaA, qaB, qaC, qaD] at hc106'
   refine rc_exit ?_
   refine px_seq ?_
   refine px_again ?_
   exact px_weak ((sub_nil _)) (hK0 _ (Mem.sub M0 .slnil) hres)
 | succ m ih =>
  intro x24_ hm1 hlo1 h M0 hres
  rw [entry_SameKey_L1] at hres
  refine rc_loop ?_
  unfold ac40_L1
  refine rc_seq ?_
  refine rc_region ?_
  refine rd_op (ov_bin rfl rfl i_lss) ?_
  refine rd_nil ?_
  refine pn_seq ?_
  refine rc_seq ?_
  refine rc_cond rfl (fun hc107 => ?_) (fun hc107 => ?_)
  ·have hgo := hres
   have hc107' := hc107
   try simp only [qa1, qa2, qa3, qa4, qa5, qa6, qa7, qa8, qa9, qaA, qaB, qaC, qaD] at hc107'
   refine rc_skip ?_
   refine pn_seq ?_
   refine rc_seq ?_
   refine rc_block ?_
   refine rc_seq ?_
   refine rc_region ?_
   refine rd_op (ov_move rfl) ?_
   obtain ⟨v108, e108, r108⟩ := sl_idx (i := x24_) r105 (by first | omega | (have hk := tck (by assumption) (by assumption); omega) | (have hk := rtck (by assumption) (by assumption); omega) | (have hk := eck (by assumption) (by assumption) (by assumption); omega) | (have hk := tv (by assumption) (by assumption); omega) | (have hk := rtv (by assumption) (by assumption); omega)) (by first | omega | (have hk := tck (by assumption) (by assumption); omega) | (have hk := rtck (by assumption) (by assumption); omega) | (have hk := eck (by assumption) (by assumption) (by assumption); omega) | (have hk := tv (by assumption) (by assumption); omega) | (have hk := rtv (by assumption) (by assumption); omega))
   refine rd_op (ov_iaddr rfl rfl e108) ?_
   refine rd_op (ov_load rfl (TR.cnt api_KeyMatch.t r108) (TR.agg api_KeyMatch.t r108)) ?_
   refine rd_allocO (x := .agg [vu32 0#32, vu32 0#32]) M0 rfl rfl (fun i109 w109 h109 M109 => ?_)
   refine rd_op (ov_move rfl) ?_
   refine rd_storeO (k := 0) (v := v108) M109 rfl rfl rfl (TR.cnt api_KeyMatch.t r108) (fun h111 M111 => ?_)
   replace M111 : Mem h111 [⟨.op i109 w109 0, 85, 2, [v108]⟩] := M111
   refine rd_nil ?_
   refine pn_seq ?_
   refine rc_seq ?_
   refine rc_region ?_
   refine rd_op (ov_load0 (k := 0) M111 rfl rfl (TR.agg api_KeyMatch.t r108)) ?_
   obtain ⟨v112, e112, r112⟩ := api_Entry.g_Keys r1
   refine rd_op (ov_faddr rfl e112) ?_
   refine rd_op (ov_load rfl (TR.cnt (tSl api_KeyMatch.t) r112) (TR.agg (tSl api_KeyMatch.t) r112)) ?_
   refine rd_op (ov_move rfl) ?_
   obtain ⟨v113, e113, r113⟩ := sl_idx (i := x24_) r112 (by first | omega | (have hk := tck (by assumption) (by assumption); omega) | (have hk := rtck (by assumption) (by assumption); omega) | (have hk := eck (by assumption) (by assumption) (by assumption); omega) | (have hk := tv (by assumption) (by assumption); omega) | (have hk := rtv (by assumption) (by assumption); omega)) (by first | omega | (have hk := tck (by assumption) (by assumption); omega) | (have hk := rtck (by assumption) (by assumption); omega) | (have hk := eck (by assumption) (by assumption) (by assumption); omega) | (have hk := tv (by assumption) (by assumption); omega) | (have hk := rtv (by assumption) (by assumption); omega))
   refine rd_op (ov_iaddr rfl rfl e113) ?_
   refine rd_op (ov_load rfl (TR.cnt api_KeyMatch.t r113) (TR.agg api_KeyMatch.t r113)) ?_
   refine rd_op (ov_bin rfl rfl (api_KeyMatch.neq_85 r108 r113)) ?_
   refine rd_nil ?_
   refine pn_seq ?_
   refine rc_cond rfl (fun hc114 => ?_) (fun hc114 => ?_)
   ·replace hres := (ite_t hc114).symm.trans hres
    have hc114' := hc114
    try simp only [qa1, qa2, qa3, qa4, qa5, qa6, qa7, qa8, qa9, qaA, qaB, qaC, qaD] at hc114'
    refine rc_seq ?_
    refine rc_region ?_
    refine rd_op (v := vb false) (ov_move rfl) ?_
    refine rd_nil ?_
    refine pn_seq ?_
    subst hres
    exact rc_retV (.tmp rfl .nil) (deep_closed rfl) rfl
   ·replace hres := (ite_f hc114).symm.trans hres
    have hc114' := hc114
    try simp only [qa1, qa2, qa3, qa4, qa5, qa6, qa7, qa8, qa9, qaA, qaB, qaC, qaD] at hc114'
    refine rc_skip ?_
    refine pn_blk ?_
    refine pn_seq ?_
    refine rc_region ?_
    refine rd_op (ov_bin rfl rfl i_add) ?_
    refine rd_op (ov_move rfl) ?_
    refine rd_nil ?_
    refine pn_again ?_
    have hbd := sl_bound r105
    have hinc : wr (x24_ + 1) = x24_ + 1 := wr_of (by omega) (by omega)
    rw [hinc]
    refine rc_weak ?_ (ih (x24_ + 1)  (by omega) (by omega) _ (Mem.sub M111 (.cons _ .slnil)) hres)
    exact ((sub_cons rfl (sub_cons rfl (sub_cons rfl (sub_cons rfl (sub_nil _))))))
  ·exfalso
   try simp only [qa1, qa2, qa3, qa4, qa5, qa6, qa7, qa8, qa9, qaA, qaB, qaC, qaD] at hc107
   omega

theorem f40_ok {x0 : api_Entry} {x1 : api_Entry} {v0 v1 : PV} (r0 : api_Entry.t.R x0 v0) (r1 : api_Entry.t.R x1 v1) : FnR Try.prog 40 [v0, v1] (vb (entry_SameKey x0 x1)) := by
 obtain ⟨res, hres⟩ : ∃ res, entry_SameKey x0 x1 = res := ⟨_, rfl⟩
 suffices H : RC Try.prog ac40 [] (QR Try.prog [(4, none)] (RF40 res)) (argE 0 [v0, v1]) ⟨0, []⟩ by
  obtain ⟨r, h1, h2⟩ := fnE text40 (by simp) H
  rw [hres]
  have h2 : r = vb res := h2
  rw [← h2]; exact h1
 unfold entry_SameKey at hres
 unfold ac40
 refine rc_seq ?_
 refine rc_region ?_
 refine rd_op (ov_box rfl (TR.cnt api_Entry.t r0)) ?_
 refine rd_op (ov_box rfl (TR.cnt api_Entry.t r1)) ?_
 refine rd_op (v := vb false) (ov_move rfl) ?_
 refine rd_nil ?_
 refine pn_seq ?_
 refine rc_seq ?_
 refine rc_seq ?_
 refine rc_region ?_
 refine rd_op (ov_faddr rfl (api_Entry.g_Priority r0)) ?_
 refine rd_op (ov_load rfl rfl rfl) ?_
 refine rd_op (ov_faddr rfl (api_Entry.g_Priority r1)) ?_
 refine rd_op (ov_load rfl rfl rfl) ?_
 refine rd_op (ov_bin rfl rfl i_neq) ?_
 refine rd_op (ov_move rfl) ?_
 refine rd_cut (d := 20) (v := vb ((!decide (x0.Priority = x1.Priority)) || (!decide ((x0.Keys.length : Int) = (x1.Keys.length : Int))))) ?_ ?_
 ·intro S Q r
  simp only [ac40_G1, List.cons_append, List.nil_append, List.append_assoc]
  cases hb101 : (!decide (x0.Priority = x1.Priority))
  ·intro k
   have hb101' := hb101
   try simp only [qa1, qa2, qa3, qa4, qa5, qa6, qa7, qa8, qa9, qaA, qaB, qaC, qaD] at hb101'
   obtain ⟨v102, e102, r102⟩ := api_Entry.g_Keys r0
   refine rd_yes rfl rfl (ov_faddr rfl e102) ?_
   refine rd_yes rfl rfl (ov_load rfl (TR.cnt (tSl api_KeyMatch.t) r102) (TR.agg (tSl api_KeyMatch.t) r102)) ?_
   refine rd_yes rfl rfl (ov_bi rfl (sl_len r102 Try.underlying67 _)) ?_
   obtain ⟨v103, e103, r103⟩ := api_Entry.g_Keys r1
   refine rd_yes rfl rfl (ov_faddr rfl e103) ?_
   refine rd_yes rfl rfl (ov_load rfl (TR.cnt (tSl api_KeyMatch.t) r103) (TR.agg (tSl api_KeyMatch.t) r103)) ?_
   refine rd_yes rfl rfl (ov_bi rfl (sl_len r103 Try.underlying67 _)) ?_
   refine rd_yes rfl rfl (ov_bin rfl rfl i_neq) ?_
   refine rd_op (v := vb (!decide ((x0.Keys.length : Int) = (x1.Keys.length : Int)))) (ov_pick rfl rfl rfl rfl) ?_
   exact rd_weak (sub_cons rfl (sub_skip rfl (sub_skip rfl (sub_skip rfl (sub_skip rfl (sub_skip rfl (sub_skip rfl (sub_skip rfl (sub_skip rfl (sub_refl _)))))))))) k
  ·intro k
   refine rd_skip rfl rfl ?_
   refine rd_skip rfl rfl ?_
   refine rd_skip rfl rfl ?_
   refine rd_skip rfl rfl ?_
   refine rd_skip rfl rfl ?_
   refine rd_skip rfl rfl ?_
   refine rd_skip rfl rfl ?_
   refine rd_op (v := vb true) (ov_pick rfl rfl rfl rfl) ?_
   exact rd_weak (sub_cons rfl (sub_skip rfl (sub_skip rfl (sub_skip rfl (sub_skip rfl (sub_skip rfl (sub_skip rfl (sub_skip rfl (sub_skip rfl (sub_refl _)))))))))) k
 refine rd_nil ?_
 refine pn_seq ?_
 refine rc_cond rfl (fun hc104 => ?_) (fun hc104 => ?_)
 ·replace hres := (ite_t hc104).symm.trans hres
  have hc104' := hc104
  try simp only [qa1, qa2, qa3, qa4, qa5, qa6, qa7, qa8, qa9, qaA, qaB, qaC, qaD] at hc104'
  refine rc_seq ?_
  refine rc_region ?_
  refine rd_op (v := vb false) (ov_move rfl) ?_
  refine rd_nil ?_
  refine pn_seq ?_
  subst hres
  exact rc_retV (.tmp rfl .nil) (deep_closed rfl) rfl
 ·replace hres := (ite_f hc104).symm.trans hres
  have hc104' := hc104
  try simp only [qa1, qa2, qa3, qa4, qa5, qa6, qa7, qa8, qa9, qaA, qaB, qaC, qaD] at hc104'
  refine rc_skip ?_
  refine pn_seq ?_
  refine rc_seq ?_
  refine rc_seq ?_
  refine rc_region ?_
  obtain ⟨v105, e105, r105⟩ := api_Entry.g_Keys r0
  refine rd_op (ov_faddr rfl e105) ?_
  refine rd_op (ov_load rfl (TR.cnt (tSl api_KeyMatch.t) r105) (TR.agg (tSl api_KeyMatch.t) r105)) ?_
  refine rd_op (ov_bi rfl (sl_len r105 Try.underlying67 _)) ?_
  refine rd_op (v := vi 0) (ov_move rfl) ?_
  refine rd_nil ?_
  refine pn_seq ?_
  refine rc_block ?_
  refine rc_weak ?_ (entry_SameKey_L1_ok (x0 := x0) (x1 := x1) (v1 := v1) (v105 := v105)  (r1 := r1) (hc104 := hc104) (r105 := r105) ?_ (Int.toNat ((x0.Keys.length : Int) - 0)) 0 rfl (by omega) _ (Mem.sub (Mem.nil ⟨0, []⟩) .slnil) hres)
  ·exact ((sub_cons rfl (sub_cons rfl (sub_cons rfl (sub_cons rfl (sub_nil _))))))
  ·intro h115 M115 hres
   refine px_blk ?_
   refine pn_seq ?_
   refine rc_seq ?_
   refine rc_region ?_
   refine rd_op (v := vb true) (ov_move rfl) ?_
   refine rd_nil ?_
   refine pn_seq ?_
   subst hres
   exact rc_retV (.tmp rfl .nil) (deep_closed rfl) rfl

/-- patchbay/entry.equal[uint32] -/
def RF69 (res : Bool) (r : PV) : Prop := r = vb res
theorem entry_equal_uint32_L1_ok {S : List Fr} {res : Bool} {x0 : List (BitVec 32)} {x1 : List (BitVec 32)} {v0 : PV} {v1 : PV} (r0 : (tSl tU32).R x0 v0) (r1 : (tSl tU32).R x1 v1) (hc101 : (!decide ((x0.length : Int) = (x1.length : Int))) = false) {K0 : Unit → Bool}
  (hK0 : K0 () = res → PX Try.prog 0 S (QR Try.prog [(4, none)] (RF69 res)) [] ⟨0, []⟩) :
  ∀ (m : Nat) (x14_ : Int) (hm1 : m = Int.toNat ((x0.length : Int) - x14_)) (hlo1 : 0 ≤ x14_), entry_equal_uint32_L1 x0 x1 K0 m x14_ = res → RC Try.prog (.loop ac69_L1) S (QR Try.prog [(4, none)] (RF69 res)) [(14, vi x14_), (13, vi (x0.length : Int)), (12, v0), (1, v1)] ⟨0, []⟩ := by
 have hc101' := hc101
 try simp only [qa1, qa2, qa3, qa4, qa5, qa6, qa7, qa8, qa9, qaA, qaB, qaC, qaD] at hc101'
 intro m
 induction m with
 | zero =>
  intro x14_ hm1 hlo1 hres
  rw [entry_equal_uint32_L1] at hres
  refine rc_loop ?_
  unfold ac69_L1
  refine rc_seq ?_
  refine rc_region ?_
  refine rd_op (ov_bin rfl rfl i_lss) ?_
  refine rd_nil ?_
  refine pn_seq ?_
  refine rc_seq ?_
  refine rc_cond rfl (fun hc102 => ?_) (fun hc102 => ?_)
  ·exfalso
   try simp only [qa1, qa2, qa3, qa4, qa5, qa6, qa7, qa8, qa9, qaA, qaB, qaC, qaD] at hc102
   omega
  ·have hend := hres
   have hc102' := hc102
   try simp only [qa1, qa2, qa3, qa4, qa5, qa6, qa7, qa8, qa9, qaA, qaB, qaC, qaD] at hc102'
   refine rc_exit ?_
   refine px_seq ?_
   refine px_again ?_
   exact px_weak ((sub_nil _)) (hK0  hres)
 | succ m ih =>
  intro x14_ hm1 hlo1 hres
  rw [entry_equal_uint32_L1] at hres
  refine rc_loop ?_
  unfold ac69_L1
  refine rc_seq ?_
  refine rc_region ?_
  refine rd_op (ov_bin rfl rfl i_lss) ?_
  refine rd_nil ?_
  refine pn_seq ?_
  refine rc_seq ?_
  refine rc_cond rfl (fun hc103 => ?_) (fun hc103 => ?_)
  ·have hgo := hres
   have hc103' := hc103
   try simp only [qa1, qa2, qa3, qa4, qa5, qa6, qa7, qa8, qa9, qaA, qaB, qaC, qaD] at hc103'
   refine rc_skip ?_
   refine pn_seq ?_
   refine rc_seq ?_
   refine rc_block ?_
   refine rc_seq ?_
   refine rc_region ?_
   refine rd_op (ov_move rfl) ?_
   refine rd_op (ov_iaddr rfl rfl (slU32 r0 (by first | omega | (have hk := tck (by assumption) (by assumption); omega) | (have hk := rtck (by assumption) (by assumption); omega) | (have hk := eck (by assumption) (by assumption) (by assumption); omega) | (have hk := tv (by assumption) (by assumption); omega) | (have hk := rtv (by assumption) (by assumption); omega)) (by first | omega | (have hk := tck (by assumption) (by assumption); omega) | (have hk := rtck (by assumption) (by assumption); omega) | (have hk := eck (by assumption) (by assumption) (by assumption); omega) | (have hk := tv (by assumption) (by assumption); omega) | (have hk := rtv (by assumption) (by assumption); omega)))) ?_
   refine rd_op (ov_load rfl rfl rfl) ?_
   refine rd_op (ov_move rfl) ?_
   refine rd_op (ov_move rfl) ?_
   refine rd_nil ?_
   refine pn_seq ?_
   refine rc_seq ?_
   refine rc_region ?_
   refine rd_op (ov_move rfl) ?_
   refine rd_op (ov_move rfl) ?_
   refine rd_op (ov_move rfl) ?_
   refine rd_op (ov_iaddr rfl rfl (slU32 r1 (by first | omega | (have hk := tck (by assumption) (by assumption); omega) | (have hk := rtck (by assumption) (by assumption); omega) | (have hk := eck (by assumption) (by assumption) (by assumption); omega) | (have hk := tv (by assumption) (by assumption); omega) | (have hk := rtv (by assumption) (by assumption); omega)) (by first | omega | (have hk := tck (by assumption) (by assumption); omega) | (have hk := rtck (by assumption) (by assumption); omega) | (have hk := eck (by assumption) (by assumption) (by assumption); omega) | (have hk := tv (by assumption) (by assumption); omega) | (have hk := rtv (by assumption) (by assumption); omega)))) ?_
   refine rd_op (ov_load rfl rfl rfl) ?_
   refine rd_op (ov_bin (a := vu32 (ix x0 x14_)) (b := vu32 (ix x1 x14_)) rfl rfl w_neq) ?_
   refine rd_nil ?_
   refine pn_seq ?_
   refine rc_cond rfl (fun hc104 => ?_) (fun hc104 => ?_)
   ·replace hres := (ite_t hc104).symm.trans hres
    have hc104' := hc104
    try simp only [qa1, qa2, qa3, qa4, qa5, qa6, qa7, qa8, qa9, qaA, qaB, qaC, qaD] at hc104'
    refine rc_seq ?_
    refine rc_region ?_
    refine rd_op (v := vb false) (ov_move rfl) ?_
    refine rd_nil ?_
    refine pn_seq ?_
    subst hres
    exact rc_retV (.tmp rfl .nil) (deep_closed rfl) rfl
   ·replace hres := (ite_f hc104).symm.trans hres
    have hc104' := hc104
    try simp only [qa1, qa2, qa3, qa4, qa5, qa6, qa7, qa8, qa9, qaA, qaB, qaC, qaD] at hc104'
    refine rc_skip ?_
    refine pn_blk ?_
    refine pn_seq ?_
    refine rc_region ?_
    refine rd_op (ov_bin rfl rfl i_add) ?_
    refine rd_op (ov_move rfl) ?_
    refine rd_nil ?_
    refine pn_again ?_
    have hbd := sl_bound r0
    have hinc : wr (x14_ + 1) = x14_ + 1 := wr_of (by omega) (by omega)
    rw [hinc]
    refine rc_weak ?_ (ih (x14_ + 1)  (by omega) (by omega) hres)
    exact ((sub_cons rfl (sub_cons rfl (sub_cons rfl (sub_cons rfl (sub_nil _))))))
  ·exfalso
   try simp only [qa1, qa2, qa3, qa4, qa5, qa6, qa7, qa8, qa9, qaA, qaB, qaC, qaD] at hc103
   omega

theorem f69_ok {x0 : List (BitVec 32)} {x1 : List (BitVec 32)} {v0 v1 : PV} (r0 : (tSl tU32).R x0 v0) (r1 : (tSl tU32).R x1 v1) : FnR Try.prog 69 [v0, v1] (vb (entry_equal_uint32 x0 x1)) := by
 obtain ⟨res, hres⟩ : ∃ res, entry_equal_uint32 x0 x1 = res := ⟨_, rfl⟩
 suffices H : RC Try.prog ac69 [] (QR Try.prog [(4, none)] (RF69 res)) (argE 0 [v0, v1]) ⟨0, []⟩ by
  obtain ⟨r, h1, h2⟩ := fnE text69 (by simp) H
  rw [hres]
  have h2 : r = vb res := h2
  rw [← h2]; exact h1
 unfold entry_equal_uint32 at hres
 unfold ac69
 refine rc_seq ?_
 refine rc_region ?_
 refine rd_op (v := vb false) (ov_move rfl) ?_
 refine rd_nil ?_
 refine pn_seq ?_
 refine rc_seq ?_
 refine rc_seq ?_
 refine rc_region ?_
 refine rd_op (ov_move rfl) ?_
 refine rd_op (ov_bi rfl (sl_len r0 Try.underlying44 _)) ?_
 refine rd_op (ov_move rfl) ?_
 refine rd_op (ov_bi rfl (sl_len r1 Try.underlying44 _)) ?_
 refine rd_op (ov_bin rfl rfl i_neq) ?_
 refine rd_nil ?_
 refine pn_seq ?_
 refine rc_cond rfl (fun hc101 => ?_) (fun hc101 => ?_)
 ·replace hres := (ite_t hc101).symm.trans hres
  have hc101' := hc101
  try simp only [qa1, qa2, qa3, qa4, qa5, qa6, qa7, qa8, qa9, qaA, qaB, qaC, qaD] at hc101'
  refine rc_seq ?_
  refine rc_region ?_
  refine rd_op (v := vb false) (ov_move rfl) ?_
  refine rd_nil ?_
  refine pn_seq ?_
  subst hres
  exact rc_retV (.tmp rfl .nil) (deep_closed rfl) rfl
 ·replace hres := (ite_f hc101).symm.trans hres
  have hc101' := hc101
  try simp only [qa1, qa2, qa3, qa4, qa5, qa6, qa7, qa8, qa9, qaA, qaB, qaC, qaD] at hc101'
  refine rc_skip ?_
  refine pn_seq ?_
  refine rc_seq ?_
  refine rc_seq ?_
  refine rc_region ?_
  refine rd_op (ov_move rfl) ?_
  refine rd_op (ov_bi rfl (sl_len r0 Try.underlying44 _)) ?_
  refine rd_op (v := vi 0) (ov_move rfl) ?_
  refine rd_nil ?_
  refine pn_seq ?_
  refine rc_block ?_
  refine rc_weak ?_ (entry_equal_uint32_L1_ok (x0 := x0) (x1 := x1) (v0 := v0) (v1 := v1)  (r0 := r0) (r1 := r1) (hc101 := hc101) ?_ (Int.toNat ((x0.length : Int) - 0)) 0 rfl (by omega) hres)
  ·exact ((sub_cons rfl (sub_cons rfl (sub_cons rfl (sub_cons rfl (sub_nil _))))))
  ·intro  hres
   refine px_blk ?_
   refine pn_seq ?_
   refine rc_seq ?_
   refine rc_region ?_
   refine rd_op (v := vb true) (ov_move rfl) ?_
   refine rd_nil ?_
   refine pn_seq ?_
   subst hres
   exact rc_retV (.tmp rfl .nil) (deep_closed rfl) rfl

/-- patchbay/entry.Equal -/
def RF42 (res : Bool) (r : PV) : Prop := r = vb res
theorem f42_ok {x0 : api_Entry} {x1 : api_Entry} {v0 v1 : PV} (r0 : api_Entry.t.R x0 v0) (r1 : api_Entry.t.R x1 v1) : FnR Try.prog 42 [v0, v1] (vb (entry_Equal x0 x1)) := by
 obtain ⟨res, hres⟩ : ∃ res, entry_Equal x0 x1 = res := ⟨_, rfl⟩
 suffices H : RC Try.prog ac42 [] (QR Try.prog [(4, none)] (RF42 res)) (argE 0 [v0, v1]) ⟨0, []⟩ by
  obtain ⟨r, h1, h2⟩ := fnE text42 (by simp) H
  rw [hres]
  have h2 : r = vb res := h2
  rw [← h2]; exact h1
 unfold entry_Equal at hres
 unfold ac42
 refine rc_seq ?_
 refine rc_region ?_
 refine rd_op (ov_box rfl (TR.cnt api_Entry.t r0)) ?_
 refine rd_op (ov_box rfl (TR.cnt api_Entry.t r1)) ?_
 refine rd_op (v := vb false) (ov_move rfl) ?_
 refine rd_nil ?_
 refine pn_seq ?_
 refine rc_seq ?_
 refine rc_region ?_
 refine rd_op (ov_load rfl (TR.cnt api_Entry.t r0) (TR.agg api_Entry.t r0)) ?_
 refine rd_op (ov_load rfl (TR.cnt api_Entry.t r1) (TR.agg api_Entry.t r1)) ?_
 obtain ⟨y101, hw101, hres⟩ := let_ex hres
 have f101 := f40_ok  r0 r1 
 rw [hw101] at f101
 refine rd_call (cv_fn rfl rfl (clL_cons (TR.clo api_Entry.t r0) (clL_cons (TR.clo api_Entry.t r1) clL_nil)) f101) ?_
 refine rd_op (ov_move rfl) ?_
 refine rd_cut (d := 16) (v := vb (y101 && (decide (x0.Call.Action = x1.Call.Action)))) ?_ ?_
 ·intro S Q r
  simp only [ac42_G1, List.cons_append, List.nil_append, List.append_assoc]
  cases hb102 : y101
  ·intro k
   refine rd_skip rfl rfl ?_
   refine rd_skip rfl rfl ?_
   refine rd_skip rfl rfl ?_
   refine rd_skip rfl rfl ?_
   refine rd_skip rfl rfl ?_
   refine rd_skip rfl rfl ?_
   refine rd_skip rfl rfl ?_
   refine rd_op (v := vb false) (ov_pick rfl rfl rfl rfl) ?_
   exact rd_weak (sub_cons rfl (sub_skip rfl (sub_skip rfl (sub_skip rfl (sub_skip rfl (sub_skip rfl (sub_skip rfl (sub_skip rfl (sub_skip rfl (sub_refl _)))))))))) k
  ·intro k
   have hb102' := hb102
   try simp only [qa1, qa2, qa3, qa4, qa5, qa6, qa7, qa8, qa9, qaA, qaB, qaC, qaD] at hb102'
   obtain ⟨v103, e103, r103⟩ := api_Entry.g_Call r0
   refine rd_yes rfl rfl (ov_faddr rfl e103) ?_
   refine rd_yes rfl rfl (ov_faddr rfl (api_ActionCall.g_Action r103)) ?_
   refine rd_yes rfl rfl (ov_load rfl rfl rfl) ?_
   obtain ⟨v104, e104, r104⟩ := api_Entry.g_Call r1
   refine rd_yes rfl rfl (ov_faddr rfl e104) ?_
   refine rd_yes rfl rfl (ov_faddr rfl (api_ActionCall.g_Action r104)) ?_
   refine rd_yes rfl rfl (ov_load rfl rfl rfl) ?_
   refine rd_yes rfl rfl (ov_bin rfl rfl i_eql) ?_
   refine rd_op (v := vb (decide (x0.Call.Action = x1.Call.Action))) (ov_pick rfl rfl rfl rfl) ?_
   exact rd_weak (sub_cons rfl (sub_skip rfl (sub_skip rfl (sub_skip rfl (sub_skip rfl (sub_skip rfl (sub_skip rfl (sub_skip rfl (sub_skip rfl (sub_refl _)))))))))) k
 refine rd_op (ov_move rfl) ?_
 refine rd_cut (d := 25) (v := vb ((y101 && (decide (x0.Call.Action = x1.Call.Action))) && (entry_equal_uint32 x0.Call.Args x1.Call.Args))) ?_ ?_
 ·intro S Q r
  simp only [ac42_G2, List.cons_append, List.nil_append, List.append_assoc]
  cases hb105 : (y101 && (decide (x0.Call.Action = x1.Call.Action)))
  ·intro k
   refine rd_skip rfl rfl ?_
   refine rd_skip rfl rfl ?_
   refine rd_skip rfl rfl ?_
   refine rd_skip rfl rfl ?_
   refine rd_skip rfl rfl ?_
   refine rd_skip rfl rfl ?_
   refine rd_skip rfl rfl ?_
   refine rd_op (v := vb false) (ov_pick rfl rfl rfl rfl) ?_
   exact rd_weak (sub_cons rfl (sub_skip rfl (sub_skip rfl (sub_skip rfl (sub_skip rfl (sub_skip rfl (sub_skip rfl (sub_skip rfl (sub_skip rfl (sub_refl _)))))))))) k
  ·intro k
   have hb105' := hb105
   try simp only [qa1, qa2, qa3, qa4, qa5, qa6, qa7, qa8, qa9, qaA, qaB, qaC, qaD] at hb105'
   obtain ⟨v106, e106, r106⟩ := api_Entry.g_Call r0
   refine rd_yes rfl rfl (ov_faddr rfl e106) ?_
   obtain ⟨v107, e107, r107⟩ := api_ActionCall.g_Args r106
   refine rd_yes rfl rfl (ov_faddr rfl e107) ?_
   refine rd_yes rfl rfl (ov_load rfl (TR.cnt (tSl tU32) r107) (TR.agg (tSl tU32) r107)) ?_
   obtain ⟨v108, e108, r108⟩ := api_Entry.g_Call r1
   refine rd_yes rfl rfl (ov_faddr rfl e108) ?_
   obtain ⟨v109, e109, r109⟩ := api_ActionCall.g_Args r108
   refine rd_yes rfl rfl (ov_faddr rfl e109) ?_
   refine rd_yes rfl rfl (ov_load rfl (TR.cnt (tSl tU32) r109) (TR.agg (tSl tU32) r109)) ?_
   have f110 := f69_ok  r107 r109 
   refine rd_ycall rfl rfl (cv_fn rfl rfl (clL_cons (TR.clo (tSl tU32) r107) (clL_cons (TR.clo (tSl tU32) r109) clL_nil)) f110) ?_
   refine rd_op (v := vb (entry_equal_uint32 x0.Call.Args x1.Call.Args)) (ov_pick rfl rfl rfl rfl) ?_
   exact rd_weak (sub_cons rfl (sub_skip rfl (sub_skip rfl (sub_skip rfl (sub_skip rfl (sub_skip rfl (sub_skip rfl (sub_skip rfl (sub_skip rfl (sub_refl _)))))))))) k
 refine rd_op (ov_move rfl) ?_
 refine rd_nil ?_
 refine pn_seq ?_
 subst hres
 exact rc_retV (.tmp rfl .nil) (deep_closed rfl) rfl

/-- patchbay/patchbaylaw23.works -/
def RF33 (res : Bool) (r : PV) : Prop := r = vb res
theorem f33_ok : FnR Try.prog 33 [] (vb law23_works) := by
 obtain ⟨res, hres⟩ : ∃ res, law23_works  = res := ⟨_, rfl⟩
 suffices H : RC Try.prog ac33 [] (QR Try.prog [(0, none)] (RF33 res)) (argE 0 []) ⟨0, []⟩ by
  obtain ⟨r, h1, h2⟩ := fnE text33 (by simp) H
  rw [hres]
  have h2 : r = vb res := h2
  rw [← h2]; exact h1
 unfold law23_works at hres
 unfold ac33
 refine rc_seq ?_
 refine rc_region ?_
 refine rd_op (v := vb false) (ov_move rfl) ?_
 refine rd_nil ?_
 refine pn_seq ?_
 refine rc_seq ?_
 refine rc_region ?_
 obtain ⟨y101, hw101, hres⟩ := let_ex hres
 obtain ⟨v102, f101, r102⟩ := f62_ok (x0 := 2)  
 rw [hw101] at r102
 refine rd_call (cv_fn rfl rfl (clL_cons rfl clL_nil) f101) ?_
 refine rd_allocO (x := .agg [vs [], nilS, nilS, nilS, nilS, nilS, nilS, nilS, nilS]) (Mem.nil ⟨0, []⟩) rfl rfl (fun i103 w103 h103 M103 => ?_)
 refine rd_storeO (k := 0) (v := v102) M103 rfl rfl rfl (TR.cnt api_Program.t r102) (fun h105 M105 => ?_)
 replace M105 : Mem h105 [⟨.op i103 w103 0, 31, 9, [v102]⟩] := M105
 refine rd_nil ?_
 refine pn_seq ?_
 refine rc_seq ?_
 refine rc_region ?_
 refine rd_op (v := .agg [vu32 48#32, vu32 240#32]) (ov_build (cs := [vu32 48#32, vu32 240#32]) rfl rfl) ?_
 refine rd_op (v := .fs true [.agg [vu32 48#32, vu32 240#32]]) (ov_bslice rfl (all_cons rfl all_nil)) ?_
 have r106 : (tSl api_KeyMatch.t).R ([({ Value := 48#32, Mask := 240#32 } : api_KeyMatch)] : List api_KeyMatch) (.fs true [.agg [vu32 48#32, vu32 240#32]]) := sl_fs ⟨rfl, trivial⟩ (by simp)
 refine rd_op (v := .agg [.fs true [.agg [vu32 48#32, vu32 240#32]], vi 0, vi 0, nilS]) (ov_build (cs := [.fs true [.agg [vu32 48#32, vu32 240#32]], vi 0, vi 0, nilS]) rfl (by simp only [buildV, cells_one (TR.cnt (tSl api_KeyMatch.t) r106) (TR.agg (tSl api_KeyMatch.t) r106)]; rfl)) ?_
 refine rd_allocO (x := .agg [nilS, vi 0, vi 0, nilS]) M105 rfl rfl (fun i107 w107 h107 M107 => ?_)
 refine rd_storeO (k := 0) (v := .agg [.fs true [.agg [vu32 48#32, vu32 240#32]], vi 0, vi 0, nilS]) M107 rfl rfl rfl rfl (fun h109 M109 => ?_)
 replace M109 : Mem h109 [⟨.op i107 w107 0, 69, 4, [.agg [.fs true [.agg [vu32 48#32, vu32 240#32]], vi 0, vi 0, nilS]]⟩, ⟨.op i103 w103 0, 31, 9, [v102]⟩] := M109
 refine rd_nil ?_
 refine pn_seq ?_
 refine rc_seq ?_
 refine rc_region ?_
 refine rd_op (v := .agg [vu32 3#32, vu32 15#32]) (ov_build (cs := [vu32 3#32, vu32 15#32]) rfl rfl) ?_
 refine rd_op (v := .fs true [.agg [vu32 3#32, vu32 15#32]]) (ov_bslice rfl (all_cons rfl all_nil)) ?_
 have r110 : (tSl api_KeyMatch.t).R ([({ Value := 3#32, Mask := 15#32 } : api_KeyMatch)] : List api_KeyMatch) (.fs true [.agg [vu32 3#32, vu32 15#32]]) := sl_fs ⟨rfl, trivial⟩ (by simp)
 refine rd_op (v := .agg [.fs true [.agg [vu32 3#32, vu32 15#32]], vi 0, vi 0, nilS]) (ov_build (cs := [.fs true [.agg [vu32 3#32, vu32 15#32]], vi 0, vi 0, nilS]) rfl (by simp only [buildV, cells_one (TR.cnt (tSl api_KeyMatch.t) r110) (TR.agg (tSl api_KeyMatch.t) r110)]; rfl)) ?_
 refine rd_allocO (x := .agg [nilS, vi 0, vi 0, nilS]) M109 rfl rfl (fun i111 w111 h111 M111 => ?_)
 refine rd_storeO (k := 0) (v := .agg [.fs true [.agg [vu32 3#32, vu32 15#32]], vi 0, vi 0, nilS]) M111 rfl rfl rfl rfl (fun h113 M113 => ?_)
 replace M113 : Mem h113 [⟨.op i111 w111 0, 69, 4, [.agg [.fs true [.agg [vu32 3#32, vu32 15#32]], vi 0, vi 0, nilS]]⟩, ⟨.op i107 w107 0, 69, 4, [.agg [.fs true [.agg [vu32 48#32, vu32 240#32]], vi 0, vi 0, nilS]]⟩, ⟨.op i103 w103 0, 31, 9, [v102]⟩] := M113
 refine rd_nil ?_
 refine pn_seq ?_
 refine rc_seq ?_
 refine rc_region ?_
 refine rd_op (v := .agg [vu32 0#32, vu32 0#32]) (ov_build (cs := [vu32 0#32, vu32 0#32]) rfl rfl) ?_
 refine rd_op (v := .fs true [.agg [vu32 0#32, vu32 0#32]]) (ov_bslice rfl (all_cons rfl all_nil)) ?_
 have r114 : (tSl api_KeyMatch.t).R ([({ Value := 0#32, Mask := 0#32 } : api_KeyMatch)] : List api_KeyMatch) (.fs true [.agg [vu32 0#32, vu32 0#32]]) := sl_fs ⟨rfl, trivial⟩ (by simp)
 refine rd_op (v := .agg [.fs true [.agg [vu32 0#32, vu32 0#32]], vi 0, vi 0, nilS]) (ov_build (cs := [.fs true [.agg [vu32 0#32, vu32 0#32]], vi 0, vi 0, nilS]) rfl (by simp only [buildV, cells_one (TR.cnt (tSl api_KeyMatch.t) r114) (TR.agg (tSl api_KeyMatch.t) r114)]; rfl)) ?_
 refine rd_allocO (x := .agg [nilS, vi 0, vi 0, nilS]) M113 rfl rfl (fun i115 w115 h115 M115 => ?_)
 refine rd_storeO (k := 0) (v := .agg [.fs true [.agg [vu32 0#32, vu32 0#32]], vi 0, vi 0, nilS]) M115 rfl rfl rfl rfl (fun h117 M117 => ?_)
 replace M117 : Mem h117 [⟨.op i115 w115 0, 69, 4, [.agg [.fs true [.agg [vu32 0#32, vu32 0#32]], vi 0, vi 0, nilS]]⟩, ⟨.op i111 w111 0, 69, 4, [.agg [.fs true [.agg [vu32 3#32, vu32 15#32]], vi 0, vi 0, nilS]]⟩, ⟨.op i107 w107 0, 69, 4, [.agg [.fs true [.agg [vu32 48#32, vu32 240#32]], vi 0, vi 0, nilS]]⟩, ⟨.op i103 w103 0, 31, 9, [v102]⟩] := M117
 refine rd_nil ?_
 refine pn_seq ?_
 refine rc_seq ?_
 refine rc_region ?_
 refine rd_op (ov_load0 (k := 3) M117 rfl rfl (TR.agg api_Program.t r102)) ?_
 refine rd_op (ov_load0 (k := 2) M117 rfl rfl rfl) ?_
 obtain ⟨y118, hw118, hres⟩ := let_ex hres
 have f118 := f34_ok (x1 := 0) r102 (show api_Entry.t.R ({ Keys := ([({ Value := 48#32, Mask := 240#32 } : api_KeyMatch)] : List api_KeyMatch), Priority := 0, Call := ({ Action := 0, Args := ([] : List (BitVec 32)) } : api_ActionCall) } : api_Entry) (.agg [.fs true [.agg [vu32 48#32, vu32 240#32]], vi 0, vi 0, nilS]) from ⟨(.fs true [.agg [vu32 48#32, vu32 240#32]]), nilS, rfl, r106, sl_nil⟩) 
 rw [hw118] at f118
 refine rd_call (cv_fn rfl rfl (clL_cons (TR.clo api_Program.t r102) (clL_cons rfl (clL_cons (TR.clo api_Entry.t (show api_Entry.t.R ({ Keys := ([({ Value := 48#32, Mask := 240#32 } : api_KeyMatch)] : List api_KeyMatch), Priority := 0, Call := ({ Action := 0, Args := ([] : List (BitVec 32)) } : api_ActionCall) } : api_Entry) (.agg [.fs true [.agg [vu32 48#32, vu32 240#32]], vi 0, vi 0, nilS]) from ⟨(.fs true [.agg [vu32 48#32, vu32 240#32]]), nilS, rfl, r106, sl_nil⟩)) clL_nil))) f118) ?_
 refine rd_op (ov_bin rfl rfl i_eql) ?_
 refine rd_op (ov_move rfl) ?_
 refine rd_cut (d := 24) (v := vb ((decide (y118 = 0)) && (decide ((entry_Check y101 0 ({ Keys := ([({ Value := 3#32, Mask := 15#32 } : api_KeyMatch)] : List api_KeyMatch), Priority := 0, Call := ({ Action := 0, Args := ([] : List (BitVec 32)) } : api_ActionCall) } : api_Entry)) = 11)))) ?_ ?_
 ·intro S Q r
  simp only [ac33_G1, List.cons_append, List.nil_append, List.append_assoc]
  cases hb119 : (decide (y118 = 0))
  ·intro k
   refine rd_skip rfl rfl ?_
   refine rd_skip rfl rfl ?_
   refine rd_skip rfl rfl ?_
   refine rd_skip rfl rfl ?_
   refine rd_op (v := vb false) (ov_pick rfl rfl rfl rfl) ?_
   exact rd_weak (sub_cons rfl (sub_skip rfl (sub_skip rfl (sub_skip rfl (sub_skip rfl (sub_skip rfl (sub_refl _))))))) k
  ·intro k
   have hb119' := hb119
   try simp only [qa1, qa2, qa3, qa4, qa5, qa6, qa7, qa8, qa9, qaA, qaB, qaC, qaD] at hb119'
   refine rd_yes rfl rfl (ov_load0 (k := 3) M117 rfl rfl (TR.agg api_Program.t r102)) ?_
   refine rd_yes rfl rfl (ov_load0 (k := 1) M117 rfl rfl rfl) ?_
   have f120 := f34_ok (x1 := 0) r102 (show api_Entry.t.R ({ Keys := ([({ Value := 3#32, Mask := 15#32 } : api_KeyMatch)] : List api_KeyMatch), Priority := 0, Call := ({ Action := 0, Args := ([] : List (BitVec 32)) } : api_ActionCall) } : api_Entry) (.agg [.fs true [.agg [vu32 3#32, vu32 15#32]], vi 0, vi 0, nilS]) from ⟨(.fs true [.agg [vu32 3#32, vu32 15#32]]), nilS, rfl, r110, sl_nil⟩) 
   refine rd_ycall rfl rfl (cv_fn rfl rfl (clL_cons (TR.clo api_Program.t r102) (clL_cons rfl (clL_cons (TR.clo api_Entry.t (show api_Entry.t.R ({ Keys := ([({ Value := 3#32, Mask := 15#32 } : api_KeyMatch)] : List api_KeyMatch), Priority := 0, Call := ({ Action := 0, Args := ([] : List (BitVec 32)) } : api_ActionCall) } : api_Entry) (.agg [.fs true [.agg [vu32 3#32, vu32 15#32]], vi 0, vi 0, nilS]) from ⟨(.fs true [.agg [vu32 3#32, vu32 15#32]]), nilS, rfl, r110, sl_nil⟩)) clL_nil))) f120) ?_
   refine rd_yes rfl rfl (ov_bin rfl rfl i_eql) ?_
   refine rd_op (v := vb (decide ((entry_Check y101 0 ({ Keys := ([({ Value := 3#32, Mask := 15#32 } : api_KeyMatch)] : List api_KeyMatch), Priority := 0, Call := ({ Action := 0, Args := ([] : List (BitVec 32)) } : api_ActionCall) } : api_Entry)) = 11))) (ov_pick rfl rfl rfl rfl) ?_
   exact rd_weak (sub_cons rfl (sub_skip rfl (sub_skip rfl (sub_skip rfl (sub_skip rfl (sub_skip rfl (sub_refl _))))))) k
 refine rd_op (ov_move rfl) ?_
 refine rd_cut (d := 29) (v := vb (((decide (y118 = 0)) && (decide ((entry_Check y101 0 ({ Keys := ([({ Value := 3#32, Mask := 15#32 } : api_KeyMatch)] : List api_KeyMatch), Priority := 0, Call := ({ Action := 0, Args := ([] : List (BitVec 32)) } : api_ActionCall) } : api_Entry)) = 11))) && (entry_Matches ({ Keys := ([({ Value := 48#32, Mask := 240#32 } : api_KeyMatch)] : List api_KeyMatch), Priority := 0, Call := ({ Action := 0, Args := ([] : List (BitVec 32)) } : api_ActionCall) } : api_Entry) ([53#32] : List (BitVec 32))))) ?_ ?_
 ·intro S Q r
  simp only [ac33_G2, List.cons_append, List.nil_append, List.append_assoc]
  cases hb121 : ((decide (y118 = 0)) && (decide ((entry_Check y101 0 ({ Keys := ([({ Value := 3#32, Mask := 15#32 } : api_KeyMatch)] : List api_KeyMatch), Priority := 0, Call := ({ Action := 0, Args := ([] : List (BitVec 32)) } : api_ActionCall) } : api_Entry)) = 11)))
  ·intro k
   refine rd_skip rfl rfl ?_
   refine rd_skip rfl rfl ?_
   refine rd_skip rfl rfl ?_
   refine rd_op (v := vb false) (ov_pick rfl rfl rfl rfl) ?_
   exact rd_weak (sub_cons rfl (sub_skip rfl (sub_skip rfl (sub_skip rfl (sub_skip rfl (sub_refl _)))))) k
  ·intro k
   have hb121' := hb121
   try simp only [qa1, qa2, qa3, qa4, qa5, qa6, qa7, qa8, qa9, qaA, qaB, qaC, qaD] at hb121'
   refine rd_yes rfl rfl (ov_load0 (k := 2) M117 rfl rfl rfl) ?_
   refine rd_yes (v := .fs true [vu32 53#32]) rfl rfl (ov_bslice rfl (all_cons rfl all_nil)) ?_
   have r122 : (tSl tU32).R ([53#32] : List (BitVec 32)) (.fs true [vu32 53#32]) := sl_fs ⟨rfl, trivial⟩ (by simp)
   have f123 := f36_ok  (show api_Entry.t.R ({ Keys := ([({ Value := 48#32, Mask := 240#32 } : api_KeyMatch)] : List api_KeyMatch), Priority := 0, Call := ({ Action := 0, Args := ([] : List (BitVec 32)) } : api_ActionCall) } : api_Entry) (.agg [.fs true [.agg [vu32 48#32, vu32 240#32]], vi 0, vi 0, nilS]) from ⟨(.fs true [.agg [vu32 48#32, vu32 240#32]]), nilS, rfl, r106, sl_nil⟩) r122 
   refine rd_ycall rfl rfl (cv_fn rfl rfl (clL_cons (TR.clo api_Entry.t (show api_Entry.t.R ({ Keys := ([({ Value := 48#32, Mask := 240#32 } : api_KeyMatch)] : List api_KeyMatch), Priority := 0, Call := ({ Action := 0, Args := ([] : List (BitVec 32)) } : api_ActionCall) } : api_Entry) (.agg [.fs true [.agg [vu32 48#32, vu32 240#32]], vi 0, vi 0, nilS]) from ⟨(.fs true [.agg [vu32 48#32, vu32 240#32]]), nilS, rfl, r106, sl_nil⟩)) (clL_cons (TR.clo (tSl tU32) r122) clL_nil)) f123) ?_
   refine rd_op (v := vb (entry_Matches ({ Keys := ([({ Value := 48#32, Mask := 240#32 } : api_KeyMatch)] : List api_KeyMatch), Priority := 0, Call := ({ Action := 0, Args := ([] : List (BitVec 32)) } : api_ActionCall) } : api_Entry) ([53#32] : List (BitVec 32)))) (ov_pick rfl rfl rfl rfl) ?_
   exact rd_weak (sub_cons rfl (sub_skip rfl (sub_skip rfl (sub_skip rfl (sub_skip rfl (sub_refl _)))))) k
 refine rd_op (ov_move rfl) ?_
 refine rd_cut (d := 35) (v := vb ((((decide (y118 = 0)) && (decide ((entry_Check y101 0 ({ Keys := ([({ Value := 3#32, Mask := 15#32 } : api_KeyMatch)] : List api_KeyMatch), Priority := 0, Call := ({ Action := 0, Args := ([] : List (BitVec 32)) } : api_ActionCall) } : api_Entry)) = 11))) && (entry_Matches ({ Keys := ([({ Value := 48#32, Mask := 240#32 } : api_KeyMatch)] : List api_KeyMatch), Priority := 0, Call := ({ Action := 0, Args := ([] : List (BitVec 32)) } : api_ActionCall) } : api_Entry) ([53#32] : List (BitVec 32)))) && (!(entry_Matches ({ Keys := ([({ Value := 48#32, Mask := 240#32 } : api_KeyMatch)] : List api_KeyMatch), Priority := 0, Call := ({ Action := 0, Args := ([] : List (BitVec 32)) } : api_ActionCall) } : api_Entry) ([69#32] : List (BitVec 32)))))) ?_ ?_
 ·intro S Q r
  simp only [ac33_G3, List.cons_append, List.nil_append, List.append_assoc]
  cases hb124 : (((decide (y118 = 0)) && (decide ((entry_Check y101 0 ({ Keys := ([({ Value := 3#32, Mask := 15#32 } : api_KeyMatch)] : List api_KeyMatch), Priority := 0, Call := ({ Action := 0, Args := ([] : List (BitVec 32)) } : api_ActionCall) } : api_Entry)) = 11))) && (entry_Matches ({ Keys := ([({ Value := 48#32, Mask := 240#32 } : api_KeyMatch)] : List api_KeyMatch), Priority := 0, Call := ({ Action := 0, Args := ([] : List (BitVec 32)) } : api_ActionCall) } : api_Entry) ([53#32] : List (BitVec 32))))
  ·intro k
   refine rd_skip rfl rfl ?_
   refine rd_skip rfl rfl ?_
   refine rd_skip rfl rfl ?_
   refine rd_skip rfl rfl ?_
   refine rd_op (v := vb false) (ov_pick rfl rfl rfl rfl) ?_
   exact rd_weak (sub_cons rfl (sub_skip rfl (sub_skip rfl (sub_skip rfl (sub_skip rfl (sub_skip rfl (sub_refl _))))))) k
  ·intro k
   have hb124' := hb124
   try simp only [qa1, qa2, qa3, qa4, qa5, qa6, qa7, qa8, qa9, qaA, qaB, qaC, qaD] at hb124'
   refine rd_yes rfl rfl (ov_load0 (k := 2) M117 rfl rfl rfl) ?_
   refine rd_yes (v := .fs true [vu32 69#32]) rfl rfl (ov_bslice rfl (all_cons rfl all_nil)) ?_
   have r125 : (tSl tU32).R ([69#32] : List (BitVec 32)) (.fs true [vu32 69#32]) := sl_fs ⟨rfl, trivial⟩ (by simp)
   have f126 := f36_ok  (show api_Entry.t.R ({ Keys := ([({ Value := 48#32, Mask := 240#32 } : api_KeyMatch)] : List api_KeyMatch), Priority := 0, Call := ({ Action := 0, Args := ([] : List (BitVec 32)) } : api_ActionCall) } : api_Entry) (.agg [.fs true [.agg [vu32 48#32, vu32 240#32]], vi 0, vi 0, nilS]) from ⟨(.fs true [.agg [vu32 48#32, vu32 240#32]]), nilS, rfl, r106, sl_nil⟩) r125 
   refine rd_ycall rfl rfl (cv_fn rfl rfl (clL_cons (TR.clo api_Entry.t (show api_Entry.t.R ({ Keys := ([({ Value := 48#32, Mask := 240#32 } : api_KeyMatch)] : List api_KeyMatch), Priority := 0, Call := ({ Action := 0, Args := ([] : List (BitVec 32)) } : api_ActionCall) } : api_Entry) (.agg [.fs true [.agg [vu32 48#32, vu32 240#32]], vi 0, vi 0, nilS]) from ⟨(.fs true [.agg [vu32 48#32, vu32 240#32]]), nilS, rfl, r106, sl_nil⟩)) (clL_cons (TR.clo (tSl tU32) r125) clL_nil)) f126) ?_
   refine rd_yes rfl rfl (ov_not rfl) ?_
   refine rd_op (v := vb (!(entry_Matches ({ Keys := ([({ Value := 48#32, Mask := 240#32 } : api_KeyMatch)] : List api_KeyMatch), Priority := 0, Call := ({ Action := 0, Args := ([] : List (BitVec 32)) } : api_ActionCall) } : api_Entry) ([69#32] : List (BitVec 32))))) (ov_pick rfl rfl rfl rfl) ?_
   exact rd_weak (sub_cons rfl (sub_skip rfl (sub_skip rfl (sub_skip rfl (sub_skip rfl (sub_skip rfl (sub_refl _))))))) k
 refine rd_op (ov_move rfl) ?_
 refine rd_cut (d := 43) (v := vb (((((decide (y118 = 0)) && (decide ((entry_Check y101 0 ({ Keys := ([({ Value := 3#32, Mask := 15#32 } : api_KeyMatch)] : List api_KeyMatch), Priority := 0, Call := ({ Action := 0, Args := ([] : List (BitVec 32)) } : api_ActionCall) } : api_Entry)) = 11))) && (entry_Matches ({ Keys := ([({ Value := 48#32, Mask := 240#32 } : api_KeyMatch)] : List api_KeyMatch), Priority := 0, Call := ({ Action := 0, Args := ([] : List (BitVec 32)) } : api_ActionCall) } : api_Entry) ([53#32] : List (BitVec 32)))) && (!(entry_Matches ({ Keys := ([({ Value := 48#32, Mask := 240#32 } : api_KeyMatch)] : List api_KeyMatch), Priority := 0, Call := ({ Action := 0, Args := ([] : List (BitVec 32)) } : api_ActionCall) } : api_Entry) ([69#32] : List (BitVec 32))))) && (entry_Precedes y101 0 ({ ID := 2, Entry := ({ Keys := ([({ Value := 48#32, Mask := 240#32 } : api_KeyMatch)] : List api_KeyMatch), Priority := 0, Call := ({ Action := 0, Args := ([] : List (BitVec 32)) } : api_ActionCall) } : api_Entry) } : api_Row) ({ ID := 1, Entry := ({ Keys := ([({ Value := 0#32, Mask := 0#32 } : api_KeyMatch)] : List api_KeyMatch), Priority := 0, Call := ({ Action := 0, Args := ([] : List (BitVec 32)) } : api_ActionCall) } : api_Entry) } : api_Row)))) ?_ ?_
 ·intro S Q r
  simp only [ac33_G4, List.cons_append, List.nil_append, List.append_assoc]
  cases hb127 : ((((decide (y118 = 0)) && (decide ((entry_Check y101 0 ({ Keys := ([({ Value := 3#32, Mask := 15#32 } : api_KeyMatch)] : List api_KeyMatch), Priority := 0, Call := ({ Action := 0, Args := ([] : List (BitVec 32)) } : api_ActionCall) } : api_Entry)) = 11))) && (entry_Matches ({ Keys := ([({ Value := 48#32, Mask := 240#32 } : api_KeyMatch)] : List api_KeyMatch), Priority := 0, Call := ({ Action := 0, Args := ([] : List (BitVec 32)) } : api_ActionCall) } : api_Entry) ([53#32] : List (BitVec 32)))) && (!(entry_Matches ({ Keys := ([({ Value := 48#32, Mask := 240#32 } : api_KeyMatch)] : List api_KeyMatch), Priority := 0, Call := ({ Action := 0, Args := ([] : List (BitVec 32)) } : api_ActionCall) } : api_Entry) ([69#32] : List (BitVec 32)))))
  ·intro k
   refine rd_skip rfl rfl ?_
   refine rd_skip rfl rfl ?_
   refine rd_skip rfl rfl ?_
   refine rd_skip rfl rfl ?_
   refine rd_skip rfl rfl ?_
   refine rd_skip rfl rfl ?_
   refine rd_op (v := vb false) (ov_pick rfl rfl rfl rfl) ?_
   exact rd_weak (sub_cons rfl (sub_skip rfl (sub_skip rfl (sub_skip rfl (sub_skip rfl (sub_skip rfl (sub_skip rfl (sub_skip rfl (sub_refl _))))))))) k
  ·intro k
   have hb127' := hb127
   try simp only [qa1, qa2, qa3, qa4, qa5, qa6, qa7, qa8, qa9, qaA, qaB, qaC, qaD] at hb127'
   refine rd_yes rfl rfl (ov_load0 (k := 3) M117 rfl rfl (TR.agg api_Program.t r102)) ?_
   refine rd_yes rfl rfl (ov_load0 (k := 2) M117 rfl rfl rfl) ?_
   refine rd_yes (v := .agg [vi 2, .fs true [.agg [vu32 48#32, vu32 240#32]], vi 0, vi 0, nilS]) rfl rfl (ov_build (cs := [vi 2, .fs true [.agg [vu32 48#32, vu32 240#32]], vi 0, vi 0, nilS]) rfl rfl) ?_
   refine rd_yes rfl rfl (ov_load0 (k := 0) M117 rfl rfl rfl) ?_
   refine rd_yes (v := .agg [vi 1, .fs true [.agg [vu32 0#32, vu32 0#32]], vi 0, vi 0, nilS]) rfl rfl (ov_build (cs := [vi 1, .fs true [.agg [vu32 0#32, vu32 0#32]], vi 0, vi 0, nilS]) rfl rfl) ?_
   have f128 := f38_ok (x1 := 0) r102 (show api_Row.t.R ({ ID := 2, Entry := ({ Keys := ([({ Value := 48#32, Mask := 240#32 } : api_KeyMatch)] : List api_KeyMatch), Priority := 0, Call := ({ Action := 0, Args := ([] : List (BitVec 32)) } : api_ActionCall) } : api_Entry) } : api_Row) (.agg [vi 2, .fs true [.agg [vu32 48#32, vu32 240#32]], vi 0, vi 0, nilS]) from ⟨(.fs true [.agg [vu32 48#32, vu32 240#32]]), nilS, rfl, r106, sl_nil⟩) (show api_Row.t.R ({ ID := 1, Entry := ({ Keys := ([({ Value := 0#32, Mask := 0#32 } : api_KeyMatch)] : List api_KeyMatch), Priority := 0, Call := ({ Action := 0, Args := ([] : List (BitVec 32)) } : api_ActionCall) } : api_Entry) } : api_Row) (.agg [vi 1, .fs true [.agg [vu32 0#32, vu32 0#32]], vi 0, vi 0, nilS]) from ⟨(.fs true [.agg [vu32 0#32, vu32 0#32]]), nilS, rfl, r114, sl_nil⟩) 
   refine rd_ycall rfl rfl (cv_fn rfl rfl (clL_cons (TR.clo api_Program.t r102) (clL_cons rfl (clL_cons (TR.clo api_Row.t (show api_Row.t.R ({ ID := 2, Entry := ({ Keys := ([({ Value := 48#32, Mask := 240#32 } : api_KeyMatch)] : List api_KeyMatch), Priority := 0, Call := ({ Action := 0, Args := ([] : List (BitVec 32)) } : api_ActionCall) } : api_Entry) } : api_Row) (.agg [vi 2, .fs true [.agg [vu32 48#32, vu32 240#32]], vi 0, vi 0, nilS]) from ⟨(.fs true [.agg [vu32 48#32, vu32 240#32]]), nilS, rfl, r106, sl_nil⟩)) (clL_cons (TR.clo api_Row.t (show api_Row.t.R ({ ID := 1, Entry := ({ Keys := ([({ Value := 0#32, Mask := 0#32 } : api_KeyMatch)] : List api_KeyMatch), Priority := 0, Call := ({ Action := 0, Args := ([] : List (BitVec 32)) } : api_ActionCall) } : api_Entry) } : api_Row) (.agg [vi 1, .fs true [.agg [vu32 0#32, vu32 0#32]], vi 0, vi 0, nilS]) from ⟨(.fs true [.agg [vu32 0#32, vu32 0#32]]), nilS, rfl, r114, sl_nil⟩)) clL_nil)))) f128) ?_
   refine rd_op (v := vb (entry_Precedes y101 0 ({ ID := 2, Entry := ({ Keys := ([({ Value := 48#32, Mask := 240#32 } : api_KeyMatch)] : List api_KeyMatch), Priority := 0, Call := ({ Action := 0, Args := ([] : List (BitVec 32)) } : api_ActionCall) } : api_Entry) } : api_Row) ({ ID := 1, Entry := ({ Keys := ([({ Value := 0#32, Mask := 0#32 } : api_KeyMatch)] : List api_KeyMatch), Priority := 0, Call := ({ Action := 0, Args := ([] : List (BitVec 32)) } : api_ActionCall) } : api_Entry) } : api_Row))) (ov_pick rfl rfl rfl rfl) ?_
   exact rd_weak (sub_cons rfl (sub_skip rfl (sub_skip rfl (sub_skip rfl (sub_skip rfl (sub_skip rfl (sub_skip rfl (sub_skip rfl (sub_refl _))))))))) k
 refine rd_op (ov_move rfl) ?_
 refine rd_cut (d := 52) (v := vb ((((((decide (y118 = 0)) && (decide ((entry_Check y101 0 ({ Keys := ([({ Value := 3#32, Mask := 15#32 } : api_KeyMatch)] : List api_KeyMatch), Priority := 0, Call := ({ Action := 0, Args := ([] : List (BitVec 32)) } : api_ActionCall) } : api_Entry)) = 11))) && (entry_Matches ({ Keys := ([({ Value := 48#32, Mask := 240#32 } : api_KeyMatch)] : List api_KeyMatch), Priority := 0, Call := ({ Action := 0, Args := ([] : List (BitVec 32)) } : api_ActionCall) } : api_Entry) ([53#32] : List (BitVec 32)))) && (!(entry_Matches ({ Keys := ([({ Value := 48#32, Mask := 240#32 } : api_KeyMatch)] : List api_KeyMatch), Priority := 0, Call := ({ Action := 0, Args := ([] : List (BitVec 32)) } : api_ActionCall) } : api_Entry) ([69#32] : List (BitVec 32))))) && (entry_Precedes y101 0 ({ ID := 2, Entry := ({ Keys := ([({ Value := 48#32, Mask := 240#32 } : api_KeyMatch)] : List api_KeyMatch), Priority := 0, Call := ({ Action := 0, Args := ([] : List (BitVec 32)) } : api_ActionCall) } : api_Entry) } : api_Row) ({ ID := 1, Entry := ({ Keys := ([({ Value := 0#32, Mask := 0#32 } : api_KeyMatch)] : List api_KeyMatch), Priority := 0, Call := ({ Action := 0, Args := ([] : List (BitVec 32)) } : api_ActionCall) } : api_Entry) } : api_Row))) && (!(entry_Precedes y101 0 ({ ID := 1, Entry := ({ Keys := ([({ Value := 0#32, Mask := 0#32 } : api_KeyMatch)] : List api_KeyMatch), Priority := 0, Call := ({ Action := 0, Args := ([] : List (BitVec 32)) } : api_ActionCall) } : api_Entry) } : api_Row) ({ ID := 2, Entry := ({ Keys := ([({ Value := 48#32, Mask := 240#32 } : api_KeyMatch)] : List api_KeyMatch), Priority := 0, Call := ({ Action := 0, Args := ([] : List (BitVec 32)) } : api_ActionCall) } : api_Entry) } : api_Row))))) ?_ ?_
 ·intro S Q r
  simp only [ac33_G5, List.cons_append, List.nil_append, List.append_assoc]
  cases hb129 : (((((decide (y118 = 0)) && (decide ((entry_Check y101 0 ({ Keys := ([({ Value := 3#32, Mask := 15#32 } : api_KeyMatch)] : List api_KeyMatch), Priority := 0, Call := ({ Action := 0, Args := ([] : List (BitVec 32)) } : api_ActionCall) } : api_Entry)) = 11))) && (entry_Matches ({ Keys := ([({ Value := 48#32, Mask := 240#32 } : api_KeyMatch)] : List api_KeyMatch), Priority := 0, Call := ({ Action := 0, Args := ([] : List (BitVec 32)) } : api_ActionCall) } : api_Entry) ([53#32] : List (BitVec 32)))) && (!(entry_Matches ({ Keys := ([({ Value := 48#32, Mask := 240#32 } : api_KeyMatch)] : List api_KeyMatch), Priority := 0, Call := ({ Action := 0, Args := ([] : List (BitVec 32)) } : api_ActionCall) } : api_Entry) ([69#32] : List (BitVec 32))))) && (entry_Precedes y101 0 ({ ID := 2, Entry := ({ Keys := ([({ Value := 48#32, Mask := 240#32 } : api_KeyMatch)] : List api_KeyMatch), Priority := 0, Call := ({ Action := 0, Args := ([] : List (BitVec 32)) } : api_ActionCall) } : api_Entry) } : api_Row) ({ ID := 1, Entry := ({ Keys := ([({ Value := 0#32, Mask := 0#32 } : api_KeyMatch)] : List api_KeyMatch), Priority := 0, Call := ({ Action := 0, Args := ([] : List (BitVec 32)) } : api_ActionCall) } : api_Entry) } : api_Row)))
  ·intro k
   refine rd_skip rfl rfl ?_
   refine rd_skip rfl rfl ?_
   refine rd_skip rfl rfl ?_
   refine rd_skip rfl rfl ?_
   refine rd_skip rfl rfl ?_
   refine rd_skip rfl rfl ?_
   refine rd_skip rfl rfl ?_
   refine rd_op (v := vb false) (ov_pick rfl rfl rfl rfl) ?_
   exact rd_weak (sub_cons rfl (sub_skip rfl (sub_skip rfl (sub_skip rfl (sub_skip rfl (sub_skip rfl (sub_skip rfl (sub_skip rfl (sub_skip rfl (sub_refl _)))))))))) k
  ·intro k
   have hb129' := hb129
   try simp only [qa1, qa2, qa3, qa4, qa5, qa6, qa7, qa8, qa9, qaA, qaB, qaC, qaD] at hb129'
   refine rd_yes rfl rfl (ov_load0 (k := 3) M117 rfl rfl (TR.agg api_Program.t r102)) ?_
   refine rd_yes rfl rfl (ov_load0 (k := 0) M117 rfl rfl rfl) ?_
   refine rd_yes (v := .agg [vi 1, .fs true [.agg [vu32 0#32, vu32 0#32]], vi 0, vi 0, nilS]) rfl rfl (ov_build (cs := [vi 1, .fs true [.agg [vu32 0#32, vu32 0#32]], vi 0, vi 0, nilS]) rfl rfl) ?_
   refine rd_yes rfl rfl (ov_load0 (k := 2) M117 rfl rfl rfl) ?_
   refine rd_yes (v := .agg [vi 2, .fs true [.agg [vu32 48#32, vu32 240#32]], vi 0, vi 0, nilS]) rfl rfl (ov_build (cs := [vi 2, .fs true [.agg [vu32 48#32, vu32 240#32]], vi 0, vi 0, nilS]) rfl rfl) ?_
   have f130 := f38_ok (x1 := 0) r102 (show api_Row.t.R ({ ID := 1, Entry := ({ Keys := ([({ Value := 0#32, Mask := 0#32 } : api_KeyMatch)] : List api_KeyMatch), Priority := 0, Call := ({ Action := 0, Args := ([] : List (BitVec 32)) } : api_ActionCall) } : api_Entry) } : api_Row) (.agg [vi 1, .fs true [.agg [vu32 0#32, vu32 0#32]], vi 0, vi 0, nilS]) from ⟨(.fs true [.agg [vu32 0#32, vu32 0#32]]), nilS, rfl, r114, sl_nil⟩) (show api_Row.t.R ({ ID := 2, Entry := ({ Keys := ([({ Value := 48#32, Mask := 240#32 } : api_KeyMatch)] : List api_KeyMatch), Priority := 0, Call := ({ Action := 0, Args := ([] : List (BitVec 32)) } : api_ActionCall) } : api_Entry) } : api_Row) (.agg [vi 2, .fs true [.agg [vu32 48#32, vu32 240#32]], vi 0, vi 0, nilS]) from ⟨(.fs true [.agg [vu32 48#32, vu32 240#32]]), nilS, rfl, r106, sl_nil⟩) 
   refine rd_ycall rfl rfl (cv_fn rfl rfl (clL_cons (TR.clo api_Program.t r102) (clL_cons rfl (clL_cons (TR.clo api_Row.t (show api_Row.t.R ({ ID := 1, Entry := ({ Keys := ([({ Value := 0#32, Mask := 0#32 } : api_KeyMatch)] : List api_KeyMatch), Priority := 0, Call := ({ Action := 0, Args := ([] : List (BitVec 32)) } : api_ActionCall) } : api_Entry) } : api_Row) (.agg [vi 1, .fs true [.agg [vu32 0#32, vu32 0#32]], vi 0, vi 0, nilS]) from ⟨(.fs true [.agg [vu32 0#32, vu32 0#32]]), nilS, rfl, r114, sl_nil⟩)) (clL_cons (TR.clo api_Row.t (show api_Row.t.R ({ ID := 2, Entry := ({ Keys := ([({ Value := 48#32, Mask := 240#32 } : api_KeyMatch)] : List api_KeyMatch), Priority := 0, Call := ({ Action := 0, Args := ([] : List (BitVec 32)) } : api_ActionCall) } : api_Entry) } : api_Row) (.agg [vi 2, .fs true [.agg [vu32 48#32, vu32 240#32]], vi 0, vi 0, nilS]) from ⟨(.fs true [.agg [vu32 48#32, vu32 240#32]]), nilS, rfl, r106, sl_nil⟩)) clL_nil)))) f130) ?_
   refine rd_yes rfl rfl (ov_not rfl) ?_
   refine rd_op (v := vb (!(entry_Precedes y101 0 ({ ID := 1, Entry := ({ Keys := ([({ Value := 0#32, Mask := 0#32 } : api_KeyMatch)] : List api_KeyMatch), Priority := 0, Call := ({ Action := 0, Args := ([] : List (BitVec 32)) } : api_ActionCall) } : api_Entry) } : api_Row) ({ ID := 2, Entry := ({ Keys := ([({ Value := 48#32, Mask := 240#32 } : api_KeyMatch)] : List api_KeyMatch), Priority := 0, Call := ({ Action := 0, Args := ([] : List (BitVec 32)) } : api_ActionCall) } : api_Entry) } : api_Row)))) (ov_pick rfl rfl rfl rfl) ?_
   exact rd_weak (sub_cons rfl (sub_skip rfl (sub_skip rfl (sub_skip rfl (sub_skip rfl (sub_skip rfl (sub_skip rfl (sub_skip rfl (sub_skip rfl (sub_refl _)))))))))) k
 refine rd_op (ov_move rfl) ?_
 refine rd_cut (d := 57) (v := vb (((((((decide (y118 = 0)) && (decide ((entry_Check y101 0 ({ Keys := ([({ Value := 3#32, Mask := 15#32 } : api_KeyMatch)] : List api_KeyMatch), Priority := 0, Call := ({ Action := 0, Args := ([] : List (BitVec 32)) } : api_ActionCall) } : api_Entry)) = 11))) && (entry_Matches ({ Keys := ([({ Value := 48#32, Mask := 240#32 } : api_KeyMatch)] : List api_KeyMatch), Priority := 0, Call := ({ Action := 0, Args := ([] : List (BitVec 32)) } : api_ActionCall) } : api_Entry) ([53#32] : List (BitVec 32)))) && (!(entry_Matches ({ Keys := ([({ Value := 48#32, Mask := 240#32 } : api_KeyMatch)] : List api_KeyMatch), Priority := 0, Call := ({ Action := 0, Args := ([] : List (BitVec 32)) } : api_ActionCall) } : api_Entry) ([69#32] : List (BitVec 32))))) && (entry_Precedes y101 0 ({ ID := 2, Entry := ({ Keys := ([({ Value := 48#32, Mask := 240#32 } : api_KeyMatch)] : List api_KeyMatch), Priority := 0, Call := ({ Action := 0, Args := ([] : List (BitVec 32)) } : api_ActionCall) } : api_Entry) } : api_Row) ({ ID := 1, Entry := ({ Keys := ([({ Value := 0#32, Mask := 0#32 } : api_KeyMatch)] : List api_KeyMatch), Priority := 0, Call := ({ Action := 0, Args := ([] : List (BitVec 32)) } : api_ActionCall) } : api_Entry) } : api_Row))) && (!(entry_Precedes y101 0 ({ ID := 1, Entry := ({ Keys := ([({ Value := 0#32, Mask := 0#32 } : api_KeyMatch)] : List api_KeyMatch), Priority := 0, Call := ({ Action := 0, Args := ([] : List (BitVec 32)) } : api_ActionCall) } : api_Entry) } : api_Row) ({ ID := 2, Entry := ({ Keys := ([({ Value := 48#32, Mask := 240#32 } : api_KeyMatch)] : List api_KeyMatch), Priority := 0, Call := ({ Action := 0, Args := ([] : List (BitVec 32)) } : api_ActionCall) } : api_Entry) } : api_Row)))) && (entry_SameKey ({ Keys := ([({ Value := 48#32, Mask := 240#32 } : api_KeyMatch)] : List api_KeyMatch), Priority := 0, Call := ({ Action := 0, Args := ([] : List (BitVec 32)) } : api_ActionCall) } : api_Entry) ({ Keys := ([({ Value := 48#32, Mask := 240#32 } : api_KeyMatch)] : List api_KeyMatch), Priority := 0, Call := ({ Action := 0, Args := ([] : List (BitVec 32)) } : api_ActionCall) } : api_Entry)))) ?_ ?_
 ·intro S Q r
  simp only [ac33_G6, List.cons_append, List.nil_append, List.append_assoc]
  cases hb131 : ((((((decide (y118 = 0)) && (decide ((entry_Check y101 0 ({ Keys := ([({ Value := 3#32, Mask := 15#32 } : api_KeyMatch)] : List api_KeyMatch), Priority := 0, Call := ({ Action := 0, Args := ([] : List (BitVec 32)) } : api_ActionCall) } : api_Entry)) = 11))) && (entry_Matches ({ Keys := ([({ Value := 48#32, Mask := 240#32 } : api_KeyMatch)] : List api_KeyMatch), Priority := 0, Call := ({ Action := 0, Args := ([] : List (BitVec 32)) } : api_ActionCall) } : api_Entry) ([53#32] : List (BitVec 32)))) && (!(entry_Matches ({ Keys := ([({ Value := 48#32, Mask := 240#32 } : api_KeyMatch)] : List api_KeyMatch), Priority := 0, Call := ({ Action := 0, Args := ([] : List (BitVec 32)) } : api_ActionCall) } : api_Entry) ([69#32] : List (BitVec 32))))) && (entry_Precedes y101 0 ({ ID := 2, Entry := ({ Keys := ([({ Value := 48#32, Mask := 240#32 } : api_KeyMatch)] : List api_KeyMatch), Priority := 0, Call := ({ Action := 0, Args := ([] : List (BitVec 32)) } : api_ActionCall) } : api_Entry) } : api_Row) ({ ID := 1, Entry := ({ Keys := ([({ Value := 0#32, Mask := 0#32 } : api_KeyMatch)] : List api_KeyMatch), Priority := 0, Call := ({ Action := 0, Args := ([] : List (BitVec 32)) } : api_ActionCall) } : api_Entry) } : api_Row))) && (!(entry_Precedes y101 0 ({ ID := 1, Entry := ({ Keys := ([({ Value := 0#32, Mask := 0#32 } : api_KeyMatch)] : List api_KeyMatch), Priority := 0, Call := ({ Action := 0, Args := ([] : List (BitVec 32)) } : api_ActionCall) } : api_Entry) } : api_Row) ({ ID := 2, Entry := ({ Keys := ([({ Value := 48#32, Mask := 240#32 } : api_KeyMatch)] : List api_KeyMatch), Priority := 0, Call := ({ Action := 0, Args := ([] : List (BitVec 32)) } : api_ActionCall) } : api_Entry) } : api_Row))))
  ·intro k
   refine rd_skip rfl rfl ?_
   refine rd_skip rfl rfl ?_
   refine rd_skip rfl rfl ?_
   refine rd_op (v := vb false) (ov_pick rfl rfl rfl rfl) ?_
   exact rd_weak (sub_cons rfl (sub_skip rfl (sub_skip rfl (sub_skip rfl (sub_skip rfl (sub_refl _)))))) k
  ·intro k
   have hb131' := hb131
   try simp only [qa1, qa2, qa3, qa4, qa5, qa6, qa7, qa8, qa9, qaA, qaB, qaC, qaD] at hb131'
   refine rd_yes rfl rfl (ov_load0 (k := 2) M117 rfl rfl rfl) ?_
   refine rd_yes rfl rfl (ov_load0 (k := 2) M117 rfl rfl rfl) ?_
   have f132 := f40_ok  (show api_Entry.t.R ({ Keys := ([({ Value := 48#32, Mask := 240#32 } : api_KeyMatch)] : List api_KeyMatch), Priority := 0, Call := ({ Action := 0, Args := ([] : List (BitVec 32)) } : api_ActionCall) } : api_Entry) (.agg [.fs true [.agg [vu32 48#32, vu32 240#32]], vi 0, vi 0, nilS]) from ⟨(.fs true [.agg [vu32 48#32, vu32 240#32]]), nilS, rfl, r106, sl_nil⟩) (show api_Entry.t.R ({ Keys := ([({ Value := 48#32, Mask := 240#32 } : api_KeyMatch)] : List api_KeyMatch), Priority := 0, Call := ({ Action := 0, Args := ([] : List (BitVec 32)) } : api_ActionCall) } : api_Entry) (.agg [.fs true [.agg [vu32 48#32, vu32 240#32]], vi 0, vi 0, nilS]) from ⟨(.fs true [.agg [vu32 48#32, vu32 240#32]]), nilS, rfl, r106, sl_nil⟩) 
   refine rd_ycall rfl rfl (cv_fn rfl rfl (clL_cons (TR.clo api_Entry.t (show api_Entry.t.R ({ Keys := ([({ Value := 48#32, Mask := 240#32 } : api_KeyMatch)] : List api_KeyMatch), Priority := 0, Call := ({ Action := 0, Args := ([] : List (BitVec 32)) } : api_ActionCall) } : api_Entry) (.agg [.fs true [.agg [vu32 48#32, vu32 240#32]], vi 0, vi 0, nilS]) from ⟨(.fs true [.agg [vu32 48#32, vu32 240#32]]), nilS, rfl, r106, sl_nil⟩)) (clL_cons (TR.clo api_Entry.t (show api_Entry.t.R ({ Keys := ([({ Value := 48#32, Mask := 240#32 } : api_KeyMatch)] : List api_KeyMatch), Priority := 0, Call := ({ Action := 0, Args := ([] : List (BitVec 32)) } : api_ActionCall) } : api_Entry) (.agg [.fs true [.agg [vu32 48#32, vu32 240#32]], vi 0, vi 0, nilS]) from ⟨(.fs true [.agg [vu32 48#32, vu32 240#32]]), nilS, rfl, r106, sl_nil⟩)) clL_nil)) f132) ?_
   refine rd_op (v := vb (entry_SameKey ({ Keys := ([({ Value := 48#32, Mask := 240#32 } : api_KeyMatch)] : List api_KeyMatch), Priority := 0, Call := ({ Action := 0, Args := ([] : List (BitVec 32)) } : api_ActionCall) } : api_Entry) ({ Keys := ([({ Value := 48#32, Mask := 240#32 } : api_KeyMatch)] : List api_KeyMatch), Priority := 0, Call := ({ Action := 0, Args := ([] : List (BitVec 32)) } : api_ActionCall) } : api_Entry))) (ov_pick rfl rfl rfl rfl) ?_
   exact rd_weak (sub_cons rfl (sub_skip rfl (sub_skip rfl (sub_skip rfl (sub_skip rfl (sub_refl _)))))) k
 refine rd_op (ov_move rfl) ?_
 refine rd_cut (d := 63) (v := vb ((((((((decide (y118 = 0)) && (decide ((entry_Check y101 0 ({ Keys := ([({ Value := 3#32, Mask := 15#32 } : api_KeyMatch)] : List api_KeyMatch), Priority := 0, Call := ({ Action := 0, Args := ([] : List (BitVec 32)) } : api_ActionCall) } : api_Entry)) = 11))) && (entry_Matches ({ Keys := ([({ Value := 48#32, Mask := 240#32 } : api_KeyMatch)] : List api_KeyMatch), Priority := 0, Call := ({ Action := 0, Args := ([] : List (BitVec 32)) } : api_ActionCall) } : api_Entry) ([53#32] : List (BitVec 32)))) && (!(entry_Matches ({ Keys := ([({ Value := 48#32, Mask := 240#32 } : api_KeyMatch)] : List api_KeyMatch), Priority := 0, Call := ({ Action := 0, Args := ([] : List (BitVec 32)) } : api_ActionCall) } : api_Entry) ([69#32] : List (BitVec 32))))) && (entry_Precedes y101 0 ({ ID := 2, Entry := ({ Keys := ([({ Value := 48#32, Mask := 240#32 } : api_KeyMatch)] : List api_KeyMatch), Priority := 0, Call := ({ Action := 0, Args := ([] : List (BitVec 32)) } : api_ActionCall) } : api_Entry) } : api_Row) ({ ID := 1, Entry := ({ Keys := ([({ Value := 0#32, Mask := 0#32 } : api_KeyMatch)] : List api_KeyMatch), Priority := 0, Call := ({ Action := 0, Args := ([] : List (BitVec 32)) } : api_ActionCall) } : api_Entry) } : api_Row))) && (!(entry_Precedes y101 0 ({ ID := 1, Entry := ({ Keys := ([({ Value := 0#32, Mask := 0#32 } : api_KeyMatch)] : List api_KeyMatch), Priority := 0, Call := ({ Action := 0, Args := ([] : List (BitVec 32)) } : api_ActionCall) } : api_Entry) } : api_Row) ({ ID := 2, Entry := ({ Keys := ([({ Value := 48#32, Mask := 240#32 } : api_KeyMatch)] : List api_KeyMatch), Priority := 0, Call := ({ Action := 0, Args := ([] : List (BitVec 32)) } : api_ActionCall) } : api_Entry) } : api_Row)))) && (entry_SameKey ({ Keys := ([({ Value := 48#32, Mask := 240#32 } : api_KeyMatch)] : List api_KeyMatch), Priority := 0, Call := ({ Action := 0, Args := ([] : List (BitVec 32)) } : api_ActionCall) } : api_Entry) ({ Keys := ([({ Value := 48#32, Mask := 240#32 } : api_KeyMatch)] : List api_KeyMatch), Priority := 0, Call := ({ Action := 0, Args := ([] : List (BitVec 32)) } : api_ActionCall) } : api_Entry))) && (!(entry_Equal ({ Keys := ([({ Value := 48#32, Mask := 240#32 } : api_KeyMatch)] : List api_KeyMatch), Priority := 0, Call := ({ Action := 0, Args := ([] : List (BitVec 32)) } : api_ActionCall) } : api_Entry) ({ Keys := ([({ Value := 3#32, Mask := 15#32 } : api_KeyMatch)] : List api_KeyMatch), Priority := 0, Call := ({ Action := 0, Args := ([] : List (BitVec 32)) } : api_ActionCall) } : api_Entry))))) ?_ ?_
 ·intro S Q r
  simp only [ac33_G7, List.cons_append, List.nil_append, List.append_assoc]
  cases hb133 : (((((((decide (y118 = 0)) && (decide ((entry_Check y101 0 ({ Keys := ([({ Value := 3#32, Mask := 15#32 } : api_KeyMatch)] : List api_KeyMatch), Priority := 0, Call := ({ Action := 0, Args := ([] : List (BitVec 32)) } : api_ActionCall) } : api_Entry)) = 11))) && (entry_Matches ({ Keys := ([({ Value := 48#32, Mask := 240#32 } : api_KeyMatch)] : List api_KeyMatch), Priority := 0, Call := ({ Action := 0, Args := ([] : List (BitVec 32)) } : api_ActionCall) } : api_Entry) ([53#32] : List (BitVec 32)))) && (!(entry_Matches ({ Keys := ([({ Value := 48#32, Mask := 240#32 } : api_KeyMatch)] : List api_KeyMatch), Priority := 0, Call := ({ Action := 0, Args := ([] : List (BitVec 32)) } : api_ActionCall) } : api_Entry) ([69#32] : List (BitVec 32))))) && (entry_Precedes y101 0 ({ ID := 2, Entry := ({ Keys := ([({ Value := 48#32, Mask := 240#32 } : api_KeyMatch)] : List api_KeyMatch), Priority := 0, Call := ({ Action := 0, Args := ([] : List (BitVec 32)) } : api_ActionCall) } : api_Entry) } : api_Row) ({ ID := 1, Entry := ({ Keys := ([({ Value := 0#32, Mask := 0#32 } : api_KeyMatch)] : List api_KeyMatch), Priority := 0, Call := ({ Action := 0, Args := ([] : List (BitVec 32)) } : api_ActionCall) } : api_Entry) } : api_Row))) && (!(entry_Precedes y101 0 ({ ID := 1, Entry := ({ Keys := ([({ Value := 0#32, Mask := 0#32 } : api_KeyMatch)] : List api_KeyMatch), Priority := 0, Call := ({ Action := 0, Args := ([] : List (BitVec 32)) } : api_ActionCall) } : api_Entry) } : api_Row) ({ ID := 2, Entry := ({ Keys := ([({ Value := 48#32, Mask := 240#32 } : api_KeyMatch)] : List api_KeyMatch), Priority := 0, Call := ({ Action := 0, Args := ([] : List (BitVec 32)) } : api_ActionCall) } : api_Entry) } : api_Row)))) && (entry_SameKey ({ Keys := ([({ Value := 48#32, Mask := 240#32 } : api_KeyMatch)] : List api_KeyMatch), Priority := 0, Call := ({ Action := 0, Args := ([] : List (BitVec 32)) } : api_ActionCall) } : api_Entry) ({ Keys := ([({ Value := 48#32, Mask := 240#32 } : api_KeyMatch)] : List api_KeyMatch), Priority := 0, Call := ({ Action := 0, Args := ([] : List (BitVec 32)) } : api_ActionCall) } : api_Entry)))
  ·intro k
   refine rd_skip rfl rfl ?_
   refine rd_skip rfl rfl ?_
   refine rd_skip rfl rfl ?_
   refine rd_skip rfl rfl ?_
   refine rd_op (v := vb false) (ov_pick rfl rfl rfl rfl) ?_
   exact rd_weak (sub_cons rfl (sub_skip rfl (sub_skip rfl (sub_skip rfl (sub_skip rfl (sub_skip rfl (sub_refl _))))))) k
  ·intro k
   have hb133' := hb133
   try simp only [qa1, qa2, qa3, qa4, qa5, qa6, qa7, qa8, qa9, qaA, qaB, qaC, qaD] at hb133'
   refine rd_yes rfl rfl (ov_load0 (k := 2) M117 rfl rfl rfl) ?_
   refine rd_yes rfl rfl (ov_load0 (k := 1) M117 rfl rfl rfl) ?_
   have f134 := f42_ok  (show api_Entry.t.R ({ Keys := ([({ Value := 48#32, Mask := 240#32 } : api_KeyMatch)] : List api_KeyMatch), Priority := 0, Call := ({ Action := 0, Args := ([] : List (BitVec 32)) } : api_ActionCall) } : api_Entry) (.agg [.fs true [.agg [vu32 48#32, vu32 240#32]], vi 0, vi 0, nilS]) from ⟨(.fs true [.agg [vu32 48#32, vu32 240#32]]), nilS, rfl, r106, sl_nil⟩) (show api_Entry.t.R ({ Keys := ([({ Value := 3#32, Mask := 15#32 } : api_KeyMatch)] : List api_KeyMatch), Priority := 0, Call := ({ Action := 0, Args := ([] : List (BitVec 32)) } : api_ActionCall) } : api_Entry) (.agg [.fs true [.agg [vu32 3#32, vu32 15#32]], vi 0, vi 0, nilS]) from ⟨(.fs true [.agg [vu32 3#32, vu32 15#32]]), nilS, rfl, r110, sl_nil⟩) 
   refine rd_ycall rfl rfl (cv_fn rfl rfl (clL_cons (TR.clo api_Entry.t (show api_Entry.t.R ({ Keys := ([({ Value := 48#32, Mask := 240#32 } : api_KeyMatch)] : List api_KeyMatch), Priority := 0, Call := ({ Action := 0, Args := ([] : List (BitVec 32)) } : api_ActionCall) } : api_Entry) (.agg [.fs true [.agg [vu32 48#32, vu32 240#32]], vi 0, vi 0, nilS]) from ⟨(.fs true [.agg [vu32 48#32, vu32 240#32]]), nilS, rfl, r106, sl_nil⟩)) (clL_cons (TR.clo api_Entry.t (show api_Entry.t.R ({ Keys := ([({ Value := 3#32, Mask := 15#32 } : api_KeyMatch)] : List api_KeyMatch), Priority := 0, Call := ({ Action := 0, Args := ([] : List (BitVec 32)) } : api_ActionCall) } : api_Entry) (.agg [.fs true [.agg [vu32 3#32, vu32 15#32]], vi 0, vi 0, nilS]) from ⟨(.fs true [.agg [vu32 3#32, vu32 15#32]]), nilS, rfl, r110, sl_nil⟩)) clL_nil)) f134) ?_
   refine rd_yes rfl rfl (ov_not rfl) ?_
   refine rd_op (v := vb (!(entry_Equal ({ Keys := ([({ Value := 48#32, Mask := 240#32 } : api_KeyMatch)] : List api_KeyMatch), Priority := 0, Call := ({ Action := 0, Args := ([] : List (BitVec 32)) } : api_ActionCall) } : api_Entry) ({ Keys := ([({ Value := 3#32, Mask := 15#32 } : api_KeyMatch)] : List api_KeyMatch), Priority := 0, Call := ({ Action := 0, Args := ([] : List (BitVec 32)) } : api_ActionCall) } : api_Entry)))) (ov_pick rfl rfl rfl rfl) ?_
   exact rd_weak (sub_cons rfl (sub_skip rfl (sub_skip rfl (sub_skip rfl (sub_skip rfl (sub_skip rfl (sub_refl _))))))) k
 refine rd_op (ov_move rfl) ?_
 refine rd_nil ?_
 refine pn_seq ?_
 subst hres
 exact rc_retV (.tmp rfl .nil) (deep_closed rfl) rfl

end Go.Proofs.Ytklfdkbemkommaa
