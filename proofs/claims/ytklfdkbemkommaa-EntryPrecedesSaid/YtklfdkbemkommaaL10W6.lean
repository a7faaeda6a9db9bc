/-
  The code of each function does what its plain program says.
-/
import Derived.Test.YtklfdkbemkommaaL10W5
set_option linter.unusedVariables false
set_option linter.unusedSimpArgs false
set_option maxRecDepth 100000
namespace Go.Proofs.Ytklfdkbemkommaa
open Go Go.Pb Go.RowKit
/-- patchbay/patchbayref01.OnesCount -/
def RF88 (res : Int) (r : PV) : Prop := r = vi res
theorem ref01_OnesCount_L1_ok {S : List Fr} {res : Int} {K0 : Int → Int}
    (hK0 : ∀ (x3_ : Int), K0 x3_ = res → PX Try.prog 0 S (QR Try.prog [(2, none)] (RF88 res)) [(3, vi x3_)] ⟨0, []⟩) :
    ∀ (m : Nat) (x0_ : BitVec 32) (x3_ : Int) (x4_ : Int) (hm1 : m = Int.toNat (32 - x4_)) (hlo1 : 0 ≤ x4_), ref01_OnesCount_L1 K0 m x0_ x3_ x4_ = res → RC Try.prog (.loop ac88_L1) S (QR Try.prog [(2, none)] (RF88 res)) [(4, vi x4_), (3, vi x3_), (0, vu32 x0_)] ⟨0, []⟩ := by
  intro m
  induction m with
  | zero =>
    intro x0_ x3_ x4_ hm1 hlo1 hres
    rw [ref01_OnesCount_L1] at hres
    refine rc_loop ?_
    unfold ac88_L1
    refine rc_seq ?_
    refine rc_seq ?_
    refine rc_region ?_
    refine rd_op (ov_move rfl) ?_
    refine rd_op (ov_bin rfl rfl i_lss) ?_
    refine rd_nil ?_
    refine pn_seq ?_
    refine rc_cond rfl (fun hc101 => ?_) (fun hc101 => ?_)
    · exfalso
      try simp only [Bool.or_eq_true, Bool.or_eq_false_iff, Bool.and_eq_true, Bool.and_eq_false_imp, decide_eq_true_eq, decide_eq_false_iff_not, Bool.not_eq_true', Bool.not_eq_false', Bool.not_eq_true, Bool.not_eq_false, Bool.not_true, Bool.not_false, ne_eq] at hc101
      omega
    · have hend := hres
      have hc101' := hc101
      try simp only [Bool.or_eq_true, Bool.or_eq_false_iff, Bool.and_eq_true, Bool.and_eq_false_imp, decide_eq_true_eq, decide_eq_false_iff_not, Bool.not_eq_true', Bool.not_eq_false', Bool.not_eq_true, Bool.not_eq_false, Bool.not_true, Bool.not_false, ne_eq] at hc101'
      refine rc_exit ?_
      refine px_seq ?_
      refine px_again ?_
      exact px_weak ((sub_cons rfl (sub_nil _))) (hK0 x3_ hres)
  | succ m ih =>
    intro x0_ x3_ x4_ hm1 hlo1 hres
    rw [ref01_OnesCount_L1] at hres
    refine rc_loop ?_
    unfold ac88_L1
    refine rc_seq ?_
    refine rc_seq ?_
    refine rc_region ?_
    refine rd_op (ov_move rfl) ?_
    refine rd_op (ov_bin rfl rfl i_lss) ?_
    refine rd_nil ?_
    refine pn_seq ?_
    refine rc_cond rfl (fun hc102 => ?_) (fun hc102 => ?_)
    · have hgo := hres
      have hc102' := hc102
      try simp only [Bool.or_eq_true, Bool.or_eq_false_iff, Bool.and_eq_true, Bool.and_eq_false_imp, decide_eq_true_eq, decide_eq_false_iff_not, Bool.not_eq_true', Bool.not_eq_false', Bool.not_eq_true, Bool.not_eq_false, Bool.not_true, Bool.not_false, ne_eq] at hc102'
      refine rc_skip ?_
      refine pn_seq ?_
      refine rc_seq ?_
      refine rc_block ?_
      refine rc_seq ?_
      refine rc_region ?_
      refine rd_op (ov_move rfl) ?_
      refine rd_op (ov_move rfl) ?_
      refine rd_op (ov_bin (a := vu32 x0_) (b := vu32 2#32) rfl rfl (w_rem (by decide))) ?_
      refine rd_op (ov_conv (a := vu32 (x0_ % 2#32)) rfl (c_wi Try.underlying57 Try.underlying3)) ?_
      refine rd_op (ov_bin rfl rfl i_add) ?_
      refine rd_op (ov_move rfl) ?_
      refine rd_nil ?_
      refine pn_seq ?_
      refine rc_region ?_
      refine rd_op (ov_move rfl) ?_
      refine rd_op (ov_bin (a := vu32 x0_) (b := vu32 2#32) rfl rfl (w_quo (by decide))) ?_
      refine rd_op (ov_move rfl) ?_
      refine rd_nil ?_
      refine pn_blk ?_
      refine pn_seq ?_
      refine rc_region ?_
      refine rd_op (ov_move rfl) ?_
      refine rd_op (ov_bin rfl rfl i_add) ?_
      refine rd_op (ov_move rfl) ?_
      refine rd_nil ?_
      refine pn_again ?_
      have hinc : wr (x4_ + 1) = x4_ + 1 := wr_of (by omega) (by omega)
      rw [hinc]
      refine rc_weak ?_ (ih (x0_ / 2#32) (wr (x3_ + ((x0_ % 2#32).toNat : Int))) (x4_ + 1)  (by omega) (by omega) hres)
      exact ((sub_cons rfl (sub_cons rfl (sub_cons rfl (sub_nil _)))))
    · exfalso
      try simp only [Bool.or_eq_true, Bool.or_eq_false_iff, Bool.and_eq_true, Bool.and_eq_false_imp, decide_eq_true_eq, decide_eq_false_iff_not, Bool.not_eq_true', Bool.not_eq_false', Bool.not_eq_true, Bool.not_eq_false, Bool.not_true, Bool.not_false, ne_eq] at hc102
      omega

theorem f88_ok {x0 : BitVec 32} : FnR Try.prog 88 [vu32 x0] (vi (ref01_OnesCount x0)) := by
  obtain ⟨res, hres⟩ : ∃ res, ref01_OnesCount x0 = res := ⟨_, rfl⟩
  suffices H : RC Try.prog ac88 [] (QR Try.prog [(2, none)] (RF88 res)) (argE 0 [vu32 x0]) ⟨0, []⟩ by
    obtain ⟨r, h1, h2⟩ := fnE text88 (by simp) H
    rw [hres]
    have h2 : r = vi res := h2
    rw [← h2]; exact h1
  unfold ref01_OnesCount at hres
  unfold ac88
  refine rc_seq ?_
  refine rc_region ?_
  refine rd_op (v := vi 0) (ov_move rfl) ?_
  refine rd_nil ?_
  refine pn_seq ?_
  refine rc_seq ?_
  refine rc_region ?_
  refine rd_op (v := vi 0) (ov_move rfl) ?_
  refine rd_nil ?_
  refine pn_seq ?_
  refine rc_seq ?_
  refine rc_seq ?_
  refine rc_region ?_
  refine rd_op (v := vi 0) (ov_move rfl) ?_
  refine rd_nil ?_
  refine pn_seq ?_
  refine rc_block ?_
  refine rc_weak ?_ (ref01_OnesCount_L1_ok     ?_ (Int.toNat (32 - 0)) x0 0 0 rfl (by omega) hres)
  · exact ((sub_cons rfl (sub_cons rfl (sub_cons rfl (sub_nil _)))))
  · intro x3_103 hres
    refine px_blk ?_
    refine pn_seq ?_
    refine rc_seq ?_
    refine rc_region ?_
    refine rd_op (ov_move rfl) ?_
    refine rd_op (ov_move rfl) ?_
    refine rd_nil ?_
    refine pn_seq ?_
    subst hres
    exact rc_retV (.tmp rfl .nil) (deep_closed rfl) rfl

/-- patchbay/patchbayref23.prefixBits -/
def RF68 (res : Int) (r : PV) : Prop := r = vi res
theorem ref23_prefixBits_L1_ok {S : List Fr} {res : Int} {x0 : api_Program} {x1 : Int} {x2 : api_Entry} {v0 : PV} {v2 : PV} (r0 : api_Program.t.R x0 v0) (r2 : api_Entry.t.R x2 v2) (hc103 : ((decide (x1 < 0)) || (decide ((x0.Tables.length : Int) ≤ x1))) = false) {K0 : Unit → Int}
    (hK0 : K0 () = res → PX Try.prog 0 S (QR Try.prog [(6, none)] (RF68 res)) [] ⟨0, []⟩) :
    ∀ (m : Nat) (x7_ : Int) (hm1 : m = Int.toNat ((((ix x0.Tables x1).Keys).length : Int) - x7_)) (hlo1 : 0 ≤ x7_), ref23_prefixBits_L1 x0 x1 x2 K0 m x7_ = res → RC Try.prog (.loop ac68_L1) S (QR Try.prog [(6, none)] (RF68 res)) [(7, vi x7_), (5, .fp v2), (3, .fp v0), (1, vi x1)] ⟨0, []⟩ := by
  have hc103' := hc103
  try simp only [Bool.or_eq_true, Bool.or_eq_false_iff, Bool.and_eq_true, Bool.and_eq_false_imp, decide_eq_true_eq, decide_eq_false_iff_not, Bool.not_eq_true', Bool.not_eq_false', Bool.not_eq_true, Bool.not_eq_false, Bool.not_true, Bool.not_false, ne_eq] at hc103'
  intro m
  induction m with
  | zero =>
    intro x7_ hm1 hlo1 hres
    rw [ref23_prefixBits_L1] at hres
    refine rc_loop ?_
    unfold ac68_L1
    refine rc_seq ?_
    refine rc_seq ?_
    refine rc_region ?_
    refine rd_op (ov_move rfl) ?_
    obtain ⟨v104, e104, r104⟩ := api_Program.g_Tables r0
    refine rd_op (ov_faddr rfl e104) ?_
    refine rd_op (ov_load rfl (TR.cnt (tSl api_Table.t) r104) (TR.agg (tSl api_Table.t) r104)) ?_
    refine rd_op (ov_move rfl) ?_
    obtain ⟨v105, e105, r105⟩ := sl_idx (i := x1) r104 (by first | omega | (have hk := tck (by assumption) (by assumption); omega) | (have hk := rtck (by assumption) (by assumption); omega) | (have hk := eck (by assumption) (by assumption) (by assumption); omega) | (have hk := tv (by assumption) (by assumption); omega) | (have hk := rtv (by assumption) (by assumption); omega)) (by first | omega | (have hk := tck (by assumption) (by assumption); omega) | (have hk := rtck (by assumption) (by assumption); omega) | (have hk := eck (by assumption) (by assumption) (by assumption); omega) | (have hk := tv (by assumption) (by assumption); omega) | (have hk := rtv (by assumption) (by assumption); omega))
    refine rd_op (ov_iaddr rfl rfl e105) ?_
    obtain ⟨v106, e106, r106⟩ := api_Table.g_Keys r105
    refine rd_op (ov_faddr rfl e106) ?_
    refine rd_op (ov_load rfl (TR.cnt (tSl api_TableKey.t) r106) (TR.agg (tSl api_TableKey.t) r106)) ?_
    refine rd_op (ov_bi rfl (sl_len r106 Try.underlying52 _)) ?_
    refine rd_op (ov_bin rfl rfl i_lss) ?_
    refine rd_nil ?_
    refine pn_seq ?_
    refine rc_cond rfl (fun hc107 => ?_) (fun hc107 => ?_)
    · exfalso
      try simp only [Bool.or_eq_true, Bool.or_eq_false_iff, Bool.and_eq_true, Bool.and_eq_false_imp, decide_eq_true_eq, decide_eq_false_iff_not, Bool.not_eq_true', Bool.not_eq_false', Bool.not_eq_true, Bool.not_eq_false, Bool.not_true, Bool.not_false, ne_eq] at hc107
      omega
    · have hend := hres
      have hc107' := hc107
      try simp only [Bool.or_eq_true, Bool.or_eq_false_iff, Bool.and_eq_true, Bool.and_eq_false_imp, decide_eq_true_eq, decide_eq_false_iff_not, Bool.not_eq_true', Bool.not_eq_false', Bool.not_eq_true, Bool.not_eq_false, Bool.not_true, Bool.not_false, ne_eq] at hc107'
      refine rc_exit ?_
      refine px_seq ?_
      refine px_again ?_
      exact px_weak ((sub_nil _)) (hK0  hres)
  | succ m ih =>
    intro x7_ hm1 hlo1 hres
    rw [ref23_prefixBits_L1] at hres
    refine rc_loop ?_
    unfold ac68_L1
    refine rc_seq ?_
    refine rc_seq ?_
    refine rc_region ?_
    refine rd_op (ov_move rfl) ?_
    obtain ⟨v108, e108, r108⟩ := api_Program.g_Tables r0
    refine rd_op (ov_faddr rfl e108) ?_
    refine rd_op (ov_load rfl (TR.cnt (tSl api_Table.t) r108) (TR.agg (tSl api_Table.t) r108)) ?_
    refine rd_op (ov_move rfl) ?_
    obtain ⟨v109, e109, r109⟩ := sl_idx (i := x1) r108 (by first | omega | (have hk := tck (by assumption) (by assumption); omega) | (have hk := rtck (by assumption) (by assumption); omega) | (have hk := eck (by assumption) (by assumption) (by assumption); omega) | (have hk := tv (by assumption) (by assumption); omega) | (have hk := rtv (by assumption) (by assumption); omega)) (by first | omega | (have hk := tck (by assumption) (by assumption); omega) | (have hk := rtck (by assumption) (by assumption); omega) | (have hk := eck (by assumption) (by assumption) (by assumption); omega) | (have hk := tv (by assumption) (by assumption); omega) | (have hk := rtv (by assumption) (by assumption); omega))
    refine rd_op (ov_iaddr rfl rfl e109) ?_
    obtain ⟨v110, e110, r110⟩ := api_Table.g_Keys r109
    refine rd_op (ov_faddr rfl e110) ?_
    refine rd_op (ov_load rfl (TR.cnt (tSl api_TableKey.t) r110) (TR.agg (tSl api_TableKey.t) r110)) ?_
    refine rd_op (ov_bi rfl (sl_len r110 Try.underlying52 _)) ?_
    refine rd_op (ov_bin rfl rfl i_lss) ?_
    refine rd_nil ?_
    refine pn_seq ?_
    refine rc_cond rfl (fun hc111 => ?_) (fun hc111 => ?_)
    · have hgo := hres
      have hc111' := hc111
      try simp only [Bool.or_eq_true, Bool.or_eq_false_iff, Bool.and_eq_true, Bool.and_eq_false_imp, decide_eq_true_eq, decide_eq_false_iff_not, Bool.not_eq_true', Bool.not_eq_false', Bool.not_eq_true, Bool.not_eq_false, Bool.not_true, Bool.not_false, ne_eq] at hc111'
      refine rc_skip ?_
      refine pn_seq ?_
      refine rc_seq ?_
      refine rc_block ?_
      refine rc_seq ?_
      refine rc_region ?_
      obtain ⟨v112, e112, r112⟩ := api_Program.g_Tables r0
      refine rd_op (ov_faddr rfl e112) ?_
      refine rd_op (ov_load rfl (TR.cnt (tSl api_Table.t) r112) (TR.agg (tSl api_Table.t) r112)) ?_
      refine rd_op (ov_move rfl) ?_
      obtain ⟨v113, e113, r113⟩ := sl_idx (i := x1) r112 (by first | omega | (have hk := tck (by assumption) (by assumption); omega) | (have hk := rtck (by assumption) (by assumption); omega) | (have hk := eck (by assumption) (by assumption) (by assumption); omega) | (have hk := tv (by assumption) (by assumption); omega) | (have hk := rtv (by assumption) (by assumption); omega)) (by first | omega | (have hk := tck (by assumption) (by assumption); omega) | (have hk := rtck (by assumption) (by assumption); omega) | (have hk := eck (by assumption) (by assumption) (by assumption); omega) | (have hk := tv (by assumption) (by assumption); omega) | (have hk := rtv (by assumption) (by assumption); omega))
      refine rd_op (ov_iaddr rfl rfl e113) ?_
      obtain ⟨v114, e114, r114⟩ := api_Table.g_Keys r113
      refine rd_op (ov_faddr rfl e114) ?_
      refine rd_op (ov_load rfl (TR.cnt (tSl api_TableKey.t) r114) (TR.agg (tSl api_TableKey.t) r114)) ?_
      refine rd_op (ov_move rfl) ?_
      obtain ⟨v115, e115, r115⟩ := sl_idx (i := x7_) r114 (by first | omega | (have hk := tck (by assumption) (by assumption); omega) | (have hk := rtck (by assumption) (by assumption); omega) | (have hk := eck (by assumption) (by assumption) (by assumption); omega) | (have hk := tv (by assumption) (by assumption); omega) | (have hk := rtv (by assumption) (by assumption); omega)) (by first | omega | (have hk := tck (by assumption) (by assumption); omega) | (have hk := rtck (by assumption) (by assumption); omega) | (have hk := eck (by assumption) (by assumption) (by assumption); omega) | (have hk := tv (by assumption) (by assumption); omega) | (have hk := rtv (by assumption) (by assumption); omega))
      refine rd_op (ov_iaddr rfl rfl e115) ?_
      refine rd_op (ov_faddr rfl (api_TableKey.g_Kind r115)) ?_
      refine rd_op (ov_load rfl rfl rfl) ?_
      refine rd_op (ov_bin rfl rfl i_eql) ?_
      refine rd_nil ?_
      refine pn_seq ?_
      refine rc_cond rfl (fun hc116 => ?_) (fun hc116 => ?_)
      · replace hres := (ite_t hc116).symm.trans hres
        have hc116' := hc116
        try simp only [Bool.or_eq_true, Bool.or_eq_false_iff, Bool.and_eq_true, Bool.and_eq_false_imp, decide_eq_true_eq, decide_eq_false_iff_not, Bool.not_eq_true', Bool.not_eq_false', Bool.not_eq_true, Bool.not_eq_false, Bool.not_true, Bool.not_false, ne_eq] at hc116'
        refine rc_seq ?_
        refine rc_seq ?_
        refine rc_region ?_
        refine rd_op (ov_move rfl) ?_
        obtain ⟨v117, e117, r117⟩ := api_Entry.g_Keys r2
        refine rd_op (ov_faddr rfl e117) ?_
        refine rd_op (ov_load rfl (TR.cnt (tSl api_KeyMatch.t) r117) (TR.agg (tSl api_KeyMatch.t) r117)) ?_
        refine rd_op (ov_bi rfl (sl_len r117 Try.underlying67 _)) ?_
        refine rd_op (ov_bin rfl rfl i_geq) ?_
        refine rd_nil ?_
        refine pn_seq ?_
        refine rc_cond rfl (fun hc118 => ?_) (fun hc118 => ?_)
        · replace hres := (ite_t hc118).symm.trans hres
          have hc118' := hc118
          try simp only [Bool.or_eq_true, Bool.or_eq_false_iff, Bool.and_eq_true, Bool.and_eq_false_imp, decide_eq_true_eq, decide_eq_false_iff_not, Bool.not_eq_true', Bool.not_eq_false', Bool.not_eq_true, Bool.not_eq_false, Bool.not_true, Bool.not_false, ne_eq] at hc118'
          refine rc_seq ?_
          refine rc_region ?_
          refine rd_op (v := vi 0) (ov_move rfl) ?_
          refine rd_nil ?_
          refine pn_seq ?_
          subst hres
          exact rc_retV (.tmp rfl .nil) (deep_closed rfl) rfl
        · replace hres := (ite_f hc118).symm.trans hres
          have hc118' := hc118
          try simp only [Bool.or_eq_true, Bool.or_eq_false_iff, Bool.and_eq_true, Bool.and_eq_false_imp, decide_eq_true_eq, decide_eq_false_iff_not, Bool.not_eq_true', Bool.not_eq_false', Bool.not_eq_true, Bool.not_eq_false, Bool.not_true, Bool.not_false, ne_eq] at hc118'
          refine rc_skip ?_
          refine pn_seq ?_
          refine rc_seq ?_
          refine rc_region ?_
          obtain ⟨v119, e119, r119⟩ := api_Entry.g_Keys r2
          refine rd_op (ov_faddr rfl e119) ?_
          refine rd_op (ov_load rfl (TR.cnt (tSl api_KeyMatch.t) r119) (TR.agg (tSl api_KeyMatch.t) r119)) ?_
          refine rd_op (ov_move rfl) ?_
          obtain ⟨v120, e120, r120⟩ := sl_idx (i := x7_) r119 (by first | omega | (have hk := tck (by assumption) (by assumption); omega) | (have hk := rtck (by assumption) (by assumption); omega) | (have hk := eck (by assumption) (by assumption) (by assumption); omega) | (have hk := tv (by assumption) (by assumption); omega) | (have hk := rtv (by assumption) (by assumption); omega)) (by first | omega | (have hk := tck (by assumption) (by assumption); omega) | (have hk := rtck (by assumption) (by assumption); omega) | (have hk := eck (by assumption) (by assumption) (by assumption); omega) | (have hk := tv (by assumption) (by assumption); omega) | (have hk := rtv (by assumption) (by assumption); omega))
          refine rd_op (ov_iaddr rfl rfl e120) ?_
          refine rd_op (ov_faddr rfl (api_KeyMatch.g_Mask r120)) ?_
          refine rd_op (ov_load rfl rfl rfl) ?_
          obtain ⟨y121, hw121, hres⟩ := let_ex hres
          have f121 := f88_ok (x0 := (ix x2.Keys x7_).Mask)  
          rw [hw121] at f121
          refine rd_call (cv_fn rfl rfl (clL_cons rfl clL_nil) f121) ?_
          refine rd_op (ov_move rfl) ?_
          refine rd_nil ?_
          refine pn_seq ?_
          subst hres
          exact rc_retV (.tmp rfl .nil) (deep_closed rfl) rfl
      · replace hres := (ite_f hc116).symm.trans hres
        have hc116' := hc116
        try simp only [Bool.or_eq_true, Bool.or_eq_false_iff, Bool.and_eq_true, Bool.and_eq_false_imp, decide_eq_true_eq, decide_eq_false_iff_not, Bool.not_eq_true', Bool.not_eq_false', Bool.not_eq_true, Bool.not_eq_false, Bool.not_true, Bool.not_false, ne_eq] at hc116'
        refine rc_skip ?_
        refine pn_blk ?_
        refine pn_seq ?_
        refine rc_region ?_
        refine rd_op (ov_move rfl) ?_
        refine rd_op (ov_bin rfl rfl i_add) ?_
        refine rd_op (ov_move rfl) ?_
        refine rd_nil ?_
        refine pn_again ?_
        have hbd := sl_bound r110
        have hinc : wr (x7_ + 1) = x7_ + 1 := wr_of (by omega) (by omega)
        rw [hinc]
        refine rc_weak ?_ (ih (x7_ + 1)  (by omega) (by omega) hres)
        exact ((sub_cons rfl (sub_cons rfl (sub_cons rfl (sub_cons rfl (sub_nil _))))))
    · exfalso
      try simp only [Bool.or_eq_true, Bool.or_eq_false_iff, Bool.and_eq_true, Bool.and_eq_false_imp, decide_eq_true_eq, decide_eq_false_iff_not, Bool.not_eq_true', Bool.not_eq_false', Bool.not_eq_true, Bool.not_eq_false, Bool.not_true, Bool.not_false, ne_eq] at hc111
      omega

theorem f68_ok {x0 : api_Program} {x1 : Int} {x2 : api_Entry} {v0 v2 : PV} (r0 : api_Program.t.R x0 v0) (r2 : api_Entry.t.R x2 v2) : FnR Try.prog 68 [v0, vi x1, v2] (vi (ref23_prefixBits x0 x1 x2)) := by
  obtain ⟨res, hres⟩ : ∃ res, ref23_prefixBits x0 x1 x2 = res := ⟨_, rfl⟩
  suffices H : RC Try.prog ac68 [] (QR Try.prog [(6, none)] (RF68 res)) (argE 0 [v0, vi x1, v2]) ⟨0, []⟩ by
    obtain ⟨r, h1, h2⟩ := fnE text68 (by simp) H
    rw [hres]
    have h2 : r = vi res := h2
    rw [← h2]; exact h1
  unfold ref23_prefixBits at hres
  unfold ac68
  refine rc_seq ?_
  refine rc_region ?_
  refine rd_op (ov_box rfl (TR.cnt api_Program.t r0)) ?_
  refine rd_op (ov_box rfl (TR.cnt api_Entry.t r2)) ?_
  refine rd_op (v := vi 0) (ov_move rfl) ?_
  refine rd_nil ?_
  refine pn_seq ?_
  refine rc_seq ?_
  refine rc_seq ?_
  refine rc_region ?_
  refine rd_op (ov_move rfl) ?_
  refine rd_op (ov_bin rfl rfl i_lss) ?_
  refine rd_op (ov_move rfl) ?_
  refine rd_cut (d := 16) (v := vb ((decide (x1 < 0)) || (decide ((x0.Tables.length : Int) ≤ x1)))) ?_ ?_
  · intro S Q r
    simp only [ac68_G1, List.cons_append, List.nil_append, List.append_assoc]
    cases hb101 : (decide (x1 < 0))
    · intro k
      have hb101' := hb101
      try simp only [Bool.or_eq_true, Bool.or_eq_false_iff, Bool.and_eq_true, Bool.and_eq_false_imp, decide_eq_true_eq, decide_eq_false_iff_not, Bool.not_eq_true', Bool.not_eq_false', Bool.not_eq_true, Bool.not_eq_false, Bool.not_true, Bool.not_false, ne_eq] at hb101'
      refine rd_yes rfl rfl (ov_move rfl) ?_
      obtain ⟨v102, e102, r102⟩ := api_Program.g_Tables r0
      refine rd_yes rfl rfl (ov_faddr rfl e102) ?_
      refine rd_yes rfl rfl (ov_load rfl (TR.cnt (tSl api_Table.t) r102) (TR.agg (tSl api_Table.t) r102)) ?_
      refine rd_yes rfl rfl (ov_bi rfl (sl_len r102 Try.underlying26 _)) ?_
      refine rd_yes rfl rfl (ov_bin rfl rfl i_geq) ?_
      refine rd_op (v := vb (decide ((x0.Tables.length : Int) ≤ x1))) (ov_pick rfl rfl rfl rfl) ?_
      exact rd_weak (sub_cons rfl (sub_skip rfl (sub_skip rfl (sub_skip rfl (sub_skip rfl (sub_skip rfl (sub_skip rfl (sub_refl _)))))))) k
    · intro k
      refine rd_skip rfl rfl ?_
      refine rd_skip rfl rfl ?_
      refine rd_skip rfl rfl ?_
      refine rd_skip rfl rfl ?_
      refine rd_skip rfl rfl ?_
      refine rd_op (v := vb true) (ov_pick rfl rfl rfl rfl) ?_
      exact rd_weak (sub_cons rfl (sub_skip rfl (sub_skip rfl (sub_skip rfl (sub_skip rfl (sub_skip rfl (sub_skip rfl (sub_refl _)))))))) k
  refine rd_nil ?_
  refine pn_seq ?_
  refine rc_cond rfl (fun hc103 => ?_) (fun hc103 => ?_)
  · replace hres := (ite_t hc103).symm.trans hres
    have hc103' := hc103
    try simp only [Bool.or_eq_true, Bool.or_eq_false_iff, Bool.and_eq_true, Bool.and_eq_false_imp, decide_eq_true_eq, decide_eq_false_iff_not, Bool.not_eq_true', Bool.not_eq_false', Bool.not_eq_true, Bool.not_eq_false, Bool.not_true, Bool.not_false, ne_eq] at hc103'
    refine rc_seq ?_
    refine rc_region ?_
    refine rd_op (v := vi 0) (ov_move rfl) ?_
    refine rd_nil ?_
    refine pn_seq ?_
    subst hres
    exact rc_retV (.tmp rfl .nil) (deep_closed rfl) rfl
  · replace hres := (ite_f hc103).symm.trans hres
    have hc103' := hc103
    try simp only [Bool.or_eq_true, Bool.or_eq_false_iff, Bool.and_eq_true, Bool.and_eq_false_imp, decide_eq_true_eq, decide_eq_false_iff_not, Bool.not_eq_true', Bool.not_eq_false', Bool.not_eq_true, Bool.not_eq_false, Bool.not_true, Bool.not_false, ne_eq] at hc103'
    refine rc_skip ?_
    refine pn_seq ?_
    refine rc_seq ?_
    refine rc_seq ?_
    refine rc_region ?_
    refine rd_op (v := vi 0) (ov_move rfl) ?_
    refine rd_nil ?_
    refine pn_seq ?_
    refine rc_block ?_
    refine rc_weak ?_ (ref23_prefixBits_L1_ok (x0 := x0) (x1 := x1) (x2 := x2) (v0 := v0) (v2 := v2)  (r0 := r0) (r2 := r2) (hc103 := hc103) ?_ (Int.toNat ((((ix x0.Tables x1).Keys).length : Int) - 0)) 0 rfl (by omega) hres)
    · exact ((sub_cons rfl (sub_cons rfl (sub_cons rfl (sub_cons rfl (sub_nil _))))))
    · intro  hres
      refine px_blk ?_
      refine pn_seq ?_
      refine rc_seq ?_
      refine rc_region ?_
      refine rd_op (v := vi 0) (ov_move rfl) ?_
      refine rd_nil ?_
      refine pn_seq ?_
      subst hres
      exact rc_retV (.tmp rfl .nil) (deep_closed rfl) rfl

/-- patchbay/patchbayref23.Precedes -/
def RF39 (res : Bool) (r : PV) : Prop := r = vb res
theorem f39_ok {x0 : api_Program} {x1 : Int} {x2 : api_Row} {x3 : api_Row} {v0 v2 v3 : PV} (r0 : api_Program.t.R x0 v0) (r2 : api_Row.t.R x2 v2) (r3 : api_Row.t.R x3 v3) : FnR Try.prog 39 [v0, vi x1, v2, v3] (vb (ref23_Precedes x0 x1 x2 x3)) := by
  obtain ⟨res, hres⟩ : ∃ res, ref23_Precedes x0 x1 x2 x3 = res := ⟨_, rfl⟩
  suffices H : RC Try.prog ac39 [] (QR Try.prog [(8, none)] (RF39 res)) (argE 0 [v0, vi x1, v2, v3]) ⟨0, []⟩ by
    obtain ⟨r, h1, h2⟩ := fnE text39 (by simp) H
    rw [hres]
    have h2 : r = vb res := h2
    rw [← h2]; exact h1
  unfold ref23_Precedes at hres
  unfold ac39
  refine rc_seq ?_
  refine rc_region ?_
  refine rd_op (ov_box rfl (TR.cnt api_Program.t r0)) ?_
  refine rd_op (ov_box rfl (TR.cnt api_Row.t r2)) ?_
  refine rd_op (ov_box rfl (TR.cnt api_Row.t r3)) ?_
  refine rd_op (v := vb false) (ov_move rfl) ?_
  refine rd_nil ?_
  refine pn_seq ?_
  refine rc_seq ?_
  refine rc_region ?_
  refine rd_op (ov_load rfl (TR.cnt api_Program.t r0) (TR.agg api_Program.t r0)) ?_
  refine rd_op (ov_move rfl) ?_
  obtain ⟨v101, e101, r101⟩ := api_Row.g_Entry r2
  refine rd_op (ov_faddr rfl e101) ?_
  refine rd_op (ov_load rfl (TR.cnt api_Entry.t r101) (TR.agg api_Entry.t r101)) ?_
  obtain ⟨y102, hw102, hres⟩ := let_ex hres
  have f102 := f68_ok (x1 := x1) r0 r101 
  rw [hw102] at f102
  refine rd_call (cv_fn rfl rfl (clL_cons (TR.clo api_Program.t r0) (clL_cons rfl (clL_cons (TR.clo api_Entry.t r101) clL_nil))) f102) ?_
  refine rd_op (ov_load rfl (TR.cnt api_Program.t r0) (TR.agg api_Program.t r0)) ?_
  refine rd_op (ov_move rfl) ?_
  obtain ⟨v103, e103, r103⟩ := api_Row.g_Entry r3
  refine rd_op (ov_faddr rfl e103) ?_
  refine rd_op (ov_load rfl (TR.cnt api_Entry.t r103) (TR.agg api_Entry.t r103)) ?_
  obtain ⟨y104, hw104, hres⟩ := let_ex hres
  have f104 := f68_ok (x1 := x1) r0 r103 
  rw [hw104] at f104
  refine rd_call (cv_fn rfl rfl (clL_cons (TR.clo api_Program.t r0) (clL_cons rfl (clL_cons (TR.clo api_Entry.t r103) clL_nil))) f104) ?_
  refine rd_op (ov_move rfl) ?_
  refine rd_op (ov_move rfl) ?_
  refine rd_nil ?_
  refine pn_seq ?_
  refine rc_seq ?_
  refine rc_block ?_
  refine rc_seq ?_
  refine rc_region ?_
  obtain ⟨v105, e105, r105⟩ := api_Row.g_Entry r2
  refine rd_op (ov_faddr rfl e105) ?_
  refine rd_op (ov_faddr rfl (api_Entry.g_Priority r105)) ?_
  refine rd_op (ov_load rfl rfl rfl) ?_
  obtain ⟨v106, e106, r106⟩ := api_Row.g_Entry r3
  refine rd_op (ov_faddr rfl e106) ?_
  refine rd_op (ov_faddr rfl (api_Entry.g_Priority r106)) ?_
  refine rd_op (ov_load rfl rfl rfl) ?_
  refine rd_op (ov_bin rfl rfl i_neq) ?_
  refine rd_op (ov_move rfl) ?_
  refine rd_nil ?_
  refine pn_seq ?_
  refine rc_cond rfl (fun hc107 => ?_) (fun hc107 => ?_)
  · replace hres := (ite_t hc107).symm.trans hres
    have hc107' := hc107
    try simp only [Bool.or_eq_true, Bool.or_eq_false_iff, Bool.and_eq_true, Bool.and_eq_false_imp, decide_eq_true_eq, decide_eq_false_iff_not, Bool.not_eq_true', Bool.not_eq_false', Bool.not_eq_true, Bool.not_eq_false, Bool.not_true, Bool.not_false, ne_eq] at hc107'
    refine rc_seq ?_
    refine rc_region ?_
    obtain ⟨v108, e108, r108⟩ := api_Row.g_Entry r2
    refine rd_op (ov_faddr rfl e108) ?_
    refine rd_op (ov_faddr rfl (api_Entry.g_Priority r108)) ?_
    refine rd_op (ov_load rfl rfl rfl) ?_
    obtain ⟨v109, e109, r109⟩ := api_Row.g_Entry r3
    refine rd_op (ov_faddr rfl e109) ?_
    refine rd_op (ov_faddr rfl (api_Entry.g_Priority r109)) ?_
    refine rd_op (ov_load rfl rfl rfl) ?_
    refine rd_op (ov_bin rfl rfl i_gtr) ?_
    refine rd_op (ov_move rfl) ?_
    refine rd_nil ?_
    refine pn_seq ?_
    subst hres
    exact rc_retV (.tmp rfl .nil) (deep_closed rfl) rfl
  · replace hres := (ite_f hc107).symm.trans hres
    have hc107' := hc107
    try simp only [Bool.or_eq_true, Bool.or_eq_false_iff, Bool.and_eq_true, Bool.and_eq_false_imp, decide_eq_true_eq, decide_eq_false_iff_not, Bool.not_eq_true', Bool.not_eq_false', Bool.not_eq_true, Bool.not_eq_false, Bool.not_true, Bool.not_false, ne_eq] at hc107'
    refine rc_seq ?_
    refine rc_region ?_
    refine rd_op (ov_move rfl) ?_
    refine rd_op (ov_move rfl) ?_
    refine rd_op (ov_bin rfl rfl i_neq) ?_
    refine rd_op (ov_move rfl) ?_
    refine rd_nil ?_
    refine pn_seq ?_
    refine rc_cond rfl (fun hc110 => ?_) (fun hc110 => ?_)
    · replace hres := (ite_t hc110).symm.trans hres
      have hc110' := hc110
      try simp only [Bool.or_eq_true, Bool.or_eq_false_iff, Bool.and_eq_true, Bool.and_eq_false_imp, decide_eq_true_eq, decide_eq_false_iff_not, Bool.not_eq_true', Bool.not_eq_false', Bool.not_eq_true, Bool.not_eq_false, Bool.not_true, Bool.not_false, ne_eq] at hc110'
      refine rc_seq ?_
      refine rc_region ?_
      refine rd_op (ov_move rfl) ?_
      refine rd_op (ov_move rfl) ?_
      refine rd_op (ov_bin rfl rfl i_gtr) ?_
      refine rd_op (ov_move rfl) ?_
      refine rd_nil ?_
      refine pn_seq ?_
      subst hres
      exact rc_retV (.tmp rfl .nil) (deep_closed rfl) rfl
    · replace hres := (ite_f hc110).symm.trans hres
      have hc110' := hc110
      try simp only [Bool.or_eq_true, Bool.or_eq_false_iff, Bool.and_eq_true, Bool.and_eq_false_imp, decide_eq_true_eq, decide_eq_false_iff_not, Bool.not_eq_true', Bool.not_eq_false', Bool.not_eq_true, Bool.not_eq_false, Bool.not_true, Bool.not_false, ne_eq] at hc110'
      refine rc_skip ?_
      refine pn_blk ?_
      refine pn_seq ?_
      refine rc_seq ?_
      refine rc_region ?_
      refine rd_op (ov_faddr rfl (api_Row.g_ID r2)) ?_
      refine rd_op (ov_load rfl rfl rfl) ?_
      refine rd_op (ov_faddr rfl (api_Row.g_ID r3)) ?_
      refine rd_op (ov_load rfl rfl rfl) ?_
      refine rd_op (ov_bin rfl rfl i_lss) ?_
      refine rd_op (ov_move rfl) ?_
      refine rd_nil ?_
      refine pn_seq ?_
      subst hres
      exact rc_retV (.tmp rfl .nil) (deep_closed rfl) rfl

/-- patchbay/patchbaylaw23.EntryPrecedes -/
def RF10 (res : Bool) (r : PV) : Prop := r = vb res
theorem f10_ok {x0 : api_Program} {x1 : Int} {x2 : List api_Row} {v0 v2 : PV} (r0 : api_Program.t.R x0 v0) (r2 : (tAr 2 api_Row.t).R x2 v2) : FnR Try.prog 10 [v0, vi x1, v2] (vb (law23_EntryPrecedes x0 x1 x2)) := by
  obtain ⟨res, hres⟩ : ∃ res, law23_EntryPrecedes x0 x1 x2 = res := ⟨_, rfl⟩
  suffices H : RC Try.prog ac10 [] (QR Try.prog [(6, none)] (RF10 res)) (argE 0 [v0, vi x1, v2]) ⟨0, []⟩ by
    obtain ⟨r, h1, h2⟩ := fnE text10 (by simp) H
    rw [hres]
    have h2 : r = vb res := h2
    rw [← h2]; exact h1
  unfold law23_EntryPrecedes at hres
  unfold ac10
  refine rc_seq ?_
  refine rc_region ?_
  refine rd_op (ov_box rfl (TR.cnt api_Program.t r0)) ?_
  refine rd_op (ov_box rfl (TR.cnt (tAr 2 api_Row.t) r2)) ?_
  refine rd_op (v := vb false) (ov_move rfl) ?_
  refine rd_nil ?_
  refine pn_seq ?_
  refine rc_seq ?_
  refine rc_seq ?_
  refine rc_region ?_
  refine rd_op (ov_load rfl (TR.cnt api_Program.t r0) (TR.agg api_Program.t r0)) ?_
  obtain ⟨y101, hw101, hres⟩ := let_ex hres
  have f101 := f14_ok  r0 
  rw [hw101] at f101
  refine rd_call (cv_fn rfl rfl (clL_cons (TR.clo api_Program.t r0) clL_nil) f101) ?_
  refine rd_op (ov_not rfl) ?_
  refine rd_op (ov_move rfl) ?_
  refine rd_cut (d := 16) (v := vb ((!y101) || (!(law23_Small ((ix x2 0).Entry))))) ?_ ?_
  · intro S Q r
    simp only [ac10_G1, List.cons_append, List.nil_append, List.append_assoc]
    cases hb102 : (!y101)
    · intro k
      have hb102' := hb102
      try simp only [Bool.or_eq_true, Bool.or_eq_false_iff, Bool.and_eq_true, Bool.and_eq_false_imp, decide_eq_true_eq, decide_eq_false_iff_not, Bool.not_eq_true', Bool.not_eq_false', Bool.not_eq_true, Bool.not_eq_false, Bool.not_true, Bool.not_false, ne_eq] at hb102'
      obtain ⟨v103, e103, r103⟩ := arr_addr (t := api_Row.t) r2 (i := 0) (by omega) (by omega)
      refine rd_yes rfl rfl (ov_iaddrA rfl rfl e103) ?_
      obtain ⟨v104, e104, r104⟩ := api_Row.g_Entry r103
      refine rd_yes rfl rfl (ov_faddr rfl e104) ?_
      refine rd_yes rfl rfl (ov_load rfl (TR.cnt api_Entry.t r104) (TR.agg api_Entry.t r104)) ?_
      have f105 := f32_ok  r104 
      refine rd_ycall rfl rfl (cv_fn rfl rfl (clL_cons (TR.clo api_Entry.t r104) clL_nil) f105) ?_
      refine rd_yes rfl rfl (ov_not rfl) ?_
      refine rd_op (v := vb (!(law23_Small ((ix x2 0).Entry)))) (ov_pick rfl rfl rfl rfl) ?_
      exact rd_weak (sub_cons rfl (sub_skip rfl (sub_skip rfl (sub_skip rfl (sub_skip rfl (sub_skip rfl (sub_skip rfl (sub_refl _)))))))) k
    · intro k
      refine rd_skip rfl rfl ?_
      refine rd_skip rfl rfl ?_
      refine rd_skip rfl rfl ?_
      refine rd_skip rfl rfl ?_
      refine rd_skip rfl rfl ?_
      refine rd_op (v := vb true) (ov_pick rfl rfl rfl rfl) ?_
      exact rd_weak (sub_cons rfl (sub_skip rfl (sub_skip rfl (sub_skip rfl (sub_skip rfl (sub_skip rfl (sub_skip rfl (sub_refl _)))))))) k
  refine rd_op (ov_move rfl) ?_
  refine rd_cut (d := 23) (v := vb (((!y101) || (!(law23_Small ((ix x2 0).Entry)))) || (!(law23_Small ((ix x2 1).Entry))))) ?_ ?_
  · intro S Q r
    simp only [ac10_G2, List.cons_append, List.nil_append, List.append_assoc]
    cases hb106 : ((!y101) || (!(law23_Small ((ix x2 0).Entry))))
    · intro k
      have hb106' := hb106
      try simp only [Bool.or_eq_true, Bool.or_eq_false_iff, Bool.and_eq_true, Bool.and_eq_false_imp, decide_eq_true_eq, decide_eq_false_iff_not, Bool.not_eq_true', Bool.not_eq_false', Bool.not_eq_true, Bool.not_eq_false, Bool.not_true, Bool.not_false, ne_eq] at hb106'
      obtain ⟨v107, e107, r107⟩ := arr_addr (t := api_Row.t) r2 (i := 1) (by omega) (by omega)
      refine rd_yes rfl rfl (ov_iaddrA rfl rfl e107) ?_
      obtain ⟨v108, e108, r108⟩ := api_Row.g_Entry r107
      refine rd_yes rfl rfl (ov_faddr rfl e108) ?_
      refine rd_yes rfl rfl (ov_load rfl (TR.cnt api_Entry.t r108) (TR.agg api_Entry.t r108)) ?_
      have f109 := f32_ok  r108 
      refine rd_ycall rfl rfl (cv_fn rfl rfl (clL_cons (TR.clo api_Entry.t r108) clL_nil) f109) ?_
      refine rd_yes rfl rfl (ov_not rfl) ?_
      refine rd_op (v := vb (!(law23_Small ((ix x2 1).Entry)))) (ov_pick rfl rfl rfl rfl) ?_
      exact rd_weak (sub_cons rfl (sub_skip rfl (sub_skip rfl (sub_skip rfl (sub_skip rfl (sub_skip rfl (sub_skip rfl (sub_refl _)))))))) k
    · intro k
      refine rd_skip rfl rfl ?_
      refine rd_skip rfl rfl ?_
      refine rd_skip rfl rfl ?_
      refine rd_skip rfl rfl ?_
      refine rd_skip rfl rfl ?_
      refine rd_op (v := vb true) (ov_pick rfl rfl rfl rfl) ?_
      exact rd_weak (sub_cons rfl (sub_skip rfl (sub_skip rfl (sub_skip rfl (sub_skip rfl (sub_skip rfl (sub_skip rfl (sub_refl _)))))))) k
  refine rd_nil ?_
  refine pn_seq ?_
  refine rc_cond rfl (fun hc110 => ?_) (fun hc110 => ?_)
  · replace hres := (ite_t hc110).symm.trans hres
    have hc110' := hc110
    try simp only [Bool.or_eq_true, Bool.or_eq_false_iff, Bool.and_eq_true, Bool.and_eq_false_imp, decide_eq_true_eq, decide_eq_false_iff_not, Bool.not_eq_true', Bool.not_eq_false', Bool.not_eq_true, Bool.not_eq_false, Bool.not_true, Bool.not_false, ne_eq] at hc110'
    refine rc_seq ?_
    refine rc_region ?_
    obtain ⟨y111, hw111, hres⟩ := let_ex hres
    have f111 := f33_ok   
    rw [hw111] at f111
    refine rd_call (cv_fn rfl rfl clL_nil f111) ?_
    refine rd_op (ov_move rfl) ?_
    refine rd_nil ?_
    refine pn_seq ?_
    subst hres
    exact rc_retV (.tmp rfl .nil) (deep_closed rfl) rfl
  · replace hres := (ite_f hc110).symm.trans hres
    have hc110' := hc110
    try simp only [Bool.or_eq_true, Bool.or_eq_false_iff, Bool.and_eq_true, Bool.and_eq_false_imp, decide_eq_true_eq, decide_eq_false_iff_not, Bool.not_eq_true', Bool.not_eq_false', Bool.not_eq_true, Bool.not_eq_false, Bool.not_true, Bool.not_false, ne_eq] at hc110'
    refine rc_skip ?_
    refine pn_seq ?_
    refine rc_seq ?_
    refine rc_region ?_
    refine rd_op (ov_load rfl (TR.cnt api_Program.t r0) (TR.agg api_Program.t r0)) ?_
    refine rd_op (ov_move rfl) ?_
    obtain ⟨v112, e112, r112⟩ := arr_addr (t := api_Row.t) r2 (i := 0) (by omega) (by omega)
    refine rd_op (ov_iaddrA rfl rfl e112) ?_
    refine rd_op (ov_load rfl (TR.cnt api_Row.t r112) (TR.agg api_Row.t r112)) ?_
    obtain ⟨v113, e113, r113⟩ := arr_addr (t := api_Row.t) r2 (i := 1) (by omega) (by omega)
    refine rd_op (ov_iaddrA rfl rfl e113) ?_
    refine rd_op (ov_load rfl (TR.cnt api_Row.t r113) (TR.agg api_Row.t r113)) ?_
    obtain ⟨y114, hw114, hres⟩ := let_ex hres
    have f114 := f38_ok (x1 := x1) r0 r112 r113 
    rw [hw114] at f114
    refine rd_call (cv_fn rfl rfl (clL_cons (TR.clo api_Program.t r0) (clL_cons rfl (clL_cons (TR.clo api_Row.t r112) (clL_cons (TR.clo api_Row.t r113) clL_nil)))) f114) ?_
    refine rd_op (ov_load rfl (TR.cnt api_Program.t r0) (TR.agg api_Program.t r0)) ?_
    refine rd_op (ov_move rfl) ?_
    obtain ⟨v115, e115, r115⟩ := arr_addr (t := api_Row.t) r2 (i := 0) (by omega) (by omega)
    refine rd_op (ov_iaddrA rfl rfl e115) ?_
    refine rd_op (ov_load rfl (TR.cnt api_Row.t r115) (TR.agg api_Row.t r115)) ?_
    obtain ⟨v116, e116, r116⟩ := arr_addr (t := api_Row.t) r2 (i := 1) (by omega) (by omega)
    refine rd_op (ov_iaddrA rfl rfl e116) ?_
    refine rd_op (ov_load rfl (TR.cnt api_Row.t r116) (TR.agg api_Row.t r116)) ?_
    obtain ⟨y117, hw117, hres⟩ := let_ex hres
    have f117 := f39_ok (x1 := x1) r0 r115 r116 
    rw [hw117] at f117
    refine rd_call (cv_fn rfl rfl (clL_cons (TR.clo api_Program.t r0) (clL_cons rfl (clL_cons (TR.clo api_Row.t r115) (clL_cons (TR.clo api_Row.t r116) clL_nil)))) f117) ?_
    refine rd_op (ov_bin rfl rfl (bin_eqlb (by rw [Try.underlying4]; rfl))) ?_
    refine rd_op (ov_move rfl) ?_
    refine rd_cut (d := 56) (v := vb ((decide (y114 = y117)) && (decide ((entry_Precedes x0 x1 (ix x2 1) (ix x2 0)) = (ref23_Precedes x0 x1 (ix x2 1) (ix x2 0)))))) ?_ ?_
    · intro S Q r
      simp only [ac10_G3, List.cons_append, List.nil_append, List.append_assoc]
      cases hb118 : (decide (y114 = y117))
      · intro k
        refine rd_skip rfl rfl ?_
        refine rd_skip rfl rfl ?_
        refine rd_skip rfl rfl ?_
        refine rd_skip rfl rfl ?_
        refine rd_skip rfl rfl ?_
        refine rd_skip rfl rfl ?_
        refine rd_skip rfl rfl ?_
        refine rd_skip rfl rfl ?_
        refine rd_skip rfl rfl ?_
        refine rd_skip rfl rfl ?_
        refine rd_skip rfl rfl ?_
        refine rd_skip rfl rfl ?_
        refine rd_skip rfl rfl ?_
        refine rd_skip rfl rfl ?_
        refine rd_skip rfl rfl ?_
        refine rd_op (v := vb false) (ov_pick rfl rfl rfl rfl) ?_
        exact rd_weak (sub_cons rfl (sub_skip rfl (sub_skip rfl (sub_skip rfl (sub_skip rfl (sub_skip rfl (sub_skip rfl (sub_skip rfl (sub_skip rfl (sub_skip rfl (sub_skip rfl (sub_skip rfl (sub_skip rfl (sub_skip rfl (sub_skip rfl (sub_skip rfl (sub_skip rfl (sub_refl _)))))))))))))))))) k
      · intro k
        have hb118' := hb118
        try simp only [Bool.or_eq_true, Bool.or_eq_false_iff, Bool.and_eq_true, Bool.and_eq_false_imp, decide_eq_true_eq, decide_eq_false_iff_not, Bool.not_eq_true', Bool.not_eq_false', Bool.not_eq_true, Bool.not_eq_false, Bool.not_true, Bool.not_false, ne_eq] at hb118'
        refine rd_yes rfl rfl (ov_load rfl (TR.cnt api_Program.t r0) (TR.agg api_Program.t r0)) ?_
        refine rd_yes rfl rfl (ov_move rfl) ?_
        obtain ⟨v119, e119, r119⟩ := arr_addr (t := api_Row.t) r2 (i := 1) (by omega) (by omega)
        refine rd_yes rfl rfl (ov_iaddrA rfl rfl e119) ?_
        refine rd_yes rfl rfl (ov_load rfl (TR.cnt api_Row.t r119) (TR.agg api_Row.t r119)) ?_
        obtain ⟨v120, e120, r120⟩ := arr_addr (t := api_Row.t) r2 (i := 0) (by omega) (by omega)
        refine rd_yes rfl rfl (ov_iaddrA rfl rfl e120) ?_
        refine rd_yes rfl rfl (ov_load rfl (TR.cnt api_Row.t r120) (TR.agg api_Row.t r120)) ?_
        have f121 := f38_ok (x1 := x1) r0 r119 r120 
        refine rd_ycall rfl rfl (cv_fn rfl rfl (clL_cons (TR.clo api_Program.t r0) (clL_cons rfl (clL_cons (TR.clo api_Row.t r119) (clL_cons (TR.clo api_Row.t r120) clL_nil)))) f121) ?_
        refine rd_yes rfl rfl (ov_load rfl (TR.cnt api_Program.t r0) (TR.agg api_Program.t r0)) ?_
        refine rd_yes rfl rfl (ov_move rfl) ?_
        obtain ⟨v122, e122, r122⟩ := arr_addr (t := api_Row.t) r2 (i := 1) (by omega) (by omega)
        refine rd_yes rfl rfl (ov_iaddrA rfl rfl e122) ?_
        refine rd_yes rfl rfl (ov_load rfl (TR.cnt api_Row.t r122) (TR.agg api_Row.t r122)) ?_
        obtain ⟨v123, e123, r123⟩ := arr_addr (t := api_Row.t) r2 (i := 0) (by omega) (by omega)
        refine rd_yes rfl rfl (ov_iaddrA rfl rfl e123) ?_
        refine rd_yes rfl rfl (ov_load rfl (TR.cnt api_Row.t r123) (TR.agg api_Row.t r123)) ?_
        have f124 := f39_ok (x1 := x1) r0 r122 r123 
        refine rd_ycall rfl rfl (cv_fn rfl rfl (clL_cons (TR.clo api_Program.t r0) (clL_cons rfl (clL_cons (TR.clo api_Row.t r122) (clL_cons (TR.clo api_Row.t r123) clL_nil)))) f124) ?_
        refine rd_yes rfl rfl (ov_bin rfl rfl (bin_eqlb (by rw [Try.underlying4]; rfl))) ?_
        refine rd_op (v := vb (decide ((entry_Precedes x0 x1 (ix x2 1) (ix x2 0)) = (ref23_Precedes x0 x1 (ix x2 1) (ix x2 0))))) (ov_pick rfl rfl rfl rfl) ?_
        exact rd_weak (sub_cons rfl (sub_skip rfl (sub_skip rfl (sub_skip rfl (sub_skip rfl (sub_skip rfl (sub_skip rfl (sub_skip rfl (sub_skip rfl (sub_skip rfl (sub_skip rfl (sub_skip rfl (sub_skip rfl (sub_skip rfl (sub_skip rfl (sub_skip rfl (sub_skip rfl (sub_refl _)))))))))))))))))) k
    refine rd_op (ov_move rfl) ?_
    refine rd_cut (d := 59) (v := vb (((decide (y114 = y117)) && (decide ((entry_Precedes x0 x1 (ix x2 1) (ix x2 0)) = (ref23_Precedes x0 x1 (ix x2 1) (ix x2 0))))) && (law23_works))) ?_ ?_
    · intro S Q r
      simp only [ac10_G4, List.cons_append, List.nil_append, List.append_assoc]
      cases hb125 : ((decide (y114 = y117)) && (decide ((entry_Precedes x0 x1 (ix x2 1) (ix x2 0)) = (ref23_Precedes x0 x1 (ix x2 1) (ix x2 0)))))
      · intro k
        refine rd_skip rfl rfl ?_
        refine rd_op (v := vb false) (ov_pick rfl rfl rfl rfl) ?_
        exact rd_weak (sub_cons rfl (sub_skip rfl (sub_skip rfl (sub_refl _)))) k
      · intro k
        have hb125' := hb125
        try simp only [Bool.or_eq_true, Bool.or_eq_false_iff, Bool.and_eq_true, Bool.and_eq_false_imp, decide_eq_true_eq, decide_eq_false_iff_not, Bool.not_eq_true', Bool.not_eq_false', Bool.not_eq_true, Bool.not_eq_false, Bool.not_true, Bool.not_false, ne_eq] at hb125'
        have f126 := f33_ok   
        refine rd_ycall rfl rfl (cv_fn rfl rfl clL_nil f126) ?_
        refine rd_op (v := vb (law23_works)) (ov_pick rfl rfl rfl rfl) ?_
        exact rd_weak (sub_cons rfl (sub_skip rfl (sub_skip rfl (sub_refl _)))) k
    refine rd_op (ov_move rfl) ?_
    refine rd_nil ?_
    refine pn_seq ?_
    subst hres
    exact rc_retV (.tmp rfl .nil) (deep_closed rfl) rfl

end Go.Proofs.Ytklfdkbemkommaa
