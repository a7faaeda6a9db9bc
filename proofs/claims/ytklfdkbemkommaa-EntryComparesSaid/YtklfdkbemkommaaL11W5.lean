/-
  The code of each function does what its plain program says.
-/
import Derived.Test.YtklfdkbemkommaaL11W4
set_option linter.unusedVariables false
set_option linter.unusedSimpArgs false
set_option maxRecDepth 100000
namespace Go.Proofs.Ytklfdkbemkommaa
open Go Go.Pb Go.RowKit
/-- patchbay/patchbayref23.SameKey -/
def RF41 (res : Bool) (r : PV) : Prop := r = vb res
theorem ref23_SameKey_L1_ok {S : List Fr} {res : Bool} {x0 : api_Entry} {x1 : api_Entry} {v0 : PV} {v1 : PV} (r0 : api_Entry.t.R x0 v0) (r1 : api_Entry.t.R x1 v1) (hc104 : ((!decide ((x0.Keys.length : Int) = (x1.Keys.length : Int))) || (!decide (x0.Priority = x1.Priority))) = false) {K0 : Unit → Bool}
    (hK0 : K0 () = res → PX Try.prog 0 S (QR Try.prog [(4, none)] (RF41 res)) [] ⟨0, []⟩) :
    ∀ (m : Nat) (x5_ : Int) (hm1 : m = Int.toNat ((x0.Keys.length : Int) - x5_)) (hlo1 : 0 ≤ x5_), ref23_SameKey_L1 x0 x1 K0 m x5_ = res → RC Try.prog (.loop ac41_L1) S (QR Try.prog [(4, none)] (RF41 res)) [(5, vi x5_), (3, .fp v1), (2, .fp v0)] ⟨0, []⟩ := by
  have hc104' := hc104
  try simp only [Bool.or_eq_true, Bool.or_eq_false_iff, Bool.and_eq_true, Bool.and_eq_false_imp, decide_eq_true_eq, decide_eq_false_iff_not, Bool.not_eq_true', Bool.not_eq_false', Bool.not_eq_true, Bool.not_eq_false, Bool.not_true, Bool.not_false, ne_eq] at hc104'
  intro m
  induction m with
  | zero =>
    intro x5_ hm1 hlo1 hres
    rw [ref23_SameKey_L1] at hres
    refine rc_loop ?_
    unfold ac41_L1
    refine rc_seq ?_
    refine rc_seq ?_
    refine rc_region ?_
    refine rd_op (ov_move rfl) ?_
    obtain ⟨v105, e105, r105⟩ := api_Entry.g_Keys r0
    refine rd_op (ov_faddr rfl e105) ?_
    refine rd_op (ov_load rfl (TR.cnt (tSl api_KeyMatch.t) r105) (TR.agg (tSl api_KeyMatch.t) r105)) ?_
    refine rd_op (ov_bi rfl (sl_len r105 Try.underlying67 _)) ?_
    refine rd_op (ov_bin rfl rfl i_lss) ?_
    refine rd_nil ?_
    refine pn_seq ?_
    refine rc_cond rfl (fun hc106 => ?_) (fun hc106 => ?_)
    · exfalso
      try simp only [Bool.or_eq_true, Bool.or_eq_false_iff, Bool.and_eq_true, Bool.and_eq_false_imp, decide_eq_true_eq, decide_eq_false_iff_not, Bool.not_eq_true', Bool.not_eq_false', Bool.not_eq_true, Bool.not_eq_false, Bool.not_true, Bool.not_false, ne_eq] at hc106
      omega
    · have hend := hres
      have hc106' := hc106
      try simp only [Bool.or_eq_true, Bool.or_eq_false_iff, Bool.and_eq_true, Bool.and_eq_false_imp, decide_eq_true_eq, decide_eq_false_iff_not, Bool.not_eq_true', Bool.not_eq_false', Bool.not_eq_true, Bool.not_eq_false, Bool.not_true, Bool.not_false, ne_eq] at hc106'
      refine rc_exit ?_
      refine px_seq ?_
      refine px_again ?_
      exact px_weak ((sub_nil _)) (hK0  hres)
  | succ m ih =>
    intro x5_ hm1 hlo1 hres
    rw [ref23_SameKey_L1] at hres
    refine rc_loop ?_
    unfold ac41_L1
    refine rc_seq ?_
    refine rc_seq ?_
    refine rc_region ?_
    refine rd_op (ov_move rfl) ?_
    obtain ⟨v107, e107, r107⟩ := api_Entry.g_Keys r0
    refine rd_op (ov_faddr rfl e107) ?_
    refine rd_op (ov_load rfl (TR.cnt (tSl api_KeyMatch.t) r107) (TR.agg (tSl api_KeyMatch.t) r107)) ?_
    refine rd_op (ov_bi rfl (sl_len r107 Try.underlying67 _)) ?_
    refine rd_op (ov_bin rfl rfl i_lss) ?_
    refine rd_nil ?_
    refine pn_seq ?_
    refine rc_cond rfl (fun hc108 => ?_) (fun hc108 => ?_)
    · have hgo := hres
      have hc108' := hc108
      try simp only [Bool.or_eq_true, Bool.or_eq_false_iff, Bool.and_eq_true, Bool.and_eq_false_imp, decide_eq_true_eq, decide_eq_false_iff_not, Bool.not_eq_true', Bool.not_eq_false', Bool.not_eq_true, Bool.not_eq_false, Bool.not_true, Bool.not_false, ne_eq] at hc108'
      refine rc_skip ?_
      refine pn_seq ?_
      refine rc_seq ?_
      refine rc_block ?_
      refine rc_seq ?_
      refine rc_region ?_
      obtain ⟨v109, e109, r109⟩ := api_Entry.g_Keys r0
      refine rd_op (ov_faddr rfl e109) ?_
      refine rd_op (ov_load rfl (TR.cnt (tSl api_KeyMatch.t) r109) (TR.agg (tSl api_KeyMatch.t) r109)) ?_
      refine rd_op (ov_move rfl) ?_
      obtain ⟨v110, e110, r110⟩ := sl_idx (i := x5_) r109 (by first | omega | (have hk := tck (by assumption) (by assumption); omega) | (have hk := rtck (by assumption) (by assumption); omega) | (have hk := eck (by assumption) (by assumption) (by assumption); omega) | (have hk := tv (by assumption) (by assumption); omega) | (have hk := rtv (by assumption) (by assumption); omega)) (by first | omega | (have hk := tck (by assumption) (by assumption); omega) | (have hk := rtck (by assumption) (by assumption); omega) | (have hk := eck (by assumption) (by assumption) (by assumption); omega) | (have hk := tv (by assumption) (by assumption); omega) | (have hk := rtv (by assumption) (by assumption); omega))
      refine rd_op (ov_iaddr rfl rfl e110) ?_
      refine rd_op (ov_load rfl (TR.cnt api_KeyMatch.t r110) (TR.agg api_KeyMatch.t r110)) ?_
      obtain ⟨v111, e111, r111⟩ := api_Entry.g_Keys r1
      refine rd_op (ov_faddr rfl e111) ?_
      refine rd_op (ov_load rfl (TR.cnt (tSl api_KeyMatch.t) r111) (TR.agg (tSl api_KeyMatch.t) r111)) ?_
      refine rd_op (ov_move rfl) ?_
      obtain ⟨v112, e112, r112⟩ := sl_idx (i := x5_) r111 (by first | omega | (have hk := tck (by assumption) (by assumption); omega) | (have hk := rtck (by assumption) (by assumption); omega) | (have hk := eck (by assumption) (by assumption) (by assumption); omega) | (have hk := tv (by assumption) (by assumption); omega) | (have hk := rtv (by assumption) (by assumption); omega)) (by first | omega | (have hk := tck (by assumption) (by assumption); omega) | (have hk := rtck (by assumption) (by assumption); omega) | (have hk := eck (by assumption) (by assumption) (by assumption); omega) | (have hk := tv (by assumption) (by assumption); omega) | (have hk := rtv (by assumption) (by assumption); omega))
      refine rd_op (ov_iaddr rfl rfl e112) ?_
      refine rd_op (ov_load rfl (TR.cnt api_KeyMatch.t r112) (TR.agg api_KeyMatch.t r112)) ?_
      refine rd_op (ov_bin rfl rfl (api_KeyMatch.neq_85 r110 r112)) ?_
      refine rd_nil ?_
      refine pn_seq ?_
      refine rc_cond rfl (fun hc113 => ?_) (fun hc113 => ?_)
      · replace hres := (ite_t hc113).symm.trans hres
        have hc113' := hc113
        try simp only [Bool.or_eq_true, Bool.or_eq_false_iff, Bool.and_eq_true, Bool.and_eq_false_imp, decide_eq_true_eq, decide_eq_false_iff_not, Bool.not_eq_true', Bool.not_eq_false', Bool.not_eq_true, Bool.not_eq_false, Bool.not_true, Bool.not_false, ne_eq] at hc113'
        refine rc_seq ?_
        refine rc_region ?_
        refine rd_op (v := vb false) (ov_move rfl) ?_
        refine rd_nil ?_
        refine pn_seq ?_
        subst hres
        exact rc_retV (.tmp rfl .nil) (deep_closed rfl) rfl
      · replace hres := (ite_f hc113).symm.trans hres
        have hc113' := hc113
        try simp only [Bool.or_eq_true, Bool.or_eq_false_iff, Bool.and_eq_true, Bool.and_eq_false_imp, decide_eq_true_eq, decide_eq_false_iff_not, Bool.not_eq_true', Bool.not_eq_false', Bool.not_eq_true, Bool.not_eq_false, Bool.not_true, Bool.not_false, ne_eq] at hc113'
        refine rc_skip ?_
        refine pn_blk ?_
        refine pn_seq ?_
        refine rc_region ?_
        refine rd_op (ov_move rfl) ?_
        refine rd_op (ov_bin rfl rfl i_add) ?_
        refine rd_op (ov_move rfl) ?_
        refine rd_nil ?_
        refine pn_again ?_
        have hbd := sl_bound r107
        have hinc : wr (x5_ + 1) = x5_ + 1 := wr_of (by omega) (by omega)
        rw [hinc]
        refine rc_weak ?_ (ih (x5_ + 1)  (by omega) (by omega) hres)
        exact ((sub_cons rfl (sub_cons rfl (sub_cons rfl (sub_nil _)))))
    · exfalso
      try simp only [Bool.or_eq_true, Bool.or_eq_false_iff, Bool.and_eq_true, Bool.and_eq_false_imp, decide_eq_true_eq, decide_eq_false_iff_not, Bool.not_eq_true', Bool.not_eq_false', Bool.not_eq_true, Bool.not_eq_false, Bool.not_true, Bool.not_false, ne_eq] at hc108
      omega

theorem f41_ok {x0 : api_Entry} {x1 : api_Entry} {v0 v1 : PV} (r0 : api_Entry.t.R x0 v0) (r1 : api_Entry.t.R x1 v1) : FnR Try.prog 41 [v0, v1] (vb (ref23_SameKey x0 x1)) := by
  obtain ⟨res, hres⟩ : ∃ res, ref23_SameKey x0 x1 = res := ⟨_, rfl⟩
  suffices H : RC Try.prog ac41 [] (QR Try.prog [(4, none)] (RF41 res)) (argE 0 [v0, v1]) ⟨0, []⟩ by
    obtain ⟨r, h1, h2⟩ := fnE text41 (by simp) H
    rw [hres]
    have h2 : r = vb res := h2
    rw [← h2]; exact h1
  unfold ref23_SameKey at hres
  unfold ac41
  refine rc_seq ?_
  refine rc_region ?_
  refine rd_op (ov_box rfl (TR.cnt api_Entry.t r0)) ?_
  refine rd_op (ov_box rfl (TR.cnt api_Entry.t r1)) ?_
  refine rd_op (v := vb false) (ov_move rfl) ?_
  refine rd_nil ?_
  refine pn_seq ?_
  refine rc_seq ?_
  refine rc_seq ?_
  refine rc_region ?_
  obtain ⟨v101, e101, r101⟩ := api_Entry.g_Keys r0
  refine rd_op (ov_faddr rfl e101) ?_
  refine rd_op (ov_load rfl (TR.cnt (tSl api_KeyMatch.t) r101) (TR.agg (tSl api_KeyMatch.t) r101)) ?_
  refine rd_op (ov_bi rfl (sl_len r101 Try.underlying67 _)) ?_
  obtain ⟨v102, e102, r102⟩ := api_Entry.g_Keys r1
  refine rd_op (ov_faddr rfl e102) ?_
  refine rd_op (ov_load rfl (TR.cnt (tSl api_KeyMatch.t) r102) (TR.agg (tSl api_KeyMatch.t) r102)) ?_
  refine rd_op (ov_bi rfl (sl_len r102 Try.underlying67 _)) ?_
  refine rd_op (ov_bin rfl rfl i_neq) ?_
  refine rd_op (ov_move rfl) ?_
  refine rd_cut (d := 19) (v := vb ((!decide ((x0.Keys.length : Int) = (x1.Keys.length : Int))) || (!decide (x0.Priority = x1.Priority)))) ?_ ?_
  · intro S Q r
    simp only [ac41_G1, List.cons_append, List.nil_append, List.append_assoc]
    cases hb103 : (!decide ((x0.Keys.length : Int) = (x1.Keys.length : Int)))
    · intro k
      have hb103' := hb103
      try simp only [Bool.or_eq_true, Bool.or_eq_false_iff, Bool.and_eq_true, Bool.and_eq_false_imp, decide_eq_true_eq, decide_eq_false_iff_not, Bool.not_eq_true', Bool.not_eq_false', Bool.not_eq_true, Bool.not_eq_false, Bool.not_true, Bool.not_false, ne_eq] at hb103'
      refine rd_yes rfl rfl (ov_faddr rfl (api_Entry.g_Priority r0)) ?_
      refine rd_yes rfl rfl (ov_load rfl rfl rfl) ?_
      refine rd_yes rfl rfl (ov_faddr rfl (api_Entry.g_Priority r1)) ?_
      refine rd_yes rfl rfl (ov_load rfl rfl rfl) ?_
      refine rd_yes rfl rfl (ov_bin rfl rfl i_neq) ?_
      refine rd_op (v := vb (!decide (x0.Priority = x1.Priority))) (ov_pick rfl rfl rfl rfl) ?_
      exact rd_weak (sub_cons rfl (sub_skip rfl (sub_skip rfl (sub_skip rfl (sub_skip rfl (sub_skip rfl (sub_skip rfl (sub_refl _)))))))) k
    · intro k
      refine rd_skip rfl rfl ?_
      refine rd_skip rfl rfl ?_
      refine rd_skip rfl rfl ?_
      refine rd_skip rfl rfl ?_
      refine rd_skip rfl rfl ?_
      refine rd_op (v := vb true) (ov_pick rfl rfl rfl rfl) ?_
      exact rd_weak (sub_cons rfl (sub_skip rfl (sub_skip rfl (sub_skip rfl (sub_skip rfl (sub_skip rfl (sub_skip rfl (sub_refl _)))))))) k
  refine rd_nil ?_
  refine pn_seq ?_
  refine rc_cond rfl (fun hc104 => ?_) (fun hc104 => ?_)
  · replace hres := (ite_t hc104).symm.trans hres
    have hc104' := hc104
    try simp only [Bool.or_eq_true, Bool.or_eq_false_iff, Bool.and_eq_true, Bool.and_eq_false_imp, decide_eq_true_eq, decide_eq_false_iff_not, Bool.not_eq_true', Bool.not_eq_false', Bool.not_eq_true, Bool.not_eq_false, Bool.not_true, Bool.not_false, ne_eq] at hc104'
    refine rc_seq ?_
    refine rc_region ?_
    refine rd_op (v := vb false) (ov_move rfl) ?_
    refine rd_nil ?_
    refine pn_seq ?_
    subst hres
    exact rc_retV (.tmp rfl .nil) (deep_closed rfl) rfl
  · replace hres := (ite_f hc104).symm.trans hres
    have hc104' := hc104
    try simp only [Bool.or_eq_true, Bool.or_eq_false_iff, Bool.and_eq_true, Bool.and_eq_false_imp, decide_eq_true_eq, decide_eq_false_iff_not, Bool.not_eq_true', Bool.not_eq_false', Bool.not_eq_true, Bool.not_eq_false, Bool.not_true, Bool.not_false, ne_eq] at hc104'
    refine rc_skip ?_
    refine pn_seq ?_
    refine rc_seq ?_
    refine rc_seq ?_
    refine rc_region ?_
    refine rd_op (v := vi 0) (ov_move rfl) ?_
    refine rd_nil ?_
    refine pn_seq ?_
    refine rc_block ?_
    refine rc_weak ?_ (ref23_SameKey_L1_ok (x0 := x0) (x1 := x1) (v0 := v0) (v1 := v1)  (r0 := r0) (r1 := r1) (hc104 := hc104) ?_ (Int.toNat ((x0.Keys.length : Int) - 0)) 0 rfl (by omega) hres)
    · exact ((sub_cons rfl (sub_cons rfl (sub_cons rfl (sub_nil _)))))
    · intro  hres
      refine px_blk ?_
      refine pn_seq ?_
      refine rc_seq ?_
      refine rc_region ?_
      refine rd_op (v := vb true) (ov_move rfl) ?_
      refine rd_nil ?_
      refine pn_seq ?_
      subst hres
      exact rc_retV (.tmp rfl .nil) (deep_closed rfl) rfl

/-- patchbay/patchbayref23.EqualCalls -/
def RF70 (res : Bool) (r : PV) : Prop := r = vb res
theorem ref23_EqualCalls_L1_ok {S : List Fr} {res : Bool} {x0 : api_ActionCall} {x1 : api_ActionCall} {v0 : PV} {v1 : PV} (r0 : api_ActionCall.t.R x0 v0) (r1 : api_ActionCall.t.R x1 v1) (hc104 : ((!decide (x0.Action = x1.Action)) || (!decide ((x0.Args.length : Int) = (x1.Args.length : Int)))) = false) {K0 : Unit → Bool}
    (hK0 : K0 () = res → PX Try.prog 0 S (QR Try.prog [(4, none)] (RF70 res)) [] ⟨0, []⟩) :
    ∀ (m : Nat) (x5_ : Int) (hm1 : m = Int.toNat ((x0.Args.length : Int) - x5_)) (hlo1 : 0 ≤ x5_), ref23_EqualCalls_L1 x0 x1 K0 m x5_ = res → RC Try.prog (.loop ac70_L1) S (QR Try.prog [(4, none)] (RF70 res)) [(5, vi x5_), (3, .fp v1), (2, .fp v0)] ⟨0, []⟩ := by
  have hc104' := hc104
  try simp only [Bool.or_eq_true, Bool.or_eq_false_iff, Bool.and_eq_true, Bool.and_eq_false_imp, decide_eq_true_eq, decide_eq_false_iff_not, Bool.not_eq_true', Bool.not_eq_false', Bool.not_eq_true, Bool.not_eq_false, Bool.not_true, Bool.not_false, ne_eq] at hc104'
  intro m
  induction m with
  | zero =>
    intro x5_ hm1 hlo1 hres
    rw [ref23_EqualCalls_L1] at hres
    refine rc_loop ?_
    unfold ac70_L1
    refine rc_seq ?_
    refine rc_seq ?_
    refine rc_region ?_
    refine rd_op (ov_move rfl) ?_
    obtain ⟨v105, e105, r105⟩ := api_ActionCall.g_Args r0
    refine rd_op (ov_faddr rfl e105) ?_
    refine rd_op (ov_load rfl (TR.cnt (tSl tU32) r105) (TR.agg (tSl tU32) r105)) ?_
    refine rd_op (ov_bi rfl (sl_len r105 Try.underlying44 _)) ?_
    refine rd_op (ov_bin rfl rfl i_lss) ?_
    refine rd_nil ?_
    refine pn_seq ?_
    refine rc_cond rfl (fun hc106 => ?_) (fun hc106 => ?_)
    · exfalso
      try simp only [Bool.or_eq_true, Bool.or_eq_false_iff, Bool.and_eq_true, Bool.and_eq_false_imp, decide_eq_true_eq, decide_eq_false_iff_not, Bool.not_eq_true', Bool.not_eq_false', Bool.not_eq_true, Bool.not_eq_false, Bool.not_true, Bool.not_false, ne_eq] at hc106
      omega
    · have hend := hres
      have hc106' := hc106
      try simp only [Bool.or_eq_true, Bool.or_eq_false_iff, Bool.and_eq_true, Bool.and_eq_false_imp, decide_eq_true_eq, decide_eq_false_iff_not, Bool.not_eq_true', Bool.not_eq_false', Bool.not_eq_true, Bool.not_eq_false, Bool.not_true, Bool.not_false, ne_eq] at hc106'
      refine rc_exit ?_
      refine px_seq ?_
      refine px_again ?_
      exact px_weak ((sub_nil _)) (hK0  hres)
  | succ m ih =>
    intro x5_ hm1 hlo1 hres
    rw [ref23_EqualCalls_L1] at hres
    refine rc_loop ?_
    unfold ac70_L1
    refine rc_seq ?_
    refine rc_seq ?_
    refine rc_region ?_
    refine rd_op (ov_move rfl) ?_
    obtain ⟨v107, e107, r107⟩ := api_ActionCall.g_Args r0
    refine rd_op (ov_faddr rfl e107) ?_
    refine rd_op (ov_load rfl (TR.cnt (tSl tU32) r107) (TR.agg (tSl tU32) r107)) ?_
    refine rd_op (ov_bi rfl (sl_len r107 Try.underlying44 _)) ?_
    refine rd_op (ov_bin rfl rfl i_lss) ?_
    refine rd_nil ?_
    refine pn_seq ?_
    refine rc_cond rfl (fun hc108 => ?_) (fun hc108 => ?_)
    · have hgo := hres
      have hc108' := hc108
      try simp only [Bool.or_eq_true, Bool.or_eq_false_iff, Bool.and_eq_true, Bool.and_eq_false_imp, decide_eq_true_eq, decide_eq_false_iff_not, Bool.not_eq_true', Bool.not_eq_false', Bool.not_eq_true, Bool.not_eq_false, Bool.not_true, Bool.not_false, ne_eq] at hc108'
      refine rc_skip ?_
      refine pn_seq ?_
      refine rc_seq ?_
      refine rc_block ?_
      refine rc_seq ?_
      refine rc_region ?_
      obtain ⟨v109, e109, r109⟩ := api_ActionCall.g_Args r0
      refine rd_op (ov_faddr rfl e109) ?_
      refine rd_op (ov_load rfl (TR.cnt (tSl tU32) r109) (TR.agg (tSl tU32) r109)) ?_
      refine rd_op (ov_move rfl) ?_
      refine rd_op (ov_iaddr rfl rfl (slU32 r109 (by first | omega | (have hk := tck (by assumption) (by assumption); omega) | (have hk := rtck (by assumption) (by assumption); omega) | (have hk := eck (by assumption) (by assumption) (by assumption); omega) | (have hk := tv (by assumption) (by assumption); omega) | (have hk := rtv (by assumption) (by assumption); omega)) (by first | omega | (have hk := tck (by assumption) (by assumption); omega) | (have hk := rtck (by assumption) (by assumption); omega) | (have hk := eck (by assumption) (by assumption) (by assumption); omega) | (have hk := tv (by assumption) (by assumption); omega) | (have hk := rtv (by assumption) (by assumption); omega)))) ?_
      refine rd_op (ov_load rfl rfl rfl) ?_
      obtain ⟨v110, e110, r110⟩ := api_ActionCall.g_Args r1
      refine rd_op (ov_faddr rfl e110) ?_
      refine rd_op (ov_load rfl (TR.cnt (tSl tU32) r110) (TR.agg (tSl tU32) r110)) ?_
      refine rd_op (ov_move rfl) ?_
      refine rd_op (ov_iaddr rfl rfl (slU32 r110 (by first | omega | (have hk := tck (by assumption) (by assumption); omega) | (have hk := rtck (by assumption) (by assumption); omega) | (have hk := eck (by assumption) (by assumption) (by assumption); omega) | (have hk := tv (by assumption) (by assumption); omega) | (have hk := rtv (by assumption) (by assumption); omega)) (by first | omega | (have hk := tck (by assumption) (by assumption); omega) | (have hk := rtck (by assumption) (by assumption); omega) | (have hk := eck (by assumption) (by assumption) (by assumption); omega) | (have hk := tv (by assumption) (by assumption); omega) | (have hk := rtv (by assumption) (by assumption); omega)))) ?_
      refine rd_op (ov_load rfl rfl rfl) ?_
      refine rd_op (ov_bin (a := vu32 (ix x0.Args x5_)) (b := vu32 (ix x1.Args x5_)) rfl rfl w_neq) ?_
      refine rd_nil ?_
      refine pn_seq ?_
      refine rc_cond rfl (fun hc111 => ?_) (fun hc111 => ?_)
      · replace hres := (ite_t hc111).symm.trans hres
        have hc111' := hc111
        try simp only [Bool.or_eq_true, Bool.or_eq_false_iff, Bool.and_eq_true, Bool.and_eq_false_imp, decide_eq_true_eq, decide_eq_false_iff_not, Bool.not_eq_true', Bool.not_eq_false', Bool.not_eq_true, Bool.not_eq_false, Bool.not_true, Bool.not_false, ne_eq] at hc111'
        refine rc_seq ?_
        refine rc_region ?_
        refine rd_op (v := vb false) (ov_move rfl) ?_
        refine rd_nil ?_
        refine pn_seq ?_
        subst hres
        exact rc_retV (.tmp rfl .nil) (deep_closed rfl) rfl
      · replace hres := (ite_f hc111).symm.trans hres
        have hc111' := hc111
        try simp only [Bool.or_eq_true, Bool.or_eq_false_iff, Bool.and_eq_true, Bool.and_eq_false_imp, decide_eq_true_eq, decide_eq_false_iff_not, Bool.not_eq_true', Bool.not_eq_false', Bool.not_eq_true, Bool.not_eq_false, Bool.not_true, Bool.not_false, ne_eq] at hc111'
        refine rc_skip ?_
        refine pn_blk ?_
        refine pn_seq ?_
        refine rc_region ?_
        refine rd_op (ov_move rfl) ?_
        refine rd_op (ov_bin rfl rfl i_add) ?_
        refine rd_op (ov_move rfl) ?_
        refine rd_nil ?_
        refine pn_again ?_
        have hbd := sl_bound r107
        have hinc : wr (x5_ + 1) = x5_ + 1 := wr_of (by omega) (by omega)
        rw [hinc]
        refine rc_weak ?_ (ih (x5_ + 1)  (by omega) (by omega) hres)
        exact ((sub_cons rfl (sub_cons rfl (sub_cons rfl (sub_nil _)))))
    · exfalso
      try simp only [Bool.or_eq_true, Bool.or_eq_false_iff, Bool.and_eq_true, Bool.and_eq_false_imp, decide_eq_true_eq, decide_eq_false_iff_not, Bool.not_eq_true', Bool.not_eq_false', Bool.not_eq_true, Bool.not_eq_false, Bool.not_true, Bool.not_false, ne_eq] at hc108
      omega

theorem f70_ok {x0 : api_ActionCall} {x1 : api_ActionCall} {v0 v1 : PV} (r0 : api_ActionCall.t.R x0 v0) (r1 : api_ActionCall.t.R x1 v1) : FnR Try.prog 70 [v0, v1] (vb (ref23_EqualCalls x0 x1)) := by
  obtain ⟨res, hres⟩ : ∃ res, ref23_EqualCalls x0 x1 = res := ⟨_, rfl⟩
  suffices H : RC Try.prog ac70 [] (QR Try.prog [(4, none)] (RF70 res)) (argE 0 [v0, v1]) ⟨0, []⟩ by
    obtain ⟨r, h1, h2⟩ := fnE text70 (by simp) H
    rw [hres]
    have h2 : r = vb res := h2
    rw [← h2]; exact h1
  unfold ref23_EqualCalls at hres
  unfold ac70
  refine rc_seq ?_
  refine rc_region ?_
  refine rd_op (ov_box rfl (TR.cnt api_ActionCall.t r0)) ?_
  refine rd_op (ov_box rfl (TR.cnt api_ActionCall.t r1)) ?_
  refine rd_op (v := vb false) (ov_move rfl) ?_
  refine rd_nil ?_
  refine pn_seq ?_
  refine rc_seq ?_
  refine rc_seq ?_
  refine rc_region ?_
  refine rd_op (ov_faddr rfl (api_ActionCall.g_Action r0)) ?_
  refine rd_op (ov_load rfl rfl rfl) ?_
  refine rd_op (ov_faddr rfl (api_ActionCall.g_Action r1)) ?_
  refine rd_op (ov_load rfl rfl rfl) ?_
  refine rd_op (ov_bin rfl rfl i_neq) ?_
  refine rd_op (ov_move rfl) ?_
  refine rd_cut (d := 19) (v := vb ((!decide (x0.Action = x1.Action)) || (!decide ((x0.Args.length : Int) = (x1.Args.length : Int))))) ?_ ?_
  · intro S Q r
    simp only [ac70_G1, List.cons_append, List.nil_append, List.append_assoc]
    cases hb101 : (!decide (x0.Action = x1.Action))
    · intro k
      have hb101' := hb101
      try simp only [Bool.or_eq_true, Bool.or_eq_false_iff, Bool.and_eq_true, Bool.and_eq_false_imp, decide_eq_true_eq, decide_eq_false_iff_not, Bool.not_eq_true', Bool.not_eq_false', Bool.not_eq_true, Bool.not_eq_false, Bool.not_true, Bool.not_false, ne_eq] at hb101'
      obtain ⟨v102, e102, r102⟩ := api_ActionCall.g_Args r0
      refine rd_yes rfl rfl (ov_faddr rfl e102) ?_
      refine rd_yes rfl rfl (ov_load rfl (TR.cnt (tSl tU32) r102) (TR.agg (tSl tU32) r102)) ?_
      refine rd_yes rfl rfl (ov_bi rfl (sl_len r102 Try.underlying44 _)) ?_
      obtain ⟨v103, e103, r103⟩ := api_ActionCall.g_Args r1
      refine rd_yes rfl rfl (ov_faddr rfl e103) ?_
      refine rd_yes rfl rfl (ov_load rfl (TR.cnt (tSl tU32) r103) (TR.agg (tSl tU32) r103)) ?_
      refine rd_yes rfl rfl (ov_bi rfl (sl_len r103 Try.underlying44 _)) ?_
      refine rd_yes rfl rfl (ov_bin rfl rfl i_neq) ?_
      refine rd_op (v := vb (!decide ((x0.Args.length : Int) = (x1.Args.length : Int)))) (ov_pick rfl rfl rfl rfl) ?_
      exact rd_weak (sub_cons rfl (sub_skip rfl (sub_skip rfl (sub_skip rfl (sub_skip rfl (sub_skip rfl (sub_skip rfl (sub_skip rfl (sub_skip rfl (sub_refl _)))))))))) k
    · intro k
      refine rd_skip rfl rfl ?_
      refine rd_skip rfl rfl ?_
      refine rd_skip rfl rfl ?_
      refine rd_skip rfl rfl ?_
      refine rd_skip rfl rfl ?_
      refine rd_skip rfl rfl ?_
      refine rd_skip rfl rfl ?_
      refine rd_op (v := vb true) (ov_pick rfl rfl rfl rfl) ?_
      exact rd_weak (sub_cons rfl (sub_skip rfl (sub_skip rfl (sub_skip rfl (sub_skip rfl (sub_skip rfl (sub_skip rfl (sub_skip rfl (sub_skip rfl (sub_refl _)))))))))) k
  refine rd_nil ?_
  refine pn_seq ?_
  refine rc_cond rfl (fun hc104 => ?_) (fun hc104 => ?_)
  · replace hres := (ite_t hc104).symm.trans hres
    have hc104' := hc104
    try simp only [Bool.or_eq_true, Bool.or_eq_false_iff, Bool.and_eq_true, Bool.and_eq_false_imp, decide_eq_true_eq, decide_eq_false_iff_not, Bool.not_eq_true', Bool.not_eq_false', Bool.not_eq_true, Bool.not_eq_false, Bool.not_true, Bool.not_false, ne_eq] at hc104'
    refine rc_seq ?_
    refine rc_region ?_
    refine rd_op (v := vb false) (ov_move rfl) ?_
    refine rd_nil ?_
    refine pn_seq ?_
    subst hres
    exact rc_retV (.tmp rfl .nil) (deep_closed rfl) rfl
  · replace hres := (ite_f hc104).symm.trans hres
    have hc104' := hc104
    try simp only [Bool.or_eq_true, Bool.or_eq_false_iff, Bool.and_eq_true, Bool.and_eq_false_imp, decide_eq_true_eq, decide_eq_false_iff_not, Bool.not_eq_true', Bool.not_eq_false', Bool.not_eq_true, Bool.not_eq_false, Bool.not_true, Bool.not_false, ne_eq] at hc104'
    refine rc_skip ?_
    refine pn_seq ?_
    refine rc_seq ?_
    refine rc_seq ?_
    refine rc_region ?_
    refine rd_op (v := vi 0) (ov_move rfl) ?_
    refine rd_nil ?_
    refine pn_seq ?_
    refine rc_block ?_
    refine rc_weak ?_ (ref23_EqualCalls_L1_ok (x0 := x0) (x1 := x1) (v0 := v0) (v1 := v1)  (r0 := r0) (r1 := r1) (hc104 := hc104) ?_ (Int.toNat ((x0.Args.length : Int) - 0)) 0 rfl (by omega) hres)
    · exact ((sub_cons rfl (sub_cons rfl (sub_cons rfl (sub_nil _)))))
    · intro  hres
      refine px_blk ?_
      refine pn_seq ?_
      refine rc_seq ?_
      refine rc_region ?_
      refine rd_op (v := vb true) (ov_move rfl) ?_
      refine rd_nil ?_
      refine pn_seq ?_
      subst hres
      exact rc_retV (.tmp rfl .nil) (deep_closed rfl) rfl

/-- patchbay/patchbayref23.Equal -/
def RF43 (res : Bool) (r : PV) : Prop := r = vb res
theorem f43_ok {x0 : api_Entry} {x1 : api_Entry} {v0 v1 : PV} (r0 : api_Entry.t.R x0 v0) (r1 : api_Entry.t.R x1 v1) : FnR Try.prog 43 [v0, v1] (vb (ref23_Equal x0 x1)) := by
  obtain ⟨res, hres⟩ : ∃ res, ref23_Equal x0 x1 = res := ⟨_, rfl⟩
  suffices H : RC Try.prog ac43 [] (QR Try.prog [(4, none)] (RF43 res)) (argE 0 [v0, v1]) ⟨0, []⟩ by
    obtain ⟨r, h1, h2⟩ := fnE text43 (by simp) H
    rw [hres]
    have h2 : r = vb res := h2
    rw [← h2]; exact h1
  unfold ref23_Equal at hres
  unfold ac43
  refine rc_seq ?_
  refine rc_region ?_
  refine rd_op (ov_box rfl (TR.cnt api_Entry.t r0)) ?_
  refine rd_op (ov_box rfl (TR.cnt api_Entry.t r1)) ?_
  refine rd_op (v := vb false) (ov_move rfl) ?_
  refine rd_nil ?_
  refine pn_seq ?_
  refine rc_seq ?_
  refine rc_region ?_
  refine rd_op (ov_load rfl (TR.cnt api_Entry.t r0) (TR.agg api_Entry.t r0)) ?_
  refine rd_op (ov_load rfl (TR.cnt api_Entry.t r1) (TR.agg api_Entry.t r1)) ?_
  obtain ⟨y101, hw101, hres⟩ := let_ex hres
  have f101 := f41_ok  r0 r1 
  rw [hw101] at f101
  refine rd_call (cv_fn rfl rfl (clL_cons (TR.clo api_Entry.t r0) (clL_cons (TR.clo api_Entry.t r1) clL_nil)) f101) ?_
  refine rd_op (ov_move rfl) ?_
  refine rd_cut (d := 14) (v := vb (y101 && (ref23_EqualCalls x0.Call x1.Call))) ?_ ?_
  · intro S Q r
    simp only [ac43_G1, List.cons_append, List.nil_append, List.append_assoc]
    cases hb102 : y101
    · intro k
      refine rd_skip rfl rfl ?_
      refine rd_skip rfl rfl ?_
      refine rd_skip rfl rfl ?_
      refine rd_skip rfl rfl ?_
      refine rd_skip rfl rfl ?_
      refine rd_op (v := vb false) (ov_pick rfl rfl rfl rfl) ?_
      exact rd_weak (sub_cons rfl (sub_skip rfl (sub_skip rfl (sub_skip rfl (sub_skip rfl (sub_skip rfl (sub_skip rfl (sub_refl _)))))))) k
    · intro k
      have hb102' := hb102
      try simp only [Bool.or_eq_true, Bool.or_eq_false_iff, Bool.and_eq_true, Bool.and_eq_false_imp, decide_eq_true_eq, decide_eq_false_iff_not, Bool.not_eq_true', Bool.not_eq_false', Bool.not_eq_true, Bool.not_eq_false, Bool.not_true, Bool.not_false, ne_eq] at hb102'
      obtain ⟨v103, e103, r103⟩ := api_Entry.g_Call r0
      refine rd_yes rfl rfl (ov_faddr rfl e103) ?_
      refine rd_yes rfl rfl (ov_load rfl (TR.cnt api_ActionCall.t r103) (TR.agg api_ActionCall.t r103)) ?_
      obtain ⟨v104, e104, r104⟩ := api_Entry.g_Call r1
      refine rd_yes rfl rfl (ov_faddr rfl e104) ?_
      refine rd_yes rfl rfl (ov_load rfl (TR.cnt api_ActionCall.t r104) (TR.agg api_ActionCall.t r104)) ?_
      have f105 := f70_ok  r103 r104 
      refine rd_ycall rfl rfl (cv_fn rfl rfl (clL_cons (TR.clo api_ActionCall.t r103) (clL_cons (TR.clo api_ActionCall.t r104) clL_nil)) f105) ?_
      refine rd_op (v := vb (ref23_EqualCalls x0.Call x1.Call)) (ov_pick rfl rfl rfl rfl) ?_
      exact rd_weak (sub_cons rfl (sub_skip rfl (sub_skip rfl (sub_skip rfl (sub_skip rfl (sub_skip rfl (sub_skip rfl (sub_refl _)))))))) k
  refine rd_op (ov_move rfl) ?_
  refine rd_nil ?_
  refine pn_seq ?_
  subst hres
  exact rc_retV (.tmp rfl .nil) (deep_closed rfl) rfl

/-- patchbay/patchbaylaw23.EntryCompares -/
def RF11 (res : Bool) (r : PV) : Prop := r = vb res
theorem f11_ok {x0 : api_Entry} {x1 : api_Entry} {v0 v1 : PV} (r0 : api_Entry.t.R x0 v0) (r1 : api_Entry.t.R x1 v1) : FnR Try.prog 11 [v0, v1] (vb (law23_EntryCompares x0 x1)) := by
  obtain ⟨res, hres⟩ : ∃ res, law23_EntryCompares x0 x1 = res := ⟨_, rfl⟩
  suffices H : RC Try.prog ac11 [] (QR Try.prog [(4, none)] (RF11 res)) (argE 0 [v0, v1]) ⟨0, []⟩ by
    obtain ⟨r, h1, h2⟩ := fnE text11 (by simp) H
    rw [hres]
    have h2 : r = vb res := h2
    rw [← h2]; exact h1
  unfold law23_EntryCompares at hres
  unfold ac11
  refine rc_seq ?_
  refine rc_region ?_
  refine rd_op (ov_box rfl (TR.cnt api_Entry.t r0)) ?_
  refine rd_op (ov_box rfl (TR.cnt api_Entry.t r1)) ?_
  refine rd_op (v := vb false) (ov_move rfl) ?_
  refine rd_nil ?_
  refine pn_seq ?_
  refine rc_seq ?_
  refine rc_seq ?_
  refine rc_region ?_
  refine rd_op (ov_load rfl (TR.cnt api_Entry.t r0) (TR.agg api_Entry.t r0)) ?_
  obtain ⟨y101, hw101, hres⟩ := let_ex hres
  have f101 := f32_ok  r0 
  rw [hw101] at f101
  refine rd_call (cv_fn rfl rfl (clL_cons (TR.clo api_Entry.t r0) clL_nil) f101) ?_
  refine rd_op (ov_not rfl) ?_
  refine rd_op (ov_move rfl) ?_
  refine rd_cut (d := 12) (v := vb ((!y101) || (!(law23_Small x1)))) ?_ ?_
  · intro S Q r
    simp only [ac11_G1, List.cons_append, List.nil_append, List.append_assoc]
    cases hb102 : (!y101)
    · intro k
      have hb102' := hb102
      try simp only [Bool.or_eq_true, Bool.or_eq_false_iff, Bool.and_eq_true, Bool.and_eq_false_imp, decide_eq_true_eq, decide_eq_false_iff_not, Bool.not_eq_true', Bool.not_eq_false', Bool.not_eq_true, Bool.not_eq_false, Bool.not_true, Bool.not_false, ne_eq] at hb102'
      refine rd_yes rfl rfl (ov_load rfl (TR.cnt api_Entry.t r1) (TR.agg api_Entry.t r1)) ?_
      have f103 := f32_ok  r1 
      refine rd_ycall rfl rfl (cv_fn rfl rfl (clL_cons (TR.clo api_Entry.t r1) clL_nil) f103) ?_
      refine rd_yes rfl rfl (ov_not rfl) ?_
      refine rd_op (v := vb (!(law23_Small x1))) (ov_pick rfl rfl rfl rfl) ?_
      exact rd_weak (sub_cons rfl (sub_skip rfl (sub_skip rfl (sub_skip rfl (sub_skip rfl (sub_refl _)))))) k
    · intro k
      refine rd_skip rfl rfl ?_
      refine rd_skip rfl rfl ?_
      refine rd_skip rfl rfl ?_
      refine rd_op (v := vb true) (ov_pick rfl rfl rfl rfl) ?_
      exact rd_weak (sub_cons rfl (sub_skip rfl (sub_skip rfl (sub_skip rfl (sub_skip rfl (sub_refl _)))))) k
  refine rd_nil ?_
  refine pn_seq ?_
  refine rc_cond rfl (fun hc104 => ?_) (fun hc104 => ?_)
  · replace hres := (ite_t hc104).symm.trans hres
    have hc104' := hc104
    try simp only [Bool.or_eq_true, Bool.or_eq_false_iff, Bool.and_eq_true, Bool.and_eq_false_imp, decide_eq_true_eq, decide_eq_false_iff_not, Bool.not_eq_true', Bool.not_eq_false', Bool.not_eq_true, Bool.not_eq_false, Bool.not_true, Bool.not_false, ne_eq] at hc104'
    refine rc_seq ?_
    refine rc_region ?_
    obtain ⟨y105, hw105, hres⟩ := let_ex hres
    have f105 := f33_ok   
    rw [hw105] at f105
    refine rd_call (cv_fn rfl rfl clL_nil f105) ?_
    refine rd_op (ov_move rfl) ?_
    refine rd_nil ?_
    refine pn_seq ?_
    subst hres
    exact rc_retV (.tmp rfl .nil) (deep_closed rfl) rfl
  · replace hres := (ite_f hc104).symm.trans hres
    have hc104' := hc104
    try simp only [Bool.or_eq_true, Bool.or_eq_false_iff, Bool.and_eq_true, Bool.and_eq_false_imp, decide_eq_true_eq, decide_eq_false_iff_not, Bool.not_eq_true', Bool.not_eq_false', Bool.not_eq_true, Bool.not_eq_false, Bool.not_true, Bool.not_false, ne_eq] at hc104'
    refine rc_skip ?_
    refine pn_seq ?_
    refine rc_seq ?_
    refine rc_region ?_
    refine rd_op (ov_load rfl (TR.cnt api_Entry.t r0) (TR.agg api_Entry.t r0)) ?_
    refine rd_op (ov_load rfl (TR.cnt api_Entry.t r1) (TR.agg api_Entry.t r1)) ?_
    obtain ⟨y106, hw106, hres⟩ := let_ex hres
    have f106 := f40_ok  r0 r1 
    rw [hw106] at f106
    refine rd_call (cv_fn rfl rfl (clL_cons (TR.clo api_Entry.t r0) (clL_cons (TR.clo api_Entry.t r1) clL_nil)) f106) ?_
    refine rd_op (ov_load rfl (TR.cnt api_Entry.t r0) (TR.agg api_Entry.t r0)) ?_
    refine rd_op (ov_load rfl (TR.cnt api_Entry.t r1) (TR.agg api_Entry.t r1)) ?_
    obtain ⟨y107, hw107, hres⟩ := let_ex hres
    have f107 := f41_ok  r0 r1 
    rw [hw107] at f107
    refine rd_call (cv_fn rfl rfl (clL_cons (TR.clo api_Entry.t r0) (clL_cons (TR.clo api_Entry.t r1) clL_nil)) f107) ?_
    refine rd_op (ov_bin rfl rfl (bin_eqlb (by rw [Try.underlying4]; rfl))) ?_
    refine rd_op (ov_move rfl) ?_
    refine rd_cut (d := 29) (v := vb ((decide (y106 = y107)) && (decide ((entry_Equal x0 x1) = (ref23_Equal x0 x1))))) ?_ ?_
    · intro S Q r
      simp only [ac11_G2, List.cons_append, List.nil_append, List.append_assoc]
      cases hb108 : (decide (y106 = y107))
      · intro k
        refine rd_skip rfl rfl ?_
        refine rd_skip rfl rfl ?_
        refine rd_skip rfl rfl ?_
        refine rd_skip rfl rfl ?_
        refine rd_skip rfl rfl ?_
        refine rd_skip rfl rfl ?_
        refine rd_skip rfl rfl ?_
        refine rd_op (v := vb false) (ov_pick rfl rfl rfl rfl) ?_
        exact rd_weak (sub_cons rfl (sub_skip rfl (sub_skip rfl (sub_skip rfl (sub_skip rfl (sub_skip rfl (sub_skip rfl (sub_skip rfl (sub_skip rfl (sub_refl _)))))))))) k
      · intro k
        have hb108' := hb108
        try simp only [Bool.or_eq_true, Bool.or_eq_false_iff, Bool.and_eq_true, Bool.and_eq_false_imp, decide_eq_true_eq, decide_eq_false_iff_not, Bool.not_eq_true', Bool.not_eq_false', Bool.not_eq_true, Bool.not_eq_false, Bool.not_true, Bool.not_false, ne_eq] at hb108'
        refine rd_yes rfl rfl (ov_load rfl (TR.cnt api_Entry.t r0) (TR.agg api_Entry.t r0)) ?_
        refine rd_yes rfl rfl (ov_load rfl (TR.cnt api_Entry.t r1) (TR.agg api_Entry.t r1)) ?_
        have f109 := f42_ok  r0 r1 
        refine rd_ycall rfl rfl (cv_fn rfl rfl (clL_cons (TR.clo api_Entry.t r0) (clL_cons (TR.clo api_Entry.t r1) clL_nil)) f109) ?_
        refine rd_yes rfl rfl (ov_load rfl (TR.cnt api_Entry.t r0) (TR.agg api_Entry.t r0)) ?_
        refine rd_yes rfl rfl (ov_load rfl (TR.cnt api_Entry.t r1) (TR.agg api_Entry.t r1)) ?_
        have f110 := f43_ok  r0 r1 
        refine rd_ycall rfl rfl (cv_fn rfl rfl (clL_cons (TR.clo api_Entry.t r0) (clL_cons (TR.clo api_Entry.t r1) clL_nil)) f110) ?_
        refine rd_yes rfl rfl (ov_bin rfl rfl (bin_eqlb (by rw [Try.underlying4]; rfl))) ?_
        refine rd_op (v := vb (decide ((entry_Equal x0 x1) = (ref23_Equal x0 x1)))) (ov_pick rfl rfl rfl rfl) ?_
        exact rd_weak (sub_cons rfl (sub_skip rfl (sub_skip rfl (sub_skip rfl (sub_skip rfl (sub_skip rfl (sub_skip rfl (sub_skip rfl (sub_skip rfl (sub_refl _)))))))))) k
    refine rd_op (ov_move rfl) ?_
    refine rd_cut (d := 38) (v := vb (((decide (y106 = y107)) && (decide ((entry_Equal x0 x1) = (ref23_Equal x0 x1)))) && (decide ((entry_SameKey x1 x0) = (entry_SameKey x0 x1))))) ?_ ?_
    · intro S Q r
      simp only [ac11_G3, List.cons_append, List.nil_append, List.append_assoc]
      cases hb111 : ((decide (y106 = y107)) && (decide ((entry_Equal x0 x1) = (ref23_Equal x0 x1))))
      · intro k
        refine rd_skip rfl rfl ?_
        refine rd_skip rfl rfl ?_
        refine rd_skip rfl rfl ?_
        refine rd_skip rfl rfl ?_
        refine rd_skip rfl rfl ?_
        refine rd_skip rfl rfl ?_
        refine rd_skip rfl rfl ?_
        refine rd_op (v := vb false) (ov_pick rfl rfl rfl rfl) ?_
        exact rd_weak (sub_cons rfl (sub_skip rfl (sub_skip rfl (sub_skip rfl (sub_skip rfl (sub_skip rfl (sub_skip rfl (sub_skip rfl (sub_skip rfl (sub_refl _)))))))))) k
      · intro k
        have hb111' := hb111
        try simp only [Bool.or_eq_true, Bool.or_eq_false_iff, Bool.and_eq_true, Bool.and_eq_false_imp, decide_eq_true_eq, decide_eq_false_iff_not, Bool.not_eq_true', Bool.not_eq_false', Bool.not_eq_true, Bool.not_eq_false, Bool.not_true, Bool.not_false, ne_eq] at hb111'
        refine rd_yes rfl rfl (ov_load rfl (TR.cnt api_Entry.t r1) (TR.agg api_Entry.t r1)) ?_
        refine rd_yes rfl rfl (ov_load rfl (TR.cnt api_Entry.t r0) (TR.agg api_Entry.t r0)) ?_
        have f112 := f40_ok  r1 r0 
        refine rd_ycall rfl rfl (cv_fn rfl rfl (clL_cons (TR.clo api_Entry.t r1) (clL_cons (TR.clo api_Entry.t r0) clL_nil)) f112) ?_
        refine rd_yes rfl rfl (ov_load rfl (TR.cnt api_Entry.t r0) (TR.agg api_Entry.t r0)) ?_
        refine rd_yes rfl rfl (ov_load rfl (TR.cnt api_Entry.t r1) (TR.agg api_Entry.t r1)) ?_
        have f113 := f40_ok  r0 r1 
        refine rd_ycall rfl rfl (cv_fn rfl rfl (clL_cons (TR.clo api_Entry.t r0) (clL_cons (TR.clo api_Entry.t r1) clL_nil)) f113) ?_
        refine rd_yes rfl rfl (ov_bin rfl rfl (bin_eqlb (by rw [Try.underlying4]; rfl))) ?_
        refine rd_op (v := vb (decide ((entry_SameKey x1 x0) = (entry_SameKey x0 x1)))) (ov_pick rfl rfl rfl rfl) ?_
        exact rd_weak (sub_cons rfl (sub_skip rfl (sub_skip rfl (sub_skip rfl (sub_skip rfl (sub_skip rfl (sub_skip rfl (sub_skip rfl (sub_skip rfl (sub_refl _)))))))))) k
    refine rd_op (ov_move rfl) ?_
    refine rd_cut (d := 47) (v := vb ((((decide (y106 = y107)) && (decide ((entry_Equal x0 x1) = (ref23_Equal x0 x1)))) && (decide ((entry_SameKey x1 x0) = (entry_SameKey x0 x1)))) && (decide ((entry_Equal x1 x0) = (entry_Equal x0 x1))))) ?_ ?_
    · intro S Q r
      simp only [ac11_G4, List.cons_append, List.nil_append, List.append_assoc]
      cases hb114 : (((decide (y106 = y107)) && (decide ((entry_Equal x0 x1) = (ref23_Equal x0 x1)))) && (decide ((entry_SameKey x1 x0) = (entry_SameKey x0 x1))))
      · intro k
        refine rd_skip rfl rfl ?_
        refine rd_skip rfl rfl ?_
        refine rd_skip rfl rfl ?_
        refine rd_skip rfl rfl ?_
        refine rd_skip rfl rfl ?_
        refine rd_skip rfl rfl ?_
        refine rd_skip rfl rfl ?_
        refine rd_op (v := vb false) (ov_pick rfl rfl rfl rfl) ?_
        exact rd_weak (sub_cons rfl (sub_skip rfl (sub_skip rfl (sub_skip rfl (sub_skip rfl (sub_skip rfl (sub_skip rfl (sub_skip rfl (sub_skip rfl (sub_refl _)))))))))) k
      · intro k
        have hb114' := hb114
        try simp only [Bool.or_eq_true, Bool.or_eq_false_iff, Bool.and_eq_true, Bool.and_eq_false_imp, decide_eq_true_eq, decide_eq_false_iff_not, Bool.not_eq_true', Bool.not_eq_false', Bool.not_eq_true, Bool.not_eq_false, Bool.not_true, Bool.not_false, ne_eq] at hb114'
        refine rd_yes rfl rfl (ov_load rfl (TR.cnt api_Entry.t r1) (TR.agg api_Entry.t r1)) ?_
        refine rd_yes rfl rfl (ov_load rfl (TR.cnt api_Entry.t r0) (TR.agg api_Entry.t r0)) ?_
        have f115 := f42_ok  r1 r0 
        refine rd_ycall rfl rfl (cv_fn rfl rfl (clL_cons (TR.clo api_Entry.t r1) (clL_cons (TR.clo api_Entry.t r0) clL_nil)) f115) ?_
        refine rd_yes rfl rfl (ov_load rfl (TR.cnt api_Entry.t r0) (TR.agg api_Entry.t r0)) ?_
        refine rd_yes rfl rfl (ov_load rfl (TR.cnt api_Entry.t r1) (TR.agg api_Entry.t r1)) ?_
        have f116 := f42_ok  r0 r1 
        refine rd_ycall rfl rfl (cv_fn rfl rfl (clL_cons (TR.clo api_Entry.t r0) (clL_cons (TR.clo api_Entry.t r1) clL_nil)) f116) ?_
        refine rd_yes rfl rfl (ov_bin rfl rfl (bin_eqlb (by rw [Try.underlying4]; rfl))) ?_
        refine rd_op (v := vb (decide ((entry_Equal x1 x0) = (entry_Equal x0 x1)))) (ov_pick rfl rfl rfl rfl) ?_
        exact rd_weak (sub_cons rfl (sub_skip rfl (sub_skip rfl (sub_skip rfl (sub_skip rfl (sub_skip rfl (sub_skip rfl (sub_skip rfl (sub_skip rfl (sub_refl _)))))))))) k
    refine rd_op (ov_move rfl) ?_
    refine rd_cut (d := 52) (v := vb (((((decide (y106 = y107)) && (decide ((entry_Equal x0 x1) = (ref23_Equal x0 x1)))) && (decide ((entry_SameKey x1 x0) = (entry_SameKey x0 x1)))) && (decide ((entry_Equal x1 x0) = (entry_Equal x0 x1)))) && (entry_SameKey x0 x0))) ?_ ?_
    · intro S Q r
      simp only [ac11_G5, List.cons_append, List.nil_append, List.append_assoc]
      cases hb117 : ((((decide (y106 = y107)) && (decide ((entry_Equal x0 x1) = (ref23_Equal x0 x1)))) && (decide ((entry_SameKey x1 x0) = (entry_SameKey x0 x1)))) && (decide ((entry_Equal x1 x0) = (entry_Equal x0 x1))))
      · intro k
        refine rd_skip rfl rfl ?_
        refine rd_skip rfl rfl ?_
        refine rd_skip rfl rfl ?_
        refine rd_op (v := vb false) (ov_pick rfl rfl rfl rfl) ?_
        exact rd_weak (sub_cons rfl (sub_skip rfl (sub_skip rfl (sub_skip rfl (sub_skip rfl (sub_refl _)))))) k
      · intro k
        have hb117' := hb117
        try simp only [Bool.or_eq_true, Bool.or_eq_false_iff, Bool.and_eq_true, Bool.and_eq_false_imp, decide_eq_true_eq, decide_eq_false_iff_not, Bool.not_eq_true', Bool.not_eq_false', Bool.not_eq_true, Bool.not_eq_false, Bool.not_true, Bool.not_false, ne_eq] at hb117'
        refine rd_yes rfl rfl (ov_load rfl (TR.cnt api_Entry.t r0) (TR.agg api_Entry.t r0)) ?_
        refine rd_yes rfl rfl (ov_load rfl (TR.cnt api_Entry.t r0) (TR.agg api_Entry.t r0)) ?_
        have f118 := f40_ok  r0 r0 
        refine rd_ycall rfl rfl (cv_fn rfl rfl (clL_cons (TR.clo api_Entry.t r0) (clL_cons (TR.clo api_Entry.t r0) clL_nil)) f118) ?_
        refine rd_op (v := vb (entry_SameKey x0 x0)) (ov_pick rfl rfl rfl rfl) ?_
        exact rd_weak (sub_cons rfl (sub_skip rfl (sub_skip rfl (sub_skip rfl (sub_skip rfl (sub_refl _)))))) k
    refine rd_op (ov_move rfl) ?_
    refine rd_cut (d := 57) (v := vb ((((((decide (y106 = y107)) && (decide ((entry_Equal x0 x1) = (ref23_Equal x0 x1)))) && (decide ((entry_SameKey x1 x0) = (entry_SameKey x0 x1)))) && (decide ((entry_Equal x1 x0) = (entry_Equal x0 x1)))) && (entry_SameKey x0 x0)) && (entry_Equal x0 x0))) ?_ ?_
    · intro S Q r
      simp only [ac11_G6, List.cons_append, List.nil_append, List.append_assoc]
      cases hb119 : (((((decide (y106 = y107)) && (decide ((entry_Equal x0 x1) = (ref23_Equal x0 x1)))) && (decide ((entry_SameKey x1 x0) = (entry_SameKey x0 x1)))) && (decide ((entry_Equal x1 x0) = (entry_Equal x0 x1)))) && (entry_SameKey x0 x0))
      · intro k
        refine rd_skip rfl rfl ?_
        refine rd_skip rfl rfl ?_
        refine rd_skip rfl rfl ?_
        refine rd_op (v := vb false) (ov_pick rfl rfl rfl rfl) ?_
        exact rd_weak (sub_cons rfl (sub_skip rfl (sub_skip rfl (sub_skip rfl (sub_skip rfl (sub_refl _)))))) k
      · intro k
        have hb119' := hb119
        try simp only [Bool.or_eq_true, Bool.or_eq_false_iff, Bool.and_eq_true, Bool.and_eq_false_imp, decide_eq_true_eq, decide_eq_false_iff_not, Bool.not_eq_true', Bool.not_eq_false', Bool.not_eq_true, Bool.not_eq_false, Bool.not_true, Bool.not_false, ne_eq] at hb119'
        refine rd_yes rfl rfl (ov_load rfl (TR.cnt api_Entry.t r0) (TR.agg api_Entry.t r0)) ?_
        refine rd_yes rfl rfl (ov_load rfl (TR.cnt api_Entry.t r0) (TR.agg api_Entry.t r0)) ?_
        have f120 := f42_ok  r0 r0 
        refine rd_ycall rfl rfl (cv_fn rfl rfl (clL_cons (TR.clo api_Entry.t r0) (clL_cons (TR.clo api_Entry.t r0) clL_nil)) f120) ?_
        refine rd_op (v := vb (entry_Equal x0 x0)) (ov_pick rfl rfl rfl rfl) ?_
        exact rd_weak (sub_cons rfl (sub_skip rfl (sub_skip rfl (sub_skip rfl (sub_skip rfl (sub_refl _)))))) k
    refine rd_op (ov_move rfl) ?_
    refine rd_cut (d := 60) (v := vb (((((((decide (y106 = y107)) && (decide ((entry_Equal x0 x1) = (ref23_Equal x0 x1)))) && (decide ((entry_SameKey x1 x0) = (entry_SameKey x0 x1)))) && (decide ((entry_Equal x1 x0) = (entry_Equal x0 x1)))) && (entry_SameKey x0 x0)) && (entry_Equal x0 x0)) && (law23_works))) ?_ ?_
    · intro S Q r
      simp only [ac11_G7, List.cons_append, List.nil_append, List.append_assoc]
      cases hb121 : ((((((decide (y106 = y107)) && (decide ((entry_Equal x0 x1) = (ref23_Equal x0 x1)))) && (decide ((entry_SameKey x1 x0) = (entry_SameKey x0 x1)))) && (decide ((entry_Equal x1 x0) = (entry_Equal x0 x1)))) && (entry_SameKey x0 x0)) && (entry_Equal x0 x0))
      · intro k
        refine rd_skip rfl rfl ?_
        refine rd_op (v := vb false) (ov_pick rfl rfl rfl rfl) ?_
        exact rd_weak (sub_cons rfl (sub_skip rfl (sub_skip rfl (sub_refl _)))) k
      · intro k
        have hb121' := hb121
        try simp only [Bool.or_eq_true, Bool.or_eq_false_iff, Bool.and_eq_true, Bool.and_eq_false_imp, decide_eq_true_eq, decide_eq_false_iff_not, Bool.not_eq_true', Bool.not_eq_false', Bool.not_eq_true, Bool.not_eq_false, Bool.not_true, Bool.not_false, ne_eq] at hb121'
        have f122 := f33_ok   
        refine rd_ycall rfl rfl (cv_fn rfl rfl clL_nil f122) ?_
        refine rd_op (v := vb (law23_works)) (ov_pick rfl rfl rfl rfl) ?_
        exact rd_weak (sub_cons rfl (sub_skip rfl (sub_skip rfl (sub_refl _)))) k
    refine rd_op (ov_move rfl) ?_
    refine rd_nil ?_
    refine pn_seq ?_
    subst hres
    exact rc_retV (.tmp rfl .nil) (deep_closed rfl) rfl

end Go.Proofs.Ytklfdkbemkommaa
