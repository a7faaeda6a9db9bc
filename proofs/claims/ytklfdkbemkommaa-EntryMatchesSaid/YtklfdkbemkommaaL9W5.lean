/-
  The code of each function does what its plain program says.
-/
import Derived.Test.YtklfdkbemkommaaL9W4
set_option linter.unusedVariables false
set_option linter.unusedSimpArgs false
set_option maxRecDepth 100000
namespace Go.Proofs.Ytklfdkbemkommaa
open Go Go.Pb Go.RowKit
/-- patchbay/patchbayref23.Matches -/
def RF37 (res : Bool) (r : PV) : Prop := r = vb res
theorem ref23_Matches_L1_ok {S : List Fr} {res : Bool} {x0 : api_Entry} {x1 : List (BitVec 32)} {v0 : PV} {v1 : PV} (r0 : api_Entry.t.R x0 v0) (r1 : (tSl tU32).R x1 v1) (hc102 : (!decide ((x0.Keys.length : Int) = (x1.length : Int))) = false) {K0 : Unit → Bool}
    (hK0 : K0 () = res → PX Try.prog 0 S (QR Try.prog [(4, none)] (RF37 res)) [] ⟨0, []⟩) :
    ∀ (m : Nat) (x5_ : Int) (hm1 : m = Int.toNat ((x1.length : Int) - x5_)) (hlo1 : 0 ≤ x5_), ref23_Matches_L1 x0 x1 K0 m x5_ = res → RC Try.prog (.loop ac37_L1) S (QR Try.prog [(4, none)] (RF37 res)) [(5, vi x5_), (2, .fp v0), (1, v1)] ⟨0, []⟩ := by
  have hc102' := hc102
  try simp only [Bool.or_eq_true, Bool.or_eq_false_iff, Bool.and_eq_true, Bool.and_eq_false_imp, decide_eq_true_eq, decide_eq_false_iff_not, Bool.not_eq_true', Bool.not_eq_false', Bool.not_eq_true, Bool.not_eq_false, Bool.not_true, Bool.not_false, ne_eq] at hc102'
  intro m
  induction m with
  | zero =>
    intro x5_ hm1 hlo1 hres
    rw [ref23_Matches_L1] at hres
    refine rc_loop ?_
    unfold ac37_L1
    refine rc_seq ?_
    refine rc_seq ?_
    refine rc_region ?_
    refine rd_op (ov_move rfl) ?_
    refine rd_op (ov_move rfl) ?_
    refine rd_op (ov_bi rfl (sl_len r1 Try.underlying44 _)) ?_
    refine rd_op (ov_bin rfl rfl i_lss) ?_
    refine rd_nil ?_
    refine pn_seq ?_
    refine rc_cond rfl (fun hc103 => ?_) (fun hc103 => ?_)
    · exfalso
      try simp only [Bool.or_eq_true, Bool.or_eq_false_iff, Bool.and_eq_true, Bool.and_eq_false_imp, decide_eq_true_eq, decide_eq_false_iff_not, Bool.not_eq_true', Bool.not_eq_false', Bool.not_eq_true, Bool.not_eq_false, Bool.not_true, Bool.not_false, ne_eq] at hc103
      omega
    · have hend := hres
      have hc103' := hc103
      try simp only [Bool.or_eq_true, Bool.or_eq_false_iff, Bool.and_eq_true, Bool.and_eq_false_imp, decide_eq_true_eq, decide_eq_false_iff_not, Bool.not_eq_true', Bool.not_eq_false', Bool.not_eq_true, Bool.not_eq_false, Bool.not_true, Bool.not_false, ne_eq] at hc103'
      refine rc_exit ?_
      refine px_seq ?_
      refine px_again ?_
      exact px_weak ((sub_nil _)) (hK0  hres)
  | succ m ih =>
    intro x5_ hm1 hlo1 hres
    rw [ref23_Matches_L1] at hres
    refine rc_loop ?_
    unfold ac37_L1
    refine rc_seq ?_
    refine rc_seq ?_
    refine rc_region ?_
    refine rd_op (ov_move rfl) ?_
    refine rd_op (ov_move rfl) ?_
    refine rd_op (ov_bi rfl (sl_len r1 Try.underlying44 _)) ?_
    refine rd_op (ov_bin rfl rfl i_lss) ?_
    refine rd_nil ?_
    refine pn_seq ?_
    refine rc_cond rfl (fun hc104 => ?_) (fun hc104 => ?_)
    · have hgo := hres
      have hc104' := hc104
      try simp only [Bool.or_eq_true, Bool.or_eq_false_iff, Bool.and_eq_true, Bool.and_eq_false_imp, decide_eq_true_eq, decide_eq_false_iff_not, Bool.not_eq_true', Bool.not_eq_false', Bool.not_eq_true, Bool.not_eq_false, Bool.not_true, Bool.not_false, ne_eq] at hc104'
      refine rc_skip ?_
      refine pn_seq ?_
      refine rc_seq ?_
      refine rc_block ?_
      refine rc_seq ?_
      refine rc_region ?_
      refine rd_op (ov_move rfl) ?_
      refine rd_op (ov_move rfl) ?_
      refine rd_op (ov_iaddr rfl rfl (slU32 r1 (by first | omega | (have hk := tck (by assumption) (by assumption); omega) | (have hk := rtck (by assumption) (by assumption); omega) | (have hk := eck (by assumption) (by assumption) (by assumption); omega) | (have hk := tv (by assumption) (by assumption); omega) | (have hk := rtv (by assumption) (by assumption); omega)) (by first | omega | (have hk := tck (by assumption) (by assumption); omega) | (have hk := rtck (by assumption) (by assumption); omega) | (have hk := eck (by assumption) (by assumption) (by assumption); omega) | (have hk := tv (by assumption) (by assumption); omega) | (have hk := rtv (by assumption) (by assumption); omega)))) ?_
      refine rd_op (ov_load rfl rfl rfl) ?_
      obtain ⟨v105, e105, r105⟩ := api_Entry.g_Keys r0
      refine rd_op (ov_faddr rfl e105) ?_
      refine rd_op (ov_load rfl (TR.cnt (tSl api_KeyMatch.t) r105) (TR.agg (tSl api_KeyMatch.t) r105)) ?_
      refine rd_op (ov_move rfl) ?_
      obtain ⟨v106, e106, r106⟩ := sl_idx (i := x5_) r105 (by first | omega | (have hk := tck (by assumption) (by assumption); omega) | (have hk := rtck (by assumption) (by assumption); omega) | (have hk := eck (by assumption) (by assumption) (by assumption); omega) | (have hk := tv (by assumption) (by assumption); omega) | (have hk := rtv (by assumption) (by assumption); omega)) (by first | omega | (have hk := tck (by assumption) (by assumption); omega) | (have hk := rtck (by assumption) (by assumption); omega) | (have hk := eck (by assumption) (by assumption) (by assumption); omega) | (have hk := tv (by assumption) (by assumption); omega) | (have hk := rtv (by assumption) (by assumption); omega))
      refine rd_op (ov_iaddr rfl rfl e106) ?_
      refine rd_op (ov_faddr rfl (api_KeyMatch.g_Value r106)) ?_
      refine rd_op (ov_load rfl rfl rfl) ?_
      refine rd_op (ov_bin (a := vu32 (ix x1 x5_)) (b := vu32 ((ix x0.Keys x5_).Value)) rfl rfl w_xor) ?_
      obtain ⟨v107, e107, r107⟩ := api_Entry.g_Keys r0
      refine rd_op (ov_faddr rfl e107) ?_
      refine rd_op (ov_load rfl (TR.cnt (tSl api_KeyMatch.t) r107) (TR.agg (tSl api_KeyMatch.t) r107)) ?_
      refine rd_op (ov_move rfl) ?_
      obtain ⟨v108, e108, r108⟩ := sl_idx (i := x5_) r107 (by first | omega | (have hk := tck (by assumption) (by assumption); omega) | (have hk := rtck (by assumption) (by assumption); omega) | (have hk := eck (by assumption) (by assumption) (by assumption); omega) | (have hk := tv (by assumption) (by assumption); omega) | (have hk := rtv (by assumption) (by assumption); omega)) (by first | omega | (have hk := tck (by assumption) (by assumption); omega) | (have hk := rtck (by assumption) (by assumption); omega) | (have hk := eck (by assumption) (by assumption) (by assumption); omega) | (have hk := tv (by assumption) (by assumption); omega) | (have hk := rtv (by assumption) (by assumption); omega))
      refine rd_op (ov_iaddr rfl rfl e108) ?_
      refine rd_op (ov_faddr rfl (api_KeyMatch.g_Mask r108)) ?_
      refine rd_op (ov_load rfl rfl rfl) ?_
      refine rd_op (ov_bin (a := vu32 ((ix x1 x5_) ^^^ ((ix x0.Keys x5_).Value))) (b := vu32 ((ix x0.Keys x5_).Mask)) rfl rfl w_and) ?_
      refine rd_op (ov_bin (a := vu32 (((ix x1 x5_) ^^^ ((ix x0.Keys x5_).Value)) &&& ((ix x0.Keys x5_).Mask))) (b := vu32 0#32) rfl rfl w_neq) ?_
      refine rd_nil ?_
      refine pn_seq ?_
      refine rc_cond rfl (fun hc109 => ?_) (fun hc109 => ?_)
      · replace hres := (ite_t hc109).symm.trans hres
        have hc109' := hc109
        try simp only [Bool.or_eq_true, Bool.or_eq_false_iff, Bool.and_eq_true, Bool.and_eq_false_imp, decide_eq_true_eq, decide_eq_false_iff_not, Bool.not_eq_true', Bool.not_eq_false', Bool.not_eq_true, Bool.not_eq_false, Bool.not_true, Bool.not_false, ne_eq] at hc109'
        refine rc_seq ?_
        refine rc_region ?_
        refine rd_op (v := vb false) (ov_move rfl) ?_
        refine rd_nil ?_
        refine pn_seq ?_
        subst hres
        exact rc_retV (.tmp rfl .nil) (deep_closed rfl) rfl
      · replace hres := (ite_f hc109).symm.trans hres
        have hc109' := hc109
        try simp only [Bool.or_eq_true, Bool.or_eq_false_iff, Bool.and_eq_true, Bool.and_eq_false_imp, decide_eq_true_eq, decide_eq_false_iff_not, Bool.not_eq_true', Bool.not_eq_false', Bool.not_eq_true, Bool.not_eq_false, Bool.not_true, Bool.not_false, ne_eq] at hc109'
        refine rc_skip ?_
        refine pn_blk ?_
        refine pn_seq ?_
        refine rc_region ?_
        refine rd_op (ov_move rfl) ?_
        refine rd_op (ov_bin rfl rfl i_add) ?_
        refine rd_op (ov_move rfl) ?_
        refine rd_nil ?_
        refine pn_again ?_
        have hbd := sl_bound r1
        have hinc : wr (x5_ + 1) = x5_ + 1 := wr_of (by omega) (by omega)
        rw [hinc]
        refine rc_weak ?_ (ih (x5_ + 1)  (by omega) (by omega) hres)
        exact ((sub_cons rfl (sub_cons rfl (sub_cons rfl (sub_nil _)))))
    · exfalso
      try simp only [Bool.or_eq_true, Bool.or_eq_false_iff, Bool.and_eq_true, Bool.and_eq_false_imp, decide_eq_true_eq, decide_eq_false_iff_not, Bool.not_eq_true', Bool.not_eq_false', Bool.not_eq_true, Bool.not_eq_false, Bool.not_true, Bool.not_false, ne_eq] at hc104
      omega

theorem f37_ok {x0 : api_Entry} {x1 : List (BitVec 32)} {v0 v1 : PV} (r0 : api_Entry.t.R x0 v0) (r1 : (tSl tU32).R x1 v1) : FnR Try.prog 37 [v0, v1] (vb (ref23_Matches x0 x1)) := by
  obtain ⟨res, hres⟩ : ∃ res, ref23_Matches x0 x1 = res := ⟨_, rfl⟩
  suffices H : RC Try.prog ac37 [] (QR Try.prog [(4, none)] (RF37 res)) (argE 0 [v0, v1]) ⟨0, []⟩ by
    obtain ⟨r, h1, h2⟩ := fnE text37 (by simp) H
    rw [hres]
    have h2 : r = vb res := h2
    rw [← h2]; exact h1
  unfold ref23_Matches at hres
  unfold ac37
  refine rc_seq ?_
  refine rc_region ?_
  refine rd_op (ov_box rfl (TR.cnt api_Entry.t r0)) ?_
  refine rd_op (v := vb false) (ov_move rfl) ?_
  refine rd_nil ?_
  refine pn_seq ?_
  refine rc_seq ?_
  refine rc_seq ?_
  refine rc_region ?_
  obtain ⟨v101, e101, r101⟩ := api_Entry.g_Keys r0
  refine rd_op (ov_faddr rfl e101) ?_
  refine rd_op (ov_load rfl (TR.cnt (tSl api_KeyMatch.t) r101) (TR.agg (tSl api_KeyMatch.t) r101)) ?_
  refine rd_op (ov_bi rfl (sl_len r101 Try.underlying67 _)) ?_
  refine rd_op (ov_move rfl) ?_
  refine rd_op (ov_bi rfl (sl_len r1 Try.underlying44 _)) ?_
  refine rd_op (ov_bin rfl rfl i_neq) ?_
  refine rd_nil ?_
  refine pn_seq ?_
  refine rc_cond rfl (fun hc102 => ?_) (fun hc102 => ?_)
  · replace hres := (ite_t hc102).symm.trans hres
    have hc102' := hc102
    try simp only [Bool.or_eq_true, Bool.or_eq_false_iff, Bool.and_eq_true, Bool.and_eq_false_imp, decide_eq_true_eq, decide_eq_false_iff_not, Bool.not_eq_true', Bool.not_eq_false', Bool.not_eq_true, Bool.not_eq_false, Bool.not_true, Bool.not_false, ne_eq] at hc102'
    refine rc_seq ?_
    refine rc_region ?_
    refine rd_op (v := vb false) (ov_move rfl) ?_
    refine rd_nil ?_
    refine pn_seq ?_
    subst hres
    exact rc_retV (.tmp rfl .nil) (deep_closed rfl) rfl
  · replace hres := (ite_f hc102).symm.trans hres
    have hc102' := hc102
    try simp only [Bool.or_eq_true, Bool.or_eq_false_iff, Bool.and_eq_true, Bool.and_eq_false_imp, decide_eq_true_eq, decide_eq_false_iff_not, Bool.not_eq_true', Bool.not_eq_false', Bool.not_eq_true, Bool.not_eq_false, Bool.not_true, Bool.not_false, ne_eq] at hc102'
    refine rc_skip ?_
    refine pn_seq ?_
    refine rc_seq ?_
    refine rc_seq ?_
    refine rc_region ?_
    refine rd_op (v := vi 0) (ov_move rfl) ?_
    refine rd_nil ?_
    refine pn_seq ?_
    refine rc_block ?_
    refine rc_weak ?_ (ref23_Matches_L1_ok (x0 := x0) (x1 := x1) (v0 := v0) (v1 := v1)  (r0 := r0) (r1 := r1) (hc102 := hc102) ?_ (Int.toNat ((x1.length : Int) - 0)) 0 rfl (by omega) hres)
    · exact ((sub_cons rfl (sub_cons rfl (sub_cons rfl (sub_nil _)))))
    · intro  hres
      refine px_blk ?_
      refine pn_seq ?_
      refine rc_seq ?_
      refine rc_region ?_
      refine rd_op (v := vb true) (ov_move rfl) ?_
      refine rd_nil ?_
      refine pn_seq ?_
      subst hres
      exact rc_retV (.tmp rfl .nil) (deep_closed rfl) rfl

/-- patchbay/patchbaylaw23.EntryMatches -/
def RF9 (res : Bool) (r : PV) : Prop := r = vb res
theorem f9_ok {x0 : api_Entry} {x1 : List (BitVec 32)} {v0 v1 : PV} (r0 : api_Entry.t.R x0 v0) (r1 : (tSl tU32).R x1 v1) : FnR Try.prog 9 [v0, v1] (vb (law23_EntryMatches x0 x1)) := by
  obtain ⟨res, hres⟩ : ∃ res, law23_EntryMatches x0 x1 = res := ⟨_, rfl⟩
  suffices H : RC Try.prog ac9 [] (QR Try.prog [(4, none)] (RF9 res)) (argE 0 [v0, v1]) ⟨0, []⟩ by
    obtain ⟨r, h1, h2⟩ := fnE text9 (by simp) H
    rw [hres]
    have h2 : r = vb res := h2
    rw [← h2]; exact h1
  unfold law23_EntryMatches at hres
  unfold ac9
  refine rc_seq ?_
  refine rc_region ?_
  refine rd_op (ov_box rfl (TR.cnt api_Entry.t r0)) ?_
  refine rd_op (v := vb false) (ov_move rfl) ?_
  refine rd_nil ?_
  refine pn_seq ?_
  refine rc_seq ?_
  refine rc_seq ?_
  refine rc_region ?_
  refine rd_op (ov_load rfl (TR.cnt api_Entry.t r0) (TR.agg api_Entry.t r0)) ?_
  obtain ⟨y101, hw101, hres⟩ := let_ex hres
  have f101 := f32_ok  r0 
  rw [hw101] at f101
  refine rd_call (cv_fn rfl rfl (clL_cons (TR.clo api_Entry.t r0) clL_nil) f101) ?_
  refine rd_op (ov_not rfl) ?_
  refine rd_op (ov_move rfl) ?_
  refine rd_cut (d := 12) (v := vb ((!y101) || (decide (10 < (x1.length : Int))))) ?_ ?_
  · intro S Q r
    simp only [ac9_G1, List.cons_append, List.nil_append, List.append_assoc]
    cases hb102 : (!y101)
    · intro k
      have hb102' := hb102
      try simp only [Bool.or_eq_true, Bool.or_eq_false_iff, Bool.and_eq_true, Bool.and_eq_false_imp, decide_eq_true_eq, decide_eq_false_iff_not, Bool.not_eq_true', Bool.not_eq_false', Bool.not_eq_true, Bool.not_eq_false, Bool.not_true, Bool.not_false, ne_eq] at hb102'
      refine rd_yes rfl rfl (ov_move rfl) ?_
      refine rd_yes rfl rfl (ov_bi rfl (sl_len r1 Try.underlying44 _)) ?_
      refine rd_yes rfl rfl (ov_bin rfl rfl i_gtr) ?_
      refine rd_op (v := vb (decide (10 < (x1.length : Int)))) (ov_pick rfl rfl rfl rfl) ?_
      exact rd_weak (sub_cons rfl (sub_skip rfl (sub_skip rfl (sub_skip rfl (sub_skip rfl (sub_refl _)))))) k
    · intro k
      refine rd_skip rfl rfl ?_
      refine rd_skip rfl rfl ?_
      refine rd_skip rfl rfl ?_
      refine rd_op (v := vb true) (ov_pick rfl rfl rfl rfl) ?_
      exact rd_weak (sub_cons rfl (sub_skip rfl (sub_skip rfl (sub_skip rfl (sub_skip rfl (sub_refl _)))))) k
  refine rd_nil ?_
  refine pn_seq ?_
  refine rc_cond rfl (fun hc103 => ?_) (fun hc103 => ?_)
  · replace hres := (ite_t hc103).symm.trans hres
    have hc103' := hc103
    try simp only [Bool.or_eq_true, Bool.or_eq_false_iff, Bool.and_eq_true, Bool.and_eq_false_imp, decide_eq_true_eq, decide_eq_false_iff_not, Bool.not_eq_true', Bool.not_eq_false', Bool.not_eq_true, Bool.not_eq_false, Bool.not_true, Bool.not_false, ne_eq] at hc103'
    refine rc_seq ?_
    refine rc_region ?_
    obtain ⟨y104, hw104, hres⟩ := let_ex hres
    have f104 := f33_ok   
    rw [hw104] at f104
    refine rd_call (cv_fn rfl rfl clL_nil f104) ?_
    refine rd_op (ov_move rfl) ?_
    refine rd_nil ?_
    refine pn_seq ?_
    subst hres
    exact rc_retV (.tmp rfl .nil) (deep_closed rfl) rfl
  · replace hres := (ite_f hc103).symm.trans hres
    have hc103' := hc103
    try simp only [Bool.or_eq_true, Bool.or_eq_false_iff, Bool.and_eq_true, Bool.and_eq_false_imp, decide_eq_true_eq, decide_eq_false_iff_not, Bool.not_eq_true', Bool.not_eq_false', Bool.not_eq_true, Bool.not_eq_false, Bool.not_true, Bool.not_false, ne_eq] at hc103'
    refine rc_skip ?_
    refine pn_seq ?_
    refine rc_seq ?_
    refine rc_region ?_
    refine rd_op (ov_load rfl (TR.cnt api_Entry.t r0) (TR.agg api_Entry.t r0)) ?_
    refine rd_op (ov_move rfl) ?_
    obtain ⟨y105, hw105, hres⟩ := let_ex hres
    have f105 := f36_ok  r0 r1 
    rw [hw105] at f105
    refine rd_call (cv_fn rfl rfl (clL_cons (TR.clo api_Entry.t r0) (clL_cons (TR.clo (tSl tU32) r1) clL_nil)) f105) ?_
    refine rd_op (ov_load rfl (TR.cnt api_Entry.t r0) (TR.agg api_Entry.t r0)) ?_
    refine rd_op (ov_move rfl) ?_
    obtain ⟨y106, hw106, hres⟩ := let_ex hres
    have f106 := f37_ok  r0 r1 
    rw [hw106] at f106
    refine rd_call (cv_fn rfl rfl (clL_cons (TR.clo api_Entry.t r0) (clL_cons (TR.clo (tSl tU32) r1) clL_nil)) f106) ?_
    refine rd_op (ov_bin rfl rfl (bin_eqlb (by rw [Try.underlying4]; rfl))) ?_
    refine rd_op (ov_move rfl) ?_
    refine rd_cut (d := 23) (v := vb ((decide (y105 = y106)) && (law23_works))) ?_ ?_
    · intro S Q r
      simp only [ac9_G2, List.cons_append, List.nil_append, List.append_assoc]
      cases hb107 : (decide (y105 = y106))
      · intro k
        refine rd_skip rfl rfl ?_
        refine rd_op (v := vb false) (ov_pick rfl rfl rfl rfl) ?_
        exact rd_weak (sub_cons rfl (sub_skip rfl (sub_skip rfl (sub_refl _)))) k
      · intro k
        have hb107' := hb107
        try simp only [Bool.or_eq_true, Bool.or_eq_false_iff, Bool.and_eq_true, Bool.and_eq_false_imp, decide_eq_true_eq, decide_eq_false_iff_not, Bool.not_eq_true', Bool.not_eq_false', Bool.not_eq_true, Bool.not_eq_false, Bool.not_true, Bool.not_false, ne_eq] at hb107'
        have f108 := f33_ok   
        refine rd_ycall rfl rfl (cv_fn rfl rfl clL_nil f108) ?_
        refine rd_op (v := vb (law23_works)) (ov_pick rfl rfl rfl rfl) ?_
        exact rd_weak (sub_cons rfl (sub_skip rfl (sub_skip rfl (sub_refl _)))) k
    refine rd_op (ov_move rfl) ?_
    refine rd_nil ?_
    refine pn_seq ?_
    subst hres
    exact rc_retV (.tmp rfl .nil) (deep_closed rfl) rfl

end Go.Proofs.Ytklfdkbemkommaa
