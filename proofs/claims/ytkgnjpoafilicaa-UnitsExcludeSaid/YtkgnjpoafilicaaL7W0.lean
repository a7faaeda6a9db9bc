/-
  The code of each function does what its plain program says.
-/
import Derived.Test.YtkgnjpoafilicaaKDef
import Derived.Test.YtkgnjpoafilicaaL7Text
import Derived.Test.YtkgnjpoafilicaaPbC
import Derived.Test.YtkgnjpoafilicaaL7Run
set_option linter.unusedVariables false
set_option linter.unusedSimpArgs false
set_option maxRecDepth 100000
namespace Go.Proofs.Ytkgnjpoafilicaa
open Go Go.Pb Go.RowKit
/-- patchbay/patchbaylaw32.small -/
def RF33 (res : Bool) (r : PV) : Prop := r = vb res
theorem law32_small_L1_ok {S : List Fr} {res : Bool} {x0 : List api_Unit} {v0 : PV} (r0 : (tSl api_Unit.t).R x0 v0) (hc101 : (decide (60 < (x0.length : Int))) = false) {K0 : Unit → Bool}
    (hK0 : K0 () = res → PX Try.prog 0 S (QR Try.prog [(2, none)] (RF33 res)) [] ⟨0, []⟩) :
    ∀ (m : Nat) (x3_ : Int) (hm1 : m = Int.toNat ((x0.length : Int) - x3_)) (hlo1 : 0 ≤ x3_), law32_small_L1 x0 K0 m x3_ = res → RC Try.prog (.loop ac33_L1) S (QR Try.prog [(2, none)] (RF33 res)) [(3, vi x3_), (0, v0)] ⟨0, []⟩ := by
  have hc101' := hc101
  try simp only [Bool.or_eq_true, Bool.or_eq_false_iff, Bool.and_eq_true, Bool.and_eq_false_imp, decide_eq_true_eq, decide_eq_false_iff_not, Bool.not_eq_true', Bool.not_eq_false', Bool.not_eq_true, Bool.not_eq_false, Bool.not_true, Bool.not_false, ne_eq] at hc101'
  intro m
  induction m with
  | zero =>
    intro x3_ hm1 hlo1 hres
    rw [law32_small_L1] at hres
    refine rc_loop ?_
    unfold ac33_L1
    refine rc_seq ?_
    refine rc_seq ?_
    refine rc_region ?_
    refine rd_op (ov_move rfl) ?_
    refine rd_op (ov_move rfl) ?_
    refine rd_op (ov_bi rfl (sl_len r0 Try.underlying48 _)) ?_
    refine rd_op (ov_bin rfl rfl i_lss) ?_
    refine rd_nil ?_
    refine pn_seq ?_
    refine rc_cond rfl (fun hc102 => ?_) (fun hc102 => ?_)
    · exfalso
      try simp only [Bool.or_eq_true, Bool.or_eq_false_iff, Bool.and_eq_true, Bool.and_eq_false_imp, decide_eq_true_eq, decide_eq_false_iff_not, Bool.not_eq_true', Bool.not_eq_false', Bool.not_eq_true, Bool.not_eq_false, Bool.not_true, Bool.not_false, ne_eq] at hc102
      omega
    · have hend := hres
      have hc102' := hc102
      try simp only [Bool.or_eq_true, Bool.or_eq_false_iff, Bool.and_eq_true, Bool.and_eq_false_imp, decide_eq_true_eq, decide_eq_false_iff_not, Bool.not_eq_true', Bool.not_eq_false', Bool.not_eq_true, Bool.not_eq_false, Bool.not_true, Bool.not_false, ne_eq] at hc102'
      refine rc_exit ?_
      refine px_seq ?_
      refine px_again ?_
      exact px_weak ((sub_nil _)) (hK0  hres)
  | succ m ih =>
    intro x3_ hm1 hlo1 hres
    rw [law32_small_L1] at hres
    refine rc_loop ?_
    unfold ac33_L1
    refine rc_seq ?_
    refine rc_seq ?_
    refine rc_region ?_
    refine rd_op (ov_move rfl) ?_
    refine rd_op (ov_move rfl) ?_
    refine rd_op (ov_bi rfl (sl_len r0 Try.underlying48 _)) ?_
    refine rd_op (ov_bin rfl rfl i_lss) ?_
    refine rd_nil ?_
    refine pn_seq ?_
    refine rc_cond rfl (fun hc103 => ?_) (fun hc103 => ?_)
    · have hgo := hres
      have hc103' := hc103
      try simp only [Bool.or_eq_true, Bool.or_eq_false_iff, Bool.and_eq_true, Bool.and_eq_false_imp, decide_eq_true_eq, decide_eq_false_iff_not, Bool.not_eq_true', Bool.not_eq_false', Bool.not_eq_true, Bool.not_eq_false, Bool.not_true, Bool.not_false, ne_eq] at hc103'
      refine rc_skip ?_
      refine pn_seq ?_
      refine rc_seq ?_
      refine rc_block ?_
      refine rc_seq ?_
      refine rc_region ?_
      refine rd_op (ov_move rfl) ?_
      refine rd_op (ov_move rfl) ?_
      obtain ⟨v104, e104, r104⟩ := sl_idx (i := x3_) r0 (by omega) (by omega)
      refine rd_op (ov_iaddr rfl rfl e104) ?_
      obtain ⟨v105, e105, r105⟩ := api_Unit.g_Guards r104
      refine rd_op (ov_faddr rfl e105) ?_
      refine rd_op (ov_load rfl (TR.cnt (tSl api_Guard.t) r105) (TR.agg (tSl api_Guard.t) r105)) ?_
      refine rd_op (ov_bi rfl (sl_len r105 Try.underlying56 _)) ?_
      refine rd_op (ov_bin rfl rfl i_gtr) ?_
      refine rd_nil ?_
      refine pn_seq ?_
      refine rc_cond rfl (fun hc106 => ?_) (fun hc106 => ?_)
      · replace hres := (ite_t hc106).symm.trans hres
        have hc106' := hc106
        try simp only [Bool.or_eq_true, Bool.or_eq_false_iff, Bool.and_eq_true, Bool.and_eq_false_imp, decide_eq_true_eq, decide_eq_false_iff_not, Bool.not_eq_true', Bool.not_eq_false', Bool.not_eq_true, Bool.not_eq_false, Bool.not_true, Bool.not_false, ne_eq] at hc106'
        refine rc_seq ?_
        refine rc_region ?_
        refine rd_op (v := vb false) (ov_move rfl) ?_
        refine rd_nil ?_
        refine pn_seq ?_
        subst hres
        exact rc_retV (.tmp rfl .nil) (deep_closed rfl) rfl
      · replace hres := (ite_f hc106).symm.trans hres
        have hc106' := hc106
        try simp only [Bool.or_eq_true, Bool.or_eq_false_iff, Bool.and_eq_true, Bool.and_eq_false_imp, decide_eq_true_eq, decide_eq_false_iff_not, Bool.not_eq_true', Bool.not_eq_false', Bool.not_eq_true, Bool.not_eq_false, Bool.not_true, Bool.not_false, ne_eq] at hc106'
        refine rc_skip ?_
        refine pn_blk ?_
        refine pn_seq ?_
        refine rc_region ?_
        refine rd_op (ov_move rfl) ?_
        refine rd_op (ov_bin rfl rfl i_add) ?_
        refine rd_op (ov_move rfl) ?_
        refine rd_nil ?_
        refine pn_again ?_
        have hbd := sl_bound r0
        have hinc : wr (x3_ + 1) = x3_ + 1 := wr_of (by omega) (by omega)
        rw [hinc]
        refine rc_weak ?_ (ih (x3_ + 1)  (by omega) (by omega) hres)
        exact ((sub_cons rfl (sub_cons rfl (sub_nil _))))
    · exfalso
      try simp only [Bool.or_eq_true, Bool.or_eq_false_iff, Bool.and_eq_true, Bool.and_eq_false_imp, decide_eq_true_eq, decide_eq_false_iff_not, Bool.not_eq_true', Bool.not_eq_false', Bool.not_eq_true, Bool.not_eq_false, Bool.not_true, Bool.not_false, ne_eq] at hc103
      omega

theorem f33_ok {x0 : List api_Unit} {v0 : PV} (r0 : (tSl api_Unit.t).R x0 v0) : FnR Try.prog 33 [v0] (vb (law32_small x0)) := by
  obtain ⟨res, hres⟩ : ∃ res, law32_small x0 = res := ⟨_, rfl⟩
  suffices H : RC Try.prog ac33 [] (QR Try.prog [(2, none)] (RF33 res)) (argE 0 [v0]) ⟨0, []⟩ by
    obtain ⟨r, h1, h2⟩ := fnE text33 (by simp) H
    rw [hres]
    have h2 : r = vb res := h2
    rw [← h2]; exact h1
  unfold law32_small at hres
  unfold ac33
  refine rc_seq ?_
  refine rc_region ?_
  refine rd_op (v := vb false) (ov_move rfl) ?_
  refine rd_nil ?_
  refine pn_seq ?_
  refine rc_seq ?_
  refine rc_seq ?_
  refine rc_region ?_
  refine rd_op (ov_move rfl) ?_
  refine rd_op (ov_bi rfl (sl_len r0 Try.underlying48 _)) ?_
  refine rd_op (ov_bin rfl rfl i_gtr) ?_
  refine rd_nil ?_
  refine pn_seq ?_
  refine rc_cond rfl (fun hc101 => ?_) (fun hc101 => ?_)
  · replace hres := (ite_t hc101).symm.trans hres
    have hc101' := hc101
    try simp only [Bool.or_eq_true, Bool.or_eq_false_iff, Bool.and_eq_true, Bool.and_eq_false_imp, decide_eq_true_eq, decide_eq_false_iff_not, Bool.not_eq_true', Bool.not_eq_false', Bool.not_eq_true, Bool.not_eq_false, Bool.not_true, Bool.not_false, ne_eq] at hc101'
    refine rc_seq ?_
    refine rc_region ?_
    refine rd_op (v := vb false) (ov_move rfl) ?_
    refine rd_nil ?_
    refine pn_seq ?_
    subst hres
    exact rc_retV (.tmp rfl .nil) (deep_closed rfl) rfl
  · replace hres := (ite_f hc101).symm.trans hres
    have hc101' := hc101
    try simp only [Bool.or_eq_true, Bool.or_eq_false_iff, Bool.and_eq_true, Bool.and_eq_false_imp, decide_eq_true_eq, decide_eq_false_iff_not, Bool.not_eq_true', Bool.not_eq_false', Bool.not_eq_true, Bool.not_eq_false, Bool.not_true, Bool.not_false, ne_eq] at hc101'
    refine rc_skip ?_
    refine pn_seq ?_
    refine rc_seq ?_
    refine rc_seq ?_
    refine rc_region ?_
    refine rd_op (v := vi 0) (ov_move rfl) ?_
    refine rd_nil ?_
    refine pn_seq ?_
    refine rc_block ?_
    refine rc_weak ?_ (law32_small_L1_ok (x0 := x0) (v0 := v0)  (r0 := r0) (hc101 := hc101) ?_ (Int.toNat ((x0.length : Int) - 0)) 0 rfl (by omega) hres)
    · exact ((sub_cons rfl (sub_cons rfl (sub_nil _))))
    · intro  hres
      refine px_blk ?_
      refine pn_seq ?_
      refine rc_seq ?_
      refine rc_region ?_
      refine rd_op (v := vb true) (ov_move rfl) ?_
      refine rd_nil ?_
      refine pn_seq ?_
      subst hres
      exact rc_retV (.tmp rfl .nil) (deep_closed rfl) rfl

theorem f29_ok : FnR Try.prog 29 [] (vb law32_awake) := run29

/-- slices.Index[[]patchbay/api.Guard,patchbay/api.Guard] -/
def RF82 (res : Int) (r : PV) : Prop := r = vi res
theorem slices_Index__api_Guard_api_Guard__L1_ok {S : List Fr} {res : Int} {x0 : List api_Guard} {x1 : api_Guard} {v0 : PV} {v1 : PV} (r0 : (tSl api_Guard.t).R x0 v0) (r1 : api_Guard.t.R x1 v1) {K0 : Unit → Int}
    (hK0 : K0 () = res → PX Try.prog 0 S (QR Try.prog [(4, none)] (RF82 res)) [] ⟨0, []⟩) :
    ∀ (m : Nat) (x8_ : Int) (hm1 : m = Int.toNat ((x0.length : Int) - x8_)) (hlo1 : 0 ≤ x8_), slices_Index__api_Guard_api_Guard__L1 x0 x1 K0 m x8_ = res → RC Try.prog (.loop ac82_L1) S (QR Try.prog [(4, none)] (RF82 res)) [(8, vi x8_), (7, vi (x0.length : Int)), (3, .fp v1), (0, v0)] ⟨0, []⟩ := by
  intro m
  induction m with
  | zero =>
    intro x8_ hm1 hlo1 hres
    rw [slices_Index__api_Guard_api_Guard__L1] at hres
    refine rc_loop ?_
    unfold ac82_L1
    refine rc_seq ?_
    refine rc_region ?_
    refine rd_op (ov_bin rfl rfl i_lss) ?_
    refine rd_nil ?_
    refine pn_seq ?_
    refine rc_seq ?_
    refine rc_cond rfl (fun hc101 => ?_) (fun hc101 => ?_)
    · exfalso
      try simp only [Bool.or_eq_true, Bool.or_eq_false_iff, Bool.and_eq_true, Bool.and_eq_false_imp, decide_eq_true_eq, decide_eq_false_iff_not, Bool.not_eq_true', Bool.not_eq_false', Bool.not_eq_true, Bool.not_eq_false, Bool.not_true, Bool.not_false, ne_eq] at hc101
      omega
    · have hend := hres
      have hc101' := hc101
      try simp only [Bool.or_eq_true, Bool.or_eq_false_iff, Bool.and_eq_true, Bool.and_eq_false_imp, decide_eq_true_eq, decide_eq_false_iff_not, Bool.not_eq_true', Bool.not_eq_false', Bool.not_eq_true, Bool.not_eq_false, Bool.not_true, Bool.not_false, ne_eq] at hc101'
      refine rc_exit ?_
      refine px_seq ?_
      refine px_again ?_
      exact px_weak ((sub_nil _)) (hK0  hres)
  | succ m ih =>
    intro x8_ hm1 hlo1 hres
    rw [slices_Index__api_Guard_api_Guard__L1] at hres
    refine rc_loop ?_
    unfold ac82_L1
    refine rc_seq ?_
    refine rc_region ?_
    refine rd_op (ov_bin rfl rfl i_lss) ?_
    refine rd_nil ?_
    refine pn_seq ?_
    refine rc_seq ?_
    refine rc_cond rfl (fun hc102 => ?_) (fun hc102 => ?_)
    · have hgo := hres
      have hc102' := hc102
      try simp only [Bool.or_eq_true, Bool.or_eq_false_iff, Bool.and_eq_true, Bool.and_eq_false_imp, decide_eq_true_eq, decide_eq_false_iff_not, Bool.not_eq_true', Bool.not_eq_false', Bool.not_eq_true, Bool.not_eq_false, Bool.not_true, Bool.not_false, ne_eq] at hc102'
      refine rc_skip ?_
      refine pn_seq ?_
      refine rc_seq ?_
      refine rc_block ?_
      refine rc_seq ?_
      refine rc_region ?_
      refine rd_op (ov_move rfl) ?_
      refine rd_op (ov_move rfl) ?_
      refine rd_nil ?_
      refine pn_seq ?_
      refine rc_seq ?_
      refine rc_region ?_
      refine rd_op (ov_load rfl (TR.cnt api_Guard.t r1) (TR.agg api_Guard.t r1)) ?_
      refine rd_op (ov_move rfl) ?_
      refine rd_op (ov_move rfl) ?_
      obtain ⟨v103, e103, r103⟩ := sl_idx (i := x8_) r0 (by omega) (by omega)
      refine rd_op (ov_iaddr rfl rfl e103) ?_
      refine rd_op (ov_load rfl (TR.cnt api_Guard.t r103) (TR.agg api_Guard.t r103)) ?_
      refine rd_op (ov_bin rfl rfl (api_Guard.eql_60 r1 r103)) ?_
      refine rd_nil ?_
      refine pn_seq ?_
      refine rc_cond rfl (fun hc104 => ?_) (fun hc104 => ?_)
      · replace hres := (ite_t hc104).symm.trans hres
        have hc104' := hc104
        try simp only [Bool.or_eq_true, Bool.or_eq_false_iff, Bool.and_eq_true, Bool.and_eq_false_imp, decide_eq_true_eq, decide_eq_false_iff_not, Bool.not_eq_true', Bool.not_eq_false', Bool.not_eq_true, Bool.not_eq_false, Bool.not_true, Bool.not_false, ne_eq] at hc104'
        refine rc_seq ?_
        refine rc_region ?_
        refine rd_op (ov_move rfl) ?_
        refine rd_op (ov_move rfl) ?_
        refine rd_nil ?_
        refine pn_seq ?_
        subst hres
        exact rc_retV (.tmp rfl .nil) (deep_closed rfl) rfl
      · replace hres := (ite_f hc104).symm.trans hres
        have hc104' := hc104
        try simp only [Bool.or_eq_true, Bool.or_eq_false_iff, Bool.and_eq_true, Bool.and_eq_false_imp, decide_eq_true_eq, decide_eq_false_iff_not, Bool.not_eq_true', Bool.not_eq_false', Bool.not_eq_true, Bool.not_eq_false, Bool.not_true, Bool.not_false, ne_eq] at hc104'
        refine rc_skip ?_
        refine pn_blk ?_
        refine pn_seq ?_
        refine rc_region ?_
        refine rd_op (ov_bin rfl rfl i_add) ?_
        refine rd_op (ov_move rfl) ?_
        refine rd_nil ?_
        refine pn_again ?_
        have hbd := sl_bound r0
        have hinc : wr (x8_ + 1) = x8_ + 1 := wr_of (by omega) (by omega)
        rw [hinc]
        refine rc_weak ?_ (ih (x8_ + 1)  (by omega) (by omega) hres)
        exact ((sub_cons rfl (sub_cons rfl (sub_cons rfl (sub_cons rfl (sub_nil _))))))
    · exfalso
      try simp only [Bool.or_eq_true, Bool.or_eq_false_iff, Bool.and_eq_true, Bool.and_eq_false_imp, decide_eq_true_eq, decide_eq_false_iff_not, Bool.not_eq_true', Bool.not_eq_false', Bool.not_eq_true, Bool.not_eq_false, Bool.not_true, Bool.not_false, ne_eq] at hc102
      omega

theorem f82_ok {x0 : List api_Guard} {x1 : api_Guard} {v0 : PV} {v1 : PV} (r0 : (tSl api_Guard.t).R x0 v0) (r1 : api_Guard.t.R x1 v1) : FnR Try.prog 82 [v0, v1] (vi (slices_Index__api_Guard_api_Guard_ x0 x1)) := by
  obtain ⟨res, hres⟩ : ∃ res, slices_Index__api_Guard_api_Guard_ x0 x1 = res := ⟨_, rfl⟩
  suffices H : RC Try.prog ac82 [] (QR Try.prog [(4, none)] (RF82 res)) (argE 0 [v0, v1]) ⟨0, []⟩ by
    obtain ⟨r, h1, h2⟩ := fnE text82 (by simp) H
    rw [hres]
    have h2 : r = vi res := h2
    rw [← h2]; exact h1
  unfold slices_Index__api_Guard_api_Guard_ at hres
  unfold ac82
  refine rc_seq ?_
  refine rc_region ?_
  refine rd_op (ov_box rfl (TR.cnt api_Guard.t r1)) ?_
  refine rd_op (v := vi 0) (ov_move rfl) ?_
  refine rd_nil ?_
  refine pn_seq ?_
  refine rc_seq ?_
  refine rc_seq ?_
  refine rc_region ?_
  refine rd_op (ov_move rfl) ?_
  refine rd_op (ov_bi rfl (sl_len r0 Try.underlying56 _)) ?_
  refine rd_op (v := vi 0) (ov_move rfl) ?_
  refine rd_nil ?_
  refine pn_seq ?_
  refine rc_block ?_
  refine rc_weak ?_ (slices_Index__api_Guard_api_Guard__L1_ok (x0 := x0) (x1 := x1) (v0 := v0) (v1 := v1)  (r0 := r0) (r1 := r1) ?_ (Int.toNat ((x0.length : Int) - 0)) 0 rfl (by omega) hres)
  · exact ((sub_cons rfl (sub_cons rfl (sub_cons rfl (sub_cons rfl (sub_nil _))))))
  · intro  hres
    refine px_blk ?_
    refine pn_seq ?_
    refine rc_seq ?_
    refine rc_region ?_
    refine rd_op (v := vi (-1)) (ov_move rfl) ?_
    refine rd_nil ?_
    refine pn_seq ?_
    subst hres
    exact rc_retV (.tmp rfl .nil) (deep_closed rfl) rfl

/-- slices.Contains[[]patchbay/api.Guard,patchbay/api.Guard] -/
def RF70 (res : Bool) (r : PV) : Prop := r = vb res
theorem f70_ok {x0 : List api_Guard} {x1 : api_Guard} {v0 : PV} {v1 : PV} (r0 : (tSl api_Guard.t).R x0 v0) (r1 : api_Guard.t.R x1 v1) : FnR Try.prog 70 [v0, v1] (vb (slices_Contains__api_Guard_api_Guard_ x0 x1)) := by
  obtain ⟨res, hres⟩ : ∃ res, slices_Contains__api_Guard_api_Guard_ x0 x1 = res := ⟨_, rfl⟩
  suffices H : RC Try.prog ac70 [] (QR Try.prog [(4, none)] (RF70 res)) (argE 0 [v0, v1]) ⟨0, []⟩ by
    obtain ⟨r, h1, h2⟩ := fnE text70 (by simp) H
    rw [hres]
    have h2 : r = vb res := h2
    rw [← h2]; exact h1
  unfold slices_Contains__api_Guard_api_Guard_ at hres
  unfold ac70
  refine rc_seq ?_
  refine rc_region ?_
  refine rd_op (ov_box rfl (TR.cnt api_Guard.t r1)) ?_
  refine rd_op (v := vb false) (ov_move rfl) ?_
  refine rd_nil ?_
  refine pn_seq ?_
  refine rc_seq ?_
  refine rc_region ?_
  refine rd_op (ov_move rfl) ?_
  refine rd_op (ov_load rfl (TR.cnt api_Guard.t r1) (TR.agg api_Guard.t r1)) ?_
  obtain ⟨y101, hw101, hres⟩ := let_ex hres
  have f101 := f82_ok  r0 r1 
  rw [hw101] at f101
  refine rd_call (cv_fn rfl rfl (clL_cons (TR.clo (tSl api_Guard.t) r0) (clL_cons (TR.clo api_Guard.t r1) clL_nil)) f101) ?_
  refine rd_op (ov_bin rfl rfl i_geq) ?_
  refine rd_op (ov_move rfl) ?_
  refine rd_nil ?_
  refine pn_seq ?_
  subst hres
  exact rc_retV (.tmp rfl .nil) (deep_closed rfl) rfl

/-- patchbay/units.Exclusive$1 -/
def RF69 (res : Bool) (r : PV) : Prop := r = vb res
theorem f69_ok {x0 : api_Guard} {c0 : List api_Unit} {c1 : Int} {v0 : PV} {w0 : PV} (r0 : api_Guard.t.R x0 v0) (rc0 : (tSl api_Unit.t).R c0 w0) (hp : 0 ≤ c1 ∧ c1 < (c0.length : Int)) : FnR Try.prog 69 [v0, .fp w0, .fp (vi c1)] (vb (units_Exclusive_1 x0 c0 c1)) := by
  obtain ⟨res, hres⟩ : ∃ res, units_Exclusive_1 x0 c0 c1 = res := ⟨_, rfl⟩
  suffices H : RC Try.prog ac69 [] (QR Try.prog [(4, none)] (RF69 res)) (argE 0 [v0, .fp w0, .fp (vi c1)]) ⟨0, []⟩ by
    obtain ⟨r, h1, h2⟩ := fnE text69 (by simp) H
    rw [hres]
    have h2 : r = vb res := h2
    rw [← h2]; exact h1
  unfold units_Exclusive_1 at hres
  unfold ac69
  refine rc_seq ?_
  refine rc_region ?_
  refine rd_op (ov_box rfl (TR.cnt api_Guard.t r0)) ?_
  refine rd_op (v := vb false) (ov_move rfl) ?_
  refine rd_nil ?_
  refine pn_seq ?_
  refine rc_seq ?_
  refine rc_region ?_
  refine rd_op (ov_load rfl (TR.cnt (tSl api_Unit.t) rc0) (TR.agg (tSl api_Unit.t) rc0)) ?_
  refine rd_op (ov_load rfl rfl rfl) ?_
  obtain ⟨v101, e101, r101⟩ := sl_idx (i := c1) rc0 (by omega) (by omega)
  refine rd_op (ov_iaddr rfl rfl e101) ?_
  obtain ⟨v102, e102, r102⟩ := api_Unit.g_Guards r101
  refine rd_op (ov_faddr rfl e102) ?_
  refine rd_op (ov_load rfl (TR.cnt (tSl api_Guard.t) r102) (TR.agg (tSl api_Guard.t) r102)) ?_
  refine rd_op (ov_faddr rfl (api_Guard.g_Unit r0)) ?_
  refine rd_op (ov_load rfl rfl rfl) ?_
  refine rd_op (ov_faddr rfl (api_Guard.g_Want r0)) ?_
  refine rd_op (ov_load rfl rfl rfl) ?_
  refine rd_op (ov_not rfl) ?_
  refine rd_op (v := .agg [vi x0.Unit, vb (!x0.Want)]) (ov_build (cs := [vi x0.Unit, vb (!x0.Want)]) rfl rfl) ?_
  obtain ⟨y103, hw103, hres⟩ := let_ex hres
  have f103 := f70_ok  r102 (show api_Guard.t.R ({ Unit := x0.Unit, Want := (!x0.Want) } : api_Guard) (.agg [vi x0.Unit, vb (!x0.Want)]) from rfl) 
  rw [hw103] at f103
  refine rd_call (cv_fn rfl rfl (clL_cons (TR.clo (tSl api_Guard.t) r102) (clL_cons (TR.clo api_Guard.t (show api_Guard.t.R ({ Unit := x0.Unit, Want := (!x0.Want) } : api_Guard) (.agg [vi x0.Unit, vb (!x0.Want)]) from rfl)) clL_nil)) f103) ?_
  refine rd_op (ov_move rfl) ?_
  refine rd_nil ?_
  refine pn_seq ?_
  subst hres
  exact rc_retV (.tmp rfl .nil) (deep_closed rfl) rfl

/-- slices.IndexFunc[[]patchbay/api.Guard,patchbay/api.Guard] -/
def RF81 (res : Int) (r : PV) : Prop := r = vi res
theorem slices_IndexFunc__api_Guard_api_Guard__L1_ok {S : List Fr} {res : Int} {x0 : List api_Guard} {x1 : api_Guard → Bool} {v0 : PV} {v1 : PV} (r0 : (tSl api_Guard.t).R x0 v0) (r1 : (tFn Try.prog api_Guard.t tB).R x1 v1) {K0 : Unit → Int}
    (hK0 : K0 () = res → PX Try.prog 0 S (QR Try.prog [(4, none)] (RF81 res)) [] ⟨0, []⟩) :
    ∀ (m : Nat) (x8_ : Int) (hm1 : m = Int.toNat ((x0.length : Int) - x8_)) (hlo1 : 0 ≤ x8_), slices_IndexFunc__api_Guard_api_Guard__L1 x0 x1 K0 m x8_ = res → RC Try.prog (.loop ac81_L1) S (QR Try.prog [(4, none)] (RF81 res)) [(8, vi x8_), (7, vi (x0.length : Int)), (1, v1), (0, v0)] ⟨0, []⟩ := by
  intro m
  induction m with
  | zero =>
    intro x8_ hm1 hlo1 hres
    rw [slices_IndexFunc__api_Guard_api_Guard__L1] at hres
    refine rc_loop ?_
    unfold ac81_L1
    refine rc_seq ?_
    refine rc_region ?_
    refine rd_op (ov_bin rfl rfl i_lss) ?_
    refine rd_nil ?_
    refine pn_seq ?_
    refine rc_seq ?_
    refine rc_cond rfl (fun hc101 => ?_) (fun hc101 => ?_)
    · exfalso
      try simp only [Bool.or_eq_true, Bool.or_eq_false_iff, Bool.and_eq_true, Bool.and_eq_false_imp, decide_eq_true_eq, decide_eq_false_iff_not, Bool.not_eq_true', Bool.not_eq_false', Bool.not_eq_true, Bool.not_eq_false, Bool.not_true, Bool.not_false, ne_eq] at hc101
      omega
    · have hend := hres
      have hc101' := hc101
      try simp only [Bool.or_eq_true, Bool.or_eq_false_iff, Bool.and_eq_true, Bool.and_eq_false_imp, decide_eq_true_eq, decide_eq_false_iff_not, Bool.not_eq_true', Bool.not_eq_false', Bool.not_eq_true, Bool.not_eq_false, Bool.not_true, Bool.not_false, ne_eq] at hc101'
      refine rc_exit ?_
      refine px_seq ?_
      refine px_again ?_
      exact px_weak ((sub_nil _)) (hK0  hres)
  | succ m ih =>
    intro x8_ hm1 hlo1 hres
    rw [slices_IndexFunc__api_Guard_api_Guard__L1] at hres
    refine rc_loop ?_
    unfold ac81_L1
    refine rc_seq ?_
    refine rc_region ?_
    refine rd_op (ov_bin rfl rfl i_lss) ?_
    refine rd_nil ?_
    refine pn_seq ?_
    refine rc_seq ?_
    refine rc_cond rfl (fun hc102 => ?_) (fun hc102 => ?_)
    · have hgo := hres
      have hc102' := hc102
      try simp only [Bool.or_eq_true, Bool.or_eq_false_iff, Bool.and_eq_true, Bool.and_eq_false_imp, decide_eq_true_eq, decide_eq_false_iff_not, Bool.not_eq_true', Bool.not_eq_false', Bool.not_eq_true, Bool.not_eq_false, Bool.not_true, Bool.not_false, ne_eq] at hc102'
      refine rc_skip ?_
      refine pn_seq ?_
      refine rc_seq ?_
      refine rc_block ?_
      refine rc_seq ?_
      refine rc_region ?_
      refine rd_op (ov_move rfl) ?_
      refine rd_op (ov_move rfl) ?_
      refine rd_nil ?_
      refine pn_seq ?_
      refine rc_seq ?_
      refine rc_region ?_
      refine rd_op (ov_move rfl) ?_
      refine rd_op (ov_move rfl) ?_
      refine rd_op (ov_move rfl) ?_
      obtain ⟨v103, e103, r103⟩ := sl_idx (i := x8_) r0 (by omega) (by omega)
      refine rd_op (ov_iaddr rfl rfl e103) ?_
      refine rd_op (ov_load rfl (TR.cnt api_Guard.t r103) (TR.agg api_Guard.t r103)) ?_
      refine rd_callF rfl r1 rfl (show api_Guard.t.R (ix x0 x8_) v103 from r103) (fun v104 r104 => ?_)
      have r104 : v104 = vb (x1 (ix x0 x8_)) := r104; subst r104
      refine rd_nil ?_
      refine pn_seq ?_
      refine rc_cond rfl (fun hc105 => ?_) (fun hc105 => ?_)
      · replace hres := (ite_t hc105).symm.trans hres
        have hc105' := hc105
        try simp only [Bool.or_eq_true, Bool.or_eq_false_iff, Bool.and_eq_true, Bool.and_eq_false_imp, decide_eq_true_eq, decide_eq_false_iff_not, Bool.not_eq_true', Bool.not_eq_false', Bool.not_eq_true, Bool.not_eq_false, Bool.not_true, Bool.not_false, ne_eq] at hc105'
        refine rc_seq ?_
        refine rc_region ?_
        refine rd_op (ov_move rfl) ?_
        refine rd_op (ov_move rfl) ?_
        refine rd_nil ?_
        refine pn_seq ?_
        subst hres
        exact rc_retV (.tmp rfl .nil) (deep_closed rfl) rfl
      · replace hres := (ite_f hc105).symm.trans hres
        have hc105' := hc105
        try simp only [Bool.or_eq_true, Bool.or_eq_false_iff, Bool.and_eq_true, Bool.and_eq_false_imp, decide_eq_true_eq, decide_eq_false_iff_not, Bool.not_eq_true', Bool.not_eq_false', Bool.not_eq_true, Bool.not_eq_false, Bool.not_true, Bool.not_false, ne_eq] at hc105'
        refine rc_skip ?_
        refine pn_blk ?_
        refine pn_seq ?_
        refine rc_region ?_
        refine rd_op (ov_bin rfl rfl i_add) ?_
        refine rd_op (ov_move rfl) ?_
        refine rd_nil ?_
        refine pn_again ?_
        have hbd := sl_bound r0
        have hinc : wr (x8_ + 1) = x8_ + 1 := wr_of (by omega) (by omega)
        rw [hinc]
        refine rc_weak ?_ (ih (x8_ + 1)  (by omega) (by omega) hres)
        exact ((sub_cons rfl (sub_cons rfl (sub_cons rfl (sub_cons rfl (sub_nil _))))))
    · exfalso
      try simp only [Bool.or_eq_true, Bool.or_eq_false_iff, Bool.and_eq_true, Bool.and_eq_false_imp, decide_eq_true_eq, decide_eq_false_iff_not, Bool.not_eq_true', Bool.not_eq_false', Bool.not_eq_true, Bool.not_eq_false, Bool.not_true, Bool.not_false, ne_eq] at hc102
      omega

theorem f81_ok {x0 : List api_Guard} {x1 : api_Guard → Bool} {v0 : PV} {v1 : PV} (r0 : (tSl api_Guard.t).R x0 v0) (r1 : (tFn Try.prog api_Guard.t tB).R x1 v1) : FnR Try.prog 81 [v0, v1] (vi (slices_IndexFunc__api_Guard_api_Guard_ x0 x1)) := by
  obtain ⟨res, hres⟩ : ∃ res, slices_IndexFunc__api_Guard_api_Guard_ x0 x1 = res := ⟨_, rfl⟩
  suffices H : RC Try.prog ac81 [] (QR Try.prog [(4, none)] (RF81 res)) (argE 0 [v0, v1]) ⟨0, []⟩ by
    obtain ⟨r, h1, h2⟩ := fnE text81 (by simp) H
    rw [hres]
    have h2 : r = vi res := h2
    rw [← h2]; exact h1
  unfold slices_IndexFunc__api_Guard_api_Guard_ at hres
  unfold ac81
  refine rc_seq ?_
  refine rc_region ?_
  refine rd_op (v := vi 0) (ov_move rfl) ?_
  refine rd_nil ?_
  refine pn_seq ?_
  refine rc_seq ?_
  refine rc_seq ?_
  refine rc_region ?_
  refine rd_op (ov_move rfl) ?_
  refine rd_op (ov_bi rfl (sl_len r0 Try.underlying56 _)) ?_
  refine rd_op (v := vi 0) (ov_move rfl) ?_
  refine rd_nil ?_
  refine pn_seq ?_
  refine rc_block ?_
  refine rc_weak ?_ (slices_IndexFunc__api_Guard_api_Guard__L1_ok (x0 := x0) (x1 := x1) (v0 := v0) (v1 := v1)  (r0 := r0) (r1 := r1) ?_ (Int.toNat ((x0.length : Int) - 0)) 0 rfl (by omega) hres)
  · exact ((sub_cons rfl (sub_cons rfl (sub_cons rfl (sub_cons rfl (sub_nil _))))))
  · intro  hres
    refine px_blk ?_
    refine pn_seq ?_
    refine rc_seq ?_
    refine rc_region ?_
    refine rd_op (v := vi (-1)) (ov_move rfl) ?_
    refine rd_nil ?_
    refine pn_seq ?_
    subst hres
    exact rc_retV (.tmp rfl .nil) (deep_closed rfl) rfl

/-- slices.ContainsFunc[[]patchbay/api.Guard,patchbay/api.Guard] -/
def RF68 (res : Bool) (r : PV) : Prop := r = vb res
theorem f68_ok {x0 : List api_Guard} {x1 : api_Guard → Bool} {v0 : PV} {v1 : PV} (r0 : (tSl api_Guard.t).R x0 v0) (r1 : (tFn Try.prog api_Guard.t tB).R x1 v1) : FnR Try.prog 68 [v0, v1] (vb (slices_ContainsFunc__api_Guard_api_Guard_ x0 x1)) := by
  obtain ⟨res, hres⟩ : ∃ res, slices_ContainsFunc__api_Guard_api_Guard_ x0 x1 = res := ⟨_, rfl⟩
  suffices H : RC Try.prog ac68 [] (QR Try.prog [(4, none)] (RF68 res)) (argE 0 [v0, v1]) ⟨0, []⟩ by
    obtain ⟨r, h1, h2⟩ := fnE text68 (by simp) H
    rw [hres]
    have h2 : r = vb res := h2
    rw [← h2]; exact h1
  unfold slices_ContainsFunc__api_Guard_api_Guard_ at hres
  unfold ac68
  refine rc_seq ?_
  refine rc_region ?_
  refine rd_op (v := vb false) (ov_move rfl) ?_
  refine rd_nil ?_
  refine pn_seq ?_
  refine rc_seq ?_
  refine rc_region ?_
  refine rd_op (ov_move rfl) ?_
  refine rd_op (ov_move rfl) ?_
  obtain ⟨y101, hw101, hres⟩ := let_ex hres
  have f101 := f81_ok  r0 r1 
  rw [hw101] at f101
  refine rd_call (cv_fn rfl rfl (clL_cons (TR.clo (tSl api_Guard.t) r0) (clL_cons (TR.clo (tFn Try.prog api_Guard.t tB) r1) clL_nil)) f101) ?_
  refine rd_op (ov_bin rfl rfl i_geq) ?_
  refine rd_op (ov_move rfl) ?_
  refine rd_nil ?_
  refine pn_seq ?_
  subst hres
  exact rc_retV (.tmp rfl .nil) (deep_closed rfl) rfl

/-- patchbay/units.Exclusive -/
def RF36 (res : Bool) (r : PV) : Prop := r = vb res
theorem f36_ok {x0 : List api_Unit} {x1 : Int} {x2 : Int} {v0 : PV} (r0 : (tSl api_Unit.t).R x0 v0) : FnR Try.prog 36 [v0, vi x1, vi x2] (vb (units_Exclusive x0 x1 x2)) := by
  obtain ⟨res, hres⟩ : ∃ res, units_Exclusive x0 x1 x2 = res := ⟨_, rfl⟩
  suffices H : RC Try.prog ac36 [] (QR Try.prog [(6, none)] (RF36 res)) (argE 0 [v0, vi x1, vi x2]) ⟨0, []⟩ by
    obtain ⟨r, h1, h2⟩ := fnE text36 (by simp) H
    rw [hres]
    have h2 : r = vb res := h2
    rw [← h2]; exact h1
  unfold units_Exclusive at hres
  unfold ac36
  refine rc_seq ?_
  refine rc_region ?_
  refine rd_op (ov_box rfl (TR.cnt (tSl api_Unit.t) r0)) ?_
  refine rd_op (ov_box rfl rfl) ?_
  refine rd_op (v := vb false) (ov_move rfl) ?_
  refine rd_nil ?_
  refine pn_seq ?_
  refine rc_seq ?_
  refine rc_seq ?_
  refine rc_region ?_
  refine rd_op (ov_move rfl) ?_
  refine rd_op (ov_bin rfl rfl i_lss) ?_
  refine rd_op (ov_move rfl) ?_
  refine rd_cut (d := 14) (v := vb ((decide (x1 < 0)) || (decide ((x0.length : Int) ≤ x1)))) ?_ ?_
  · intro S Q r
    simp only [ac36_G1, List.cons_append, List.nil_append, List.append_assoc]
    cases hb101 : (decide (x1 < 0))
    · intro k
      have hb101' := hb101
      try simp only [Bool.or_eq_true, Bool.or_eq_false_iff, Bool.and_eq_true, Bool.and_eq_false_imp, decide_eq_true_eq, decide_eq_false_iff_not, Bool.not_eq_true', Bool.not_eq_false', Bool.not_eq_true, Bool.not_eq_false, Bool.not_true, Bool.not_false, ne_eq] at hb101'
      refine rd_yes rfl rfl (ov_move rfl) ?_
      refine rd_yes rfl rfl (ov_load rfl (TR.cnt (tSl api_Unit.t) r0) (TR.agg (tSl api_Unit.t) r0)) ?_
      refine rd_yes rfl rfl (ov_bi rfl (sl_len r0 Try.underlying48 _)) ?_
      refine rd_yes rfl rfl (ov_bin rfl rfl i_geq) ?_
      refine rd_op (v := vb (decide ((x0.length : Int) ≤ x1))) (ov_pick rfl rfl rfl rfl) ?_
      exact rd_weak (sub_cons rfl (sub_skip rfl (sub_skip rfl (sub_skip rfl (sub_skip rfl (sub_skip rfl (sub_refl _))))))) k
    · intro k
      refine rd_skip rfl rfl ?_
      refine rd_skip rfl rfl ?_
      refine rd_skip rfl rfl ?_
      refine rd_skip rfl rfl ?_
      refine rd_op (v := vb true) (ov_pick rfl rfl rfl rfl) ?_
      exact rd_weak (sub_cons rfl (sub_skip rfl (sub_skip rfl (sub_skip rfl (sub_skip rfl (sub_skip rfl (sub_refl _))))))) k
  refine rd_op (ov_move rfl) ?_
  refine rd_cut (d := 18) (v := vb (((decide (x1 < 0)) || (decide ((x0.length : Int) ≤ x1))) || (decide (x2 < 0)))) ?_ ?_
  · intro S Q r
    simp only [ac36_G2, List.cons_append, List.nil_append, List.append_assoc]
    cases hb102 : ((decide (x1 < 0)) || (decide ((x0.length : Int) ≤ x1)))
    · intro k
      have hb102' := hb102
      try simp only [Bool.or_eq_true, Bool.or_eq_false_iff, Bool.and_eq_true, Bool.and_eq_false_imp, decide_eq_true_eq, decide_eq_false_iff_not, Bool.not_eq_true', Bool.not_eq_false', Bool.not_eq_true, Bool.not_eq_false, Bool.not_true, Bool.not_false, ne_eq] at hb102'
      refine rd_yes rfl rfl (ov_load rfl rfl rfl) ?_
      refine rd_yes rfl rfl (ov_bin rfl rfl i_lss) ?_
      refine rd_op (v := vb (decide (x2 < 0))) (ov_pick rfl rfl rfl rfl) ?_
      exact rd_weak (sub_cons rfl (sub_skip rfl (sub_skip rfl (sub_skip rfl (sub_refl _))))) k
    · intro k
      refine rd_skip rfl rfl ?_
      refine rd_skip rfl rfl ?_
      refine rd_op (v := vb true) (ov_pick rfl rfl rfl rfl) ?_
      exact rd_weak (sub_cons rfl (sub_skip rfl (sub_skip rfl (sub_skip rfl (sub_refl _))))) k
  refine rd_op (ov_move rfl) ?_
  refine rd_cut (d := 24) (v := vb ((((decide (x1 < 0)) || (decide ((x0.length : Int) ≤ x1))) || (decide (x2 < 0))) || (decide ((x0.length : Int) ≤ x2)))) ?_ ?_
  · intro S Q r
    simp only [ac36_G3, List.cons_append, List.nil_append, List.append_assoc]
    cases hb103 : (((decide (x1 < 0)) || (decide ((x0.length : Int) ≤ x1))) || (decide (x2 < 0)))
    · intro k
      have hb103' := hb103
      try simp only [Bool.or_eq_true, Bool.or_eq_false_iff, Bool.and_eq_true, Bool.and_eq_false_imp, decide_eq_true_eq, decide_eq_false_iff_not, Bool.not_eq_true', Bool.not_eq_false', Bool.not_eq_true, Bool.not_eq_false, Bool.not_true, Bool.not_false, ne_eq] at hb103'
      refine rd_yes rfl rfl (ov_load rfl rfl rfl) ?_
      refine rd_yes rfl rfl (ov_load rfl (TR.cnt (tSl api_Unit.t) r0) (TR.agg (tSl api_Unit.t) r0)) ?_
      refine rd_yes rfl rfl (ov_bi rfl (sl_len r0 Try.underlying48 _)) ?_
      refine rd_yes rfl rfl (ov_bin rfl rfl i_geq) ?_
      refine rd_op (v := vb (decide ((x0.length : Int) ≤ x2))) (ov_pick rfl rfl rfl rfl) ?_
      exact rd_weak (sub_cons rfl (sub_skip rfl (sub_skip rfl (sub_skip rfl (sub_skip rfl (sub_skip rfl (sub_refl _))))))) k
    · intro k
      refine rd_skip rfl rfl ?_
      refine rd_skip rfl rfl ?_
      refine rd_skip rfl rfl ?_
      refine rd_skip rfl rfl ?_
      refine rd_op (v := vb true) (ov_pick rfl rfl rfl rfl) ?_
      exact rd_weak (sub_cons rfl (sub_skip rfl (sub_skip rfl (sub_skip rfl (sub_skip rfl (sub_skip rfl (sub_refl _))))))) k
  refine rd_nil ?_
  refine pn_seq ?_
  refine rc_cond rfl (fun hc104 => ?_) (fun hc104 => ?_)
  · replace hres := (ite_t hc104).symm.trans hres
    have hc104' := hc104
    try simp only [Bool.or_eq_true, Bool.or_eq_false_iff, Bool.and_eq_true, Bool.and_eq_false_imp, decide_eq_true_eq, decide_eq_false_iff_not, Bool.not_eq_true', Bool.not_eq_false', Bool.not_eq_true, Bool.not_eq_false, Bool.not_true, Bool.not_false, ne_eq] at hc104'
    refine rc_seq ?_
    refine rc_region ?_
    refine rd_op (v := vb false) (ov_move rfl) ?_
    refine rd_nil ?_
    refine pn_seq ?_
    subst hres
    exact rc_retV (.tmp rfl .nil) (deep_closed rfl) rfl
  · replace hres := (ite_f hc104).symm.trans hres
    have hc104' := hc104
    try simp only [Bool.or_eq_true, Bool.or_eq_false_iff, Bool.and_eq_true, Bool.and_eq_false_imp, decide_eq_true_eq, decide_eq_false_iff_not, Bool.not_eq_true', Bool.not_eq_false', Bool.not_eq_true, Bool.not_eq_false, Bool.not_true, Bool.not_false, ne_eq] at hc104'
    refine rc_skip ?_
    refine pn_seq ?_
    refine rc_seq ?_
    refine rc_region ?_
    refine rd_op (ov_load rfl (TR.cnt (tSl api_Unit.t) r0) (TR.agg (tSl api_Unit.t) r0)) ?_
    refine rd_op (ov_move rfl) ?_
    obtain ⟨v105, e105, r105⟩ := sl_idx (i := x1) r0 (by omega) (by omega)
    refine rd_op (ov_iaddr rfl rfl e105) ?_
    obtain ⟨v106, e106, r106⟩ := api_Unit.g_Guards r105
    refine rd_op (ov_faddr rfl e106) ?_
    refine rd_op (ov_load rfl (TR.cnt (tSl api_Guard.t) r106) (TR.agg (tSl api_Guard.t) r106)) ?_
    have r107 : (tFn Try.prog api_Guard.t tB).R (fun a_ => units_Exclusive_1 a_ x0 x2) (.fn (.func 69) [] [.fp v0, .fp (vi x2)]) := tFn_ofC (clL_cons (clo_fp (TR.clo (tSl api_Unit.t) r0)) (clL_cons rfl clL_nil)) fun a va ra => by exact ⟨_, f69_ok (c1 := x2) ra r0 (by first | assumption | omega), rfl⟩
    refine rd_op (v := .fn (.func 69) [] [.fp v0, .fp (vi x2)]) (ov_mkFunc rfl rfl) ?_
    obtain ⟨y108, hw108, hres⟩ := let_ex hres
    have f108 := f68_ok  r106 r107 
    rw [hw108] at f108
    refine rd_call (cv_fn rfl rfl (clL_cons (TR.clo (tSl api_Guard.t) r106) (clL_cons (TR.clo (tFn Try.prog api_Guard.t tB) r107) clL_nil)) f108) ?_
    refine rd_op (ov_move rfl) ?_
    refine rd_nil ?_
    refine pn_seq ?_
    subst hres
    exact rc_retV (.tmp rfl .nil) (deep_closed rfl) rfl

/-- patchbay/units.Executes -/
def RF34 (res : Bool) (r : PV) : Prop := r = vb res
theorem units_Executes_L1_ok {S : List Fr} {res : Bool} {x0 : List api_Unit} {x1 : List Bool} {x2 : Int} {v1 : PV} {v104 : PV} (r1 : (tSl tB).R x1 v1) (hc102 : ((decide (x2 < 0)) || (decide ((x0.length : Int) ≤ x2))) = false) (r104 : (tSl api_Guard.t).R ((ix x0 x2).Guards) v104) {K0 : Unit → Bool}
    (hK0 : ∀ (h : Heap) (M0 : Mem h []), K0 () = res → PX Try.prog 0 S (QR Try.prog [(6, none)] (RF34 res)) [] h) :
    ∀ (m : Nat) (x23_ : Int) (hm1 : m = Int.toNat ((((ix x0 x2).Guards).length : Int) - x23_)) (hlo1 : 0 ≤ x23_) (h : Heap) (M0 : Mem h []), units_Executes_L1 x0 x1 x2 K0 m x23_ = res → RC Try.prog (.loop ac34_L1) S (QR Try.prog [(6, none)] (RF34 res)) [(23, vi x23_), (22, vi (((ix x0 x2).Guards).length : Int)), (21, v104), (1, v1)] h := by
  have hc102' := hc102
  try simp only [Bool.or_eq_true, Bool.or_eq_false_iff, Bool.and_eq_true, Bool.and_eq_false_imp, decide_eq_true_eq, decide_eq_false_iff_not, Bool.not_eq_true', Bool.not_eq_false', Bool.not_eq_true, Bool.not_eq_false, Bool.not_true, Bool.not_false, ne_eq] at hc102'
  intro m
  induction m with
  | zero =>
    intro x23_ hm1 hlo1 h M0 hres
    rw [units_Executes_L1] at hres
    refine rc_loop ?_
    unfold ac34_L1
    refine rc_seq ?_
    refine rc_region ?_
    refine rd_op (ov_bin rfl rfl i_lss) ?_
    refine rd_nil ?_
    refine pn_seq ?_
    refine rc_seq ?_
    refine rc_cond rfl (fun hc105 => ?_) (fun hc105 => ?_)
    · exfalso
      try simp only [Bool.or_eq_true, Bool.or_eq_false_iff, Bool.and_eq_true, Bool.and_eq_false_imp, decide_eq_true_eq, decide_eq_false_iff_not, Bool.not_eq_true', Bool.not_eq_false', Bool.not_eq_true, Bool.not_eq_false, Bool.not_true, Bool.not_false, ne_eq] at hc105
      omega
    · have hend := hres
      have hc105' := hc105
      try simp only [Bool.or_eq_true, Bool.or_eq_false_iff, Bool.and_eq_true, Bool.and_eq_false_imp, decide_eq_true_eq, decide_eq_false_iff_not, Bool.not_eq_true', Bool.not_eq_false', Bool.not_eq_true, Bool.not_eq_false, Bool.not_true, Bool.not_false, ne_eq] at hc105'
      refine rc_exit ?_
      refine px_seq ?_
      refine px_again ?_
      exact px_weak ((sub_nil _)) (hK0 _ (Mem.sub M0 .slnil) hres)
  | succ m ih =>
    intro x23_ hm1 hlo1 h M0 hres
    rw [units_Executes_L1] at hres
    refine rc_loop ?_
    unfold ac34_L1
    refine rc_seq ?_
    refine rc_region ?_
    refine rd_op (ov_bin rfl rfl i_lss) ?_
    refine rd_nil ?_
    refine pn_seq ?_
    refine rc_seq ?_
    refine rc_cond rfl (fun hc106 => ?_) (fun hc106 => ?_)
    · have hgo := hres
      have hc106' := hc106
      try simp only [Bool.or_eq_true, Bool.or_eq_false_iff, Bool.and_eq_true, Bool.and_eq_false_imp, decide_eq_true_eq, decide_eq_false_iff_not, Bool.not_eq_true', Bool.not_eq_false', Bool.not_eq_true, Bool.not_eq_false, Bool.not_true, Bool.not_false, ne_eq] at hc106'
      refine rc_skip ?_
      refine pn_seq ?_
      refine rc_seq ?_
      refine rc_block ?_
      refine rc_seq ?_
      refine rc_region ?_
      obtain ⟨v107, e107, r107⟩ := sl_idx (i := x23_) r104 (by omega) (by omega)
      refine rd_op (ov_iaddr rfl rfl e107) ?_
      refine rd_op (ov_load rfl (TR.cnt api_Guard.t r107) (TR.agg api_Guard.t r107)) ?_
      refine rd_allocO (x := .agg [vi 0, vb false]) M0 rfl rfl (fun i108 w108 h108 M108 => ?_)
      refine rd_storeO (k := 0) (v := v107) M108 rfl rfl rfl (TR.cnt api_Guard.t r107) (fun h110 M110 => ?_)
      replace M110 : Mem h110 [⟨.op i108 w108 0, 60, 2, [v107]⟩] := M110
      refine rd_nil ?_
      refine pn_seq ?_
      refine rc_seq ?_
      refine rc_region ?_
      refine rd_op (ov_faddrO rfl) ?_
      refine rd_op (ov_loadf (k := 0) M110 rfl rfl (api_Guard.g_Unit r107)) ?_
      refine rd_op (ov_bin rfl rfl i_geq) ?_
      refine rd_op (ov_move rfl) ?_
      refine rd_cut (d := 36) (v := vb ((decide (0 ≤ ((ix ((ix x0 x2).Guards) x23_).Unit))) && (decide (((ix ((ix x0 x2).Guards) x23_).Unit) < (x1.length : Int))))) ?_ ?_
      · intro S Q r
        simp only [ac34_G2, List.cons_append, List.nil_append, List.append_assoc]
        cases hb111 : (decide (0 ≤ ((ix ((ix x0 x2).Guards) x23_).Unit)))
        · intro k
          refine rd_skip rfl rfl ?_
          refine rd_skip rfl rfl ?_
          refine rd_skip rfl rfl ?_
          refine rd_skip rfl rfl ?_
          refine rd_skip rfl rfl ?_
          refine rd_op (v := vb false) (ov_pick rfl rfl rfl rfl) ?_
          exact rd_weak (sub_cons rfl (sub_skip rfl (sub_skip rfl (sub_skip rfl (sub_skip rfl (sub_skip rfl (sub_skip rfl (sub_refl _)))))))) k
        · intro k
          have hb111' := hb111
          try simp only [Bool.or_eq_true, Bool.or_eq_false_iff, Bool.and_eq_true, Bool.and_eq_false_imp, decide_eq_true_eq, decide_eq_false_iff_not, Bool.not_eq_true', Bool.not_eq_false', Bool.not_eq_true, Bool.not_eq_false, Bool.not_true, Bool.not_false, ne_eq] at hb111'
          refine rd_yes rfl rfl (ov_faddrO rfl) ?_
          refine rd_yes rfl rfl (ov_loadf (k := 0) M110 rfl rfl (api_Guard.g_Unit r107)) ?_
          refine rd_yes rfl rfl (ov_move rfl) ?_
          refine rd_yes rfl rfl (ov_bi rfl (sl_len r1 Try.underlying50 _)) ?_
          refine rd_yes rfl rfl (ov_bin rfl rfl i_lss) ?_
          refine rd_op (v := vb (decide (((ix ((ix x0 x2).Guards) x23_).Unit) < (x1.length : Int)))) (ov_pick rfl rfl rfl rfl) ?_
          exact rd_weak (sub_cons rfl (sub_skip rfl (sub_skip rfl (sub_skip rfl (sub_skip rfl (sub_skip rfl (sub_skip rfl (sub_refl _)))))))) k
      refine rd_op (ov_move rfl) ?_
      refine rd_cut (d := 43) (v := vb (((decide (0 ≤ ((ix ((ix x0 x2).Guards) x23_).Unit))) && (decide (((ix ((ix x0 x2).Guards) x23_).Unit) < (x1.length : Int)))) && (ix x1 ((ix ((ix x0 x2).Guards) x23_).Unit)))) ?_ ?_
      · intro S Q r
        simp only [ac34_G3, List.cons_append, List.nil_append, List.append_assoc]
        cases hb112 : ((decide (0 ≤ ((ix ((ix x0 x2).Guards) x23_).Unit))) && (decide (((ix ((ix x0 x2).Guards) x23_).Unit) < (x1.length : Int))))
        · intro k
          refine rd_skip rfl rfl ?_
          refine rd_skip rfl rfl ?_
          refine rd_skip rfl rfl ?_
          refine rd_skip rfl rfl ?_
          refine rd_skip rfl rfl ?_
          refine rd_op (v := vb false) (ov_pick rfl rfl rfl rfl) ?_
          exact rd_weak (sub_cons rfl (sub_skip rfl (sub_skip rfl (sub_skip rfl (sub_skip rfl (sub_skip rfl (sub_skip rfl (sub_refl _)))))))) k
        · intro k
          have hb112' := hb112
          try simp only [Bool.or_eq_true, Bool.or_eq_false_iff, Bool.and_eq_true, Bool.and_eq_false_imp, decide_eq_true_eq, decide_eq_false_iff_not, Bool.not_eq_true', Bool.not_eq_false', Bool.not_eq_true, Bool.not_eq_false, Bool.not_true, Bool.not_false, ne_eq] at hb112'
          refine rd_yes rfl rfl (ov_move rfl) ?_
          refine rd_yes rfl rfl (ov_faddrO rfl) ?_
          refine rd_yes rfl rfl (ov_loadf (k := 0) M110 rfl rfl (api_Guard.g_Unit r107)) ?_
          refine rd_yes rfl rfl (ov_iaddr rfl rfl (slB r1 (by omega) (by omega))) ?_
          refine rd_yes rfl rfl (ov_load rfl rfl rfl) ?_
          refine rd_op (v := vb (ix x1 ((ix ((ix x0 x2).Guards) x23_).Unit))) (ov_pick rfl rfl rfl rfl) ?_
          exact rd_weak (sub_cons rfl (sub_skip rfl (sub_skip rfl (sub_skip rfl (sub_skip rfl (sub_skip rfl (sub_skip rfl (sub_refl _)))))))) k
      refine rd_op (ov_faddrO rfl) ?_
      refine rd_op (ov_loadf (k := 0) M110 rfl rfl (api_Guard.g_Want r107)) ?_
      refine rd_op (ov_bin rfl rfl (bin_neqb (by rw [Try.underlying4]; rfl))) ?_
      refine rd_nil ?_
      refine pn_seq ?_
      refine rc_cond rfl (fun hc113 => ?_) (fun hc113 => ?_)
      · replace hres := (ite_t hc113).symm.trans hres
        have hc113' := hc113
        try simp only [Bool.or_eq_true, Bool.or_eq_false_iff, Bool.and_eq_true, Bool.and_eq_false_imp, decide_eq_true_eq, decide_eq_false_iff_not, Bool.not_eq_true', Bool.not_eq_false', Bool.not_eq_true, Bool.not_eq_false, Bool.not_true, Bool.not_false, ne_eq] at hc113'
        refine rc_seq ?_
        refine rc_region ?_
        refine rd_op (v := vb false) (ov_move rfl) ?_
        refine rd_nil ?_
        refine pn_seq ?_
        subst hres
        exact rc_retV (.tmp rfl .nil) (deep_closed rfl) rfl
      · replace hres := (ite_f hc113).symm.trans hres
        have hc113' := hc113
        try simp only [Bool.or_eq_true, Bool.or_eq_false_iff, Bool.and_eq_true, Bool.and_eq_false_imp, decide_eq_true_eq, decide_eq_false_iff_not, Bool.not_eq_true', Bool.not_eq_false', Bool.not_eq_true, Bool.not_eq_false, Bool.not_true, Bool.not_false, ne_eq] at hc113'
        refine rc_skip ?_
        refine pn_blk ?_
        refine pn_seq ?_
        refine rc_region ?_
        refine rd_op (ov_bin rfl rfl i_add) ?_
        refine rd_op (ov_move rfl) ?_
        refine rd_nil ?_
        refine pn_again ?_
        have hbd := sl_bound r104
        have hinc : wr (x23_ + 1) = x23_ + 1 := wr_of (by omega) (by omega)
        rw [hinc]
        refine rc_weak ?_ (ih (x23_ + 1)  (by omega) (by omega) _ (Mem.sub M110 (.cons _ .slnil)) hres)
        exact ((sub_cons rfl (sub_cons rfl (sub_cons rfl (sub_cons rfl (sub_nil _))))))
    · exfalso
      try simp only [Bool.or_eq_true, Bool.or_eq_false_iff, Bool.and_eq_true, Bool.and_eq_false_imp, decide_eq_true_eq, decide_eq_false_iff_not, Bool.not_eq_true', Bool.not_eq_false', Bool.not_eq_true, Bool.not_eq_false, Bool.not_true, Bool.not_false, ne_eq] at hc106
      omega

theorem f34_ok {x0 : List api_Unit} {x1 : List Bool} {x2 : Int} {v0 : PV} {v1 : PV} (r0 : (tSl api_Unit.t).R x0 v0) (r1 : (tSl tB).R x1 v1) : FnR Try.prog 34 [v0, v1, vi x2] (vb (units_Executes x0 x1 x2)) := by
  obtain ⟨res, hres⟩ : ∃ res, units_Executes x0 x1 x2 = res := ⟨_, rfl⟩
  suffices H : RC Try.prog ac34 [] (QR Try.prog [(6, none)] (RF34 res)) (argE 0 [v0, v1, vi x2]) ⟨0, []⟩ by
    obtain ⟨r, h1, h2⟩ := fnE text34 (by simp) H
    rw [hres]
    have h2 : r = vb res := h2
    rw [← h2]; exact h1
  unfold units_Executes at hres
  unfold ac34
  refine rc_seq ?_
  refine rc_region ?_
  refine rd_op (v := vb false) (ov_move rfl) ?_
  refine rd_nil ?_
  refine pn_seq ?_
  refine rc_seq ?_
  refine rc_seq ?_
  refine rc_region ?_
  refine rd_op (ov_move rfl) ?_
  refine rd_op (ov_bin rfl rfl i_lss) ?_
  refine rd_op (ov_move rfl) ?_
  refine rd_cut (d := 16) (v := vb ((decide (x2 < 0)) || (decide ((x0.length : Int) ≤ x2)))) ?_ ?_
  · intro S Q r
    simp only [ac34_G1, List.cons_append, List.nil_append, List.append_assoc]
    cases hb101 : (decide (x2 < 0))
    · intro k
      have hb101' := hb101
      try simp only [Bool.or_eq_true, Bool.or_eq_false_iff, Bool.and_eq_true, Bool.and_eq_false_imp, decide_eq_true_eq, decide_eq_false_iff_not, Bool.not_eq_true', Bool.not_eq_false', Bool.not_eq_true, Bool.not_eq_false, Bool.not_true, Bool.not_false, ne_eq] at hb101'
      refine rd_yes rfl rfl (ov_move rfl) ?_
      refine rd_yes rfl rfl (ov_move rfl) ?_
      refine rd_yes rfl rfl (ov_bi rfl (sl_len r0 Try.underlying48 _)) ?_
      refine rd_yes rfl rfl (ov_bin rfl rfl i_geq) ?_
      refine rd_op (v := vb (decide ((x0.length : Int) ≤ x2))) (ov_pick rfl rfl rfl rfl) ?_
      exact rd_weak (sub_cons rfl (sub_skip rfl (sub_skip rfl (sub_skip rfl (sub_skip rfl (sub_skip rfl (sub_refl _))))))) k
    · intro k
      refine rd_skip rfl rfl ?_
      refine rd_skip rfl rfl ?_
      refine rd_skip rfl rfl ?_
      refine rd_skip rfl rfl ?_
      refine rd_op (v := vb true) (ov_pick rfl rfl rfl rfl) ?_
      exact rd_weak (sub_cons rfl (sub_skip rfl (sub_skip rfl (sub_skip rfl (sub_skip rfl (sub_skip rfl (sub_refl _))))))) k
  refine rd_nil ?_
  refine pn_seq ?_
  refine rc_cond rfl (fun hc102 => ?_) (fun hc102 => ?_)
  · replace hres := (ite_t hc102).symm.trans hres
    have hc102' := hc102
    try simp only [Bool.or_eq_true, Bool.or_eq_false_iff, Bool.and_eq_true, Bool.and_eq_false_imp, decide_eq_true_eq, decide_eq_false_iff_not, Bool.not_eq_true', Bool.not_eq_false', Bool.not_eq_true, Bool.not_eq_false, Bool.not_true, Bool.not_false, ne_eq] at hc102'
    refine rc_seq ?_
    refine rc_region ?_
    refine rd_op (v := vb false) (ov_move rfl) ?_
    refine rd_nil ?_
    refine pn_seq ?_
    subst hres
    exact rc_retV (.tmp rfl .nil) (deep_closed rfl) rfl
  · replace hres := (ite_f hc102).symm.trans hres
    have hc102' := hc102
    try simp only [Bool.or_eq_true, Bool.or_eq_false_iff, Bool.and_eq_true, Bool.and_eq_false_imp, decide_eq_true_eq, decide_eq_false_iff_not, Bool.not_eq_true', Bool.not_eq_false', Bool.not_eq_true, Bool.not_eq_false, Bool.not_true, Bool.not_false, ne_eq] at hc102'
    refine rc_skip ?_
    refine pn_seq ?_
    refine rc_seq ?_
    refine rc_seq ?_
    refine rc_region ?_
    refine rd_op (ov_move rfl) ?_
    refine rd_op (ov_move rfl) ?_
    obtain ⟨v103, e103, r103⟩ := sl_idx (i := x2) r0 (by omega) (by omega)
    refine rd_op (ov_iaddr rfl rfl e103) ?_
    obtain ⟨v104, e104, r104⟩ := api_Unit.g_Guards r103
    refine rd_op (ov_faddr rfl e104) ?_
    refine rd_op (ov_load rfl (TR.cnt (tSl api_Guard.t) r104) (TR.agg (tSl api_Guard.t) r104)) ?_
    refine rd_op (ov_bi rfl (sl_len r104 Try.underlying56 _)) ?_
    refine rd_op (v := vi 0) (ov_move rfl) ?_
    refine rd_nil ?_
    refine pn_seq ?_
    refine rc_block ?_
    refine rc_weak ?_ (units_Executes_L1_ok (x0 := x0) (x1 := x1) (x2 := x2) (v1 := v1) (v104 := v104)  (r1 := r1) (hc102 := hc102) (r104 := r104) ?_ (Int.toNat ((((ix x0 x2).Guards).length : Int) - 0)) 0 rfl (by omega) _ (Mem.sub (Mem.nil ⟨0, []⟩) .slnil) hres)
    · exact ((sub_cons rfl (sub_cons rfl (sub_cons rfl (sub_cons rfl (sub_nil _))))))
    · intro h114 M114 hres
      refine px_blk ?_
      refine pn_seq ?_
      refine rc_seq ?_
      refine rc_region ?_
      refine rd_op (v := vb true) (ov_move rfl) ?_
      refine rd_nil ?_
      refine pn_seq ?_
      subst hres
      exact rc_retV (.tmp rfl .nil) (deep_closed rfl) rfl

/-- patchbay/patchbaylaw32.UnitsExclude -/
def RF7 (res : Bool) (r : PV) : Prop := r = vb res
theorem f7_ok {x0 : List api_Unit} {x1 : List Bool} {x2 : List Int} {v0 : PV} {v1 : PV} {v2 : PV} (r0 : (tSl api_Unit.t).R x0 v0) (r1 : (tSl tB).R x1 v1) (r2 : (tAr 2 tI).R x2 v2) : FnR Try.prog 7 [v0, v1, v2] (vb (law32_UnitsExclude x0 x1 x2)) := by
  obtain ⟨res, hres⟩ : ∃ res, law32_UnitsExclude x0 x1 x2 = res := ⟨_, rfl⟩
  suffices H : RC Try.prog ac7 [] (QR Try.prog [(6, none)] (RF7 res)) (argE 0 [v0, v1, v2]) ⟨0, []⟩ by
    obtain ⟨r, h1, h2⟩ := fnE text7 (by simp) H
    rw [hres]
    have h2 : r = vb res := h2
    rw [← h2]; exact h1
  unfold law32_UnitsExclude at hres
  unfold ac7
  refine rc_seq ?_
  refine rc_region ?_
  refine rd_op (ov_box rfl (TR.cnt (tAr 2 tI) r2)) ?_
  refine rd_op (v := vb false) (ov_move rfl) ?_
  refine rd_nil ?_
  refine pn_seq ?_
  refine rc_seq ?_
  refine rc_seq ?_
  refine rc_region ?_
  refine rd_op (ov_move rfl) ?_
  obtain ⟨y101, hw101, hres⟩ := let_ex hres
  have f101 := f33_ok  r0 
  rw [hw101] at f101
  refine rd_call (cv_fn rfl rfl (clL_cons (TR.clo (tSl api_Unit.t) r0) clL_nil) f101) ?_
  refine rd_op (ov_not rfl) ?_
  refine rd_nil ?_
  refine pn_seq ?_
  refine rc_cond rfl (fun hc102 => ?_) (fun hc102 => ?_)
  · replace hres := (ite_t hc102).symm.trans hres
    have hc102' := hc102
    try simp only [Bool.or_eq_true, Bool.or_eq_false_iff, Bool.and_eq_true, Bool.and_eq_false_imp, decide_eq_true_eq, decide_eq_false_iff_not, Bool.not_eq_true', Bool.not_eq_false', Bool.not_eq_true, Bool.not_eq_false, Bool.not_true, Bool.not_false, ne_eq] at hc102'
    refine rc_seq ?_
    refine rc_region ?_
    obtain ⟨y103, hw103, hres⟩ := let_ex hres
    have f103 := f29_ok   
    rw [hw103] at f103
    refine rd_call (cv_fn rfl rfl clL_nil f103) ?_
    refine rd_op (ov_move rfl) ?_
    refine rd_nil ?_
    refine pn_seq ?_
    subst hres
    exact rc_retV (.tmp rfl .nil) (deep_closed rfl) rfl
  · replace hres := (ite_f hc102).symm.trans hres
    have hc102' := hc102
    try simp only [Bool.or_eq_true, Bool.or_eq_false_iff, Bool.and_eq_true, Bool.and_eq_false_imp, decide_eq_true_eq, decide_eq_false_iff_not, Bool.not_eq_true', Bool.not_eq_false', Bool.not_eq_true, Bool.not_eq_false, Bool.not_true, Bool.not_false, ne_eq] at hc102'
    refine rc_skip ?_
    refine pn_seq ?_
    refine rc_seq ?_
    refine rc_region ?_
    refine rd_op (ov_move rfl) ?_
    obtain ⟨v104, e104, r104⟩ := arr_addr (t := tI) r2 (i := 0) (by omega) (by omega)
    have r104 : v104 = vi (ix x2 0) := r104; subst r104
    refine rd_op (ov_iaddrA rfl rfl e104) ?_
    refine rd_op (ov_load rfl rfl rfl) ?_
    obtain ⟨v105, e105, r105⟩ := arr_addr (t := tI) r2 (i := 1) (by omega) (by omega)
    have r105 : v105 = vi (ix x2 1) := r105; subst r105
    refine rd_op (ov_iaddrA rfl rfl e105) ?_
    refine rd_op (ov_load rfl rfl rfl) ?_
    obtain ⟨y106, hw106, hres⟩ := let_ex hres
    have f106 := f36_ok (x1 := (ix x2 0)) (x2 := (ix x2 1)) r0 
    rw [hw106] at f106
    refine rd_call (cv_fn rfl rfl (clL_cons (TR.clo (tSl api_Unit.t) r0) (clL_cons rfl (clL_cons rfl clL_nil))) f106) ?_
    refine rd_op (ov_move rfl) ?_
    refine rd_cut (d := 23) (v := vb (y106 && (units_Executes x0 x1 (ix x2 0)))) ?_ ?_
    · intro S Q r
      simp only [ac7_G1, List.cons_append, List.nil_append, List.append_assoc]
      cases hb107 : y106
      · intro k
        refine rd_skip rfl rfl ?_
        refine rd_skip rfl rfl ?_
        refine rd_skip rfl rfl ?_
        refine rd_skip rfl rfl ?_
        refine rd_skip rfl rfl ?_
        refine rd_op (v := vb false) (ov_pick rfl rfl rfl rfl) ?_
        exact rd_weak (sub_cons rfl (sub_skip rfl (sub_skip rfl (sub_skip rfl (sub_skip rfl (sub_skip rfl (sub_skip rfl (sub_refl _)))))))) k
      · intro k
        have hb107' := hb107
        try simp only [Bool.or_eq_true, Bool.or_eq_false_iff, Bool.and_eq_true, Bool.and_eq_false_imp, decide_eq_true_eq, decide_eq_false_iff_not, Bool.not_eq_true', Bool.not_eq_false', Bool.not_eq_true, Bool.not_eq_false, Bool.not_true, Bool.not_false, ne_eq] at hb107'
        refine rd_yes rfl rfl (ov_move rfl) ?_
        refine rd_yes rfl rfl (ov_move rfl) ?_
        obtain ⟨v108, e108, r108⟩ := arr_addr (t := tI) r2 (i := 0) (by omega) (by omega)
        have r108 : v108 = vi (ix x2 0) := r108; subst r108
        refine rd_yes rfl rfl (ov_iaddrA rfl rfl e108) ?_
        refine rd_yes rfl rfl (ov_load rfl rfl rfl) ?_
        have f109 := f34_ok (x2 := (ix x2 0)) r0 r1 
        refine rd_ycall rfl rfl (cv_fn rfl rfl (clL_cons (TR.clo (tSl api_Unit.t) r0) (clL_cons (TR.clo (tSl tB) r1) (clL_cons rfl clL_nil))) f109) ?_
        refine rd_op (v := vb (units_Executes x0 x1 (ix x2 0))) (ov_pick rfl rfl rfl rfl) ?_
        exact rd_weak (sub_cons rfl (sub_skip rfl (sub_skip rfl (sub_skip rfl (sub_skip rfl (sub_skip rfl (sub_skip rfl (sub_refl _)))))))) k
    refine rd_op (ov_move rfl) ?_
    refine rd_cut (d := 30) (v := vb ((y106 && (units_Executes x0 x1 (ix x2 0))) && (units_Executes x0 x1 (ix x2 1)))) ?_ ?_
    · intro S Q r
      simp only [ac7_G2, List.cons_append, List.nil_append, List.append_assoc]
      cases hb110 : (y106 && (units_Executes x0 x1 (ix x2 0)))
      · intro k
        refine rd_skip rfl rfl ?_
        refine rd_skip rfl rfl ?_
        refine rd_skip rfl rfl ?_
        refine rd_skip rfl rfl ?_
        refine rd_skip rfl rfl ?_
        refine rd_op (v := vb false) (ov_pick rfl rfl rfl rfl) ?_
        exact rd_weak (sub_cons rfl (sub_skip rfl (sub_skip rfl (sub_skip rfl (sub_skip rfl (sub_skip rfl (sub_skip rfl (sub_refl _)))))))) k
      · intro k
        have hb110' := hb110
        try simp only [Bool.or_eq_true, Bool.or_eq_false_iff, Bool.and_eq_true, Bool.and_eq_false_imp, decide_eq_true_eq, decide_eq_false_iff_not, Bool.not_eq_true', Bool.not_eq_false', Bool.not_eq_true, Bool.not_eq_false, Bool.not_true, Bool.not_false, ne_eq] at hb110'
        refine rd_yes rfl rfl (ov_move rfl) ?_
        refine rd_yes rfl rfl (ov_move rfl) ?_
        obtain ⟨v111, e111, r111⟩ := arr_addr (t := tI) r2 (i := 1) (by omega) (by omega)
        have r111 : v111 = vi (ix x2 1) := r111; subst r111
        refine rd_yes rfl rfl (ov_iaddrA rfl rfl e111) ?_
        refine rd_yes rfl rfl (ov_load rfl rfl rfl) ?_
        have f112 := f34_ok (x2 := (ix x2 1)) r0 r1 
        refine rd_ycall rfl rfl (cv_fn rfl rfl (clL_cons (TR.clo (tSl api_Unit.t) r0) (clL_cons (TR.clo (tSl tB) r1) (clL_cons rfl clL_nil))) f112) ?_
        refine rd_op (v := vb (units_Executes x0 x1 (ix x2 1))) (ov_pick rfl rfl rfl rfl) ?_
        exact rd_weak (sub_cons rfl (sub_skip rfl (sub_skip rfl (sub_skip rfl (sub_skip rfl (sub_skip rfl (sub_skip rfl (sub_refl _)))))))) k
    refine rd_op (ov_not rfl) ?_
    refine rd_op (ov_move rfl) ?_
    refine rd_cut (d := 34) (v := vb ((!((y106 && (units_Executes x0 x1 (ix x2 0))) && (units_Executes x0 x1 (ix x2 1)))) && (law32_awake))) ?_ ?_
    · intro S Q r
      simp only [ac7_G3, List.cons_append, List.nil_append, List.append_assoc]
      cases hb113 : (!((y106 && (units_Executes x0 x1 (ix x2 0))) && (units_Executes x0 x1 (ix x2 1))))
      · intro k
        refine rd_skip rfl rfl ?_
        refine rd_op (v := vb false) (ov_pick rfl rfl rfl rfl) ?_
        exact rd_weak (sub_cons rfl (sub_skip rfl (sub_skip rfl (sub_refl _)))) k
      · intro k
        have hb113' := hb113
        try simp only [Bool.or_eq_true, Bool.or_eq_false_iff, Bool.and_eq_true, Bool.and_eq_false_imp, decide_eq_true_eq, decide_eq_false_iff_not, Bool.not_eq_true', Bool.not_eq_false', Bool.not_eq_true, Bool.not_eq_false, Bool.not_true, Bool.not_false, ne_eq] at hb113'
        have f114 := f29_ok   
        refine rd_ycall rfl rfl (cv_fn rfl rfl clL_nil f114) ?_
        refine rd_op (v := vb (law32_awake)) (ov_pick rfl rfl rfl rfl) ?_
        exact rd_weak (sub_cons rfl (sub_skip rfl (sub_skip rfl (sub_refl _)))) k
    refine rd_op (ov_move rfl) ?_
    refine rd_nil ?_
    refine pn_seq ?_
    subst hres
    exact rc_retV (.tmp rfl .nil) (deep_closed rfl) rfl

end Go.Proofs.Ytkgnjpoafilicaa
