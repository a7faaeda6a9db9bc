/-
  The code of each function does what its plain program says.
-/
import Derived.Test.YtkgnjpoafilicaaL3W2
set_option linter.unusedVariables false
set_option linter.unusedSimpArgs false
set_option maxRecDepth 100000
namespace Go.Proofs.Ytkgnjpoafilicaa
open Go Go.Pb Go.RowKit
/-- patchbay/patchbayref13.Arity -/
def RF89 (res : Int) (r : PV) : Prop := r = vi res
theorem f89_ok {x0 : Int} : FnR Try.prog 89 [vi x0] (vi (ref13_Arity x0)) := by
  obtain ⟨res, hres⟩ : ∃ res, ref13_Arity x0 = res := ⟨_, rfl⟩
  suffices H : RC Try.prog ac89 [] (QR Try.prog [(2, none)] (RF89 res)) (argE 0 [vi x0]) ⟨0, []⟩ by
    obtain ⟨r, h1, h2⟩ := fnE text89 (by simp) H
    rw [hres]
    have h2 : r = vi res := h2
    rw [← h2]; exact h1
  unfold ref13_Arity at hres
  unfold ac89
  refine rc_seq ?_
  refine rc_region ?_
  refine rd_op (v := vi 0) (ov_move rfl) ?_
  refine rd_nil ?_
  refine pn_seq ?_
  refine rc_seq ?_
  refine rc_block ?_
  refine rc_seq ?_
  refine rc_region ?_
  refine rd_op (ov_move rfl) ?_
  refine rd_op (ov_bin rfl rfl i_geq) ?_
  refine rd_op (ov_move rfl) ?_
  refine rd_cut (d := 9) (v := vb ((decide (1 ≤ x0)) && (decide (x0 ≤ 4)))) ?_ ?_
  · intro S Q r
    simp only [ac89_G1, List.cons_append, List.nil_append, List.append_assoc]
    cases hb101 : (decide (1 ≤ x0))
    · intro k
      refine rd_skip rfl rfl ?_
      refine rd_skip rfl rfl ?_
      refine rd_op (v := vb false) (ov_pick rfl rfl rfl rfl) ?_
      exact rd_weak (sub_cons rfl (sub_skip rfl (sub_skip rfl (sub_skip rfl (sub_refl _))))) k
    · intro k
      have hb101' := hb101
      try simp only [Bool.or_eq_true, Bool.or_eq_false_iff, Bool.and_eq_true, Bool.and_eq_false_imp, decide_eq_true_eq, decide_eq_false_iff_not, Bool.not_eq_true', Bool.not_eq_false', Bool.not_eq_true, Bool.not_eq_false, Bool.not_true, Bool.not_false, ne_eq] at hb101'
      refine rd_yes rfl rfl (ov_move rfl) ?_
      refine rd_yes rfl rfl (ov_bin rfl rfl i_leq) ?_
      refine rd_op (v := vb (decide (x0 ≤ 4))) (ov_pick rfl rfl rfl rfl) ?_
      exact rd_weak (sub_cons rfl (sub_skip rfl (sub_skip rfl (sub_skip rfl (sub_refl _))))) k
  refine rd_op (ov_move rfl) ?_
  refine rd_nil ?_
  refine pn_seq ?_
  refine rc_cond rfl (fun hc102 => ?_) (fun hc102 => ?_)
  · replace hres := (ite_t hc102).symm.trans hres
    have hc102' := hc102
    try simp only [Bool.or_eq_true, Bool.or_eq_false_iff, Bool.and_eq_true, Bool.and_eq_false_imp, decide_eq_true_eq, decide_eq_false_iff_not, Bool.not_eq_true', Bool.not_eq_false', Bool.not_eq_true, Bool.not_eq_false, Bool.not_true, Bool.not_false, ne_eq] at hc102'
    refine rc_seq ?_
    refine rc_region ?_
    refine rd_op (v := vi 0) (ov_move rfl) ?_
    refine rd_nil ?_
    refine pn_seq ?_
    subst hres
    exact rc_retV (.tmp rfl .nil) (deep_closed rfl) rfl
  · replace hres := (ite_f hc102).symm.trans hres
    have hc102' := hc102
    try simp only [Bool.or_eq_true, Bool.or_eq_false_iff, Bool.and_eq_true, Bool.and_eq_false_imp, decide_eq_true_eq, decide_eq_false_iff_not, Bool.not_eq_true', Bool.not_eq_false', Bool.not_eq_true, Bool.not_eq_false, Bool.not_true, Bool.not_false, ne_eq] at hc102'
    refine rc_seq ?_
    refine rc_region ?_
    refine rd_op (ov_move rfl) ?_
    refine rd_op (ov_bin rfl rfl i_geq) ?_
    refine rd_op (ov_move rfl) ?_
    refine rd_cut (d := 16) (v := vb ((decide (5 ≤ x0)) && (decide (x0 ≤ 8)))) ?_ ?_
    · intro S Q r
      simp only [ac89_G2, List.cons_append, List.nil_append, List.append_assoc]
      cases hb103 : (decide (5 ≤ x0))
      · intro k
        refine rd_skip rfl rfl ?_
        refine rd_skip rfl rfl ?_
        refine rd_op (v := vb false) (ov_pick rfl rfl rfl rfl) ?_
        exact rd_weak (sub_cons rfl (sub_skip rfl (sub_skip rfl (sub_skip rfl (sub_refl _))))) k
      · intro k
        have hb103' := hb103
        try simp only [Bool.or_eq_true, Bool.or_eq_false_iff, Bool.and_eq_true, Bool.and_eq_false_imp, decide_eq_true_eq, decide_eq_false_iff_not, Bool.not_eq_true', Bool.not_eq_false', Bool.not_eq_true, Bool.not_eq_false, Bool.not_true, Bool.not_false, ne_eq] at hb103'
        refine rd_yes rfl rfl (ov_move rfl) ?_
        refine rd_yes rfl rfl (ov_bin rfl rfl i_leq) ?_
        refine rd_op (v := vb (decide (x0 ≤ 8))) (ov_pick rfl rfl rfl rfl) ?_
        exact rd_weak (sub_cons rfl (sub_skip rfl (sub_skip rfl (sub_skip rfl (sub_refl _))))) k
    refine rd_op (ov_move rfl) ?_
    refine rd_nil ?_
    refine pn_seq ?_
    refine rc_cond rfl (fun hc104 => ?_) (fun hc104 => ?_)
    · replace hres := (ite_t hc104).symm.trans hres
      have hc104' := hc104
      try simp only [Bool.or_eq_true, Bool.or_eq_false_iff, Bool.and_eq_true, Bool.and_eq_false_imp, decide_eq_true_eq, decide_eq_false_iff_not, Bool.not_eq_true', Bool.not_eq_false', Bool.not_eq_true, Bool.not_eq_false, Bool.not_true, Bool.not_false, ne_eq] at hc104'
      refine rc_seq ?_
      refine rc_region ?_
      refine rd_op (v := vi 1) (ov_move rfl) ?_
      refine rd_nil ?_
      refine pn_seq ?_
      subst hres
      exact rc_retV (.tmp rfl .nil) (deep_closed rfl) rfl
    · replace hres := (ite_f hc104).symm.trans hres
      have hc104' := hc104
      try simp only [Bool.or_eq_true, Bool.or_eq_false_iff, Bool.and_eq_true, Bool.and_eq_false_imp, decide_eq_true_eq, decide_eq_false_iff_not, Bool.not_eq_true', Bool.not_eq_false', Bool.not_eq_true, Bool.not_eq_false, Bool.not_true, Bool.not_false, ne_eq] at hc104'
      refine rc_seq ?_
      refine rc_region ?_
      refine rd_op (ov_move rfl) ?_
      refine rd_op (ov_bin rfl rfl i_geq) ?_
      refine rd_op (ov_move rfl) ?_
      refine rd_cut (d := 23) (v := vb ((decide (9 ≤ x0)) && (decide (x0 ≤ 16)))) ?_ ?_
      · intro S Q r
        simp only [ac89_G3, List.cons_append, List.nil_append, List.append_assoc]
        cases hb105 : (decide (9 ≤ x0))
        · intro k
          refine rd_skip rfl rfl ?_
          refine rd_skip rfl rfl ?_
          refine rd_op (v := vb false) (ov_pick rfl rfl rfl rfl) ?_
          exact rd_weak (sub_cons rfl (sub_skip rfl (sub_skip rfl (sub_skip rfl (sub_refl _))))) k
        · intro k
          have hb105' := hb105
          try simp only [Bool.or_eq_true, Bool.or_eq_false_iff, Bool.and_eq_true, Bool.and_eq_false_imp, decide_eq_true_eq, decide_eq_false_iff_not, Bool.not_eq_true', Bool.not_eq_false', Bool.not_eq_true, Bool.not_eq_false, Bool.not_true, Bool.not_false, ne_eq] at hb105'
          refine rd_yes rfl rfl (ov_move rfl) ?_
          refine rd_yes rfl rfl (ov_bin rfl rfl i_leq) ?_
          refine rd_op (v := vb (decide (x0 ≤ 16))) (ov_pick rfl rfl rfl rfl) ?_
          exact rd_weak (sub_cons rfl (sub_skip rfl (sub_skip rfl (sub_skip rfl (sub_refl _))))) k
      refine rd_op (ov_move rfl) ?_
      refine rd_nil ?_
      refine pn_seq ?_
      refine rc_cond rfl (fun hc106 => ?_) (fun hc106 => ?_)
      · replace hres := (ite_t hc106).symm.trans hres
        have hc106' := hc106
        try simp only [Bool.or_eq_true, Bool.or_eq_false_iff, Bool.and_eq_true, Bool.and_eq_false_imp, decide_eq_true_eq, decide_eq_false_iff_not, Bool.not_eq_true', Bool.not_eq_false', Bool.not_eq_true, Bool.not_eq_false, Bool.not_true, Bool.not_false, ne_eq] at hc106'
        refine rc_seq ?_
        refine rc_region ?_
        refine rd_op (v := vi 2) (ov_move rfl) ?_
        refine rd_nil ?_
        refine pn_seq ?_
        subst hres
        exact rc_retV (.tmp rfl .nil) (deep_closed rfl) rfl
      · replace hres := (ite_f hc106).symm.trans hres
        have hc106' := hc106
        try simp only [Bool.or_eq_true, Bool.or_eq_false_iff, Bool.and_eq_true, Bool.and_eq_false_imp, decide_eq_true_eq, decide_eq_false_iff_not, Bool.not_eq_true', Bool.not_eq_false', Bool.not_eq_true, Bool.not_eq_false, Bool.not_true, Bool.not_false, ne_eq] at hc106'
        refine rc_seq ?_
        refine rc_region ?_
        refine rd_op (ov_move rfl) ?_
        refine rd_op (ov_bin rfl rfl i_eql) ?_
        refine rd_op (ov_move rfl) ?_
        refine rd_nil ?_
        refine pn_seq ?_
        refine rc_cond rfl (fun hc107 => ?_) (fun hc107 => ?_)
        · replace hres := (ite_t hc107).symm.trans hres
          have hc107' := hc107
          try simp only [Bool.or_eq_true, Bool.or_eq_false_iff, Bool.and_eq_true, Bool.and_eq_false_imp, decide_eq_true_eq, decide_eq_false_iff_not, Bool.not_eq_true', Bool.not_eq_false', Bool.not_eq_true, Bool.not_eq_false, Bool.not_true, Bool.not_false, ne_eq] at hc107'
          refine rc_seq ?_
          refine rc_region ?_
          refine rd_op (v := vi 3) (ov_move rfl) ?_
          refine rd_nil ?_
          refine pn_seq ?_
          subst hres
          exact rc_retV (.tmp rfl .nil) (deep_closed rfl) rfl
        · replace hres := (ite_f hc107).symm.trans hres
          have hc107' := hc107
          try simp only [Bool.or_eq_true, Bool.or_eq_false_iff, Bool.and_eq_true, Bool.and_eq_false_imp, decide_eq_true_eq, decide_eq_false_iff_not, Bool.not_eq_true', Bool.not_eq_false', Bool.not_eq_true, Bool.not_eq_false, Bool.not_true, Bool.not_false, ne_eq] at hc107'
          refine rc_skip ?_
          refine pn_blk ?_
          refine pn_seq ?_
          refine rc_seq ?_
          refine rc_region ?_
          refine rd_op (v := vi (-1)) (ov_move rfl) ?_
          refine rd_nil ?_
          refine pn_seq ?_
          subst hres
          exact rc_retV (.tmp rfl .nil) (deep_closed rfl) rfl

/-- patchbay/patchbayref13.wide -/
def RF95 (res : Int × Int) (r : PV) : Prop := r = .tup [vi res.1, vi res.2]
theorem f95_ok {x0 : Int} : FnR Try.prog 95 [vi x0] (.tup [vi ((ref13_wide x0).1), vi ((ref13_wide x0).2)]) := by
  obtain ⟨res, hres⟩ : ∃ res, ref13_wide x0 = res := ⟨_, rfl⟩
  suffices H : RC Try.prog ac95 [] (QR Try.prog [(2, none), (3, none)] (RF95 res)) (argE 0 [vi x0]) ⟨0, []⟩ by
    obtain ⟨r, h1, h2⟩ := fnE text95 (by simp) H
    rw [hres]
    have h2 : r = .tup [vi res.1, vi res.2] := h2
    rw [← h2]; exact h1
  unfold ref13_wide at hres
  unfold ac95
  refine rc_seq ?_
  refine rc_region ?_
  refine rd_op (v := vi 0) (ov_move rfl) ?_
  refine rd_op (v := vi 0) (ov_move rfl) ?_
  refine rd_nil ?_
  refine pn_seq ?_
  refine rc_seq ?_
  refine rc_seq ?_
  refine rc_region ?_
  refine rd_op (ov_move rfl) ?_
  refine rd_op (ov_bin rfl rfl i_lss) ?_
  refine rd_op (ov_move rfl) ?_
  refine rd_cut (d := 9) (v := vb ((decide (x0 < 1)) || (decide (32 < x0)))) ?_ ?_
  · intro S Q r
    simp only [ac95_G1, List.cons_append, List.nil_append, List.append_assoc]
    cases hb101 : (decide (x0 < 1))
    · intro k
      have hb101' := hb101
      try simp only [Bool.or_eq_true, Bool.or_eq_false_iff, Bool.and_eq_true, Bool.and_eq_false_imp, decide_eq_true_eq, decide_eq_false_iff_not, Bool.not_eq_true', Bool.not_eq_false', Bool.not_eq_true, Bool.not_eq_false, Bool.not_true, Bool.not_false, ne_eq] at hb101'
      refine rd_yes rfl rfl (ov_move rfl) ?_
      refine rd_yes rfl rfl (ov_bin rfl rfl i_gtr) ?_
      refine rd_op (v := vb (decide (32 < x0))) (ov_pick rfl rfl rfl rfl) ?_
      exact rd_weak (sub_cons rfl (sub_skip rfl (sub_skip rfl (sub_skip rfl (sub_refl _))))) k
    · intro k
      refine rd_skip rfl rfl ?_
      refine rd_skip rfl rfl ?_
      refine rd_op (v := vb true) (ov_pick rfl rfl rfl rfl) ?_
      exact rd_weak (sub_cons rfl (sub_skip rfl (sub_skip rfl (sub_skip rfl (sub_refl _))))) k
  refine rd_nil ?_
  refine pn_seq ?_
  refine rc_cond rfl (fun hc102 => ?_) (fun hc102 => ?_)
  · replace hres := (ite_t hc102).symm.trans hres
    have hc102' := hc102
    try simp only [Bool.or_eq_true, Bool.or_eq_false_iff, Bool.and_eq_true, Bool.and_eq_false_imp, decide_eq_true_eq, decide_eq_false_iff_not, Bool.not_eq_true', Bool.not_eq_false', Bool.not_eq_true, Bool.not_eq_false, Bool.not_true, Bool.not_false, ne_eq] at hc102'
    refine rc_seq ?_
    refine rc_region ?_
    refine rd_op (v := vi 0) (ov_move rfl) ?_
    refine rd_op (v := vi 10) (ov_move rfl) ?_
    refine rd_nil ?_
    refine pn_seq ?_
    subst hres
    exact rc_retV (.tmp rfl (.tmp rfl .nil)) (deep_closed (show closed (.tup _) = true from (clL_cons rfl (clL_cons rfl clL_nil)))) rfl
  · replace hres := (ite_f hc102).symm.trans hres
    have hc102' := hc102
    try simp only [Bool.or_eq_true, Bool.or_eq_false_iff, Bool.and_eq_true, Bool.and_eq_false_imp, decide_eq_true_eq, decide_eq_false_iff_not, Bool.not_eq_true', Bool.not_eq_false', Bool.not_eq_true, Bool.not_eq_false, Bool.not_true, Bool.not_false, ne_eq] at hc102'
    refine rc_skip ?_
    refine pn_seq ?_
    refine rc_seq ?_
    refine rc_region ?_
    refine rd_op (ov_move rfl) ?_
    refine rd_op (ov_move rfl) ?_
    refine rd_op (v := vi 0) (ov_move rfl) ?_
    refine rd_nil ?_
    refine pn_seq ?_
    subst hres
    exact rc_retV (.tmp rfl (.tmp rfl .nil)) (deep_closed (show closed (.tup _) = true from (clL_cons rfl (clL_cons rfl clL_nil)))) rfl

/-- patchbay/patchbayref01.valid -/
def RF99 (res : Bool) (r : PV) : Prop := r = vb res
theorem f99_ok {x0 : Int} : FnR Try.prog 99 [vi x0] (vb (ref01_valid x0)) := by
  obtain ⟨res, hres⟩ : ∃ res, ref01_valid x0 = res := ⟨_, rfl⟩
  suffices H : RC Try.prog ac99 [] (QR Try.prog [(2, none)] (RF99 res)) (argE 0 [vi x0]) ⟨0, []⟩ by
    obtain ⟨r, h1, h2⟩ := fnE text99 (by simp) H
    rw [hres]
    have h2 : r = vb res := h2
    rw [← h2]; exact h1
  unfold ref01_valid at hres
  unfold ac99
  refine rc_seq ?_
  refine rc_region ?_
  refine rd_op (v := vb false) (ov_move rfl) ?_
  refine rd_nil ?_
  refine pn_seq ?_
  refine rc_seq ?_
  refine rc_region ?_
  refine rd_op (ov_move rfl) ?_
  refine rd_op (ov_bin rfl rfl i_geq) ?_
  refine rd_op (ov_move rfl) ?_
  refine rd_cut (d := 8) (v := vb ((decide (1 ≤ x0)) && (decide (x0 ≤ 32)))) ?_ ?_
  · intro S Q r
    simp only [ac99_G1, List.cons_append, List.nil_append, List.append_assoc]
    cases hb101 : (decide (1 ≤ x0))
    · intro k
      refine rd_skip rfl rfl ?_
      refine rd_skip rfl rfl ?_
      refine rd_op (v := vb false) (ov_pick rfl rfl rfl rfl) ?_
      exact rd_weak (sub_cons rfl (sub_skip rfl (sub_skip rfl (sub_skip rfl (sub_refl _))))) k
    · intro k
      have hb101' := hb101
      try simp only [Bool.or_eq_true, Bool.or_eq_false_iff, Bool.and_eq_true, Bool.and_eq_false_imp, decide_eq_true_eq, decide_eq_false_iff_not, Bool.not_eq_true', Bool.not_eq_false', Bool.not_eq_true, Bool.not_eq_false, Bool.not_true, Bool.not_false, ne_eq] at hb101'
      refine rd_yes rfl rfl (ov_move rfl) ?_
      refine rd_yes rfl rfl (ov_bin rfl rfl i_leq) ?_
      refine rd_op (v := vb (decide (x0 ≤ 32))) (ov_pick rfl rfl rfl rfl) ?_
      exact rd_weak (sub_cons rfl (sub_skip rfl (sub_skip rfl (sub_skip rfl (sub_refl _))))) k
  refine rd_op (ov_move rfl) ?_
  refine rd_nil ?_
  refine pn_seq ?_
  subst hres
  exact rc_retV (.tmp rfl .nil) (deep_closed rfl) rfl

/-- patchbay/patchbayref01.power -/
def RF100 (res : (BitVec 64)) (r : PV) : Prop := r = vu64 res
theorem ref01_power_L1_ok {S : List Fr} {res : (BitVec 64)} {x0 : Int} (hp : x0 ≤ 64) {K0 : (BitVec 64) → (BitVec 64)}
    (hK0 : ∀ (x3_ : BitVec 64), K0 x3_ = res → PX Try.prog 0 S (QR Try.prog [(2, none)] (RF100 res)) [(3, vu64 x3_)] ⟨0, []⟩) :
    ∀ (m : Nat) (x3_ : BitVec 64) (x4_ : Int) (hm1 : m = Int.toNat (x0 - x4_)) (hlo1 : 0 ≤ x4_), ref01_power_L1 K0 m x3_ x4_ = res → RC Try.prog (.loop ac100_L1) S (QR Try.prog [(2, none)] (RF100 res)) [(4, vi x4_), (3, vu64 x3_), (0, vi x0)] ⟨0, []⟩ := by
  intro m
  induction m with
  | zero =>
    intro x3_ x4_ hm1 hlo1 hres
    rw [ref01_power_L1] at hres
    refine rc_loop ?_
    unfold ac100_L1
    refine rc_seq ?_
    refine rc_seq ?_
    refine rc_region ?_
    refine rd_op (ov_move rfl) ?_
    refine rd_op (ov_move rfl) ?_
    refine rd_op (ov_bin rfl rfl i_lss) ?_
    refine rd_nil ?_
    refine pn_seq ?_
    refine rc_cond rfl (fun hc101 => ?_) (fun hc101 => ?_)
    · exfalso
      try simp only [Bool.or_eq_true, Bool.or_eq_false_iff, Bool.and_eq_true, Bool.and_eq_false_imp, decide_eq_true_eq, decide_eq_false_iff_not, Bool.not_eq_true', Bool.not_eq_false', Bool.not_eq_true, Bool.not_eq_false, Bool.not_true, Bool.not_false, ne_eq] at hc101
      omega
    · have hend := hres
      have hc101' := hc101
      try simp only [Bool.or_eq_true, Bool.or_eq_false_iff, Bool.and_eq_true, Bool.and_eq_false_imp, decide_eq_true_eq, decide_eq_false_iff_not, Bool.not_eq_true', Bool.not_eq_false', Bool.not_eq_true, Bool.not_eq_false, Bool.not_true, Bool.not_false, ne_eq] at hc101'
      refine rc_exit ?_
      refine px_seq ?_
      refine px_again ?_
      exact px_weak ((sub_cons rfl (sub_nil _))) (hK0 x3_ hres)
  | succ m ih =>
    intro x3_ x4_ hm1 hlo1 hres
    rw [ref01_power_L1] at hres
    refine rc_loop ?_
    unfold ac100_L1
    refine rc_seq ?_
    refine rc_seq ?_
    refine rc_region ?_
    refine rd_op (ov_move rfl) ?_
    refine rd_op (ov_move rfl) ?_
    refine rd_op (ov_bin rfl rfl i_lss) ?_
    refine rd_nil ?_
    refine pn_seq ?_
    refine rc_cond rfl (fun hc102 => ?_) (fun hc102 => ?_)
    · have hgo := hres
      have hc102' := hc102
      try simp only [Bool.or_eq_true, Bool.or_eq_false_iff, Bool.and_eq_true, Bool.and_eq_false_imp, decide_eq_true_eq, decide_eq_false_iff_not, Bool.not_eq_true', Bool.not_eq_false', Bool.not_eq_true, Bool.not_eq_false, Bool.not_true, Bool.not_false, ne_eq] at hc102'
      refine rc_skip ?_
      refine pn_seq ?_
      refine rc_seq ?_
      refine rc_block ?_
      refine rc_region ?_
      refine rd_op (ov_move rfl) ?_
      refine rd_op (ov_bin (a := vu64 2#64) (b := vu64 x3_) rfl rfl d_mul) ?_
      refine rd_op (ov_move rfl) ?_
      refine rd_nil ?_
      refine pn_blk ?_
      refine pn_seq ?_
      refine rc_region ?_
      refine rd_op (ov_move rfl) ?_
      refine rd_op (ov_bin rfl rfl i_add) ?_
      refine rd_op (ov_move rfl) ?_
      refine rd_nil ?_
      refine pn_again ?_
      have hinc : wr (x4_ + 1) = x4_ + 1 := wr_of (by omega) (by omega)
      rw [hinc]
      refine rc_weak ?_ (ih (2#64 * x3_) (x4_ + 1)  (by omega) (by omega) hres)
      exact ((sub_cons rfl (sub_cons rfl (sub_cons rfl (sub_nil _)))))
    · exfalso
      try simp only [Bool.or_eq_true, Bool.or_eq_false_iff, Bool.and_eq_true, Bool.and_eq_false_imp, decide_eq_true_eq, decide_eq_false_iff_not, Bool.not_eq_true', Bool.not_eq_false', Bool.not_eq_true, Bool.not_eq_false, Bool.not_true, Bool.not_false, ne_eq] at hc102
      omega

theorem f100_ok {x0 : Int} (hp : x0 ≤ 64) : FnR Try.prog 100 [vi x0] (vu64 (ref01_power x0)) := by
  obtain ⟨res, hres⟩ : ∃ res, ref01_power x0 = res := ⟨_, rfl⟩
  suffices H : RC Try.prog ac100 [] (QR Try.prog [(2, none)] (RF100 res)) (argE 0 [vi x0]) ⟨0, []⟩ by
    obtain ⟨r, h1, h2⟩ := fnE text100 (by simp) H
    rw [hres]
    have h2 : r = vu64 res := h2
    rw [← h2]; exact h1
  unfold ref01_power at hres
  unfold ac100
  refine rc_seq ?_
  refine rc_region ?_
  refine rd_op (v := vu64 0#64) (ov_move rfl) ?_
  refine rd_nil ?_
  refine pn_seq ?_
  refine rc_seq ?_
  refine rc_region ?_
  refine rd_op (v := vu64 1#64) (ov_move rfl) ?_
  refine rd_nil ?_
  refine pn_seq ?_
  refine rc_seq ?_
  refine rc_seq ?_
  refine rc_region ?_
  refine rd_op (v := vi 0) (ov_move rfl) ?_
  refine rd_nil ?_
  refine pn_seq ?_
  refine rc_block ?_
  refine rc_weak ?_ (ref01_power_L1_ok (x0 := x0)   (hp := hp) ?_ (Int.toNat (x0 - 0)) 1#64 0 rfl (by omega) hres)
  · exact ((sub_cons rfl (sub_cons rfl (sub_cons rfl (sub_nil _)))))
  · intro x3_103 hres
    refine px_blk ?_
    refine pn_seq ?_
    refine rc_seq ?_
    refine rc_region ?_
    refine rd_op (ov_move rfl) ?_
    refine rd_op (ov_move rfl) ?_
    refine rd_nil ?_
    refine pn_seq ?_
    subst hres
    exact rc_retV (.tmp rfl .nil) (deep_closed rfl) rfl

/-- patchbay/patchbayref01.Mask -/
def RF96 (res : (BitVec 32)) (r : PV) : Prop := r = vu32 res
theorem f96_ok {x0 : Int} : FnR Try.prog 96 [vi x0] (vu32 (ref01_Mask x0)) := by
  obtain ⟨res, hres⟩ : ∃ res, ref01_Mask x0 = res := ⟨_, rfl⟩
  suffices H : RC Try.prog ac96 [] (QR Try.prog [(2, none)] (RF96 res)) (argE 0 [vi x0]) ⟨0, []⟩ by
    obtain ⟨r, h1, h2⟩ := fnE text96 (by simp) H
    rw [hres]
    have h2 : r = vu32 res := h2
    rw [← h2]; exact h1
  unfold ref01_Mask at hres
  unfold ac96
  refine rc_seq ?_
  refine rc_region ?_
  refine rd_op (v := vu32 0#32) (ov_move rfl) ?_
  refine rd_nil ?_
  refine pn_seq ?_
  refine rc_seq ?_
  refine rc_seq ?_
  refine rc_region ?_
  refine rd_op (ov_move rfl) ?_
  obtain ⟨y101, hw101, hres⟩ := let_ex hres
  have f101 := f99_ok (x0 := x0)  
  rw [hw101] at f101
  refine rd_call (cv_fn rfl rfl (clL_cons rfl clL_nil) f101) ?_
  refine rd_op (ov_not rfl) ?_
  refine rd_nil ?_
  refine pn_seq ?_
  refine rc_cond rfl (fun hc102 => ?_) (fun hc102 => ?_)
  · replace hres := (ite_t hc102).symm.trans hres
    have hc102' := hc102
    try simp only [Bool.or_eq_true, Bool.or_eq_false_iff, Bool.and_eq_true, Bool.and_eq_false_imp, decide_eq_true_eq, decide_eq_false_iff_not, Bool.not_eq_true', Bool.not_eq_false', Bool.not_eq_true, Bool.not_eq_false, Bool.not_true, Bool.not_false, ne_eq] at hc102'
    refine rc_seq ?_
    refine rc_region ?_
    refine rd_op (v := vu32 0#32) (ov_move rfl) ?_
    refine rd_nil ?_
    refine pn_seq ?_
    subst hres
    exact rc_retV (.tmp rfl .nil) (deep_closed rfl) rfl
  · replace hres := (ite_f hc102).symm.trans hres
    have hc102' := hc102
    try simp only [Bool.or_eq_true, Bool.or_eq_false_iff, Bool.and_eq_true, Bool.and_eq_false_imp, decide_eq_true_eq, decide_eq_false_iff_not, Bool.not_eq_true', Bool.not_eq_false', Bool.not_eq_true, Bool.not_eq_false, Bool.not_true, Bool.not_false, ne_eq] at hc102'
    refine rc_skip ?_
    refine pn_seq ?_
    refine rc_seq ?_
    refine rc_region ?_
    refine rd_op (ov_move rfl) ?_
    obtain ⟨y103, hw103, hres⟩ := let_ex hres
    have f103 := f100_ok (x0 := x0)  (by (have hk := rval (by assumption) (by assumption); omega))
    rw [hw103] at f103
    refine rd_call (cv_fn rfl rfl (clL_cons rfl clL_nil) f103) ?_
    refine rd_op (ov_bin (a := vu64 y103) (b := vu64 1#64) rfl rfl d_sub) ?_
    refine rd_op (ov_conv (a := vu64 (y103 - 1#64)) rfl (c_dw Try.underlying154 Try.underlying147)) ?_
    refine rd_op (ov_move rfl) ?_
    refine rd_nil ?_
    refine pn_seq ?_
    subst hres
    exact rc_retV (.tmp rfl .nil) (deep_closed rfl) rfl

/-- patchbay/patchbayref13.Declared -/
def RF97 (res : Int × Bool) (r : PV) : Prop := r = .tup [vi res.1, vb res.2]
theorem f97_ok {x0 : api_Program} {x1 : api_FieldRef} {v0 : PV} {v1 : PV} (r0 : api_Program.t.R x0 v0) (r1 : api_FieldRef.t.R x1 v1) : FnR Try.prog 97 [v0, v1] (.tup [vi ((ref13_Declared x0 x1).1), vb ((ref13_Declared x0 x1).2)]) := by
  obtain ⟨res, hres⟩ : ∃ res, ref13_Declared x0 x1 = res := ⟨_, rfl⟩
  suffices H : RC Try.prog ac97 [] (QR Try.prog [(4, none), (5, none)] (RF97 res)) (argE 0 [v0, v1]) ⟨0, []⟩ by
    obtain ⟨r, h1, h2⟩ := fnE text97 (by simp) H
    rw [hres]
    have h2 : r = .tup [vi res.1, vb res.2] := h2
    rw [← h2]; exact h1
  unfold ref13_Declared at hres
  unfold ac97
  refine rc_seq ?_
  refine rc_region ?_
  refine rd_op (ov_box rfl (TR.cnt api_Program.t r0)) ?_
  refine rd_op (ov_box rfl (TR.cnt api_FieldRef.t r1)) ?_
  refine rd_op (v := vi 0) (ov_move rfl) ?_
  refine rd_op (v := vb false) (ov_move rfl) ?_
  refine rd_nil ?_
  refine pn_seq ?_
  refine rc_seq ?_
  refine rc_region ?_
  obtain ⟨v101, e101, r101⟩ := api_Program.g_Metadata r0
  refine rd_op (ov_faddr rfl e101) ?_
  refine rd_op (ov_load rfl (TR.cnt (tSl api_Field.t) r101) (TR.agg (tSl api_Field.t) r101)) ?_
  refine rd_op (ov_move rfl) ?_
  refine rd_nil ?_
  refine pn_seq ?_
  refine rc_seq ?_
  refine rc_seq ?_
  refine rc_region ?_
  refine rd_op (ov_faddr rfl (api_FieldRef.g_Header r1)) ?_
  refine rd_op (ov_load rfl rfl rfl) ?_
  refine rd_op (ov_bin rfl rfl i_neq) ?_
  refine rd_nil ?_
  refine pn_seq ?_
  obtain ⟨k109, hk109, hres⟩ := let_ex hres
  refine rc_join (F := fun b S Q => ∀ (x6_109 : List api_Field) (u6_109 : PV) (r6_109 : (tSl api_Field.t).R x6_109 u6_109) (hj109 : Heap) (Mj109 : Mem hj109 []), k109 x6_109 = res → RC Try.prog b S Q [(6, u6_109), (3, .fp v1)] hj109) ?_ ?_
  · intro x6_109 u6_109 r6_109 hj109 Mj109 hres
    rw [← hk109] at hres
    refine rc_seq ?_
    refine rc_seq ?_
    refine rc_region ?_
    refine rd_op (ov_faddr rfl (api_FieldRef.g_Field r1)) ?_
    refine rd_op (ov_load rfl rfl rfl) ?_
    refine rd_op (ov_bin rfl rfl i_lss) ?_
    refine rd_op (ov_move rfl) ?_
    refine rd_cut (d := 39) (v := vb ((decide (x1.Field < 0)) || (decide ((x6_109.length : Int) ≤ x1.Field)))) ?_ ?_
    · intro S Q r
      simp only [ac97_G2, List.cons_append, List.nil_append, List.append_assoc]
      cases hb110 : (decide (x1.Field < 0))
      · intro k
        have hb110' := hb110
        try simp only [Bool.or_eq_true, Bool.or_eq_false_iff, Bool.and_eq_true, Bool.and_eq_false_imp, decide_eq_true_eq, decide_eq_false_iff_not, Bool.not_eq_true', Bool.not_eq_false', Bool.not_eq_true, Bool.not_eq_false, Bool.not_true, Bool.not_false, ne_eq] at hb110'
        refine rd_yes rfl rfl (ov_faddr rfl (api_FieldRef.g_Field r1)) ?_
        refine rd_yes rfl rfl (ov_load rfl rfl rfl) ?_
        refine rd_yes rfl rfl (ov_move rfl) ?_
        refine rd_yes rfl rfl (ov_bi rfl (sl_len r6_109 Try.underlying23 _)) ?_
        refine rd_yes rfl rfl (ov_bin rfl rfl i_geq) ?_
        refine rd_op (v := vb (decide ((x6_109.length : Int) ≤ x1.Field))) (ov_pick rfl rfl rfl rfl) ?_
        exact rd_weak (sub_cons rfl (sub_skip rfl (sub_skip rfl (sub_skip rfl (sub_skip rfl (sub_skip rfl (sub_skip rfl (sub_refl _)))))))) k
      · intro k
        refine rd_skip rfl rfl ?_
        refine rd_skip rfl rfl ?_
        refine rd_skip rfl rfl ?_
        refine rd_skip rfl rfl ?_
        refine rd_skip rfl rfl ?_
        refine rd_op (v := vb true) (ov_pick rfl rfl rfl rfl) ?_
        exact rd_weak (sub_cons rfl (sub_skip rfl (sub_skip rfl (sub_skip rfl (sub_skip rfl (sub_skip rfl (sub_skip rfl (sub_refl _)))))))) k
    refine rd_nil ?_
    refine pn_seq ?_
    refine rc_cond rfl (fun hc111 => ?_) (fun hc111 => ?_)
    · replace hres := (ite_t hc111).symm.trans hres
      have hc111' := hc111
      try simp only [Bool.or_eq_true, Bool.or_eq_false_iff, Bool.and_eq_true, Bool.and_eq_false_imp, decide_eq_true_eq, decide_eq_false_iff_not, Bool.not_eq_true', Bool.not_eq_false', Bool.not_eq_true, Bool.not_eq_false, Bool.not_true, Bool.not_false, ne_eq] at hc111'
      refine rc_seq ?_
      refine rc_region ?_
      refine rd_op (v := vi 0) (ov_move rfl) ?_
      refine rd_op (v := vb false) (ov_move rfl) ?_
      refine rd_nil ?_
      refine pn_seq ?_
      subst hres
      exact rc_retV (.tmp rfl (.tmp rfl .nil)) (deep_closed (show closed (.tup _) = true from (clL_cons rfl (clL_cons rfl clL_nil)))) rfl
    · replace hres := (ite_f hc111).symm.trans hres
      have hc111' := hc111
      try simp only [Bool.or_eq_true, Bool.or_eq_false_iff, Bool.and_eq_true, Bool.and_eq_false_imp, decide_eq_true_eq, decide_eq_false_iff_not, Bool.not_eq_true', Bool.not_eq_false', Bool.not_eq_true, Bool.not_eq_false, Bool.not_true, Bool.not_false, ne_eq] at hc111'
      refine rc_skip ?_
      refine pn_seq ?_
      refine rc_seq ?_
      refine rc_region ?_
      refine rd_op (ov_move rfl) ?_
      refine rd_op (ov_faddr rfl (api_FieldRef.g_Field r1)) ?_
      refine rd_op (ov_load rfl rfl rfl) ?_
      obtain ⟨v112, e112, r112⟩ := sl_idx (i := x1.Field) r6_109 (by omega) (by omega)
      refine rd_op (ov_iaddr rfl rfl e112) ?_
      refine rd_op (ov_faddr rfl (api_Field.g_Width r112)) ?_
      refine rd_op (ov_load rfl rfl rfl) ?_
      refine rd_op (ov_move rfl) ?_
      refine rd_op (v := vb true) (ov_move rfl) ?_
      refine rd_nil ?_
      refine pn_seq ?_
      subst hres
      exact rc_retV (.tmp rfl (.tmp rfl .nil)) (deep_closed (show closed (.tup _) = true from (clL_cons rfl (clL_cons rfl clL_nil)))) rfl
  · intro J
    refine rc_cond rfl (fun hc113 => ?_) (fun hc113 => ?_)
    · replace hres := (ite_t hc113).symm.trans hres
      have hc113' := hc113
      try simp only [Bool.or_eq_true, Bool.or_eq_false_iff, Bool.and_eq_true, Bool.and_eq_false_imp, decide_eq_true_eq, decide_eq_false_iff_not, Bool.not_eq_true', Bool.not_eq_false', Bool.not_eq_true, Bool.not_eq_false, Bool.not_true, Bool.not_false, ne_eq] at hc113'
      refine rc_seq ?_
      refine rc_seq ?_
      refine rc_region ?_
      refine rd_op (ov_faddr rfl (api_FieldRef.g_Header r1)) ?_
      refine rd_op (ov_load rfl rfl rfl) ?_
      refine rd_op (ov_bin rfl rfl i_lss) ?_
      refine rd_op (ov_move rfl) ?_
      refine rd_cut (d := 22) (v := vb ((decide (x1.Header < 0)) || (decide ((x0.Headers.length : Int) ≤ x1.Header)))) ?_ ?_
      · intro S Q r
        simp only [ac97_G1, List.cons_append, List.nil_append, List.append_assoc]
        cases hb114 : (decide (x1.Header < 0))
        · intro k
          have hb114' := hb114
          try simp only [Bool.or_eq_true, Bool.or_eq_false_iff, Bool.and_eq_true, Bool.and_eq_false_imp, decide_eq_true_eq, decide_eq_false_iff_not, Bool.not_eq_true', Bool.not_eq_false', Bool.not_eq_true, Bool.not_eq_false, Bool.not_true, Bool.not_false, ne_eq] at hb114'
          refine rd_yes rfl rfl (ov_faddr rfl (api_FieldRef.g_Header r1)) ?_
          refine rd_yes rfl rfl (ov_load rfl rfl rfl) ?_
          obtain ⟨v115, e115, r115⟩ := api_Program.g_Headers r0
          refine rd_yes rfl rfl (ov_faddr rfl e115) ?_
          refine rd_yes rfl rfl (ov_load rfl (TR.cnt (tSl api_Header.t) r115) (TR.agg (tSl api_Header.t) r115)) ?_
          refine rd_yes rfl rfl (ov_bi rfl (sl_len r115 Try.underlying22 _)) ?_
          refine rd_yes rfl rfl (ov_bin rfl rfl i_geq) ?_
          refine rd_op (v := vb (decide ((x0.Headers.length : Int) ≤ x1.Header))) (ov_pick rfl rfl rfl rfl) ?_
          exact rd_weak (sub_cons rfl (sub_skip rfl (sub_skip rfl (sub_skip rfl (sub_skip rfl (sub_skip rfl (sub_skip rfl (sub_skip rfl (sub_refl _))))))))) k
        · intro k
          refine rd_skip rfl rfl ?_
          refine rd_skip rfl rfl ?_
          refine rd_skip rfl rfl ?_
          refine rd_skip rfl rfl ?_
          refine rd_skip rfl rfl ?_
          refine rd_skip rfl rfl ?_
          refine rd_op (v := vb true) (ov_pick rfl rfl rfl rfl) ?_
          exact rd_weak (sub_cons rfl (sub_skip rfl (sub_skip rfl (sub_skip rfl (sub_skip rfl (sub_skip rfl (sub_skip rfl (sub_skip rfl (sub_refl _))))))))) k
      refine rd_nil ?_
      refine pn_seq ?_
      refine rc_cond rfl (fun hc116 => ?_) (fun hc116 => ?_)
      · replace hres := (ite_t hc116).symm.trans hres
        have hc116' := hc116
        try simp only [Bool.or_eq_true, Bool.or_eq_false_iff, Bool.and_eq_true, Bool.and_eq_false_imp, decide_eq_true_eq, decide_eq_false_iff_not, Bool.not_eq_true', Bool.not_eq_false', Bool.not_eq_true, Bool.not_eq_false, Bool.not_true, Bool.not_false, ne_eq] at hc116'
        refine rc_seq ?_
        refine rc_region ?_
        refine rd_op (v := vi 0) (ov_move rfl) ?_
        refine rd_op (v := vb false) (ov_move rfl) ?_
        refine rd_nil ?_
        refine pn_seq ?_
        subst hres
        exact rc_retV (.tmp rfl (.tmp rfl .nil)) (deep_closed (show closed (.tup _) = true from (clL_cons rfl (clL_cons rfl clL_nil)))) rfl
      · replace hres := (ite_f hc116).symm.trans hres
        have hc116' := hc116
        try simp only [Bool.or_eq_true, Bool.or_eq_false_iff, Bool.and_eq_true, Bool.and_eq_false_imp, decide_eq_true_eq, decide_eq_false_iff_not, Bool.not_eq_true', Bool.not_eq_false', Bool.not_eq_true, Bool.not_eq_false, Bool.not_true, Bool.not_false, ne_eq] at hc116'
        refine rc_skip ?_
        refine pn_seq ?_
        refine rc_region ?_
        obtain ⟨v117, e117, r117⟩ := api_Program.g_Headers r0
        refine rd_op (ov_faddr rfl e117) ?_
        refine rd_op (ov_load rfl (TR.cnt (tSl api_Header.t) r117) (TR.agg (tSl api_Header.t) r117)) ?_
        refine rd_op (ov_faddr rfl (api_FieldRef.g_Header r1)) ?_
        refine rd_op (ov_load rfl rfl rfl) ?_
        obtain ⟨v118, e118, r118⟩ := sl_idx (i := x1.Header) r117 (by omega) (by omega)
        refine rd_op (ov_iaddr rfl rfl e118) ?_
        obtain ⟨v119, e119, r119⟩ := api_Header.g_Fields r118
        refine rd_op (ov_faddr rfl e119) ?_
        refine rd_op (ov_load rfl (TR.cnt (tSl api_Field.t) r119) (TR.agg (tSl api_Field.t) r119)) ?_
        refine rd_op (ov_move rfl) ?_
        refine rd_nil ?_
        refine pn_seq (rc_weak ((sub_cons rfl (sub_cons rfl (sub_nil _)))) (J _ _ r119 _ (Mem.sub (Mem.nil ⟨0, []⟩) .slnil) hres))
    · replace hres := (ite_f hc113).symm.trans hres
      have hc113' := hc113
      try simp only [Bool.or_eq_true, Bool.or_eq_false_iff, Bool.and_eq_true, Bool.and_eq_false_imp, decide_eq_true_eq, decide_eq_false_iff_not, Bool.not_eq_true', Bool.not_eq_false', Bool.not_eq_true, Bool.not_eq_false, Bool.not_true, Bool.not_false, ne_eq] at hc113'
      refine rc_skip ?_
      refine pn_seq (rc_weak ((sub_cons rfl (sub_cons rfl (sub_nil _)))) (J _ _ r101 _ (Mem.sub (Mem.nil ⟨0, []⟩) .slnil) hres))

/-- patchbay/patchbayref13.leaf -/
def RF90 (res : Int × Int) (r : PV) : Prop := r = .tup [vi res.1, vi res.2]
theorem f90_ok {x0 : api_ExprNode} {x1 : expr_Scope} {v0 : PV} {v1 : PV} (r0 : api_ExprNode.t.R x0 v0) (r1 : expr_Scope.t.R x1 v1) : FnR Try.prog 90 [v0, v1] (.tup [vi ((ref13_leaf x0 x1).1), vi ((ref13_leaf x0 x1).2)]) := by
  obtain ⟨res, hres⟩ : ∃ res, ref13_leaf x0 x1 = res := ⟨_, rfl⟩
  suffices H : RC Try.prog ac90 [] (QR Try.prog [(4, none), (5, none)] (RF90 res)) (argE 0 [v0, v1]) ⟨0, []⟩ by
    obtain ⟨r, h1, h2⟩ := fnE text90 (by simp) H
    rw [hres]
    have h2 : r = .tup [vi res.1, vi res.2] := h2
    rw [← h2]; exact h1
  unfold ref13_leaf at hres
  unfold ac90
  refine rc_seq ?_
  refine rc_region ?_
  refine rd_op (ov_box rfl (TR.cnt api_ExprNode.t r0)) ?_
  refine rd_op (ov_box rfl (TR.cnt expr_Scope.t r1)) ?_
  refine rd_op (v := vi 0) (ov_move rfl) ?_
  refine rd_op (v := vi 0) (ov_move rfl) ?_
  refine rd_nil ?_
  refine pn_seq ?_
  refine rc_seq ?_
  refine rc_seq ?_
  refine rc_region ?_
  refine rd_op (ov_faddr rfl (api_ExprNode.g_Op r0)) ?_
  refine rd_op (ov_load rfl rfl rfl) ?_
  refine rd_nil ?_
  refine pn_seq ?_
  refine rc_block ?_
  refine rc_seq ?_
  refine rc_region ?_
  refine rd_op (ov_bin rfl rfl i_eql) ?_
  refine rd_op (ov_move rfl) ?_
  refine rd_nil ?_
  refine pn_seq ?_
  refine rc_cond rfl (fun hc101 => ?_) (fun hc101 => ?_)
  · replace hres := (ite_t hc101).symm.trans hres
    have hc101' := hc101
    try simp only [Bool.or_eq_true, Bool.or_eq_false_iff, Bool.and_eq_true, Bool.and_eq_false_imp, decide_eq_true_eq, decide_eq_false_iff_not, Bool.not_eq_true', Bool.not_eq_false', Bool.not_eq_true, Bool.not_eq_false, Bool.not_true, Bool.not_false, ne_eq] at hc101'
    refine rc_seq ?_
    refine rc_region ?_
    refine rd_op (ov_faddr rfl (api_ExprNode.g_W r0)) ?_
    refine rd_op (ov_load rfl rfl rfl) ?_
    obtain ⟨y102, hw102, hres⟩ := let_ex hres
    have f102 := f95_ok (x0 := x0.W)  
    rw [hw102] at f102
    refine rd_call (cv_fn rfl rfl (clL_cons rfl clL_nil) f102) ?_
    refine rd_op (ov_move rfl) ?_
    refine rd_op (ov_extract rfl rfl) ?_
    refine rd_op (ov_extract rfl rfl) ?_
    refine rd_op (ov_move rfl) ?_
    refine rd_op (ov_move rfl) ?_
    refine rd_nil ?_
    refine pn_seq ?_
    refine rc_seq ?_
    refine rc_seq ?_
    refine rc_region ?_
    refine rd_op (ov_move rfl) ?_
    refine rd_op (ov_bin rfl rfl i_eql) ?_
    refine rd_op (ov_move rfl) ?_
    refine rd_cut (d := 34) (v := vb ((decide (y102.2 = 0)) && ((decide (x0.N < 0)) || (decide (((ref01_Mask y102.1).toNat : Int) < x0.N))))) ?_ ?_
    · intro S Q r
      simp only [ac90_G1, List.cons_append, List.nil_append, List.append_assoc]
      cases hb103 : (decide (y102.2 = 0))
      · intro k
        simp only [ac90_G2, List.cons_append, List.nil_append, List.append_assoc]
        refine rd_skip rfl rfl ?_
        refine rd_skip rfl rfl ?_
        refine rd_skip rfl rfl ?_
        refine rd_skip rfl rfl ?_
        refine rd_skipU rfl ?_
        refine rd_skipU rfl ?_
        refine rd_skipU rfl ?_
        refine rd_skipU rfl ?_
        refine rd_skipU rfl ?_
        refine rd_skipU rfl ?_
        refine rd_skip rfl rfl ?_
        refine rd_op (v := vb false) (ov_pick rfl rfl rfl rfl) ?_
        exact rd_weak (sub_cons rfl (sub_skip rfl (sub_skip rfl (sub_skip rfl (sub_skip rfl (sub_skip rfl (sub_skip rfl (sub_skip rfl (sub_skip rfl (sub_skip rfl (sub_skip rfl (sub_skip rfl (sub_skip rfl (sub_refl _)))))))))))))) k
      · intro k
        have hb103' := hb103
        try simp only [Bool.or_eq_true, Bool.or_eq_false_iff, Bool.and_eq_true, Bool.and_eq_false_imp, decide_eq_true_eq, decide_eq_false_iff_not, Bool.not_eq_true', Bool.not_eq_false', Bool.not_eq_true, Bool.not_eq_false, Bool.not_true, Bool.not_false, ne_eq] at hb103'
        refine rd_yes rfl rfl (ov_faddr rfl (api_ExprNode.g_N r0)) ?_
        refine rd_yes rfl rfl (ov_load rfl rfl rfl) ?_
        refine rd_yes rfl rfl (ov_bin rfl rfl i_lss) ?_
        refine rd_yes rfl rfl (ov_move rfl) ?_
        refine rd_cut (d := 33) (v := vb ((decide (x0.N < 0)) || (decide (((ref01_Mask y102.1).toNat : Int) < x0.N)))) ?_ ?_
        · intro S Q r
          simp only [ac90_G2, List.cons_append, List.nil_append, List.append_assoc]
          cases hb104 : (decide (x0.N < 0))
          · intro k
            have hb104' := hb104
            try simp only [Bool.or_eq_true, Bool.or_eq_false_iff, Bool.and_eq_true, Bool.and_eq_false_imp, decide_eq_true_eq, decide_eq_false_iff_not, Bool.not_eq_true', Bool.not_eq_false', Bool.not_eq_true, Bool.not_eq_false, Bool.not_true, Bool.not_false, ne_eq] at hb104'
            refine rd_yes rfl rfl (ov_faddr rfl (api_ExprNode.g_N r0)) ?_
            refine rd_yes rfl rfl (ov_load rfl rfl rfl) ?_
            refine rd_yes rfl rfl (ov_move rfl) ?_
            have f105 := f96_ok (x0 := y102.1)  
            refine rd_ycall rfl rfl (cv_fn rfl rfl (clL_cons rfl clL_nil) f105) ?_
            refine rd_yes rfl rfl (ov_conv (a := vu32 (ref01_Mask y102.1)) rfl (c_wi Try.underlying147 Try.underlying3)) ?_
            refine rd_yes rfl rfl (ov_bin rfl rfl i_gtr) ?_
            refine rd_yes (v := vb (decide (((ref01_Mask y102.1).toNat : Int) < x0.N))) rfl rfl (ov_pick rfl rfl rfl rfl) ?_
            exact rd_weak (sub_cons rfl (sub_skip rfl (sub_skip rfl (sub_skip rfl (sub_skip rfl (sub_skip rfl (sub_skip rfl (sub_skip rfl (sub_refl _))))))))) k
          · intro k
            refine rd_skip rfl rfl ?_
            refine rd_skip rfl rfl ?_
            refine rd_skip rfl rfl ?_
            refine rd_skip rfl rfl ?_
            refine rd_skip rfl rfl ?_
            refine rd_skip rfl rfl ?_
            refine rd_yes (v := vb true) rfl rfl (ov_pick rfl rfl rfl rfl) ?_
            exact rd_weak (sub_cons rfl (sub_skip rfl (sub_skip rfl (sub_skip rfl (sub_skip rfl (sub_skip rfl (sub_skip rfl (sub_skip rfl (sub_refl _))))))))) k
        refine rd_op (v := vb ((decide (x0.N < 0)) || (decide (((ref01_Mask y102.1).toNat : Int) < x0.N)))) (ov_pick rfl rfl rfl rfl) ?_
        exact rd_weak (sub_cons rfl (sub_skip rfl (sub_skip rfl (sub_skip rfl (sub_skip rfl (sub_skip rfl (sub_skip rfl (sub_refl _)))))))) k
    refine rd_nil ?_
    refine pn_seq ?_
    refine rc_cond rfl (fun hc106 => ?_) (fun hc106 => ?_)
    · replace hres := (ite_t hc106).symm.trans hres
      have hc106' := hc106
      try simp only [Bool.or_eq_true, Bool.or_eq_false_iff, Bool.and_eq_true, Bool.and_eq_false_imp, decide_eq_true_eq, decide_eq_false_iff_not, Bool.not_eq_true', Bool.not_eq_false', Bool.not_eq_true, Bool.not_eq_false, Bool.not_true, Bool.not_false, ne_eq] at hc106'
      refine rc_seq ?_
      refine rc_region ?_
      refine rd_op (v := vi 0) (ov_move rfl) ?_
      refine rd_op (v := vi 9) (ov_move rfl) ?_
      refine rd_nil ?_
      refine pn_seq ?_
      subst hres
      exact rc_retV (.tmp rfl (.tmp rfl .nil)) (deep_closed (show closed (.tup _) = true from (clL_cons rfl (clL_cons rfl clL_nil)))) rfl
    · replace hres := (ite_f hc106).symm.trans hres
      have hc106' := hc106
      try simp only [Bool.or_eq_true, Bool.or_eq_false_iff, Bool.and_eq_true, Bool.and_eq_false_imp, decide_eq_true_eq, decide_eq_false_iff_not, Bool.not_eq_true', Bool.not_eq_false', Bool.not_eq_true, Bool.not_eq_false, Bool.not_true, Bool.not_false, ne_eq] at hc106'
      refine rc_skip ?_
      refine pn_seq ?_
      refine rc_seq ?_
      refine rc_region ?_
      refine rd_op (ov_move rfl) ?_
      refine rd_op (ov_move rfl) ?_
      refine rd_op (ov_move rfl) ?_
      refine rd_op (ov_move rfl) ?_
      refine rd_nil ?_
      refine pn_seq ?_
      subst hres
      exact rc_retV (.tmp rfl (.tmp rfl .nil)) (deep_closed (show closed (.tup _) = true from (clL_cons rfl (clL_cons rfl clL_nil)))) rfl
  · replace hres := (ite_f hc101).symm.trans hres
    have hc101' := hc101
    try simp only [Bool.or_eq_true, Bool.or_eq_false_iff, Bool.and_eq_true, Bool.and_eq_false_imp, decide_eq_true_eq, decide_eq_false_iff_not, Bool.not_eq_true', Bool.not_eq_false', Bool.not_eq_true, Bool.not_eq_false, Bool.not_true, Bool.not_false, ne_eq] at hc101'
    refine rc_seq ?_
    refine rc_region ?_
    refine rd_op (ov_bin rfl rfl i_eql) ?_
    refine rd_op (ov_move rfl) ?_
    refine rd_nil ?_
    refine pn_seq ?_
    refine rc_cond rfl (fun hc107 => ?_) (fun hc107 => ?_)
    · replace hres := (ite_t hc107).symm.trans hres
      have hc107' := hc107
      try simp only [Bool.or_eq_true, Bool.or_eq_false_iff, Bool.and_eq_true, Bool.and_eq_false_imp, decide_eq_true_eq, decide_eq_false_iff_not, Bool.not_eq_true', Bool.not_eq_false', Bool.not_eq_true, Bool.not_eq_false, Bool.not_true, Bool.not_false, ne_eq] at hc107'
      refine rc_seq ?_
      refine rc_region ?_
      obtain ⟨v108, e108, r108⟩ := expr_Scope.g_Program r1
      refine rd_op (ov_faddr rfl e108) ?_
      refine rd_op (ov_load rfl (TR.cnt api_Program.t r108) (TR.agg api_Program.t r108)) ?_
      refine rd_op (ov_faddr rfl (api_ExprNode.g_N r0)) ?_
      refine rd_op (ov_load rfl rfl rfl) ?_
      refine rd_op (ov_faddr rfl (api_ExprNode.g_W r0)) ?_
      refine rd_op (ov_load rfl rfl rfl) ?_
      refine rd_op (v := .agg [vi x0.N, vi x0.W]) (ov_build (cs := [vi x0.N, vi x0.W]) rfl rfl) ?_
      obtain ⟨y109, hw109, hres⟩ := let_ex hres
      have f109 := f97_ok  r108 (show api_FieldRef.t.R ({ Header := x0.N, Field := x0.W } : api_FieldRef) (.agg [vi x0.N, vi x0.W]) from rfl) 
      rw [hw109] at f109
      refine rd_call (cv_fn rfl rfl (clL_cons (TR.clo api_Program.t r108) (clL_cons (TR.clo api_FieldRef.t (show api_FieldRef.t.R ({ Header := x0.N, Field := x0.W } : api_FieldRef) (.agg [vi x0.N, vi x0.W]) from rfl)) clL_nil)) f109) ?_
      refine rd_op (ov_move rfl) ?_
      refine rd_op (ov_extract rfl rfl) ?_
      refine rd_op (ov_extract rfl rfl) ?_
      refine rd_op (ov_move rfl) ?_
      refine rd_op (ov_move rfl) ?_
      refine rd_nil ?_
      refine pn_seq ?_
      refine rc_seq ?_
      refine rc_seq ?_
      refine rc_region ?_
      refine rd_op (ov_move rfl) ?_
      refine rd_op (ov_not rfl) ?_
      refine rd_nil ?_
      refine pn_seq ?_
      refine rc_cond rfl (fun hc110 => ?_) (fun hc110 => ?_)
      · replace hres := (ite_t hc110).symm.trans hres
        have hc110' := hc110
        try simp only [Bool.or_eq_true, Bool.or_eq_false_iff, Bool.and_eq_true, Bool.and_eq_false_imp, decide_eq_true_eq, decide_eq_false_iff_not, Bool.not_eq_true', Bool.not_eq_false', Bool.not_eq_true, Bool.not_eq_false, Bool.not_true, Bool.not_false, ne_eq] at hc110'
        refine rc_seq ?_
        refine rc_region ?_
        refine rd_op (v := vi 0) (ov_move rfl) ?_
        refine rd_op (v := vi 8) (ov_move rfl) ?_
        refine rd_nil ?_
        refine pn_seq ?_
        subst hres
        exact rc_retV (.tmp rfl (.tmp rfl .nil)) (deep_closed (show closed (.tup _) = true from (clL_cons rfl (clL_cons rfl clL_nil)))) rfl
      · replace hres := (ite_f hc110).symm.trans hres
        have hc110' := hc110
        try simp only [Bool.or_eq_true, Bool.or_eq_false_iff, Bool.and_eq_true, Bool.and_eq_false_imp, decide_eq_true_eq, decide_eq_false_iff_not, Bool.not_eq_true', Bool.not_eq_false', Bool.not_eq_true, Bool.not_eq_false, Bool.not_true, Bool.not_false, ne_eq] at hc110'
        refine rc_skip ?_
        refine pn_seq ?_
        refine rc_seq ?_
        refine rc_region ?_
        refine rd_op (ov_move rfl) ?_
        obtain ⟨y111, hw111, hres⟩ := let_ex hres
        have f111 := f95_ok (x0 := y109.1)  
        rw [hw111] at f111
        refine rd_call (cv_fn rfl rfl (clL_cons rfl clL_nil) f111) ?_
        refine rd_op (ov_extract rfl rfl) ?_
        refine rd_op (ov_extract rfl rfl) ?_
        refine rd_op (ov_move rfl) ?_
        refine rd_op (ov_move rfl) ?_
        refine rd_nil ?_
        refine pn_seq ?_
        subst hres
        exact rc_retV (.tmp rfl (.tmp rfl .nil)) (deep_closed (show closed (.tup _) = true from (clL_cons rfl (clL_cons rfl clL_nil)))) rfl
    · replace hres := (ite_f hc107).symm.trans hres
      have hc107' := hc107
      try simp only [Bool.or_eq_true, Bool.or_eq_false_iff, Bool.and_eq_true, Bool.and_eq_false_imp, decide_eq_true_eq, decide_eq_false_iff_not, Bool.not_eq_true', Bool.not_eq_false', Bool.not_eq_true, Bool.not_eq_false, Bool.not_true, Bool.not_false, ne_eq] at hc107'
      refine rc_seq ?_
      refine rc_region ?_
      refine rd_op (ov_bin rfl rfl i_eql) ?_
      refine rd_op (ov_move rfl) ?_
      refine rd_nil ?_
      refine pn_seq ?_
      refine rc_cond rfl (fun hc112 => ?_) (fun hc112 => ?_)
      · replace hres := (ite_t hc112).symm.trans hres
        have hc112' := hc112
        try simp only [Bool.or_eq_true, Bool.or_eq_false_iff, Bool.and_eq_true, Bool.and_eq_false_imp, decide_eq_true_eq, decide_eq_false_iff_not, Bool.not_eq_true', Bool.not_eq_false', Bool.not_eq_true, Bool.not_eq_false, Bool.not_true, Bool.not_false, ne_eq] at hc112'
        refine rc_seq ?_
        refine rc_seq ?_
        refine rc_region ?_
        refine rd_op (ov_faddr rfl (api_ExprNode.g_N r0)) ?_
        refine rd_op (ov_load rfl rfl rfl) ?_
        refine rd_op (ov_bin rfl rfl i_lss) ?_
        refine rd_op (ov_move rfl) ?_
        refine rd_cut (d := 68) (v := vb ((decide (x0.N < 0)) || (decide ((x1.Params.length : Int) ≤ x0.N)))) ?_ ?_
        · intro S Q r
          simp only [ac90_G3, List.cons_append, List.nil_append, List.append_assoc]
          cases hb113 : (decide (x0.N < 0))
          · intro k
            have hb113' := hb113
            try simp only [Bool.or_eq_true, Bool.or_eq_false_iff, Bool.and_eq_true, Bool.and_eq_false_imp, decide_eq_true_eq, decide_eq_false_iff_not, Bool.not_eq_true', Bool.not_eq_false', Bool.not_eq_true, Bool.not_eq_false, Bool.not_true, Bool.not_false, ne_eq] at hb113'
            refine rd_yes rfl rfl (ov_faddr rfl (api_ExprNode.g_N r0)) ?_
            refine rd_yes rfl rfl (ov_load rfl rfl rfl) ?_
            obtain ⟨v114, e114, r114⟩ := expr_Scope.g_Params r1
            refine rd_yes rfl rfl (ov_faddr rfl e114) ?_
            refine rd_yes rfl rfl (ov_load rfl (TR.cnt (tSl api_Field.t) r114) (TR.agg (tSl api_Field.t) r114)) ?_
            refine rd_yes rfl rfl (ov_bi rfl (sl_len r114 Try.underlying23 _)) ?_
            refine rd_yes rfl rfl (ov_bin rfl rfl i_geq) ?_
            refine rd_op (v := vb (decide ((x1.Params.length : Int) ≤ x0.N))) (ov_pick rfl rfl rfl rfl) ?_
            exact rd_weak (sub_cons rfl (sub_skip rfl (sub_skip rfl (sub_skip rfl (sub_skip rfl (sub_skip rfl (sub_skip rfl (sub_skip rfl (sub_refl _))))))))) k
          · intro k
            refine rd_skip rfl rfl ?_
            refine rd_skip rfl rfl ?_
            refine rd_skip rfl rfl ?_
            refine rd_skip rfl rfl ?_
            refine rd_skip rfl rfl ?_
            refine rd_skip rfl rfl ?_
            refine rd_op (v := vb true) (ov_pick rfl rfl rfl rfl) ?_
            exact rd_weak (sub_cons rfl (sub_skip rfl (sub_skip rfl (sub_skip rfl (sub_skip rfl (sub_skip rfl (sub_skip rfl (sub_skip rfl (sub_refl _))))))))) k
        refine rd_nil ?_
        refine pn_seq ?_
        refine rc_cond rfl (fun hc115 => ?_) (fun hc115 => ?_)
        · replace hres := (ite_t hc115).symm.trans hres
          have hc115' := hc115
          try simp only [Bool.or_eq_true, Bool.or_eq_false_iff, Bool.and_eq_true, Bool.and_eq_false_imp, decide_eq_true_eq, decide_eq_false_iff_not, Bool.not_eq_true', Bool.not_eq_false', Bool.not_eq_true, Bool.not_eq_false, Bool.not_true, Bool.not_false, ne_eq] at hc115'
          refine rc_seq ?_
          refine rc_region ?_
          refine rd_op (v := vi 0) (ov_move rfl) ?_
          refine rd_op (v := vi 8) (ov_move rfl) ?_
          refine rd_nil ?_
          refine pn_seq ?_
          subst hres
          exact rc_retV (.tmp rfl (.tmp rfl .nil)) (deep_closed (show closed (.tup _) = true from (clL_cons rfl (clL_cons rfl clL_nil)))) rfl
        · replace hres := (ite_f hc115).symm.trans hres
          have hc115' := hc115
          try simp only [Bool.or_eq_true, Bool.or_eq_false_iff, Bool.and_eq_true, Bool.and_eq_false_imp, decide_eq_true_eq, decide_eq_false_iff_not, Bool.not_eq_true', Bool.not_eq_false', Bool.not_eq_true, Bool.not_eq_false, Bool.not_true, Bool.not_false, ne_eq] at hc115'
          refine rc_skip ?_
          refine pn_seq ?_
          refine rc_seq ?_
          refine rc_region ?_
          obtain ⟨v116, e116, r116⟩ := expr_Scope.g_Params r1
          refine rd_op (ov_faddr rfl e116) ?_
          refine rd_op (ov_load rfl (TR.cnt (tSl api_Field.t) r116) (TR.agg (tSl api_Field.t) r116)) ?_
          refine rd_op (ov_faddr rfl (api_ExprNode.g_N r0)) ?_
          refine rd_op (ov_load rfl rfl rfl) ?_
          obtain ⟨v117, e117, r117⟩ := sl_idx (i := x0.N) r116 (by omega) (by omega)
          refine rd_op (ov_iaddr rfl rfl e117) ?_
          refine rd_op (ov_faddr rfl (api_Field.g_Width r117)) ?_
          refine rd_op (ov_load rfl rfl rfl) ?_
          obtain ⟨y118, hw118, hres⟩ := let_ex hres
          have f118 := f95_ok (x0 := (ix x1.Params x0.N).Width)  
          rw [hw118] at f118
          refine rd_call (cv_fn rfl rfl (clL_cons rfl clL_nil) f118) ?_
          refine rd_op (ov_extract rfl rfl) ?_
          refine rd_op (ov_extract rfl rfl) ?_
          refine rd_op (ov_move rfl) ?_
          refine rd_op (ov_move rfl) ?_
          refine rd_nil ?_
          refine pn_seq ?_
          subst hres
          exact rc_retV (.tmp rfl (.tmp rfl .nil)) (deep_closed (show closed (.tup _) = true from (clL_cons rfl (clL_cons rfl clL_nil)))) rfl
      · replace hres := (ite_f hc112).symm.trans hres
        have hc112' := hc112
        try simp only [Bool.or_eq_true, Bool.or_eq_false_iff, Bool.and_eq_true, Bool.and_eq_false_imp, decide_eq_true_eq, decide_eq_false_iff_not, Bool.not_eq_true', Bool.not_eq_false', Bool.not_eq_true, Bool.not_eq_false, Bool.not_true, Bool.not_false, ne_eq] at hc112'
        refine rc_skip ?_
        refine pn_blk ?_
        refine pn_seq ?_
        refine rc_seq ?_
        refine rc_seq ?_
        refine rc_region ?_
        refine rd_op (ov_faddr rfl (api_ExprNode.g_N r0)) ?_
        refine rd_op (ov_load rfl rfl rfl) ?_
        refine rd_op (ov_bin rfl rfl i_lss) ?_
        refine rd_op (ov_move rfl) ?_
        refine rd_cut (d := 90) (v := vb ((decide (x0.N < 0)) || (decide ((x1.Program.Headers.length : Int) ≤ x0.N)))) ?_ ?_
        · intro S Q r
          simp only [ac90_G4, List.cons_append, List.nil_append, List.append_assoc]
          cases hb119 : (decide (x0.N < 0))
          · intro k
            have hb119' := hb119
            try simp only [Bool.or_eq_true, Bool.or_eq_false_iff, Bool.and_eq_true, Bool.and_eq_false_imp, decide_eq_true_eq, decide_eq_false_iff_not, Bool.not_eq_true', Bool.not_eq_false', Bool.not_eq_true, Bool.not_eq_false, Bool.not_true, Bool.not_false, ne_eq] at hb119'
            refine rd_yes rfl rfl (ov_faddr rfl (api_ExprNode.g_N r0)) ?_
            refine rd_yes rfl rfl (ov_load rfl rfl rfl) ?_
            obtain ⟨v120, e120, r120⟩ := expr_Scope.g_Program r1
            refine rd_yes rfl rfl (ov_faddr rfl e120) ?_
            obtain ⟨v121, e121, r121⟩ := api_Program.g_Headers r120
            refine rd_yes rfl rfl (ov_faddr rfl e121) ?_
            refine rd_yes rfl rfl (ov_load rfl (TR.cnt (tSl api_Header.t) r121) (TR.agg (tSl api_Header.t) r121)) ?_
            refine rd_yes rfl rfl (ov_bi rfl (sl_len r121 Try.underlying22 _)) ?_
            refine rd_yes rfl rfl (ov_bin rfl rfl i_geq) ?_
            refine rd_op (v := vb (decide ((x1.Program.Headers.length : Int) ≤ x0.N))) (ov_pick rfl rfl rfl rfl) ?_
            exact rd_weak (sub_cons rfl (sub_skip rfl (sub_skip rfl (sub_skip rfl (sub_skip rfl (sub_skip rfl (sub_skip rfl (sub_skip rfl (sub_skip rfl (sub_refl _)))))))))) k
          · intro k
            refine rd_skip rfl rfl ?_
            refine rd_skip rfl rfl ?_
            refine rd_skip rfl rfl ?_
            refine rd_skip rfl rfl ?_
            refine rd_skip rfl rfl ?_
            refine rd_skip rfl rfl ?_
            refine rd_skip rfl rfl ?_
            refine rd_op (v := vb true) (ov_pick rfl rfl rfl rfl) ?_
            exact rd_weak (sub_cons rfl (sub_skip rfl (sub_skip rfl (sub_skip rfl (sub_skip rfl (sub_skip rfl (sub_skip rfl (sub_skip rfl (sub_skip rfl (sub_refl _)))))))))) k
        refine rd_nil ?_
        refine pn_seq ?_
        refine rc_cond rfl (fun hc122 => ?_) (fun hc122 => ?_)
        · replace hres := (ite_t hc122).symm.trans hres
          have hc122' := hc122
          try simp only [Bool.or_eq_true, Bool.or_eq_false_iff, Bool.and_eq_true, Bool.and_eq_false_imp, decide_eq_true_eq, decide_eq_false_iff_not, Bool.not_eq_true', Bool.not_eq_false', Bool.not_eq_true, Bool.not_eq_false, Bool.not_true, Bool.not_false, ne_eq] at hc122'
          refine rc_seq ?_
          refine rc_region ?_
          refine rd_op (v := vi 0) (ov_move rfl) ?_
          refine rd_op (v := vi 8) (ov_move rfl) ?_
          refine rd_nil ?_
          refine pn_seq ?_
          subst hres
          exact rc_retV (.tmp rfl (.tmp rfl .nil)) (deep_closed (show closed (.tup _) = true from (clL_cons rfl (clL_cons rfl clL_nil)))) rfl
        · replace hres := (ite_f hc122).symm.trans hres
          have hc122' := hc122
          try simp only [Bool.or_eq_true, Bool.or_eq_false_iff, Bool.and_eq_true, Bool.and_eq_false_imp, decide_eq_true_eq, decide_eq_false_iff_not, Bool.not_eq_true', Bool.not_eq_false', Bool.not_eq_true, Bool.not_eq_false, Bool.not_true, Bool.not_false, ne_eq] at hc122'
          refine rc_skip ?_
          refine pn_seq ?_
          refine rc_seq ?_
          refine rc_region ?_
          refine rd_op (v := vi 1) (ov_move rfl) ?_
          refine rd_op (v := vi 0) (ov_move rfl) ?_
          refine rd_nil ?_
          refine pn_seq ?_
          subst hres
          exact rc_retV (.tmp rfl (.tmp rfl .nil)) (deep_closed (show closed (.tup _) = true from (clL_cons rfl (clL_cons rfl clL_nil)))) rfl

/-- patchbay/patchbayref13.operator -/
def RF91 (res : Int × Int) (r : PV) : Prop := r = .tup [vi res.1, vi res.2]
theorem f91_ok {x0 : api_ExprNode} {x1 : List Int} {v0 : PV} {v1 : PV} (r0 : api_ExprNode.t.R x0 v0) (r1 : (tSl tI).R x1 v1) (hl : (x1.length : Int) = ref13_Arity x0.Op) (h1 : 1 ≤ x1.length) : FnR Try.prog 91 [v0, v1] (.tup [vi ((ref13_operator x0 x1).1), vi ((ref13_operator x0 x1).2)]) := by
  obtain ⟨res, hres⟩ : ∃ res, ref13_operator x0 x1 = res := ⟨_, rfl⟩
  suffices H : RC Try.prog ac91 [] (QR Try.prog [(4, none), (5, none)] (RF91 res)) (argE 0 [v0, v1]) ⟨0, []⟩ by
    obtain ⟨r, h1, h2⟩ := fnE text91 (by simp) H
    rw [hres]
    have h2 : r = .tup [vi res.1, vi res.2] := h2
    rw [← h2]; exact h1
  unfold ref13_operator at hres
  unfold ac91
  refine rc_seq ?_
  refine rc_region ?_
  refine rd_op (ov_box rfl (TR.cnt api_ExprNode.t r0)) ?_
  refine rd_op (v := vi 0) (ov_move rfl) ?_
  refine rd_op (v := vi 0) (ov_move rfl) ?_
  refine rd_nil ?_
  refine pn_seq ?_
  refine rc_seq ?_
  refine rc_seq ?_
  refine rc_region ?_
  refine rd_op (ov_faddr rfl (api_ExprNode.g_Op r0)) ?_
  refine rd_op (ov_load rfl rfl rfl) ?_
  refine rd_nil ?_
  refine pn_seq ?_
  refine rc_block ?_
  refine rc_seq ?_
  refine rc_region ?_
  refine rd_op (ov_bin rfl rfl i_eql) ?_
  refine rd_op (ov_move rfl) ?_
  refine rd_nil ?_
  refine pn_seq ?_
  refine rc_cond rfl (fun hc101 => ?_) (fun hc101 => ?_)
  · replace hres := (ite_t hc101).symm.trans hres
    have hc101' := hc101
    try simp only [Bool.or_eq_true, Bool.or_eq_false_iff, Bool.and_eq_true, Bool.and_eq_false_imp, decide_eq_true_eq, decide_eq_false_iff_not, Bool.not_eq_true', Bool.not_eq_false', Bool.not_eq_true, Bool.not_eq_false, Bool.not_true, Bool.not_false, ne_eq] at hc101'
    refine rc_seq ?_
    refine rc_region ?_
    refine rd_op (ov_move rfl) ?_
    refine rd_op (ov_iaddr rfl rfl (slI r1 (by first | omega | (have hk := opl hl; omega) | (have hk := opl hl; have hj := jor (by assumption) (by assumption); omega)) (by first | omega | (have hk := opl hl; omega) | (have hk := opl hl; have hj := jor (by assumption) (by assumption); omega)))) ?_
    refine rd_op (ov_load rfl rfl rfl) ?_
    refine rd_op (ov_move rfl) ?_
    refine rd_op (v := vi 0) (ov_move rfl) ?_
    refine rd_nil ?_
    refine pn_seq ?_
    subst hres
    exact rc_retV (.tmp rfl (.tmp rfl .nil)) (deep_closed (show closed (.tup _) = true from (clL_cons rfl (clL_cons rfl clL_nil)))) rfl
  · replace hres := (ite_f hc101).symm.trans hres
    have hc101' := hc101
    try simp only [Bool.or_eq_true, Bool.or_eq_false_iff, Bool.and_eq_true, Bool.and_eq_false_imp, decide_eq_true_eq, decide_eq_false_iff_not, Bool.not_eq_true', Bool.not_eq_false', Bool.not_eq_true, Bool.not_eq_false, Bool.not_true, Bool.not_false, ne_eq] at hc101'
    refine rc_seq ?_
    refine rc_seq ?_
    refine rc_region ?_
    refine rd_op (ov_bin rfl rfl i_eql) ?_
    refine rd_op (ov_move rfl) ?_
    refine rd_nil ?_
    refine pn_seq ?_
    obtain ⟨k103, hk103, hres⟩ := let_ex hres
    refine rc_join (F := fun b S Q => ∀ (x13_103 : Bool) (jq103 : x13_103 = (if (decide (x0.Op = 6)) = true then (decide (x0.Op = 6)) else (decide (x0.Op = 7)))) (hj103 : Heap) (Mj103 : Mem hj103 []), k103 x13_103 = res → RC Try.prog b S Q [(13, vb x13_103), (7, vi x0.Op), (2, .fp v0), (1, v1)] hj103) ?_ ?_
    · intro x13_103 jq103 hj103 Mj103 hres
      rw [← hk103] at hres
      refine rc_cond rfl (fun hc104 => ?_) (fun hc104 => ?_)
      · replace hres := (ite_t hc104).symm.trans hres
        have hc104' := hc104
        try simp only [Bool.or_eq_true, Bool.or_eq_false_iff, Bool.and_eq_true, Bool.and_eq_false_imp, decide_eq_true_eq, decide_eq_false_iff_not, Bool.not_eq_true', Bool.not_eq_false', Bool.not_eq_true, Bool.not_eq_false, Bool.not_true, Bool.not_false, ne_eq] at hc104'
        refine rc_seq ?_
        refine rc_seq ?_
        refine rc_region ?_
        refine rd_op (ov_faddr rfl (api_ExprNode.g_N r0)) ?_
        refine rd_op (ov_load rfl rfl rfl) ?_
        refine rd_op (ov_bin rfl rfl i_lss) ?_
        refine rd_op (ov_move rfl) ?_
        refine rd_cut (d := 23) (v := vb ((decide (x0.N < 0)) || (decide (31 < x0.N)))) ?_ ?_
        · intro S Q r
          simp only [ac91_G1, List.cons_append, List.nil_append, List.append_assoc]
          cases hb105 : (decide (x0.N < 0))
          · intro k
            have hb105' := hb105
            try simp only [Bool.or_eq_true, Bool.or_eq_false_iff, Bool.and_eq_true, Bool.and_eq_false_imp, decide_eq_true_eq, decide_eq_false_iff_not, Bool.not_eq_true', Bool.not_eq_false', Bool.not_eq_true, Bool.not_eq_false, Bool.not_true, Bool.not_false, ne_eq] at hb105'
            refine rd_yes rfl rfl (ov_faddr rfl (api_ExprNode.g_N r0)) ?_
            refine rd_yes rfl rfl (ov_load rfl rfl rfl) ?_
            refine rd_yes rfl rfl (ov_bin rfl rfl i_gtr) ?_
            refine rd_op (v := vb (decide (31 < x0.N))) (ov_pick rfl rfl rfl rfl) ?_
            exact rd_weak (sub_cons rfl (sub_skip rfl (sub_skip rfl (sub_skip rfl (sub_skip rfl (sub_refl _)))))) k
          · intro k
            refine rd_skip rfl rfl ?_
            refine rd_skip rfl rfl ?_
            refine rd_skip rfl rfl ?_
            refine rd_op (v := vb true) (ov_pick rfl rfl rfl rfl) ?_
            exact rd_weak (sub_cons rfl (sub_skip rfl (sub_skip rfl (sub_skip rfl (sub_skip rfl (sub_refl _)))))) k
        refine rd_nil ?_
        refine pn_seq ?_
        refine rc_cond rfl (fun hc106 => ?_) (fun hc106 => ?_)
        · replace hres := (ite_t hc106).symm.trans hres
          have hc106' := hc106
          try simp only [Bool.or_eq_true, Bool.or_eq_false_iff, Bool.and_eq_true, Bool.and_eq_false_imp, decide_eq_true_eq, decide_eq_false_iff_not, Bool.not_eq_true', Bool.not_eq_false', Bool.not_eq_true, Bool.not_eq_false, Bool.not_true, Bool.not_false, ne_eq] at hc106'
          refine rc_seq ?_
          refine rc_region ?_
          refine rd_op (v := vi 0) (ov_move rfl) ?_
          refine rd_op (v := vi 9) (ov_move rfl) ?_
          refine rd_nil ?_
          refine pn_seq ?_
          subst hres
          exact rc_retV (.tmp rfl (.tmp rfl .nil)) (deep_closed (show closed (.tup _) = true from (clL_cons rfl (clL_cons rfl clL_nil)))) rfl
        · replace hres := (ite_f hc106).symm.trans hres
          have hc106' := hc106
          try simp only [Bool.or_eq_true, Bool.or_eq_false_iff, Bool.and_eq_true, Bool.and_eq_false_imp, decide_eq_true_eq, decide_eq_false_iff_not, Bool.not_eq_true', Bool.not_eq_false', Bool.not_eq_true, Bool.not_eq_false, Bool.not_true, Bool.not_false, ne_eq] at hc106'
          refine rc_skip ?_
          refine pn_seq ?_
          refine rc_seq ?_
          refine rc_region ?_
          refine rd_op (ov_move rfl) ?_
          refine rd_op (ov_iaddr rfl rfl (slI r1 (by first | omega | (have hk := opl hl; omega) | (have hk := opl hl; have hj := jor (by assumption) (by assumption); omega)) (by first | omega | (have hk := opl hl; omega) | (have hk := opl hl; have hj := jor (by assumption) (by assumption); omega)))) ?_
          refine rd_op (ov_load rfl rfl rfl) ?_
          refine rd_op (ov_move rfl) ?_
          refine rd_op (v := vi 0) (ov_move rfl) ?_
          refine rd_nil ?_
          refine pn_seq ?_
          subst hres
          exact rc_retV (.tmp rfl (.tmp rfl .nil)) (deep_closed (show closed (.tup _) = true from (clL_cons rfl (clL_cons rfl clL_nil)))) rfl
      · replace hres := (ite_f hc104).symm.trans hres
        have hc104' := hc104
        try simp only [Bool.or_eq_true, Bool.or_eq_false_iff, Bool.and_eq_true, Bool.and_eq_false_imp, decide_eq_true_eq, decide_eq_false_iff_not, Bool.not_eq_true', Bool.not_eq_false', Bool.not_eq_true, Bool.not_eq_false, Bool.not_true, Bool.not_false, ne_eq] at hc104'
        refine rc_seq ?_
        refine rc_region ?_
        refine rd_op (ov_bin rfl rfl i_eql) ?_
        refine rd_op (ov_move rfl) ?_
        refine rd_nil ?_
        refine pn_seq ?_
        refine rc_cond rfl (fun hc107 => ?_) (fun hc107 => ?_)
        · replace hres := (ite_t hc107).symm.trans hres
          have hc107' := hc107
          try simp only [Bool.or_eq_true, Bool.or_eq_false_iff, Bool.and_eq_true, Bool.and_eq_false_imp, decide_eq_true_eq, decide_eq_false_iff_not, Bool.not_eq_true', Bool.not_eq_false', Bool.not_eq_true, Bool.not_eq_false, Bool.not_true, Bool.not_false, ne_eq] at hc107'
          refine rc_seq ?_
          refine rc_block ?_
          refine rc_seq ?_
          refine rc_region ?_
          refine rd_op (ov_faddr rfl (api_ExprNode.g_N r0)) ?_
          refine rd_op (ov_load rfl rfl rfl) ?_
          refine rd_op (ov_bin rfl rfl i_lss) ?_
          refine rd_op (ov_move rfl) ?_
          refine rd_nil ?_
          refine pn_seq ?_
          refine rc_cond rfl (fun hc108 => ?_) (fun hc108 => ?_)
          · replace hres := (ite_t hc108).symm.trans hres
            have hc108' := hc108
            try simp only [Bool.or_eq_true, Bool.or_eq_false_iff, Bool.and_eq_true, Bool.and_eq_false_imp, decide_eq_true_eq, decide_eq_false_iff_not, Bool.not_eq_true', Bool.not_eq_false', Bool.not_eq_true, Bool.not_eq_false, Bool.not_true, Bool.not_false, ne_eq] at hc108'
            refine rc_seq ?_
            refine rc_region ?_
            refine rd_op (v := vi 0) (ov_move rfl) ?_
            refine rd_op (v := vi 9) (ov_move rfl) ?_
            refine rd_nil ?_
            refine pn_seq ?_
            subst hres
            exact rc_retV (.tmp rfl (.tmp rfl .nil)) (deep_closed (show closed (.tup _) = true from (clL_cons rfl (clL_cons rfl clL_nil)))) rfl
          · replace hres := (ite_f hc108).symm.trans hres
            have hc108' := hc108
            try simp only [Bool.or_eq_true, Bool.or_eq_false_iff, Bool.and_eq_true, Bool.and_eq_false_imp, decide_eq_true_eq, decide_eq_false_iff_not, Bool.not_eq_true', Bool.not_eq_false', Bool.not_eq_true, Bool.not_eq_false, Bool.not_true, Bool.not_false, ne_eq] at hc108'
            refine rc_seq ?_
            refine rc_region ?_
            refine rd_op (ov_faddr rfl (api_ExprNode.g_W r0)) ?_
            refine rd_op (ov_load rfl rfl rfl) ?_
            refine rd_op (ov_bin rfl rfl i_lss) ?_
            refine rd_op (ov_move rfl) ?_
            refine rd_cut (d := 41) (v := vb ((decide (x0.W < 1)) || (decide (32 < x0.W)))) ?_ ?_
            · intro S Q r
              simp only [ac91_G2, List.cons_append, List.nil_append, List.append_assoc]
              cases hb109 : (decide (x0.W < 1))
              · intro k
                have hb109' := hb109
                try simp only [Bool.or_eq_true, Bool.or_eq_false_iff, Bool.and_eq_true, Bool.and_eq_false_imp, decide_eq_true_eq, decide_eq_false_iff_not, Bool.not_eq_true', Bool.not_eq_false', Bool.not_eq_true, Bool.not_eq_false, Bool.not_true, Bool.not_false, ne_eq] at hb109'
                refine rd_yes rfl rfl (ov_faddr rfl (api_ExprNode.g_W r0)) ?_
                refine rd_yes rfl rfl (ov_load rfl rfl rfl) ?_
                refine rd_yes rfl rfl (ov_bin rfl rfl i_gtr) ?_
                refine rd_op (v := vb (decide (32 < x0.W))) (ov_pick rfl rfl rfl rfl) ?_
                exact rd_weak (sub_cons rfl (sub_skip rfl (sub_skip rfl (sub_skip rfl (sub_skip rfl (sub_refl _)))))) k
              · intro k
                refine rd_skip rfl rfl ?_
                refine rd_skip rfl rfl ?_
                refine rd_skip rfl rfl ?_
                refine rd_op (v := vb true) (ov_pick rfl rfl rfl rfl) ?_
                exact rd_weak (sub_cons rfl (sub_skip rfl (sub_skip rfl (sub_skip rfl (sub_skip rfl (sub_refl _)))))) k
            refine rd_op (ov_move rfl) ?_
            refine rd_cut (d := 52) (v := vb (((decide (x0.W < 1)) || (decide (32 < x0.W))) || (decide ((wr ((ix x1 0) - x0.W)) < x0.N)))) ?_ ?_
            · intro S Q r
              simp only [ac91_G3, List.cons_append, List.nil_append, List.append_assoc]
              cases hb110 : ((decide (x0.W < 1)) || (decide (32 < x0.W)))
              · intro k
                have hb110' := hb110
                try simp only [Bool.or_eq_true, Bool.or_eq_false_iff, Bool.and_eq_true, Bool.and_eq_false_imp, decide_eq_true_eq, decide_eq_false_iff_not, Bool.not_eq_true', Bool.not_eq_false', Bool.not_eq_true, Bool.not_eq_false, Bool.not_true, Bool.not_false, ne_eq] at hb110'
                refine rd_yes rfl rfl (ov_faddr rfl (api_ExprNode.g_N r0)) ?_
                refine rd_yes rfl rfl (ov_load rfl rfl rfl) ?_
                refine rd_yes rfl rfl (ov_move rfl) ?_
                refine rd_yes rfl rfl (ov_iaddr rfl rfl (slI r1 (by first | omega | (have hk := opl hl; omega) | (have hk := opl hl; have hj := jor (by assumption) (by assumption); omega)) (by first | omega | (have hk := opl hl; omega) | (have hk := opl hl; have hj := jor (by assumption) (by assumption); omega)))) ?_
                refine rd_yes rfl rfl (ov_load rfl rfl rfl) ?_
                refine rd_yes rfl rfl (ov_faddr rfl (api_ExprNode.g_W r0)) ?_
                refine rd_yes rfl rfl (ov_load rfl rfl rfl) ?_
                refine rd_yes rfl rfl (ov_bin rfl rfl i_sub) ?_
                refine rd_yes rfl rfl (ov_bin rfl rfl i_gtr) ?_
                refine rd_op (v := vb (decide ((wr ((ix x1 0) - x0.W)) < x0.N))) (ov_pick rfl rfl rfl rfl) ?_
                exact rd_weak (sub_cons rfl (sub_skip rfl (sub_skip rfl (sub_skip rfl (sub_skip rfl (sub_skip rfl (sub_skip rfl (sub_skip rfl (sub_skip rfl (sub_skip rfl (sub_skip rfl (sub_refl _)))))))))))) k
              · intro k
                refine rd_skip rfl rfl ?_
                refine rd_skip rfl rfl ?_
                refine rd_skip rfl rfl ?_
                refine rd_skip rfl rfl ?_
                refine rd_skip rfl rfl ?_
                refine rd_skip rfl rfl ?_
                refine rd_skip rfl rfl ?_
                refine rd_skip rfl rfl ?_
                refine rd_skip rfl rfl ?_
                refine rd_op (v := vb true) (ov_pick rfl rfl rfl rfl) ?_
                exact rd_weak (sub_cons rfl (sub_skip rfl (sub_skip rfl (sub_skip rfl (sub_skip rfl (sub_skip rfl (sub_skip rfl (sub_skip rfl (sub_skip rfl (sub_skip rfl (sub_skip rfl (sub_refl _)))))))))))) k
            refine rd_op (ov_move rfl) ?_
            refine rd_nil ?_
            refine pn_seq ?_
            refine rc_cond rfl (fun hc111 => ?_) (fun hc111 => ?_)
            · replace hres := (ite_t hc111).symm.trans hres
              have hc111' := hc111
              try simp only [Bool.or_eq_true, Bool.or_eq_false_iff, Bool.and_eq_true, Bool.and_eq_false_imp, decide_eq_true_eq, decide_eq_false_iff_not, Bool.not_eq_true', Bool.not_eq_false', Bool.not_eq_true, Bool.not_eq_false, Bool.not_true, Bool.not_false, ne_eq] at hc111'
              refine rc_seq ?_
              refine rc_region ?_
              refine rd_op (v := vi 0) (ov_move rfl) ?_
              refine rd_op (v := vi 10) (ov_move rfl) ?_
              refine rd_nil ?_
              refine pn_seq ?_
              subst hres
              exact rc_retV (.tmp rfl (.tmp rfl .nil)) (deep_closed (show closed (.tup _) = true from (clL_cons rfl (clL_cons rfl clL_nil)))) rfl
            · replace hres := (ite_f hc111).symm.trans hres
              have hc111' := hc111
              try simp only [Bool.or_eq_true, Bool.or_eq_false_iff, Bool.and_eq_true, Bool.and_eq_false_imp, decide_eq_true_eq, decide_eq_false_iff_not, Bool.not_eq_true', Bool.not_eq_false', Bool.not_eq_true, Bool.not_eq_false, Bool.not_true, Bool.not_false, ne_eq] at hc111'
              refine rc_skip ?_
              refine pn_blk ?_
              refine pn_seq ?_
              refine rc_seq ?_
              refine rc_region ?_
              refine rd_op (ov_faddr rfl (api_ExprNode.g_W r0)) ?_
              refine rd_op (ov_load rfl rfl rfl) ?_
              refine rd_op (ov_move rfl) ?_
              refine rd_op (v := vi 0) (ov_move rfl) ?_
              refine rd_nil ?_
              refine pn_seq ?_
              subst hres
              exact rc_retV (.tmp rfl (.tmp rfl .nil)) (deep_closed (show closed (.tup _) = true from (clL_cons rfl (clL_cons rfl clL_nil)))) rfl
        · replace hres := (ite_f hc107).symm.trans hres
          have hc107' := hc107
          try simp only [Bool.or_eq_true, Bool.or_eq_false_iff, Bool.and_eq_true, Bool.and_eq_false_imp, decide_eq_true_eq, decide_eq_false_iff_not, Bool.not_eq_true', Bool.not_eq_false', Bool.not_eq_true, Bool.not_eq_false, Bool.not_true, Bool.not_false, ne_eq] at hc107'
          refine rc_seq ?_
          refine rc_region ?_
          refine rd_op (ov_bin rfl rfl i_eql) ?_
          refine rd_op (ov_move rfl) ?_
          refine rd_nil ?_
          refine pn_seq ?_
          refine rc_cond rfl (fun hc112 => ?_) (fun hc112 => ?_)
          · replace hres := (ite_t hc112).symm.trans hres
            have hc112' := hc112
            try simp only [Bool.or_eq_true, Bool.or_eq_false_iff, Bool.and_eq_true, Bool.and_eq_false_imp, decide_eq_true_eq, decide_eq_false_iff_not, Bool.not_eq_true', Bool.not_eq_false', Bool.not_eq_true, Bool.not_eq_false, Bool.not_true, Bool.not_false, ne_eq] at hc112'
            refine rc_seq ?_
            refine rc_region ?_
            refine rd_op (ov_move rfl) ?_
            refine rd_op (ov_iaddr rfl rfl (slI r1 (by first | omega | (have hk := opl hl; omega) | (have hk := opl hl; have hj := jor (by assumption) (by assumption); omega)) (by first | omega | (have hk := opl hl; omega) | (have hk := opl hl; have hj := jor (by assumption) (by assumption); omega)))) ?_
            refine rd_op (ov_load rfl rfl rfl) ?_
            refine rd_op (ov_move rfl) ?_
            refine rd_op (ov_iaddr rfl rfl (slI r1 (by first | omega | (have hk := opl hl; omega) | (have hk := opl hl; have hj := jor (by assumption) (by assumption); omega)) (by first | omega | (have hk := opl hl; omega) | (have hk := opl hl; have hj := jor (by assumption) (by assumption); omega)))) ?_
            refine rd_op (ov_load rfl rfl rfl) ?_
            refine rd_op (ov_bin rfl rfl i_add) ?_
            obtain ⟨y113, hw113, hres⟩ := let_ex hres
            have f113 := f95_ok (x0 := (wr ((ix x1 0) + (ix x1 1))))  
            rw [hw113] at f113
            refine rd_call (cv_fn rfl rfl (clL_cons rfl clL_nil) f113) ?_
            refine rd_op (ov_extract rfl rfl) ?_
            refine rd_op (ov_extract rfl rfl) ?_
            refine rd_op (ov_move rfl) ?_
            refine rd_op (ov_move rfl) ?_
            refine rd_nil ?_
            refine pn_seq ?_
            subst hres
            exact rc_retV (.tmp rfl (.tmp rfl .nil)) (deep_closed (show closed (.tup _) = true from (clL_cons rfl (clL_cons rfl clL_nil)))) rfl
          · replace hres := (ite_f hc112).symm.trans hres
            have hc112' := hc112
            try simp only [Bool.or_eq_true, Bool.or_eq_false_iff, Bool.and_eq_true, Bool.and_eq_false_imp, decide_eq_true_eq, decide_eq_false_iff_not, Bool.not_eq_true', Bool.not_eq_false', Bool.not_eq_true, Bool.not_eq_false, Bool.not_true, Bool.not_false, ne_eq] at hc112'
            refine rc_seq ?_
            refine rc_region ?_
            refine rd_op (ov_bin rfl rfl i_eql) ?_
            refine rd_op (ov_move rfl) ?_
            refine rd_nil ?_
            refine pn_seq ?_
            refine rc_cond rfl (fun hc114 => ?_) (fun hc114 => ?_)
            · replace hres := (ite_t hc114).symm.trans hres
              have hc114' := hc114
              try simp only [Bool.or_eq_true, Bool.or_eq_false_iff, Bool.and_eq_true, Bool.and_eq_false_imp, decide_eq_true_eq, decide_eq_false_iff_not, Bool.not_eq_true', Bool.not_eq_false', Bool.not_eq_true, Bool.not_eq_false, Bool.not_true, Bool.not_false, ne_eq] at hc114'
              refine rc_seq ?_
              refine rc_seq ?_
              refine rc_region ?_
              refine rd_op (ov_move rfl) ?_
              refine rd_op (ov_iaddr rfl rfl (slI r1 (by first | omega | (have hk := opl hl; omega) | (have hk := opl hl; have hj := jor (by assumption) (by assumption); omega)) (by first | omega | (have hk := opl hl; omega) | (have hk := opl hl; have hj := jor (by assumption) (by assumption); omega)))) ?_
              refine rd_op (ov_load rfl rfl rfl) ?_
              refine rd_op (ov_bin rfl rfl i_neq) ?_
              refine rd_op (ov_move rfl) ?_
              refine rd_cut (d := 81) (v := vb ((!decide ((ix x1 0) = 1)) || (!decide ((ix x1 1) = (ix x1 2))))) ?_ ?_
              · intro S Q r
                simp only [ac91_G4, List.cons_append, List.nil_append, List.append_assoc]
                cases hb115 : (!decide ((ix x1 0) = 1))
                · intro k
                  have hb115' := hb115
                  try simp only [Bool.or_eq_true, Bool.or_eq_false_iff, Bool.and_eq_true, Bool.and_eq_false_imp, decide_eq_true_eq, decide_eq_false_iff_not, Bool.not_eq_true', Bool.not_eq_false', Bool.not_eq_true, Bool.not_eq_false, Bool.not_true, Bool.not_false, ne_eq] at hb115'
                  refine rd_yes rfl rfl (ov_move rfl) ?_
                  refine rd_yes rfl rfl (ov_iaddr rfl rfl (slI r1 (by first | omega | (have hk := opl hl; omega) | (have hk := opl hl; have hj := jor (by assumption) (by assumption); omega)) (by first | omega | (have hk := opl hl; omega) | (have hk := opl hl; have hj := jor (by assumption) (by assumption); omega)))) ?_
                  refine rd_yes rfl rfl (ov_load rfl rfl rfl) ?_
                  refine rd_yes rfl rfl (ov_move rfl) ?_
                  refine rd_yes rfl rfl (ov_iaddr rfl rfl (slI r1 (by first | omega | (have hk := opl hl; omega) | (have hk := opl hl; have hj := jor (by assumption) (by assumption); omega)) (by first | omega | (have hk := opl hl; omega) | (have hk := opl hl; have hj := jor (by assumption) (by assumption); omega)))) ?_
                  refine rd_yes rfl rfl (ov_load rfl rfl rfl) ?_
                  refine rd_yes rfl rfl (ov_bin rfl rfl i_neq) ?_
                  refine rd_op (v := vb (!decide ((ix x1 1) = (ix x1 2)))) (ov_pick rfl rfl rfl rfl) ?_
                  exact rd_weak (sub_cons rfl (sub_skip rfl (sub_skip rfl (sub_skip rfl (sub_skip rfl (sub_skip rfl (sub_skip rfl (sub_skip rfl (sub_skip rfl (sub_refl _)))))))))) k
                · intro k
                  refine rd_skip rfl rfl ?_
                  refine rd_skip rfl rfl ?_
                  refine rd_skip rfl rfl ?_
                  refine rd_skip rfl rfl ?_
                  refine rd_skip rfl rfl ?_
                  refine rd_skip rfl rfl ?_
                  refine rd_skip rfl rfl ?_
                  refine rd_op (v := vb true) (ov_pick rfl rfl rfl rfl) ?_
                  exact rd_weak (sub_cons rfl (sub_skip rfl (sub_skip rfl (sub_skip rfl (sub_skip rfl (sub_skip rfl (sub_skip rfl (sub_skip rfl (sub_skip rfl (sub_refl _)))))))))) k
              refine rd_nil ?_
              refine pn_seq ?_
              refine rc_cond rfl (fun hc116 => ?_) (fun hc116 => ?_)
              · replace hres := (ite_t hc116).symm.trans hres
                have hc116' := hc116
                try simp only [Bool.or_eq_true, Bool.or_eq_false_iff, Bool.and_eq_true, Bool.and_eq_false_imp, decide_eq_true_eq, decide_eq_false_iff_not, Bool.not_eq_true', Bool.not_eq_false', Bool.not_eq_true, Bool.not_eq_false, Bool.not_true, Bool.not_false, ne_eq] at hc116'
                refine rc_seq ?_
                refine rc_region ?_
                refine rd_op (v := vi 0) (ov_move rfl) ?_
                refine rd_op (v := vi 10) (ov_move rfl) ?_
                refine rd_nil ?_
                refine pn_seq ?_
                subst hres
                exact rc_retV (.tmp rfl (.tmp rfl .nil)) (deep_closed (show closed (.tup _) = true from (clL_cons rfl (clL_cons rfl clL_nil)))) rfl
              · replace hres := (ite_f hc116).symm.trans hres
                have hc116' := hc116
                try simp only [Bool.or_eq_true, Bool.or_eq_false_iff, Bool.and_eq_true, Bool.and_eq_false_imp, decide_eq_true_eq, decide_eq_false_iff_not, Bool.not_eq_true', Bool.not_eq_false', Bool.not_eq_true, Bool.not_eq_false, Bool.not_true, Bool.not_false, ne_eq] at hc116'
                refine rc_skip ?_
                refine pn_seq ?_
                refine rc_seq ?_
                refine rc_region ?_
                refine rd_op (ov_move rfl) ?_
                refine rd_op (ov_iaddr rfl rfl (slI r1 (by first | omega | (have hk := opl hl; omega) | (have hk := opl hl; have hj := jor (by assumption) (by assumption); omega)) (by first | omega | (have hk := opl hl; omega) | (have hk := opl hl; have hj := jor (by assumption) (by assumption); omega)))) ?_
                refine rd_op (ov_load rfl rfl rfl) ?_
                refine rd_op (ov_move rfl) ?_
                refine rd_op (v := vi 0) (ov_move rfl) ?_
                refine rd_nil ?_
                refine pn_seq ?_
                subst hres
                exact rc_retV (.tmp rfl (.tmp rfl .nil)) (deep_closed (show closed (.tup _) = true from (clL_cons rfl (clL_cons rfl clL_nil)))) rfl
            · replace hres := (ite_f hc114).symm.trans hres
              have hc114' := hc114
              try simp only [Bool.or_eq_true, Bool.or_eq_false_iff, Bool.and_eq_true, Bool.and_eq_false_imp, decide_eq_true_eq, decide_eq_false_iff_not, Bool.not_eq_true', Bool.not_eq_false', Bool.not_eq_true, Bool.not_eq_false, Bool.not_true, Bool.not_false, ne_eq] at hc114'
              refine rc_skip ?_
              refine pn_blk ?_
              refine pn_seq ?_
              refine rc_seq ?_
              refine rc_block ?_
              refine rc_seq ?_
              refine rc_region ?_
              refine rd_op (ov_move rfl) ?_
              refine rd_op (ov_iaddr rfl rfl (slI r1 (by first | omega | (have hk := opl hl; omega) | (have hk := opl hl; have hj := jor (by assumption) (by assumption); omega)) (by first | omega | (have hk := opl hl; omega) | (have hk := opl hl; have hj := jor (by assumption) (by assumption); omega)))) ?_
              refine rd_op (ov_load rfl rfl rfl) ?_
              refine rd_op (ov_move rfl) ?_
              refine rd_op (ov_iaddr rfl rfl (slI r1 (by first | omega | (have hk := opl hl; omega) | (have hk := opl hl; have hj := jor (by assumption) (by assumption); omega)) (by first | omega | (have hk := opl hl; omega) | (have hk := opl hl; have hj := jor (by assumption) (by assumption); omega)))) ?_
              refine rd_op (ov_load rfl rfl rfl) ?_
              refine rd_op (ov_bin rfl rfl i_neq) ?_
              refine rd_op (ov_move rfl) ?_
              refine rd_nil ?_
              refine pn_seq ?_
              refine rc_cond rfl (fun hc117 => ?_) (fun hc117 => ?_)
              · replace hres := (ite_t hc117).symm.trans hres
                have hc117' := hc117
                try simp only [Bool.or_eq_true, Bool.or_eq_false_iff, Bool.and_eq_true, Bool.and_eq_false_imp, decide_eq_true_eq, decide_eq_false_iff_not, Bool.not_eq_true', Bool.not_eq_false', Bool.not_eq_true, Bool.not_eq_false, Bool.not_true, Bool.not_false, ne_eq] at hc117'
                refine rc_seq ?_
                refine rc_region ?_
                refine rd_op (v := vi 0) (ov_move rfl) ?_
                refine rd_op (v := vi 10) (ov_move rfl) ?_
                refine rd_nil ?_
                refine pn_seq ?_
                subst hres
                exact rc_retV (.tmp rfl (.tmp rfl .nil)) (deep_closed (show closed (.tup _) = true from (clL_cons rfl (clL_cons rfl clL_nil)))) rfl
              · replace hres := (ite_f hc117).symm.trans hres
                have hc117' := hc117
                try simp only [Bool.or_eq_true, Bool.or_eq_false_iff, Bool.and_eq_true, Bool.and_eq_false_imp, decide_eq_true_eq, decide_eq_false_iff_not, Bool.not_eq_true', Bool.not_eq_false', Bool.not_eq_true, Bool.not_eq_false, Bool.not_true, Bool.not_false, ne_eq] at hc117'
                refine rc_seq ?_
                refine rc_region ?_
                refine rd_op (ov_faddr rfl (api_ExprNode.g_Op r0)) ?_
                refine rd_op (ov_load rfl rfl rfl) ?_
                refine rd_op (ov_bin rfl rfl i_eql) ?_
                refine rd_op (ov_move rfl) ?_
                refine rd_cut (d := 101) (v := vb ((decide (x0.Op = 15)) || (decide (x0.Op = 16)))) ?_ ?_
                · intro S Q r
                  simp only [ac91_G5, List.cons_append, List.nil_append, List.append_assoc]
                  cases hb118 : (decide (x0.Op = 15))
                  · intro k
                    have hb118' := hb118
                    try simp only [Bool.or_eq_true, Bool.or_eq_false_iff, Bool.and_eq_true, Bool.and_eq_false_imp, decide_eq_true_eq, decide_eq_false_iff_not, Bool.not_eq_true', Bool.not_eq_false', Bool.not_eq_true, Bool.not_eq_false, Bool.not_true, Bool.not_false, ne_eq] at hb118'
                    refine rd_yes rfl rfl (ov_faddr rfl (api_ExprNode.g_Op r0)) ?_
                    refine rd_yes rfl rfl (ov_load rfl rfl rfl) ?_
                    refine rd_yes rfl rfl (ov_bin rfl rfl i_eql) ?_
                    refine rd_op (v := vb (decide (x0.Op = 16))) (ov_pick rfl rfl rfl rfl) ?_
                    exact rd_weak (sub_cons rfl (sub_skip rfl (sub_skip rfl (sub_skip rfl (sub_skip rfl (sub_refl _)))))) k
                  · intro k
                    refine rd_skip rfl rfl ?_
                    refine rd_skip rfl rfl ?_
                    refine rd_skip rfl rfl ?_
                    refine rd_op (v := vb true) (ov_pick rfl rfl rfl rfl) ?_
                    exact rd_weak (sub_cons rfl (sub_skip rfl (sub_skip rfl (sub_skip rfl (sub_skip rfl (sub_refl _)))))) k
                refine rd_op (ov_move rfl) ?_
                refine rd_nil ?_
                refine pn_seq ?_
                refine rc_cond rfl (fun hc119 => ?_) (fun hc119 => ?_)
                · replace hres := (ite_t hc119).symm.trans hres
                  have hc119' := hc119
                  try simp only [Bool.or_eq_true, Bool.or_eq_false_iff, Bool.and_eq_true, Bool.and_eq_false_imp, decide_eq_true_eq, decide_eq_false_iff_not, Bool.not_eq_true', Bool.not_eq_false', Bool.not_eq_true, Bool.not_eq_false, Bool.not_true, Bool.not_false, ne_eq] at hc119'
                  refine rc_seq ?_
                  refine rc_region ?_
                  refine rd_op (v := vi 1) (ov_move rfl) ?_
                  refine rd_op (v := vi 0) (ov_move rfl) ?_
                  refine rd_nil ?_
                  refine pn_seq ?_
                  subst hres
                  exact rc_retV (.tmp rfl (.tmp rfl .nil)) (deep_closed (show closed (.tup _) = true from (clL_cons rfl (clL_cons rfl clL_nil)))) rfl
                · replace hres := (ite_f hc119).symm.trans hres
                  have hc119' := hc119
                  try simp only [Bool.or_eq_true, Bool.or_eq_false_iff, Bool.and_eq_true, Bool.and_eq_false_imp, decide_eq_true_eq, decide_eq_false_iff_not, Bool.not_eq_true', Bool.not_eq_false', Bool.not_eq_true, Bool.not_eq_false, Bool.not_true, Bool.not_false, ne_eq] at hc119'
                  refine rc_skip ?_
                  refine pn_blk ?_
                  refine pn_seq ?_
                  refine rc_seq ?_
                  refine rc_region ?_
                  refine rd_op (ov_move rfl) ?_
                  refine rd_op (ov_iaddr rfl rfl (slI r1 (by first | omega | (have hk := opl hl; omega) | (have hk := opl hl; have hj := jor (by assumption) (by assumption); omega)) (by first | omega | (have hk := opl hl; omega) | (have hk := opl hl; have hj := jor (by assumption) (by assumption); omega)))) ?_
                  refine rd_op (ov_load rfl rfl rfl) ?_
                  refine rd_op (ov_move rfl) ?_
                  refine rd_op (v := vi 0) (ov_move rfl) ?_
                  refine rd_nil ?_
                  refine pn_seq ?_
                  subst hres
                  exact rc_retV (.tmp rfl (.tmp rfl .nil)) (deep_closed (show closed (.tup _) = true from (clL_cons rfl (clL_cons rfl clL_nil)))) rfl
    · intro J
      refine rc_cond rfl (fun hc120 => ?_) (fun hc120 => ?_)
      · replace hres := (ite_t hc120).symm.trans hres
        have hc120' := hc120
        try simp only [Bool.or_eq_true, Bool.or_eq_false_iff, Bool.and_eq_true, Bool.and_eq_false_imp, decide_eq_true_eq, decide_eq_false_iff_not, Bool.not_eq_true', Bool.not_eq_false', Bool.not_eq_true, Bool.not_eq_false, Bool.not_true, Bool.not_false, ne_eq] at hc120'
        refine rc_skip ?_
        refine pn_seq (rc_weak ((sub_cons rfl (sub_cons rfl (sub_cons rfl (sub_cons rfl (sub_nil _)))))) (J _ (ite_t hc120).symm _ (Mem.sub (Mem.nil ⟨0, []⟩) .slnil) hres))
      · replace hres := (ite_f hc120).symm.trans hres
        have hc120' := hc120
        try simp only [Bool.or_eq_true, Bool.or_eq_false_iff, Bool.and_eq_true, Bool.and_eq_false_imp, decide_eq_true_eq, decide_eq_false_iff_not, Bool.not_eq_true', Bool.not_eq_false', Bool.not_eq_true, Bool.not_eq_false, Bool.not_true, Bool.not_false, ne_eq] at hc120'
        refine rc_region ?_
        refine rd_op (ov_bin rfl rfl i_eql) ?_
        refine rd_op (ov_move rfl) ?_
        refine rd_nil ?_
        refine pn_seq (rc_weak ((sub_cons rfl (sub_cons rfl (sub_cons rfl (sub_cons rfl (sub_nil _)))))) (J _ (ite_f hc120).symm _ (Mem.sub (Mem.nil ⟨0, []⟩) .slnil) hres))

/-- patchbay/patchbayref13.check -/
def RF85 (res : Int × Int × Int) (r : PV) : Prop := r = .tup [vi res.1, vi res.2.1, vi res.2.2]
theorem ref13_check_L1_ok {S : List Fr} {res : Int × Int × Int} {x0 : List api_ExprNode} {x1 : Int} {x2 : expr_Scope} {rec_ : (List api_ExprNode) → Int → expr_Scope → (Int × Int × Int)} {mu_ : Nat} {y103 : Int} {v0 : PV} {v2 : PV} (r0 : (tSl api_ExprNode.t).R x0 v0) (r2 : expr_Scope.t.R x2 v2) (h0 : 0 ≤ x1) (hb : x0.length ≤ 1000000) (ihR : ∀ {z0 : List api_ExprNode} {z1 : Int} {z2 : expr_Scope} {zv0 : PV} {zv2 : PV} (zr0 : (tSl api_ExprNode.t).R z0 zv0) (zr2 : expr_Scope.t.R z2 zv2) (h0 : 0 ≤ z1) (hb : z0.length ≤ 1000000), (z0.length - z1.toNat) < mu_ → FnR Try.prog 85 [zv0, vi z1, zv2] (.tup [vi ((rec_ z0 z1 z2).1), vi ((rec_ z0 z1 z2).2.1), vi ((rec_ z0 z1 z2).2.2)])) (hmu : mu_ = (x0.length - x1.toNat)) (hrec : ∀ (z0 : List api_ExprNode) (z1 : Int) (z2 : expr_Scope), 0 ≤ z1 → z0.length ≤ 1000000 → (rec_ z0 z1 z2).2.2 = 0 → z1 < (rec_ z0 z1 z2).2.1) (hc101 : (decide ((x0.length : Int) ≤ x1)) = false) (hw103 : ref13_Arity ((ix x0 x1).Op) = y103) (hc104 : (decide (y103 < 0)) = false) (hc105 : (decide (y103 = 0)) = false) {K0 : Int → (List Int) → (Int × Int × Int)}
    (hK0 : ∀ (x13_ : Int) (zE109 : List Int) (esE109 : List PV) (aE109 : PV) (qE109 : All2 tI.R zE109 esE109) (nE109 : isL aE109 = true) (wrE109 : Wri aE109 esE109) (hlE109 : zE109.length ≤ 4611686018427387904) (po0 : (zE109.length : Int) = y103) (h : Heap) (M0 : Mem h [⟨aE109, 3, 1, esE109⟩]), K0 x13_ zE109 = res → PX Try.prog 0 S (QR Try.prog [(6, none), (7, none), (8, none)] (RF85 res)) [(0, v0), (1, vi x1), (12, aE109), (13, vi x13_)] h) :
    ∀ (m : Nat) (x13_ : Int) (x14_ : Int) (zE109 : List Int) (esE109 : List PV) (aE109 : PV) (qE109 : All2 tI.R zE109 esE109) (nE109 : isL aE109 = true) (wrE109 : Wri aE109 esE109) (hlE109 : zE109.length ≤ 4611686018427387904) (hm1 : m = Int.toNat (y103 - x14_)) (hlo1 : 0 ≤ x14_) (iv1_0 : x1 < x13_) (iv1_1 : (zE109.length : Int) = x14_) (iv1_2 : x14_ ≤ y103) (h : Heap) (M0 : Mem h [⟨aE109, 3, 1, esE109⟩]), ref13_check_L1 x0 x2 rec_ K0 m x13_ x14_ zE109 = res → RC Try.prog (.loop ac85_L1) S (QR Try.prog [(6, none), (7, none), (8, none)] (RF85 res)) [(14, vi x14_), (13, vi x13_), (12, aE109), (9, vi y103), (5, .fp v2), (1, vi x1), (0, v0)] h := by
  have hb' := hb
  try simp only [Bool.or_eq_true, Bool.or_eq_false_iff, Bool.and_eq_true, Bool.and_eq_false_imp, decide_eq_true_eq, decide_eq_false_iff_not, Bool.not_eq_true', Bool.not_eq_false', Bool.not_eq_true, Bool.not_eq_false, Bool.not_true, Bool.not_false, ne_eq] at hb'
  have hc101' := hc101
  try simp only [Bool.or_eq_true, Bool.or_eq_false_iff, Bool.and_eq_true, Bool.and_eq_false_imp, decide_eq_true_eq, decide_eq_false_iff_not, Bool.not_eq_true', Bool.not_eq_false', Bool.not_eq_true, Bool.not_eq_false, Bool.not_true, Bool.not_false, ne_eq] at hc101'
  have hc104' := hc104
  try simp only [Bool.or_eq_true, Bool.or_eq_false_iff, Bool.and_eq_true, Bool.and_eq_false_imp, decide_eq_true_eq, decide_eq_false_iff_not, Bool.not_eq_true', Bool.not_eq_false', Bool.not_eq_true, Bool.not_eq_false, Bool.not_true, Bool.not_false, ne_eq] at hc104'
  have hc105' := hc105
  try simp only [Bool.or_eq_true, Bool.or_eq_false_iff, Bool.and_eq_true, Bool.and_eq_false_imp, decide_eq_true_eq, decide_eq_false_iff_not, Bool.not_eq_true', Bool.not_eq_false', Bool.not_eq_true, Bool.not_eq_false, Bool.not_true, Bool.not_false, ne_eq] at hc105'
  intro m
  induction m with
  | zero =>
    intro x13_ x14_ zE109 esE109 aE109 qE109 nE109 wrE109 hlE109 hm1 hlo1 iv1_0 iv1_1 iv1_2 h M0 hres
    rw [ref13_check_L1] at hres
    refine rc_loop ?_
    unfold ac85_L1
    refine rc_seq ?_
    refine rc_seq ?_
    refine rc_region ?_
    refine rd_op (ov_move rfl) ?_
    refine rd_op (ov_move rfl) ?_
    refine rd_op (ov_bin rfl rfl i_lss) ?_
    refine rd_nil ?_
    refine pn_seq ?_
    refine rc_cond rfl (fun hc110 => ?_) (fun hc110 => ?_)
    · exfalso
      try simp only [Bool.or_eq_true, Bool.or_eq_false_iff, Bool.and_eq_true, Bool.and_eq_false_imp, decide_eq_true_eq, decide_eq_false_iff_not, Bool.not_eq_true', Bool.not_eq_false', Bool.not_eq_true, Bool.not_eq_false, Bool.not_true, Bool.not_false, ne_eq] at hc110
      omega
    · have hend := hres
      have hc110' := hc110
      try simp only [Bool.or_eq_true, Bool.or_eq_false_iff, Bool.and_eq_true, Bool.and_eq_false_imp, decide_eq_true_eq, decide_eq_false_iff_not, Bool.not_eq_true', Bool.not_eq_false', Bool.not_eq_true, Bool.not_eq_false, Bool.not_true, Bool.not_false, ne_eq] at hc110'
      refine rc_exit ?_
      refine px_seq ?_
      refine px_again ?_
      exact px_weak ((sub_cons rfl (sub_cons rfl (sub_cons rfl (sub_cons rfl (sub_nil _)))))) (hK0 x13_ zE109 esE109 aE109 qE109 nE109 wrE109 hlE109 (by omega) _ (Mem.sub M0 (.cons_cons _ .slnil)) hres)
  | succ m ih =>
    intro x13_ x14_ zE109 esE109 aE109 qE109 nE109 wrE109 hlE109 hm1 hlo1 iv1_0 iv1_1 iv1_2 h M0 hres
    rw [ref13_check_L1] at hres
    refine rc_loop ?_
    unfold ac85_L1
    refine rc_seq ?_
    refine rc_seq ?_
    refine rc_region ?_
    refine rd_op (ov_move rfl) ?_
    refine rd_op (ov_move rfl) ?_
    refine rd_op (ov_bin rfl rfl i_lss) ?_
    refine rd_nil ?_
    refine pn_seq ?_
    refine rc_cond rfl (fun hc111 => ?_) (fun hc111 => ?_)
    · have hgo := hres
      have hc111' := hc111
      try simp only [Bool.or_eq_true, Bool.or_eq_false_iff, Bool.and_eq_true, Bool.and_eq_false_imp, decide_eq_true_eq, decide_eq_false_iff_not, Bool.not_eq_true', Bool.not_eq_false', Bool.not_eq_true, Bool.not_eq_false, Bool.not_true, Bool.not_false, ne_eq] at hc111'
      refine rc_skip ?_
      refine pn_seq ?_
      refine rc_seq ?_
      refine rc_block ?_
      refine rc_seq ?_
      refine rc_region ?_
      refine rd_op (ov_move rfl) ?_
      refine rd_op (ov_move rfl) ?_
      refine rd_op (ov_load rfl (TR.cnt expr_Scope.t r2) (TR.agg expr_Scope.t r2)) ?_
      obtain ⟨y112, hw112, hres⟩ := let_ex hres
      have f112 := ihR (z0 := x0) (z1 := x13_) (z2 := x2) r0 r2 (by first | assumption | omega) (by first | assumption | omega) (by first | omega | (rw [wr_of (by omega) (by omega)]; omega))
      rw [hw112] at f112
      have ek112 : y112.2.2 = 0 → x13_ < y112.2.1 := by rw [← hw112]; exact hrec _ _ _ (by omega) (by omega)
      refine rd_call (cv_fn rfl rfl (clL_cons (TR.clo (tSl api_ExprNode.t) r0) (clL_cons rfl (clL_cons (TR.clo expr_Scope.t r2) clL_nil))) f112) ?_
      refine rd_op (ov_move rfl) ?_
      refine rd_op (ov_extract rfl rfl) ?_
      refine rd_op (ov_extract rfl rfl) ?_
      refine rd_op (ov_extract rfl rfl) ?_
      refine rd_op (ov_move rfl) ?_
      refine rd_op (ov_move rfl) ?_
      refine rd_op (ov_move rfl) ?_
      refine rd_nil ?_
      refine pn_seq ?_
      refine rc_seq ?_
      refine rc_seq ?_
      refine rc_region ?_
      refine rd_op (ov_move rfl) ?_
      refine rd_op (ov_bin rfl rfl i_neq) ?_
      refine rd_nil ?_
      refine pn_seq ?_
      refine rc_cond rfl (fun hc113 => ?_) (fun hc113 => ?_)
      · replace hres := (ite_t hc113).symm.trans hres
        have hc113' := hc113
        try simp only [Bool.or_eq_true, Bool.or_eq_false_iff, Bool.and_eq_true, Bool.and_eq_false_imp, decide_eq_true_eq, decide_eq_false_iff_not, Bool.not_eq_true', Bool.not_eq_false', Bool.not_eq_true, Bool.not_eq_false, Bool.not_true, Bool.not_false, ne_eq] at hc113'
        refine rc_seq ?_
        refine rc_region ?_
        refine rd_op (ov_move rfl) ?_
        refine rd_op (ov_move rfl) ?_
        refine rd_op (v := vi 0) (ov_move rfl) ?_
        refine rd_op (ov_move rfl) ?_
        refine rd_op (ov_move rfl) ?_
        refine rd_nil ?_
        refine pn_seq ?_
        subst hres
        exact rc_retV (.tmp rfl (.tmp rfl (.tmp rfl .nil))) (deep_closed (show closed (.tup _) = true from (clL_cons rfl (clL_cons rfl (clL_cons rfl clL_nil))))) rfl
      · replace hres := (ite_f hc113).symm.trans hres
        have hc113' := hc113
        try simp only [Bool.or_eq_true, Bool.or_eq_false_iff, Bool.and_eq_true, Bool.and_eq_false_imp, decide_eq_true_eq, decide_eq_false_iff_not, Bool.not_eq_true', Bool.not_eq_false', Bool.not_eq_true, Bool.not_eq_false, Bool.not_true, Bool.not_false, ne_eq] at hc113'
        refine rc_skip ?_
        refine pn_seq ?_
        refine rc_seq ?_
        refine rc_region ?_
        refine rd_op (ov_move rfl) ?_
        refine rd_op (ov_move rfl) ?_
        refine rd_op (v := .fs true [vi y112.1]) (ov_bslice rfl (all_cons rfl all_nil)) ?_
        have r114 : (tSl tI).R ([y112.1] : List Int) (.fs true [vi y112.1]) := sl_fs ⟨rfl, trivial⟩ (by simp)
        obtain ⟨nw115, sr115, ar115⟩ := src_of (t := tI) (h := h) r114
        have f115 : fits (esE109.length + nw115.length) 8 = true := by rw [All2.length_eq qE109, All2.length_eq ar115]; (try simp only [List.length_cons, List.length_nil]); exact fits_of (by first | omega | (have hk := rar (by assumption); omega) | (simp only [List.length_append, List.length_cons, List.length_nil]; have hk := rar (by assumption); omega)) (by first | omega | (have hk := rar (by assumption); omega) | (simp only [List.length_append, List.length_cons, List.length_nil]; have hk := rar (by assumption); omega))
        refine rd_appW (k := 0) (es := esE109) (news := nw115) M0 rfl rfl rfl nE109 wrE109 sr115 f115 (fun a115 h115 n115 wr115 M115 => ?_)
        have q115 : All2 tI.R (zE109 ++ ([y112.1] : List Int)) (esE109 ++ nw115) := All2.app qE109 ar115
        have hl115 : (zE109 ++ ([y112.1] : List Int)).length ≤ 4611686018427387904 := by rw [← All2.length_eq q115, List.length_append]; exact fits_len f115
        refine rd_op (ov_move rfl) ?_
        refine rd_nil ?_
        refine pn_seq ?_
        refine rc_region ?_
        refine rd_op (ov_move rfl) ?_
        refine rd_op (ov_move rfl) ?_
        refine rd_nil ?_
        refine pn_blk ?_
        refine pn_seq ?_
        refine rc_region ?_
        refine rd_op (ov_move rfl) ?_
        refine rd_op (ov_bin rfl rfl i_add) ?_
        refine rd_op (ov_move rfl) ?_
        refine rd_nil ?_
        refine pn_again ?_
        have hinc : wr (x14_ + 1) = x14_ + 1 := wr_of (by omega) (by (have hk := rar (by assumption); omega))
        rw [hinc]
        refine rc_weak ?_ (ih y112.2.1 (x14_ + 1) (zE109 ++ ([y112.1] : List Int)) (esE109 ++ nw115) a115 q115 n115 wr115 hl115 (by omega) (by omega) (by first | (simp only [List.length_append, List.length_cons, List.length_nil]; omega) | omega) (by first | (simp only [List.length_append, List.length_cons, List.length_nil]; omega) | omega) (by first | (simp only [List.length_append, List.length_cons, List.length_nil]; omega) | omega) _ (Mem.sub M115 (.cons_cons _ .slnil)) hres)
        exact ((sub_cons rfl (sub_cons rfl (sub_cons rfl (sub_cons rfl (sub_cons rfl (sub_cons rfl (sub_cons rfl (sub_nil _)))))))))
    · exfalso
      try simp only [Bool.or_eq_true, Bool.or_eq_false_iff, Bool.and_eq_true, Bool.and_eq_false_imp, decide_eq_true_eq, decide_eq_false_iff_not, Bool.not_eq_true', Bool.not_eq_false', Bool.not_eq_true, Bool.not_eq_false, Bool.not_true, Bool.not_false, ne_eq] at hc111
      omega

theorem f85_okB {rec_ : (List api_ExprNode) → Int → expr_Scope → (Int × Int × Int)} {mu_ : Nat} {x0 : List api_ExprNode} {x1 : Int} {x2 : expr_Scope} {v0 : PV} {v2 : PV} (r0 : (tSl api_ExprNode.t).R x0 v0) (r2 : expr_Scope.t.R x2 v2) (h0 : 0 ≤ x1) (hb : x0.length ≤ 1000000) (hmu : mu_ = (x0.length - x1.toNat)) (hrec : ∀ (z0 : List api_ExprNode) (z1 : Int) (z2 : expr_Scope), 0 ≤ z1 → z0.length ≤ 1000000 → (rec_ z0 z1 z2).2.2 = 0 → z1 < (rec_ z0 z1 z2).2.1) (ihR : ∀ {z0 : List api_ExprNode} {z1 : Int} {z2 : expr_Scope} {zv0 : PV} {zv2 : PV} (zr0 : (tSl api_ExprNode.t).R z0 zv0) (zr2 : expr_Scope.t.R z2 zv2) (h0 : 0 ≤ z1) (hb : z0.length ≤ 1000000), (z0.length - z1.toNat) < mu_ → FnR Try.prog 85 [zv0, vi z1, zv2] (.tup [vi ((rec_ z0 z1 z2).1), vi ((rec_ z0 z1 z2).2.1), vi ((rec_ z0 z1 z2).2.2)])) : FnR Try.prog 85 [v0, vi x1, v2] (.tup [vi ((ref13_check_B rec_ x0 x1 x2).1), vi ((ref13_check_B rec_ x0 x1 x2).2.1), vi ((ref13_check_B rec_ x0 x1 x2).2.2)]) := by
  obtain ⟨res, hres⟩ : ∃ res, ref13_check_B rec_ x0 x1 x2 = res := ⟨_, rfl⟩
  suffices H : RC Try.prog ac85 [] (QR Try.prog [(6, none), (7, none), (8, none)] (RF85 res)) (argE 0 [v0, vi x1, v2]) ⟨0, []⟩ by
    obtain ⟨r, h1, h2⟩ := fnE text85 (by simp) H
    rw [hres]
    have h2 : r = .tup [vi res.1, vi res.2.1, vi res.2.2] := h2
    rw [← h2]; exact h1
  unfold ref13_check_B at hres
  unfold ac85
  refine rc_seq ?_
  refine rc_region ?_
  refine rd_op (ov_box rfl (TR.cnt expr_Scope.t r2)) ?_
  refine rd_op (v := vi 0) (ov_move rfl) ?_
  refine rd_op (v := vi 0) (ov_move rfl) ?_
  refine rd_op (v := vi 0) (ov_move rfl) ?_
  refine rd_nil ?_
  refine pn_seq ?_
  refine rc_seq ?_
  refine rc_seq ?_
  refine rc_region ?_
  refine rd_op (ov_move rfl) ?_
  refine rd_op (ov_move rfl) ?_
  refine rd_op (ov_bi rfl (sl_len r0 Try.underlying38 _)) ?_
  refine rd_op (ov_bin rfl rfl i_geq) ?_
  refine rd_nil ?_
  refine pn_seq ?_
  refine rc_cond rfl (fun hc101 => ?_) (fun hc101 => ?_)
  · replace hres := (ite_t hc101).symm.trans hres
    have hc101' := hc101
    try simp only [Bool.or_eq_true, Bool.or_eq_false_iff, Bool.and_eq_true, Bool.and_eq_false_imp, decide_eq_true_eq, decide_eq_false_iff_not, Bool.not_eq_true', Bool.not_eq_false', Bool.not_eq_true, Bool.not_eq_false, Bool.not_true, Bool.not_false, ne_eq] at hc101'
    refine rc_seq ?_
    refine rc_region ?_
    refine rd_op (ov_move rfl) ?_
    refine rd_op (v := vi 0) (ov_move rfl) ?_
    refine rd_op (ov_move rfl) ?_
    refine rd_op (v := vi 3) (ov_move rfl) ?_
    refine rd_nil ?_
    refine pn_seq ?_
    subst hres
    exact rc_retV (.tmp rfl (.tmp rfl (.tmp rfl .nil))) (deep_closed (show closed (.tup _) = true from (clL_cons rfl (clL_cons rfl (clL_cons rfl clL_nil))))) rfl
  · replace hres := (ite_f hc101).symm.trans hres
    have hc101' := hc101
    try simp only [Bool.or_eq_true, Bool.or_eq_false_iff, Bool.and_eq_true, Bool.and_eq_false_imp, decide_eq_true_eq, decide_eq_false_iff_not, Bool.not_eq_true', Bool.not_eq_false', Bool.not_eq_true, Bool.not_eq_false, Bool.not_true, Bool.not_false, ne_eq] at hc101'
    refine rc_skip ?_
    refine pn_seq ?_
    refine rc_seq ?_
    refine rc_region ?_
    refine rd_op (ov_move rfl) ?_
    refine rd_op (ov_move rfl) ?_
    obtain ⟨v102, e102, r102⟩ := sl_idx (i := x1) r0 (by omega) (by omega)
    refine rd_op (ov_iaddr rfl rfl e102) ?_
    refine rd_op (ov_faddr rfl (api_ExprNode.g_Op r102)) ?_
    refine rd_op (ov_load rfl rfl rfl) ?_
    obtain ⟨y103, hw103, hres⟩ := let_ex hres
    have f103 := f89_ok (x0 := (ix x0 x1).Op)  
    rw [hw103] at f103
    refine rd_call (cv_fn rfl rfl (clL_cons rfl clL_nil) f103) ?_
    refine rd_op (ov_move rfl) ?_
    refine rd_nil ?_
    refine pn_seq ?_
    refine rc_seq ?_
    refine rc_seq ?_
    refine rc_region ?_
    refine rd_op (ov_move rfl) ?_
    refine rd_op (ov_bin rfl rfl i_lss) ?_
    refine rd_nil ?_
    refine pn_seq ?_
    refine rc_cond rfl (fun hc104 => ?_) (fun hc104 => ?_)
    · replace hres := (ite_t hc104).symm.trans hres
      have hc104' := hc104
      try simp only [Bool.or_eq_true, Bool.or_eq_false_iff, Bool.and_eq_true, Bool.and_eq_false_imp, decide_eq_true_eq, decide_eq_false_iff_not, Bool.not_eq_true', Bool.not_eq_false', Bool.not_eq_true, Bool.not_eq_false, Bool.not_true, Bool.not_false, ne_eq] at hc104'
      refine rc_seq ?_
      refine rc_region ?_
      refine rd_op (ov_move rfl) ?_
      refine rd_op (v := vi 0) (ov_move rfl) ?_
      refine rd_op (ov_move rfl) ?_
      refine rd_op (v := vi 11) (ov_move rfl) ?_
      refine rd_nil ?_
      refine pn_seq ?_
      subst hres
      exact rc_retV (.tmp rfl (.tmp rfl (.tmp rfl .nil))) (deep_closed (show closed (.tup _) = true from (clL_cons rfl (clL_cons rfl (clL_cons rfl clL_nil))))) rfl
    · replace hres := (ite_f hc104).symm.trans hres
      have hc104' := hc104
      try simp only [Bool.or_eq_true, Bool.or_eq_false_iff, Bool.and_eq_true, Bool.and_eq_false_imp, decide_eq_true_eq, decide_eq_false_iff_not, Bool.not_eq_true', Bool.not_eq_false', Bool.not_eq_true, Bool.not_eq_false, Bool.not_true, Bool.not_false, ne_eq] at hc104'
      refine rc_skip ?_
      refine pn_seq ?_
      refine rc_seq ?_
      refine rc_seq ?_
      refine rc_region ?_
      refine rd_op (ov_move rfl) ?_
      refine rd_op (ov_bin rfl rfl i_eql) ?_
      refine rd_nil ?_
      refine pn_seq ?_
      refine rc_cond rfl (fun hc105 => ?_) (fun hc105 => ?_)
      · replace hres := (ite_t hc105).symm.trans hres
        have hc105' := hc105
        try simp only [Bool.or_eq_true, Bool.or_eq_false_iff, Bool.and_eq_true, Bool.and_eq_false_imp, decide_eq_true_eq, decide_eq_false_iff_not, Bool.not_eq_true', Bool.not_eq_false', Bool.not_eq_true, Bool.not_eq_false, Bool.not_true, Bool.not_false, ne_eq] at hc105'
        refine rc_seq ?_
        refine rc_region ?_
        refine rd_op (ov_move rfl) ?_
        refine rd_op (ov_move rfl) ?_
        obtain ⟨v106, e106, r106⟩ := sl_idx (i := x1) r0 (by omega) (by omega)
        refine rd_op (ov_iaddr rfl rfl e106) ?_
        refine rd_op (ov_load rfl (TR.cnt api_ExprNode.t r106) (TR.agg api_ExprNode.t r106)) ?_
        refine rd_op (ov_load rfl (TR.cnt expr_Scope.t r2) (TR.agg expr_Scope.t r2)) ?_
        obtain ⟨y107, hw107, hres⟩ := let_ex hres
        have f107 := f90_ok  r106 r2 
        rw [hw107] at f107
        refine rd_call (cv_fn rfl rfl (clL_cons (TR.clo api_ExprNode.t r106) (clL_cons (TR.clo expr_Scope.t r2) clL_nil)) f107) ?_
        refine rd_op (ov_move rfl) ?_
        refine rd_op (ov_extract rfl rfl) ?_
        refine rd_op (ov_extract rfl rfl) ?_
        refine rd_op (ov_move rfl) ?_
        refine rd_op (ov_move rfl) ?_
        refine rd_nil ?_
        refine pn_seq ?_
        refine rc_seq ?_
        refine rc_region ?_
        refine rd_op (ov_move rfl) ?_
        refine rd_op (ov_move rfl) ?_
        refine rd_op (ov_bin rfl rfl i_add) ?_
        refine rd_op (ov_move rfl) ?_
        refine rd_op (ov_move rfl) ?_
        refine rd_op (ov_move rfl) ?_
        refine rd_op (ov_move rfl) ?_
        refine rd_nil ?_
        refine pn_seq ?_
        subst hres
        exact rc_retV (.tmp rfl (.tmp rfl (.tmp rfl .nil))) (deep_closed (show closed (.tup _) = true from (clL_cons rfl (clL_cons rfl (clL_cons rfl clL_nil))))) rfl
      · replace hres := (ite_f hc105).symm.trans hres
        have hc105' := hc105
        try simp only [Bool.or_eq_true, Bool.or_eq_false_iff, Bool.and_eq_true, Bool.and_eq_false_imp, decide_eq_true_eq, decide_eq_false_iff_not, Bool.not_eq_true', Bool.not_eq_false', Bool.not_eq_true, Bool.not_eq_false, Bool.not_true, Bool.not_false, ne_eq] at hc105'
        refine rc_skip ?_
        refine pn_seq ?_
        refine rc_seq ?_
        refine rc_region ?_
        refine rd_op (v := nilS) (ov_move rfl) ?_
        refine rd_nil ?_
        refine pn_seq ?_
        refine rc_seq ?_
        refine rc_region ?_
        refine rd_op (ov_move rfl) ?_
        refine rd_op (ov_bin rfl rfl i_add) ?_
        refine rd_op (ov_move rfl) ?_
        refine rd_nil ?_
        refine pn_seq ?_
        refine rc_seq ?_
        refine rc_seq ?_
        refine rc_region ?_
        refine rd_op (v := vi 0) (ov_move rfl) ?_
        refine rd_nil ?_
        refine pn_seq ?_
        refine rc_block ?_
        have M108 := mem_acc (sz := 1) (es := []) (Mem.nil ⟨0, []⟩) 3 (.inl ⟨none, rfl, rfl⟩) (by simp)
        refine rc_weak ?_ (ref13_check_L1_ok (x0 := x0) (x1 := x1) (x2 := x2) (rec_ := rec_) (mu_ := mu_) (y103 := y103) (v0 := v0) (v2 := v2)  (r0 := r0) (r2 := r2) (h0 := h0) (hb := hb) (ihR := ihR) (hmu := hmu) (hrec := hrec) (hc101 := hc101) (hw103 := hw103) (hc104 := hc104) (hc105 := hc105) ?_ (Int.toNat (y103 - 0)) (wr (x1 + 1)) 0 ([] : List Int) ([] : List PV) nilS (show All2 tI.R ([] : List Int) [] from trivial) rfl (.inl rfl) (by decide) rfl (by omega) (by first | omega | simp | (rw [wr_of (by omega) (by omega)]; omega)) (by first | omega | simp | (rw [wr_of (by omega) (by omega)]; omega)) (by first | omega | simp | (rw [wr_of (by omega) (by omega)]; omega)) _ (Mem.sub M108 (.cons_cons _ .slnil)) hres)
        · exact ((sub_cons rfl (sub_cons rfl (sub_cons rfl (sub_cons rfl (sub_cons rfl (sub_cons rfl (sub_cons rfl (sub_nil _)))))))))
        · intro x13_116 zE109_116 es116E109 a116E109 q116E109 n116E109 wr116E109 hl116E109 po116_0 h116 M116 hres
          refine px_blk ?_
          refine pn_seq ?_
          refine rc_seq ?_
          refine rc_region ?_
          refine rd_op (ov_move rfl) ?_
          refine rd_op (ov_move rfl) ?_
          obtain ⟨v117, e117, r117⟩ := sl_idx (i := x1) r0 (by omega) (by omega)
          refine rd_op (ov_iaddr rfl rfl e117) ?_
          refine rd_op (ov_load rfl (TR.cnt api_ExprNode.t r117) (TR.agg api_ExprNode.t r117)) ?_
          refine rd_op (ov_move rfl) ?_
          obtain ⟨v119, d119, r119⟩ := own_sl (P := Try.prog) (k := 0) (t := tI) M116 rfl n116E109 q116E109 (Nat.le_trans hl116E109 (by decide))
          obtain ⟨y118, hw118, hres⟩ := let_ex hres
          have f118 := f91_ok  r117 r119 (by first | omega | (have hk := rar (by assumption); omega)) (by first | omega | (have hk := rar (by assumption); omega))
          rw [hw118] at f118
          refine rd_call (cv_lend rfl rfl (dl_cons (deep_closed (TR.clo api_ExprNode.t r117)) (dl_cons d119 dl_nil)) f118 rfl) ?_
          refine rd_op (ov_move rfl) ?_
          refine rd_op (ov_extract rfl rfl) ?_
          refine rd_op (ov_extract rfl rfl) ?_
          refine rd_op (ov_move rfl) ?_
          refine rd_op (ov_move rfl) ?_
          refine rd_nil ?_
          refine pn_seq ?_
          refine rc_seq ?_
          refine rc_region ?_
          refine rd_op (ov_move rfl) ?_
          refine rd_op (ov_move rfl) ?_
          refine rd_op (ov_move rfl) ?_
          refine rd_op (ov_move rfl) ?_
          refine rd_op (ov_move rfl) ?_
          refine rd_op (ov_move rfl) ?_
          refine rd_nil ?_
          refine pn_seq ?_
          subst hres
          exact rc_retV (.tmp rfl (.tmp rfl (.tmp rfl .nil))) (deep_closed (show closed (.tup _) = true from (clL_cons rfl (clL_cons rfl (clL_cons rfl clL_nil))))) rfl
theorem f85_okR : ∀ (n_ : Nat) {x0 : List api_ExprNode} {x1 : Int} {x2 : expr_Scope} {v0 : PV} {v2 : PV} (r0 : (tSl api_ExprNode.t).R x0 v0) (r2 : expr_Scope.t.R x2 v2) (h0 : 0 ≤ x1) (hb : x0.length ≤ 1000000), (x0.length - x1.toNat) < n_ → FnR Try.prog 85 [v0, vi x1, v2] (.tup [vi ((ref13_check_R n_ x0 x1 x2).1), vi ((ref13_check_R n_ x0 x1 x2).2.1), vi ((ref13_check_R n_ x0 x1 x2).2.2)]) := by
  intro n_
  induction n_ with
  | zero => intros; rename_i hlt; exact absurd hlt (Nat.not_lt_zero _)
  | succ n_ ihn =>
    intro x0 x1 x2 v0 v2 r0 r2 h0 hb hlt
    have e_ : ref13_check_R (n_ + 1) x0 x1 x2 = ref13_check_B (ref13_check_R n_) x0 x1 x2 := by rw [ref13_check_R]
    rw [e_]
    exact f85_okB r0 r2 h0 hb rfl (rcheck_next n_) (fun {z0} {z1} {z2} {zv0} {zv2} zr0 zr2 h0 hb hz => ihn zr0 zr2 h0 hb (by omega))
theorem f85_ok {x0 : List api_ExprNode} {x1 : Int} {x2 : expr_Scope} {v0 : PV} {v2 : PV} (r0 : (tSl api_ExprNode.t).R x0 v0) (r2 : expr_Scope.t.R x2 v2) (h0 : 0 ≤ x1) (hb : x0.length ≤ 1000000) : FnR Try.prog 85 [v0, vi x1, v2] (.tup [vi ((ref13_check x0 x1 x2).1), vi ((ref13_check x0 x1 x2).2.1), vi ((ref13_check x0 x1 x2).2.2)]) := f85_okR _ r0 r2 h0 hb (Nat.lt_succ_self _)

end Go.Proofs.Ytkgnjpoafilicaa
