/-
  The code of each function does what its plain program says.
-/
import Derived.Test.YtfcgnnafaoanfaaKNDef
import Derived.Test.YtfcgnnafaoanfaaKNText
import Derived.Test.YtfcgnnafaoanfaaKH
set_option linter.unusedVariables false
set_option linter.unusedSimpArgs false
set_option maxRecDepth 100000
namespace Go.Proofs.Ytfcgnnafaoanfaa.N
open Go Go.Pb Go.RowKit
/-- patchbay/patchbaylaw33.DepsOptimal -/
def RF5 (res : Bool) (r : PV) : Prop := r = vb res
theorem law33_DepsOptimal_L1_ok {S : List Fr} {res : Bool} {x0 : List (List Int)} {x1 : List Int} {y101 : Bool} {y105 : (List Int)} {v0 : PV} {v1 : PV} {v106 : PV} (hw101 : law33_smallMatrix x0 = y101) (hc103 : ((!y101) || (decide (20 < (x1.length : Int)))) = false) (hw105 : deps_EarliestStages x0 = y105) (r106 : (tSl tI).R y105 v106) (hc109 : ((!decide ((y105.length : Int) = (x0.length : Int))) || (!(deps_Satisfied x0 y105))) = false) {K0 : Int → Bool}
    (hK0 : ∀ (x6_ : Int), K0 x6_ = res → PX Try.prog 0 S (QR Try.prog [(4, none)] (RF5 res)) [(0, v0), (1, v1), (5, v106), (6, vi x6_)] ⟨0, []⟩) :
    ∀ (m : Nat) (x6_ : Int) (x7_ : Int) (hm1 : m = Int.toNat ((y105.length : Int) - x7_)) (hlo1 : 0 ≤ x7_), law33_DepsOptimal_L1 y105 K0 m x6_ x7_ = res → RC Try.prog (.loop ac5_L1) S (QR Try.prog [(4, none)] (RF5 res)) [(7, vi x7_), (6, vi x6_), (5, v106), (1, v1), (0, v0)] ⟨0, []⟩ := by
  have hc103' := hc103
  try simp only [Bool.or_eq_true, Bool.or_eq_false_iff, Bool.and_eq_true, Bool.and_eq_false_imp, decide_eq_true_eq, decide_eq_false_iff_not, Bool.not_eq_true', Bool.not_eq_false', Bool.not_eq_true, Bool.not_eq_false, Bool.not_true, Bool.not_false, ne_eq] at hc103'
  have hc109' := hc109
  try simp only [Bool.or_eq_true, Bool.or_eq_false_iff, Bool.and_eq_true, Bool.and_eq_false_imp, decide_eq_true_eq, decide_eq_false_iff_not, Bool.not_eq_true', Bool.not_eq_false', Bool.not_eq_true, Bool.not_eq_false, Bool.not_true, Bool.not_false, ne_eq] at hc109'
  intro m
  induction m with
  | zero =>
    intro x6_ x7_ hm1 hlo1 hres
    rw [law33_DepsOptimal_L1] at hres
    refine rc_loop ?_
    unfold ac5_L1
    refine rc_seq ?_
    refine rc_seq ?_
    refine rc_region ?_
    refine rd_op (ov_move rfl) ?_
    refine rd_op (ov_move rfl) ?_
    refine rd_op (ov_bi rfl (sl_len r106 Try.underlying23 _)) ?_
    refine rd_op (ov_bin rfl rfl i_lss) ?_
    refine rd_nil ?_
    refine pn_seq ?_
    refine rc_cond rfl (fun hc110 => ?_) (fun hc110 => ?_)
    · exfalso
      try simp only [Bool.or_eq_true, Bool.or_eq_false_iff, Bool.and_eq_true, Bool.and_eq_false_imp, decide_eq_true_eq, decide_eq_false_iff_not, Bool.not_eq_true', Bool.not_eq_false', Bool.not_eq_true, Bool.not_eq_false, Bool.not_true, Bool.not_false, ne_eq] at hc110
      omega
    · have hend := hres
      have hc110' := hc110
      try simp only [Bool.or_eq_true, Bool.or_eq_false_iff, Bool.and_eq_true, Bool.and_eq_false_imp, decide_eq_true_eq, decide_eq_false_iff_not, Bool.not_eq_true', Bool.not_eq_false', Bool.not_eq_true, Bool.not_eq_false, Bool.not_true, Bool.not_false, ne_eq] at hc110'
      refine rc_exit ?_
      refine px_seq ?_
      refine px_again ?_
      exact px_weak ((sub_cons rfl (sub_cons rfl (sub_cons rfl (sub_cons rfl (sub_nil _)))))) (hK0 x6_ hres)
  | succ m ih =>
    intro x6_ x7_ hm1 hlo1 hres
    rw [law33_DepsOptimal_L1] at hres
    refine rc_loop ?_
    unfold ac5_L1
    refine rc_seq ?_
    refine rc_seq ?_
    refine rc_region ?_
    refine rd_op (ov_move rfl) ?_
    refine rd_op (ov_move rfl) ?_
    refine rd_op (ov_bi rfl (sl_len r106 Try.underlying23 _)) ?_
    refine rd_op (ov_bin rfl rfl i_lss) ?_
    refine rd_nil ?_
    refine pn_seq ?_
    refine rc_cond rfl (fun hc111 => ?_) (fun hc111 => ?_)
    · have hgo := hres
      have hc111' := hc111
      try simp only [Bool.or_eq_true, Bool.or_eq_false_iff, Bool.and_eq_true, Bool.and_eq_false_imp, decide_eq_true_eq, decide_eq_false_iff_not, Bool.not_eq_true', Bool.not_eq_false', Bool.not_eq_true, Bool.not_eq_false, Bool.not_true, Bool.not_false, ne_eq] at hc111'
      refine rc_skip ?_
      refine pn_seq ?_
      refine rc_seq ?_
      refine rc_block ?_
      refine rc_seq ?_
      refine rc_region ?_
      refine rd_op (ov_move rfl) ?_
      refine rd_op (ov_move rfl) ?_
      refine rd_op (ov_move rfl) ?_
      refine rd_op (ov_iaddr rfl rfl (slI r106 (by first | omega | (have hk := small_len (by assumption) (And.left (by assumption)); omega) | (have hq := crit_len (by assumption : deps_CriticalPath x0 = y114); have e := wr_of (n := x9_ - 1) (by omega) (by omega); rw [e]; omega) | (have hq := crit_len (by assumption : deps_CriticalPath x0 = y114); have e := wr_of (n := x9_ - 1) (by omega) (by omega); have hk := crit_in (i := x9_ - 1) (by assumption : deps_CriticalPath x0 = y114) (by omega) (by omega); rw [e]; omega)) (by first | omega | (have hk := small_len (by assumption) (And.left (by assumption)); omega) | (have hq := crit_len (by assumption : deps_CriticalPath x0 = y114); have e := wr_of (n := x9_ - 1) (by omega) (by omega); rw [e]; omega) | (have hq := crit_len (by assumption : deps_CriticalPath x0 = y114); have e := wr_of (n := x9_ - 1) (by omega) (by omega); have hk := crit_in (i := x9_ - 1) (by assumption : deps_CriticalPath x0 = y114) (by omega) (by omega); rw [e]; omega)))) ?_
      refine rd_op (ov_load rfl rfl rfl) ?_
      refine rd_op (ov_bi rfl (max_int _ _)) ?_
      refine rd_op (ov_move rfl) ?_
      refine rd_nil ?_
      refine pn_seq ?_
      refine rc_seq ?_
      refine rc_region ?_
      refine rd_op (ov_move rfl) ?_
      refine rd_op (ov_move rfl) ?_
      refine rd_op (ov_iaddr rfl rfl (slI r106 (by first | omega | (have hk := small_len (by assumption) (And.left (by assumption)); omega) | (have hq := crit_len (by assumption : deps_CriticalPath x0 = y114); have e := wr_of (n := x9_ - 1) (by omega) (by omega); rw [e]; omega) | (have hq := crit_len (by assumption : deps_CriticalPath x0 = y114); have e := wr_of (n := x9_ - 1) (by omega) (by omega); have hk := crit_in (i := x9_ - 1) (by assumption : deps_CriticalPath x0 = y114) (by omega) (by omega); rw [e]; omega)) (by first | omega | (have hk := small_len (by assumption) (And.left (by assumption)); omega) | (have hq := crit_len (by assumption : deps_CriticalPath x0 = y114); have e := wr_of (n := x9_ - 1) (by omega) (by omega); rw [e]; omega) | (have hq := crit_len (by assumption : deps_CriticalPath x0 = y114); have e := wr_of (n := x9_ - 1) (by omega) (by omega); have hk := crit_in (i := x9_ - 1) (by assumption : deps_CriticalPath x0 = y114) (by omega) (by omega); rw [e]; omega)))) ?_
      refine rd_op (ov_load rfl rfl rfl) ?_
      refine rd_op (ov_bin rfl rfl i_lss) ?_
      refine rd_nil ?_
      refine pn_seq ?_
      refine rc_cond rfl (fun hc112 => ?_) (fun hc112 => ?_)
      · replace hres := (ite_t hc112).symm.trans hres
        have hc112' := hc112
        try simp only [Bool.or_eq_true, Bool.or_eq_false_iff, Bool.and_eq_true, Bool.and_eq_false_imp, decide_eq_true_eq, decide_eq_false_iff_not, Bool.not_eq_true', Bool.not_eq_false', Bool.not_eq_true, Bool.not_eq_false, Bool.not_true, Bool.not_false, ne_eq] at hc112'
        refine rc_seq ?_
        refine rc_region ?_
        refine rd_op (v := vb false) (ov_move rfl) ?_
        refine rd_nil ?_
        refine pn_seq ?_
        subst hres
        exact rc_retV (.tmp rfl .nil) (deep_closed rfl) rfl
      · replace hres := (ite_f hc112).symm.trans hres
        have hc112' := hc112
        try simp only [Bool.or_eq_true, Bool.or_eq_false_iff, Bool.and_eq_true, Bool.and_eq_false_imp, decide_eq_true_eq, decide_eq_false_iff_not, Bool.not_eq_true', Bool.not_eq_false', Bool.not_eq_true, Bool.not_eq_false, Bool.not_true, Bool.not_false, ne_eq] at hc112'
        refine rc_skip ?_
        refine pn_blk ?_
        refine pn_seq ?_
        refine rc_region ?_
        refine rd_op (ov_move rfl) ?_
        refine rd_op (ov_bin rfl rfl i_add) ?_
        refine rd_op (ov_move rfl) ?_
        refine rd_nil ?_
        refine pn_again ?_
        have hbd := sl_bound r106
        have hinc : wr (x7_ + 1) = x7_ + 1 := wr_of (by omega) (by omega)
        rw [hinc]
        refine rc_weak ?_ (ih (max x6_ (ix y105 x7_)) (x7_ + 1)  (by omega) (by omega) hres)
        exact ((sub_cons rfl (sub_cons rfl (sub_cons rfl (sub_cons rfl (sub_cons rfl (sub_nil _)))))))
    · exfalso
      try simp only [Bool.or_eq_true, Bool.or_eq_false_iff, Bool.and_eq_true, Bool.and_eq_false_imp, decide_eq_true_eq, decide_eq_false_iff_not, Bool.not_eq_true', Bool.not_eq_false', Bool.not_eq_true, Bool.not_eq_false, Bool.not_true, Bool.not_false, ne_eq] at hc111
      omega

theorem law33_DepsOptimal_L2_ok {S : List Fr} {res : Bool} {x0 : List (List Int)} {x1 : List Int} {y101 : Bool} {y105 : (List Int)} {x6_113 : Int} {y114 : (List Int)} {y117 : Bool} {v0 : PV} {v1 : PV} {v106 : PV} {v115 : PV} (r0 : (tSl (tSl tI)).R x0 v0) (r1 : (tSl tI).R x1 v1) (hw101 : law33_smallMatrix x0 = y101) (hc103 : ((!y101) || (decide (20 < (x1.length : Int)))) = false) (hw105 : deps_EarliestStages x0 = y105) (hc109 : ((!decide ((y105.length : Int) = (x0.length : Int))) || (!(deps_Satisfied x0 y105))) = false) (hw114 : deps_CriticalPath x0 = y114) (r115 : (tSl tI).R y114 v115) (hc116 : (!decide ((y114.length : Int) = (wr (x6_113 + 1)))) = false) (hw117 : deps_Satisfied x0 x1 = y117) (hc118 : (!y117) = false) (hc120 : (!decide ((x1.length : Int) = (x0.length : Int))) = false) {K2 : Unit → Bool}
    (hK2 : K2 () = res → PX Try.prog 2 S (QR Try.prog [(4, none)] (RF5 res)) [(1, v1), (5, v106)] ⟨0, []⟩) :
    ∀ (m : Nat) (x9_ : Int) (hm2 : m = Int.toNat ((y114.length : Int) - x9_)) (hlo2 : 0 ≤ x9_), law33_DepsOptimal_L2 x0 x1 y114 K2 m x9_ = res → RC Try.prog (.loop ac5_L2) S (QR Try.prog [(4, none)] (RF5 res)) [(9, vi x9_), (8, v115), (5, v106), (1, v1), (0, v0)] ⟨0, []⟩ := by
  have hc103' := hc103
  try simp only [Bool.or_eq_true, Bool.or_eq_false_iff, Bool.and_eq_true, Bool.and_eq_false_imp, decide_eq_true_eq, decide_eq_false_iff_not, Bool.not_eq_true', Bool.not_eq_false', Bool.not_eq_true, Bool.not_eq_false, Bool.not_true, Bool.not_false, ne_eq] at hc103'
  have hc109' := hc109
  try simp only [Bool.or_eq_true, Bool.or_eq_false_iff, Bool.and_eq_true, Bool.and_eq_false_imp, decide_eq_true_eq, decide_eq_false_iff_not, Bool.not_eq_true', Bool.not_eq_false', Bool.not_eq_true, Bool.not_eq_false, Bool.not_true, Bool.not_false, ne_eq] at hc109'
  have hc116' := hc116
  try simp only [Bool.or_eq_true, Bool.or_eq_false_iff, Bool.and_eq_true, Bool.and_eq_false_imp, decide_eq_true_eq, decide_eq_false_iff_not, Bool.not_eq_true', Bool.not_eq_false', Bool.not_eq_true, Bool.not_eq_false, Bool.not_true, Bool.not_false, ne_eq] at hc116'
  have hc118' := hc118
  try simp only [Bool.or_eq_true, Bool.or_eq_false_iff, Bool.and_eq_true, Bool.and_eq_false_imp, decide_eq_true_eq, decide_eq_false_iff_not, Bool.not_eq_true', Bool.not_eq_false', Bool.not_eq_true, Bool.not_eq_false, Bool.not_true, Bool.not_false, ne_eq] at hc118'
  have hc120' := hc120
  try simp only [Bool.or_eq_true, Bool.or_eq_false_iff, Bool.and_eq_true, Bool.and_eq_false_imp, decide_eq_true_eq, decide_eq_false_iff_not, Bool.not_eq_true', Bool.not_eq_false', Bool.not_eq_true, Bool.not_eq_false, Bool.not_true, Bool.not_false, ne_eq] at hc120'
  intro m
  induction m with
  | zero =>
    intro x9_ hm2 hlo2 hres
    rw [law33_DepsOptimal_L2] at hres
    refine rc_loop ?_
    unfold ac5_L2
    refine rc_seq ?_
    refine rc_seq ?_
    refine rc_region ?_
    refine rd_op (ov_move rfl) ?_
    refine rd_op (ov_move rfl) ?_
    refine rd_op (ov_bi rfl (sl_len r115 Try.underlying23 _)) ?_
    refine rd_op (ov_bin rfl rfl i_lss) ?_
    refine rd_nil ?_
    refine pn_seq ?_
    refine rc_cond rfl (fun hc121 => ?_) (fun hc121 => ?_)
    · exfalso
      try simp only [Bool.or_eq_true, Bool.or_eq_false_iff, Bool.and_eq_true, Bool.and_eq_false_imp, decide_eq_true_eq, decide_eq_false_iff_not, Bool.not_eq_true', Bool.not_eq_false', Bool.not_eq_true, Bool.not_eq_false, Bool.not_true, Bool.not_false, ne_eq] at hc121
      omega
    · have hend := hres
      have hc121' := hc121
      try simp only [Bool.or_eq_true, Bool.or_eq_false_iff, Bool.and_eq_true, Bool.and_eq_false_imp, decide_eq_true_eq, decide_eq_false_iff_not, Bool.not_eq_true', Bool.not_eq_false', Bool.not_eq_true, Bool.not_eq_false, Bool.not_true, Bool.not_false, ne_eq] at hc121'
      refine rc_exit ?_
      refine px_seq ?_
      refine px_again ?_
      exact px_weak ((sub_cons rfl (sub_cons rfl (sub_nil _)))) (hK2  hres)
  | succ m ih =>
    intro x9_ hm2 hlo2 hres
    rw [law33_DepsOptimal_L2] at hres
    refine rc_loop ?_
    unfold ac5_L2
    refine rc_seq ?_
    refine rc_seq ?_
    refine rc_region ?_
    refine rd_op (ov_move rfl) ?_
    refine rd_op (ov_move rfl) ?_
    refine rd_op (ov_bi rfl (sl_len r115 Try.underlying23 _)) ?_
    refine rd_op (ov_bin rfl rfl i_lss) ?_
    refine rd_nil ?_
    refine pn_seq ?_
    refine rc_cond rfl (fun hc122 => ?_) (fun hc122 => ?_)
    · have hgo := hres
      have hc122' := hc122
      try simp only [Bool.or_eq_true, Bool.or_eq_false_iff, Bool.and_eq_true, Bool.and_eq_false_imp, decide_eq_true_eq, decide_eq_false_iff_not, Bool.not_eq_true', Bool.not_eq_false', Bool.not_eq_true, Bool.not_eq_false, Bool.not_true, Bool.not_false, ne_eq] at hc122'
      refine rc_skip ?_
      refine pn_seq ?_
      refine rc_seq ?_
      refine rc_block ?_
      refine rc_seq ?_
      refine rc_region ?_
      refine rd_op (ov_move rfl) ?_
      refine rd_op (ov_move rfl) ?_
      refine rd_op (ov_iaddr rfl rfl (slI r115 (by first | omega | (have hk := small_len (by assumption) (And.left (by assumption)); omega) | (have hq := crit_len (by assumption : deps_CriticalPath x0 = y114); have e := wr_of (n := x9_ - 1) (by omega) (by omega); rw [e]; omega) | (have hq := crit_len (by assumption : deps_CriticalPath x0 = y114); have e := wr_of (n := x9_ - 1) (by omega) (by omega); have hk := crit_in (i := x9_ - 1) (by assumption : deps_CriticalPath x0 = y114) (by omega) (by omega); rw [e]; omega)) (by first | omega | (have hk := small_len (by assumption) (And.left (by assumption)); omega) | (have hq := crit_len (by assumption : deps_CriticalPath x0 = y114); have e := wr_of (n := x9_ - 1) (by omega) (by omega); rw [e]; omega) | (have hq := crit_len (by assumption : deps_CriticalPath x0 = y114); have e := wr_of (n := x9_ - 1) (by omega) (by omega); have hk := crit_in (i := x9_ - 1) (by assumption : deps_CriticalPath x0 = y114) (by omega) (by omega); rw [e]; omega)))) ?_
      refine rd_op (ov_load rfl rfl rfl) ?_
      refine rd_op (ov_bin rfl rfl i_lss) ?_
      refine rd_op (ov_move rfl) ?_
      refine rd_cut (d := 87) (v := vb ((decide ((ix y114 x9_) < 0)) || (decide ((x0.length : Int) ≤ (ix y114 x9_))))) ?_ ?_
      · intro S Q r
        simp only [ac5_G3, List.cons_append, List.nil_append, List.append_assoc]
        cases hb123 : (decide ((ix y114 x9_) < 0))
        · intro k
          have hb123' := hb123
          try simp only [Bool.or_eq_true, Bool.or_eq_false_iff, Bool.and_eq_true, Bool.and_eq_false_imp, decide_eq_true_eq, decide_eq_false_iff_not, Bool.not_eq_true', Bool.not_eq_false', Bool.not_eq_true, Bool.not_eq_false, Bool.not_true, Bool.not_false, ne_eq] at hb123'
          refine rd_yes rfl rfl (ov_move rfl) ?_
          refine rd_yes rfl rfl (ov_move rfl) ?_
          refine rd_yes rfl rfl (ov_iaddr rfl rfl (slI r115 (by first | omega | (have hk := small_len (by assumption) (And.left (by assumption)); omega) | (have hq := crit_len (by assumption : deps_CriticalPath x0 = y114); have e := wr_of (n := x9_ - 1) (by omega) (by omega); rw [e]; omega) | (have hq := crit_len (by assumption : deps_CriticalPath x0 = y114); have e := wr_of (n := x9_ - 1) (by omega) (by omega); have hk := crit_in (i := x9_ - 1) (by assumption : deps_CriticalPath x0 = y114) (by omega) (by omega); rw [e]; omega)) (by first | omega | (have hk := small_len (by assumption) (And.left (by assumption)); omega) | (have hq := crit_len (by assumption : deps_CriticalPath x0 = y114); have e := wr_of (n := x9_ - 1) (by omega) (by omega); rw [e]; omega) | (have hq := crit_len (by assumption : deps_CriticalPath x0 = y114); have e := wr_of (n := x9_ - 1) (by omega) (by omega); have hk := crit_in (i := x9_ - 1) (by assumption : deps_CriticalPath x0 = y114) (by omega) (by omega); rw [e]; omega)))) ?_
          refine rd_yes rfl rfl (ov_load rfl rfl rfl) ?_
          refine rd_yes rfl rfl (ov_move rfl) ?_
          refine rd_yes rfl rfl (ov_bi rfl (sl_len r0 Try.underlying22 _)) ?_
          refine rd_yes rfl rfl (ov_bin rfl rfl i_geq) ?_
          refine rd_op (v := vb (decide ((x0.length : Int) ≤ (ix y114 x9_)))) (ov_pick rfl rfl rfl rfl) ?_
          exact rd_weak (sub_cons rfl (sub_skip rfl (sub_skip rfl (sub_skip rfl (sub_skip rfl (sub_skip rfl (sub_skip rfl (sub_skip rfl (sub_skip rfl (sub_refl _)))))))))) k
        · intro k
          refine rd_skip rfl rfl ?_
          refine rd_skip rfl rfl ?_
          refine rd_skip rfl rfl ?_
          refine rd_skip rfl rfl ?_
          refine rd_skip rfl rfl ?_
          refine rd_skip rfl rfl ?_
          refine rd_skip rfl rfl ?_
          refine rd_op (v := vb true) (ov_pick rfl rfl rfl rfl) ?_
          exact rd_weak (sub_cons rfl (sub_skip rfl (sub_skip rfl (sub_skip rfl (sub_skip rfl (sub_skip rfl (sub_skip rfl (sub_skip rfl (sub_skip rfl (sub_refl _)))))))))) k
      refine rd_op (ov_move rfl) ?_
      refine rd_cut (d := 109) (v := vb (((decide ((ix y114 x9_) < 0)) || (decide ((x0.length : Int) ≤ (ix y114 x9_)))) || ((decide (0 < x9_)) && (decide ((ix x1 (ix y114 x9_)) ≤ (ix x1 (ix y114 (wr (x9_ - 1))))))))) ?_ ?_
      · intro S Q r
        simp only [ac5_G4, List.cons_append, List.nil_append, List.append_assoc]
        cases hb124 : ((decide ((ix y114 x9_) < 0)) || (decide ((x0.length : Int) ≤ (ix y114 x9_))))
        · intro k
          have hb124' := hb124
          try simp only [Bool.or_eq_true, Bool.or_eq_false_iff, Bool.and_eq_true, Bool.and_eq_false_imp, decide_eq_true_eq, decide_eq_false_iff_not, Bool.not_eq_true', Bool.not_eq_false', Bool.not_eq_true, Bool.not_eq_false, Bool.not_true, Bool.not_false, ne_eq] at hb124'
          refine rd_yes rfl rfl (ov_move rfl) ?_
          refine rd_yes rfl rfl (ov_bin rfl rfl i_gtr) ?_
          refine rd_yes rfl rfl (ov_move rfl) ?_
          refine rd_cut (d := 108) (v := vb ((decide (0 < x9_)) && (decide ((ix x1 (ix y114 x9_)) ≤ (ix x1 (ix y114 (wr (x9_ - 1)))))))) ?_ ?_
          · intro S Q r
            simp only [ac5_G5, List.cons_append, List.nil_append, List.append_assoc]
            cases hb125 : (decide (0 < x9_))
            · intro k
              refine rd_skip rfl rfl ?_
              refine rd_skip rfl rfl ?_
              refine rd_skip rfl rfl ?_
              refine rd_skip rfl rfl ?_
              refine rd_skip rfl rfl ?_
              refine rd_skip rfl rfl ?_
              refine rd_skip rfl rfl ?_
              refine rd_skip rfl rfl ?_
              refine rd_skip rfl rfl ?_
              refine rd_skip rfl rfl ?_
              refine rd_skip rfl rfl ?_
              refine rd_skip rfl rfl ?_
              refine rd_skip rfl rfl ?_
              refine rd_skip rfl rfl ?_
              refine rd_skip rfl rfl ?_
              refine rd_skip rfl rfl ?_
              refine rd_yes (v := vb false) rfl rfl (ov_pick rfl rfl rfl rfl) ?_
              exact rd_weak (sub_cons rfl (sub_skip rfl (sub_skip rfl (sub_skip rfl (sub_skip rfl (sub_skip rfl (sub_skip rfl (sub_skip rfl (sub_skip rfl (sub_skip rfl (sub_skip rfl (sub_skip rfl (sub_skip rfl (sub_skip rfl (sub_skip rfl (sub_skip rfl (sub_skip rfl (sub_skip rfl (sub_refl _))))))))))))))))))) k
            · intro k
              have hb125' := hb125
              try simp only [Bool.or_eq_true, Bool.or_eq_false_iff, Bool.and_eq_true, Bool.and_eq_false_imp, decide_eq_true_eq, decide_eq_false_iff_not, Bool.not_eq_true', Bool.not_eq_false', Bool.not_eq_true, Bool.not_eq_false, Bool.not_true, Bool.not_false, ne_eq] at hb125'
              refine rd_yes rfl rfl (ov_move rfl) ?_
              refine rd_yes rfl rfl (ov_move rfl) ?_
              refine rd_yes rfl rfl (ov_move rfl) ?_
              refine rd_yes rfl rfl (ov_iaddr rfl rfl (slI r115 (by first | omega | (have hk := small_len (by assumption) (And.left (by assumption)); omega) | (have hq := crit_len (by assumption : deps_CriticalPath x0 = y114); have e := wr_of (n := x9_ - 1) (by omega) (by omega); rw [e]; omega) | (have hq := crit_len (by assumption : deps_CriticalPath x0 = y114); have e := wr_of (n := x9_ - 1) (by omega) (by omega); have hk := crit_in (i := x9_ - 1) (by assumption : deps_CriticalPath x0 = y114) (by omega) (by omega); rw [e]; omega)) (by first | omega | (have hk := small_len (by assumption) (And.left (by assumption)); omega) | (have hq := crit_len (by assumption : deps_CriticalPath x0 = y114); have e := wr_of (n := x9_ - 1) (by omega) (by omega); rw [e]; omega) | (have hq := crit_len (by assumption : deps_CriticalPath x0 = y114); have e := wr_of (n := x9_ - 1) (by omega) (by omega); have hk := crit_in (i := x9_ - 1) (by assumption : deps_CriticalPath x0 = y114) (by omega) (by omega); rw [e]; omega)))) ?_
              refine rd_yes rfl rfl (ov_load rfl rfl rfl) ?_
              refine rd_yes rfl rfl (ov_iaddr rfl rfl (slI r1 (by first | omega | (have hk := small_len (by assumption) (And.left (by assumption)); omega) | (have hq := crit_len (by assumption : deps_CriticalPath x0 = y114); have e := wr_of (n := x9_ - 1) (by omega) (by omega); rw [e]; omega) | (have hq := crit_len (by assumption : deps_CriticalPath x0 = y114); have e := wr_of (n := x9_ - 1) (by omega) (by omega); have hk := crit_in (i := x9_ - 1) (by assumption : deps_CriticalPath x0 = y114) (by omega) (by omega); rw [e]; omega)) (by first | omega | (have hk := small_len (by assumption) (And.left (by assumption)); omega) | (have hq := crit_len (by assumption : deps_CriticalPath x0 = y114); have e := wr_of (n := x9_ - 1) (by omega) (by omega); rw [e]; omega) | (have hq := crit_len (by assumption : deps_CriticalPath x0 = y114); have e := wr_of (n := x9_ - 1) (by omega) (by omega); have hk := crit_in (i := x9_ - 1) (by assumption : deps_CriticalPath x0 = y114) (by omega) (by omega); rw [e]; omega)))) ?_
              refine rd_yes rfl rfl (ov_load rfl rfl rfl) ?_
              refine rd_yes rfl rfl (ov_move rfl) ?_
              refine rd_yes rfl rfl (ov_move rfl) ?_
              refine rd_yes rfl rfl (ov_move rfl) ?_
              refine rd_yes rfl rfl (ov_bin rfl rfl i_sub) ?_
              refine rd_yes rfl rfl (ov_iaddr rfl rfl (slI r115 (by first | omega | (have hk := small_len (by assumption) (And.left (by assumption)); omega) | (have hq := crit_len (by assumption : deps_CriticalPath x0 = y114); have e := wr_of (n := x9_ - 1) (by omega) (by omega); rw [e]; omega) | (have hq := crit_len (by assumption : deps_CriticalPath x0 = y114); have e := wr_of (n := x9_ - 1) (by omega) (by omega); have hk := crit_in (i := x9_ - 1) (by assumption : deps_CriticalPath x0 = y114) (by omega) (by omega); rw [e]; omega)) (by first | omega | (have hk := small_len (by assumption) (And.left (by assumption)); omega) | (have hq := crit_len (by assumption : deps_CriticalPath x0 = y114); have e := wr_of (n := x9_ - 1) (by omega) (by omega); rw [e]; omega) | (have hq := crit_len (by assumption : deps_CriticalPath x0 = y114); have e := wr_of (n := x9_ - 1) (by omega) (by omega); have hk := crit_in (i := x9_ - 1) (by assumption : deps_CriticalPath x0 = y114) (by omega) (by omega); rw [e]; omega)))) ?_
              refine rd_yes rfl rfl (ov_load rfl rfl rfl) ?_
              refine rd_yes rfl rfl (ov_iaddr rfl rfl (slI r1 (by first | omega | (have hk := small_len (by assumption) (And.left (by assumption)); omega) | (have hq := crit_len (by assumption : deps_CriticalPath x0 = y114); have e := wr_of (n := x9_ - 1) (by omega) (by omega); rw [e]; omega) | (have hq := crit_len (by assumption : deps_CriticalPath x0 = y114); have e := wr_of (n := x9_ - 1) (by omega) (by omega); have hk := crit_in (i := x9_ - 1) (by assumption : deps_CriticalPath x0 = y114) (by omega) (by omega); rw [e]; omega)) (by first | omega | (have hk := small_len (by assumption) (And.left (by assumption)); omega) | (have hq := crit_len (by assumption : deps_CriticalPath x0 = y114); have e := wr_of (n := x9_ - 1) (by omega) (by omega); rw [e]; omega) | (have hq := crit_len (by assumption : deps_CriticalPath x0 = y114); have e := wr_of (n := x9_ - 1) (by omega) (by omega); have hk := crit_in (i := x9_ - 1) (by assumption : deps_CriticalPath x0 = y114) (by omega) (by omega); rw [e]; omega)))) ?_
              refine rd_yes rfl rfl (ov_load rfl rfl rfl) ?_
              refine rd_yes rfl rfl (ov_bin rfl rfl i_leq) ?_
              refine rd_yes (v := vb (decide ((ix x1 (ix y114 x9_)) ≤ (ix x1 (ix y114 (wr (x9_ - 1))))))) rfl rfl (ov_pick rfl rfl rfl rfl) ?_
              exact rd_weak (sub_cons rfl (sub_skip rfl (sub_skip rfl (sub_skip rfl (sub_skip rfl (sub_skip rfl (sub_skip rfl (sub_skip rfl (sub_skip rfl (sub_skip rfl (sub_skip rfl (sub_skip rfl (sub_skip rfl (sub_skip rfl (sub_skip rfl (sub_skip rfl (sub_skip rfl (sub_skip rfl (sub_refl _))))))))))))))))))) k
          refine rd_op (v := vb ((decide (0 < x9_)) && (decide ((ix x1 (ix y114 x9_)) ≤ (ix x1 (ix y114 (wr (x9_ - 1)))))))) (ov_pick rfl rfl rfl rfl) ?_
          exact rd_weak (sub_cons rfl (sub_skip rfl (sub_skip rfl (sub_skip rfl (sub_skip rfl (sub_skip rfl (sub_refl _))))))) k
        · intro k
          simp only [ac5_G5, List.cons_append, List.nil_append, List.append_assoc]
          refine rd_skip rfl rfl ?_
          refine rd_skip rfl rfl ?_
          refine rd_skip rfl rfl ?_
          refine rd_skipU rfl ?_
          refine rd_skipU rfl ?_
          refine rd_skipU rfl ?_
          refine rd_skipU rfl ?_
          refine rd_skipU rfl ?_
          refine rd_skipU rfl ?_
          refine rd_skipU rfl ?_
          refine rd_skipU rfl ?_
          refine rd_skipU rfl ?_
          refine rd_skipU rfl ?_
          refine rd_skipU rfl ?_
          refine rd_skipU rfl ?_
          refine rd_skipU rfl ?_
          refine rd_skipU rfl ?_
          refine rd_skipU rfl ?_
          refine rd_skipU rfl ?_
          refine rd_skip rfl rfl ?_
          refine rd_op (v := vb true) (ov_pick rfl rfl rfl rfl) ?_
          exact rd_weak (sub_cons rfl (sub_skip rfl (sub_skip rfl (sub_skip rfl (sub_skip rfl (sub_skip rfl (sub_skip rfl (sub_skip rfl (sub_skip rfl (sub_skip rfl (sub_skip rfl (sub_skip rfl (sub_skip rfl (sub_skip rfl (sub_skip rfl (sub_skip rfl (sub_skip rfl (sub_skip rfl (sub_skip rfl (sub_skip rfl (sub_skip rfl (sub_skip rfl (sub_refl _))))))))))))))))))))))) k
      refine rd_nil ?_
      refine pn_seq ?_
      refine rc_cond rfl (fun hc126 => ?_) (fun hc126 => ?_)
      · replace hres := (ite_t hc126).symm.trans hres
        have hc126' := hc126
        try simp only [Bool.or_eq_true, Bool.or_eq_false_iff, Bool.and_eq_true, Bool.and_eq_false_imp, decide_eq_true_eq, decide_eq_false_iff_not, Bool.not_eq_true', Bool.not_eq_false', Bool.not_eq_true, Bool.not_eq_false, Bool.not_true, Bool.not_false, ne_eq] at hc126'
        refine rc_seq ?_
        refine rc_region ?_
        refine rd_op (v := vb false) (ov_move rfl) ?_
        refine rd_nil ?_
        refine pn_seq ?_
        subst hres
        exact rc_retV (.tmp rfl .nil) (deep_closed rfl) rfl
      · replace hres := (ite_f hc126).symm.trans hres
        have hc126' := hc126
        try simp only [Bool.or_eq_true, Bool.or_eq_false_iff, Bool.and_eq_true, Bool.and_eq_false_imp, decide_eq_true_eq, decide_eq_false_iff_not, Bool.not_eq_true', Bool.not_eq_false', Bool.not_eq_true, Bool.not_eq_false, Bool.not_true, Bool.not_false, ne_eq] at hc126'
        refine rc_skip ?_
        refine pn_blk ?_
        refine pn_seq ?_
        refine rc_region ?_
        refine rd_op (ov_move rfl) ?_
        refine rd_op (ov_bin rfl rfl i_add) ?_
        refine rd_op (ov_move rfl) ?_
        refine rd_nil ?_
        refine pn_again ?_
        have hbd := sl_bound r115
        have hinc : wr (x9_ + 1) = x9_ + 1 := wr_of (by omega) (by omega)
        rw [hinc]
        refine rc_weak ?_ (ih (x9_ + 1)  (by omega) (by omega) hres)
        exact ((sub_cons rfl (sub_cons rfl (sub_cons rfl (sub_cons rfl (sub_cons rfl (sub_nil _)))))))
    · exfalso
      try simp only [Bool.or_eq_true, Bool.or_eq_false_iff, Bool.and_eq_true, Bool.and_eq_false_imp, decide_eq_true_eq, decide_eq_false_iff_not, Bool.not_eq_true', Bool.not_eq_false', Bool.not_eq_true, Bool.not_eq_false, Bool.not_true, Bool.not_false, ne_eq] at hc122
      omega

theorem law33_DepsOptimal_L3_ok {S : List Fr} {res : Bool} {x0 : List (List Int)} {x1 : List Int} {y101 : Bool} {y105 : (List Int)} {x6_113 : Int} {y114 : (List Int)} {y117 : Bool} {v1 : PV} {v106 : PV} (r1 : (tSl tI).R x1 v1) (hw101 : law33_smallMatrix x0 = y101) (hc103 : ((!y101) || (decide (20 < (x1.length : Int)))) = false) (hw105 : deps_EarliestStages x0 = y105) (hc109 : ((!decide ((y105.length : Int) = (x0.length : Int))) || (!(deps_Satisfied x0 y105))) = false) (hw114 : deps_CriticalPath x0 = y114) (hc116 : (!decide ((y114.length : Int) = (wr (x6_113 + 1)))) = false) (hw117 : deps_Satisfied x0 x1 = y117) (hc118 : (!y117) = false) (hc120 : (!decide ((x1.length : Int) = (x0.length : Int))) = false) {K4 : Unit → Bool}
    (hK4 : K4 () = res → PX Try.prog 4 S (QR Try.prog [(4, none)] (RF5 res)) [(1, v1), (5, v106)] ⟨0, []⟩) :
    ∀ (m : Nat) (x10_ : Int) (hm3 : m = Int.toNat ((x1.length : Int) - x10_)) (hlo3 : 0 ≤ x10_), law33_DepsOptimal_L3 x1 K4 m x10_ = res → RC Try.prog (.loop ac5_L3) S (QR Try.prog [(4, none)] (RF5 res)) [(10, vi x10_), (5, v106), (1, v1)] ⟨0, []⟩ := by
  have hc103' := hc103
  try simp only [Bool.or_eq_true, Bool.or_eq_false_iff, Bool.and_eq_true, Bool.and_eq_false_imp, decide_eq_true_eq, decide_eq_false_iff_not, Bool.not_eq_true', Bool.not_eq_false', Bool.not_eq_true, Bool.not_eq_false, Bool.not_true, Bool.not_false, ne_eq] at hc103'
  have hc109' := hc109
  try simp only [Bool.or_eq_true, Bool.or_eq_false_iff, Bool.and_eq_true, Bool.and_eq_false_imp, decide_eq_true_eq, decide_eq_false_iff_not, Bool.not_eq_true', Bool.not_eq_false', Bool.not_eq_true, Bool.not_eq_false, Bool.not_true, Bool.not_false, ne_eq] at hc109'
  have hc116' := hc116
  try simp only [Bool.or_eq_true, Bool.or_eq_false_iff, Bool.and_eq_true, Bool.and_eq_false_imp, decide_eq_true_eq, decide_eq_false_iff_not, Bool.not_eq_true', Bool.not_eq_false', Bool.not_eq_true, Bool.not_eq_false, Bool.not_true, Bool.not_false, ne_eq] at hc116'
  have hc118' := hc118
  try simp only [Bool.or_eq_true, Bool.or_eq_false_iff, Bool.and_eq_true, Bool.and_eq_false_imp, decide_eq_true_eq, decide_eq_false_iff_not, Bool.not_eq_true', Bool.not_eq_false', Bool.not_eq_true, Bool.not_eq_false, Bool.not_true, Bool.not_false, ne_eq] at hc118'
  have hc120' := hc120
  try simp only [Bool.or_eq_true, Bool.or_eq_false_iff, Bool.and_eq_true, Bool.and_eq_false_imp, decide_eq_true_eq, decide_eq_false_iff_not, Bool.not_eq_true', Bool.not_eq_false', Bool.not_eq_true, Bool.not_eq_false, Bool.not_true, Bool.not_false, ne_eq] at hc120'
  intro m
  induction m with
  | zero =>
    intro x10_ hm3 hlo3 hres
    rw [law33_DepsOptimal_L3] at hres
    refine rc_loop ?_
    unfold ac5_L3
    refine rc_seq ?_
    refine rc_seq ?_
    refine rc_region ?_
    refine rd_op (ov_move rfl) ?_
    refine rd_op (ov_move rfl) ?_
    refine rd_op (ov_bi rfl (sl_len r1 Try.underlying23 _)) ?_
    refine rd_op (ov_bin rfl rfl i_lss) ?_
    refine rd_nil ?_
    refine pn_seq ?_
    refine rc_cond rfl (fun hc128 => ?_) (fun hc128 => ?_)
    · exfalso
      try simp only [Bool.or_eq_true, Bool.or_eq_false_iff, Bool.and_eq_true, Bool.and_eq_false_imp, decide_eq_true_eq, decide_eq_false_iff_not, Bool.not_eq_true', Bool.not_eq_false', Bool.not_eq_true, Bool.not_eq_false, Bool.not_true, Bool.not_false, ne_eq] at hc128
      omega
    · have hend := hres
      have hc128' := hc128
      try simp only [Bool.or_eq_true, Bool.or_eq_false_iff, Bool.and_eq_true, Bool.and_eq_false_imp, decide_eq_true_eq, decide_eq_false_iff_not, Bool.not_eq_true', Bool.not_eq_false', Bool.not_eq_true, Bool.not_eq_false, Bool.not_true, Bool.not_false, ne_eq] at hc128'
      refine rc_exit ?_
      refine px_seq ?_
      refine px_again ?_
      exact px_weak ((sub_cons rfl (sub_cons rfl (sub_nil _)))) (hK4  hres)
  | succ m ih =>
    intro x10_ hm3 hlo3 hres
    rw [law33_DepsOptimal_L3] at hres
    refine rc_loop ?_
    unfold ac5_L3
    refine rc_seq ?_
    refine rc_seq ?_
    refine rc_region ?_
    refine rd_op (ov_move rfl) ?_
    refine rd_op (ov_move rfl) ?_
    refine rd_op (ov_bi rfl (sl_len r1 Try.underlying23 _)) ?_
    refine rd_op (ov_bin rfl rfl i_lss) ?_
    refine rd_nil ?_
    refine pn_seq ?_
    refine rc_cond rfl (fun hc129 => ?_) (fun hc129 => ?_)
    · have hgo := hres
      have hc129' := hc129
      try simp only [Bool.or_eq_true, Bool.or_eq_false_iff, Bool.and_eq_true, Bool.and_eq_false_imp, decide_eq_true_eq, decide_eq_false_iff_not, Bool.not_eq_true', Bool.not_eq_false', Bool.not_eq_true, Bool.not_eq_false, Bool.not_true, Bool.not_false, ne_eq] at hc129'
      refine rc_skip ?_
      refine pn_seq ?_
      refine rc_seq ?_
      refine rc_block ?_
      refine rc_seq ?_
      refine rc_region ?_
      refine rd_op (ov_move rfl) ?_
      refine rd_op (ov_move rfl) ?_
      refine rd_op (ov_iaddr rfl rfl (slI r1 (by first | omega | (have hk := small_len (by assumption) (And.left (by assumption)); omega) | (have hq := crit_len (by assumption : deps_CriticalPath x0 = y114); have e := wr_of (n := x9_ - 1) (by omega) (by omega); rw [e]; omega) | (have hq := crit_len (by assumption : deps_CriticalPath x0 = y114); have e := wr_of (n := x9_ - 1) (by omega) (by omega); have hk := crit_in (i := x9_ - 1) (by assumption : deps_CriticalPath x0 = y114) (by omega) (by omega); rw [e]; omega)) (by first | omega | (have hk := small_len (by assumption) (And.left (by assumption)); omega) | (have hq := crit_len (by assumption : deps_CriticalPath x0 = y114); have e := wr_of (n := x9_ - 1) (by omega) (by omega); rw [e]; omega) | (have hq := crit_len (by assumption : deps_CriticalPath x0 = y114); have e := wr_of (n := x9_ - 1) (by omega) (by omega); have hk := crit_in (i := x9_ - 1) (by assumption : deps_CriticalPath x0 = y114) (by omega) (by omega); rw [e]; omega)))) ?_
      refine rd_op (ov_load rfl rfl rfl) ?_
      refine rd_op (ov_bin rfl rfl i_lss) ?_
      refine rd_nil ?_
      refine pn_seq ?_
      refine rc_cond rfl (fun hc130 => ?_) (fun hc130 => ?_)
      · replace hres := (ite_t hc130).symm.trans hres
        have hc130' := hc130
        try simp only [Bool.or_eq_true, Bool.or_eq_false_iff, Bool.and_eq_true, Bool.and_eq_false_imp, decide_eq_true_eq, decide_eq_false_iff_not, Bool.not_eq_true', Bool.not_eq_false', Bool.not_eq_true, Bool.not_eq_false, Bool.not_true, Bool.not_false, ne_eq] at hc130'
        refine rc_seq ?_
        refine rc_region ?_
        obtain ⟨y131, hw131, hres⟩ := let_ex hres
        have f131 := f7_ok   
        rw [hw131] at f131
        refine rd_call (cv_fn rfl rfl clL_nil f131) ?_
        refine rd_op (ov_move rfl) ?_
        refine rd_nil ?_
        refine pn_seq ?_
        subst hres
        exact rc_retV (.tmp rfl .nil) (deep_closed rfl) rfl
      · replace hres := (ite_f hc130).symm.trans hres
        have hc130' := hc130
        try simp only [Bool.or_eq_true, Bool.or_eq_false_iff, Bool.and_eq_true, Bool.and_eq_false_imp, decide_eq_true_eq, decide_eq_false_iff_not, Bool.not_eq_true', Bool.not_eq_false', Bool.not_eq_true, Bool.not_eq_false, Bool.not_true, Bool.not_false, ne_eq] at hc130'
        refine rc_skip ?_
        refine pn_blk ?_
        refine pn_seq ?_
        refine rc_region ?_
        refine rd_op (ov_move rfl) ?_
        refine rd_op (ov_bin rfl rfl i_add) ?_
        refine rd_op (ov_move rfl) ?_
        refine rd_nil ?_
        refine pn_again ?_
        have hbd := sl_bound r1
        have hinc : wr (x10_ + 1) = x10_ + 1 := wr_of (by omega) (by omega)
        rw [hinc]
        refine rc_weak ?_ (ih (x10_ + 1)  (by omega) (by omega) hres)
        exact ((sub_cons rfl (sub_cons rfl (sub_cons rfl (sub_nil _)))))
    · exfalso
      try simp only [Bool.or_eq_true, Bool.or_eq_false_iff, Bool.and_eq_true, Bool.and_eq_false_imp, decide_eq_true_eq, decide_eq_false_iff_not, Bool.not_eq_true', Bool.not_eq_false', Bool.not_eq_true, Bool.not_eq_false, Bool.not_true, Bool.not_false, ne_eq] at hc129
      omega

theorem law33_DepsOptimal_L4_ok {S : List Fr} {res : Bool} {x0 : List (List Int)} {x1 : List Int} {y101 : Bool} {y105 : (List Int)} {x6_113 : Int} {y114 : (List Int)} {y117 : Bool} {v1 : PV} {v106 : PV} (r1 : (tSl tI).R x1 v1) (hw101 : law33_smallMatrix x0 = y101) (hc103 : ((!y101) || (decide (20 < (x1.length : Int)))) = false) (hw105 : deps_EarliestStages x0 = y105) (r106 : (tSl tI).R y105 v106) (hc109 : ((!decide ((y105.length : Int) = (x0.length : Int))) || (!(deps_Satisfied x0 y105))) = false) (hw114 : deps_CriticalPath x0 = y114) (hc116 : (!decide ((y114.length : Int) = (wr (x6_113 + 1)))) = false) (hw117 : deps_Satisfied x0 x1 = y117) (hc118 : (!y117) = false) (hc120 : (!decide ((x1.length : Int) = (x0.length : Int))) = false) {K6 : Unit → Bool}
    (hK6 : K6 () = res → PX Try.prog 6 S (QR Try.prog [(4, none)] (RF5 res)) [] ⟨0, []⟩) :
    ∀ (m : Nat) (x11_ : Int) (hm4 : m = Int.toNat ((x1.length : Int) - x11_)) (hlo4 : 0 ≤ x11_), law33_DepsOptimal_L4 x1 y105 K6 m x11_ = res → RC Try.prog (.loop ac5_L4) S (QR Try.prog [(4, none)] (RF5 res)) [(11, vi x11_), (5, v106), (1, v1)] ⟨0, []⟩ := by
  have hc103' := hc103
  try simp only [Bool.or_eq_true, Bool.or_eq_false_iff, Bool.and_eq_true, Bool.and_eq_false_imp, decide_eq_true_eq, decide_eq_false_iff_not, Bool.not_eq_true', Bool.not_eq_false', Bool.not_eq_true, Bool.not_eq_false, Bool.not_true, Bool.not_false, ne_eq] at hc103'
  have hc109' := hc109
  try simp only [Bool.or_eq_true, Bool.or_eq_false_iff, Bool.and_eq_true, Bool.and_eq_false_imp, decide_eq_true_eq, decide_eq_false_iff_not, Bool.not_eq_true', Bool.not_eq_false', Bool.not_eq_true, Bool.not_eq_false, Bool.not_true, Bool.not_false, ne_eq] at hc109'
  have hc116' := hc116
  try simp only [Bool.or_eq_true, Bool.or_eq_false_iff, Bool.and_eq_true, Bool.and_eq_false_imp, decide_eq_true_eq, decide_eq_false_iff_not, Bool.not_eq_true', Bool.not_eq_false', Bool.not_eq_true, Bool.not_eq_false, Bool.not_true, Bool.not_false, ne_eq] at hc116'
  have hc118' := hc118
  try simp only [Bool.or_eq_true, Bool.or_eq_false_iff, Bool.and_eq_true, Bool.and_eq_false_imp, decide_eq_true_eq, decide_eq_false_iff_not, Bool.not_eq_true', Bool.not_eq_false', Bool.not_eq_true, Bool.not_eq_false, Bool.not_true, Bool.not_false, ne_eq] at hc118'
  have hc120' := hc120
  try simp only [Bool.or_eq_true, Bool.or_eq_false_iff, Bool.and_eq_true, Bool.and_eq_false_imp, decide_eq_true_eq, decide_eq_false_iff_not, Bool.not_eq_true', Bool.not_eq_false', Bool.not_eq_true, Bool.not_eq_false, Bool.not_true, Bool.not_false, ne_eq] at hc120'
  intro m
  induction m with
  | zero =>
    intro x11_ hm4 hlo4 hres
    rw [law33_DepsOptimal_L4] at hres
    refine rc_loop ?_
    unfold ac5_L4
    refine rc_seq ?_
    refine rc_seq ?_
    refine rc_region ?_
    refine rd_op (ov_move rfl) ?_
    refine rd_op (ov_move rfl) ?_
    refine rd_op (ov_bi rfl (sl_len r1 Try.underlying23 _)) ?_
    refine rd_op (ov_bin rfl rfl i_lss) ?_
    refine rd_nil ?_
    refine pn_seq ?_
    refine rc_cond rfl (fun hc133 => ?_) (fun hc133 => ?_)
    · exfalso
      try simp only [Bool.or_eq_true, Bool.or_eq_false_iff, Bool.and_eq_true, Bool.and_eq_false_imp, decide_eq_true_eq, decide_eq_false_iff_not, Bool.not_eq_true', Bool.not_eq_false', Bool.not_eq_true, Bool.not_eq_false, Bool.not_true, Bool.not_false, ne_eq] at hc133
      omega
    · have hend := hres
      have hc133' := hc133
      try simp only [Bool.or_eq_true, Bool.or_eq_false_iff, Bool.and_eq_true, Bool.and_eq_false_imp, decide_eq_true_eq, decide_eq_false_iff_not, Bool.not_eq_true', Bool.not_eq_false', Bool.not_eq_true, Bool.not_eq_false, Bool.not_true, Bool.not_false, ne_eq] at hc133'
      refine rc_exit ?_
      refine px_seq ?_
      refine px_again ?_
      exact px_weak ((sub_nil _)) (hK6  hres)
  | succ m ih =>
    intro x11_ hm4 hlo4 hres
    rw [law33_DepsOptimal_L4] at hres
    refine rc_loop ?_
    unfold ac5_L4
    refine rc_seq ?_
    refine rc_seq ?_
    refine rc_region ?_
    refine rd_op (ov_move rfl) ?_
    refine rd_op (ov_move rfl) ?_
    refine rd_op (ov_bi rfl (sl_len r1 Try.underlying23 _)) ?_
    refine rd_op (ov_bin rfl rfl i_lss) ?_
    refine rd_nil ?_
    refine pn_seq ?_
    refine rc_cond rfl (fun hc134 => ?_) (fun hc134 => ?_)
    · have hgo := hres
      have hc134' := hc134
      try simp only [Bool.or_eq_true, Bool.or_eq_false_iff, Bool.and_eq_true, Bool.and_eq_false_imp, decide_eq_true_eq, decide_eq_false_iff_not, Bool.not_eq_true', Bool.not_eq_false', Bool.not_eq_true, Bool.not_eq_false, Bool.not_true, Bool.not_false, ne_eq] at hc134'
      refine rc_skip ?_
      refine pn_seq ?_
      refine rc_seq ?_
      refine rc_block ?_
      refine rc_seq ?_
      refine rc_region ?_
      refine rd_op (ov_move rfl) ?_
      refine rd_op (ov_move rfl) ?_
      refine rd_op (ov_iaddr rfl rfl (slI r1 (by first | omega | (have hk := small_len (by assumption) (And.left (by assumption)); omega) | (have hq := crit_len (by assumption : deps_CriticalPath x0 = y114); have e := wr_of (n := x9_ - 1) (by omega) (by omega); rw [e]; omega) | (have hq := crit_len (by assumption : deps_CriticalPath x0 = y114); have e := wr_of (n := x9_ - 1) (by omega) (by omega); have hk := crit_in (i := x9_ - 1) (by assumption : deps_CriticalPath x0 = y114) (by omega) (by omega); rw [e]; omega)) (by first | omega | (have hk := small_len (by assumption) (And.left (by assumption)); omega) | (have hq := crit_len (by assumption : deps_CriticalPath x0 = y114); have e := wr_of (n := x9_ - 1) (by omega) (by omega); rw [e]; omega) | (have hq := crit_len (by assumption : deps_CriticalPath x0 = y114); have e := wr_of (n := x9_ - 1) (by omega) (by omega); have hk := crit_in (i := x9_ - 1) (by assumption : deps_CriticalPath x0 = y114) (by omega) (by omega); rw [e]; omega)))) ?_
      refine rd_op (ov_load rfl rfl rfl) ?_
      refine rd_op (ov_move rfl) ?_
      refine rd_op (ov_move rfl) ?_
      refine rd_op (ov_iaddr rfl rfl (slI r106 (by first | omega | (have hk := small_len (by assumption) (And.left (by assumption)); omega) | (have hq := crit_len (by assumption : deps_CriticalPath x0 = y114); have e := wr_of (n := x9_ - 1) (by omega) (by omega); rw [e]; omega) | (have hq := crit_len (by assumption : deps_CriticalPath x0 = y114); have e := wr_of (n := x9_ - 1) (by omega) (by omega); have hk := crit_in (i := x9_ - 1) (by assumption : deps_CriticalPath x0 = y114) (by omega) (by omega); rw [e]; omega)) (by first | omega | (have hk := small_len (by assumption) (And.left (by assumption)); omega) | (have hq := crit_len (by assumption : deps_CriticalPath x0 = y114); have e := wr_of (n := x9_ - 1) (by omega) (by omega); rw [e]; omega) | (have hq := crit_len (by assumption : deps_CriticalPath x0 = y114); have e := wr_of (n := x9_ - 1) (by omega) (by omega); have hk := crit_in (i := x9_ - 1) (by assumption : deps_CriticalPath x0 = y114) (by omega) (by omega); rw [e]; omega)))) ?_
      refine rd_op (ov_load rfl rfl rfl) ?_
      refine rd_op (ov_bin rfl rfl i_lss) ?_
      refine rd_nil ?_
      refine pn_seq ?_
      refine rc_cond rfl (fun hc135 => ?_) (fun hc135 => ?_)
      · replace hres := (ite_t hc135).symm.trans hres
        have hc135' := hc135
        try simp only [Bool.or_eq_true, Bool.or_eq_false_iff, Bool.and_eq_true, Bool.and_eq_false_imp, decide_eq_true_eq, decide_eq_false_iff_not, Bool.not_eq_true', Bool.not_eq_false', Bool.not_eq_true, Bool.not_eq_false, Bool.not_true, Bool.not_false, ne_eq] at hc135'
        refine rc_seq ?_
        refine rc_region ?_
        refine rd_op (v := vb false) (ov_move rfl) ?_
        refine rd_nil ?_
        refine pn_seq ?_
        subst hres
        exact rc_retV (.tmp rfl .nil) (deep_closed rfl) rfl
      · replace hres := (ite_f hc135).symm.trans hres
        have hc135' := hc135
        try simp only [Bool.or_eq_true, Bool.or_eq_false_iff, Bool.and_eq_true, Bool.and_eq_false_imp, decide_eq_true_eq, decide_eq_false_iff_not, Bool.not_eq_true', Bool.not_eq_false', Bool.not_eq_true, Bool.not_eq_false, Bool.not_true, Bool.not_false, ne_eq] at hc135'
        refine rc_skip ?_
        refine pn_blk ?_
        refine pn_seq ?_
        refine rc_region ?_
        refine rd_op (ov_move rfl) ?_
        refine rd_op (ov_bin rfl rfl i_add) ?_
        refine rd_op (ov_move rfl) ?_
        refine rd_nil ?_
        refine pn_again ?_
        have hbd := sl_bound r1
        have hinc : wr (x11_ + 1) = x11_ + 1 := wr_of (by omega) (by omega)
        rw [hinc]
        refine rc_weak ?_ (ih (x11_ + 1)  (by omega) (by omega) hres)
        exact ((sub_cons rfl (sub_cons rfl (sub_cons rfl (sub_nil _)))))
    · exfalso
      try simp only [Bool.or_eq_true, Bool.or_eq_false_iff, Bool.and_eq_true, Bool.and_eq_false_imp, decide_eq_true_eq, decide_eq_false_iff_not, Bool.not_eq_true', Bool.not_eq_false', Bool.not_eq_true, Bool.not_eq_false, Bool.not_true, Bool.not_false, ne_eq] at hc134
      omega

theorem f5_ok {x0 : List (List Int)} {x1 : List Int} {v0 v1 : PV} (r0 : (tSl (tSl tI)).R x0 v0) (r1 : (tSl tI).R x1 v1) : FnR Try.prog 5 [v0, v1] (vb (law33_DepsOptimal x0 x1)) := by
  obtain ⟨res, hres⟩ : ∃ res, law33_DepsOptimal x0 x1 = res := ⟨_, rfl⟩
  suffices H : RC Try.prog ac5 [] (QR Try.prog [(4, none)] (RF5 res)) (argE 0 [v0, v1]) ⟨0, []⟩ by
    obtain ⟨r, h1, h2⟩ := fnE text5 (by simp) H
    rw [hres]
    have h2 : r = vb res := h2
    rw [← h2]; exact h1
  unfold law33_DepsOptimal at hres
  unfold ac5
  refine rc_seq ?_
  refine rc_region ?_
  refine rd_op (v := vb false) (ov_move rfl) ?_
  refine rd_nil ?_
  refine pn_seq ?_
  refine rc_seq ?_
  refine rc_seq ?_
  refine rc_region ?_
  refine rd_op (ov_move rfl) ?_
  obtain ⟨y101, hw101, hres⟩ := let_ex hres
  have f101 := f6_ok  r0 
  rw [hw101] at f101
  refine rd_call (cv_fn rfl rfl (clL_cons (TR.clo (tSl (tSl tI)) r0) clL_nil) f101) ?_
  refine rd_op (ov_not rfl) ?_
  refine rd_op (ov_move rfl) ?_
  refine rd_cut (d := 19) (v := vb ((!y101) || (decide (20 < (x1.length : Int))))) ?_ ?_
  · intro S Q r
    simp only [ac5_G1, List.cons_append, List.nil_append, List.append_assoc]
    cases hb102 : (!y101)
    · intro k
      have hb102' := hb102
      try simp only [Bool.or_eq_true, Bool.or_eq_false_iff, Bool.and_eq_true, Bool.and_eq_false_imp, decide_eq_true_eq, decide_eq_false_iff_not, Bool.not_eq_true', Bool.not_eq_false', Bool.not_eq_true, Bool.not_eq_false, Bool.not_true, Bool.not_false, ne_eq] at hb102'
      refine rd_yes rfl rfl (ov_move rfl) ?_
      refine rd_yes rfl rfl (ov_bi rfl (sl_len r1 Try.underlying23 _)) ?_
      refine rd_yes rfl rfl (ov_bin rfl rfl i_gtr) ?_
      refine rd_op (v := vb (decide (20 < (x1.length : Int)))) (ov_pick rfl rfl rfl rfl) ?_
      exact rd_weak (sub_cons rfl (sub_skip rfl (sub_skip rfl (sub_skip rfl (sub_skip rfl (sub_refl _)))))) k
    · intro k
      refine rd_skip rfl rfl ?_
      refine rd_skip rfl rfl ?_
      refine rd_skip rfl rfl ?_
      refine rd_op (v := vb true) (ov_pick rfl rfl rfl rfl) ?_
      exact rd_weak (sub_cons rfl (sub_skip rfl (sub_skip rfl (sub_skip rfl (sub_skip rfl (sub_refl _)))))) k
  refine rd_nil ?_
  refine pn_seq ?_
  refine rc_cond rfl (fun hc103 => ?_) (fun hc103 => ?_)
  · replace hres := (ite_t hc103).symm.trans hres
    have hc103' := hc103
    try simp only [Bool.or_eq_true, Bool.or_eq_false_iff, Bool.and_eq_true, Bool.and_eq_false_imp, decide_eq_true_eq, decide_eq_false_iff_not, Bool.not_eq_true', Bool.not_eq_false', Bool.not_eq_true, Bool.not_eq_false, Bool.not_true, Bool.not_false, ne_eq] at hc103'
    refine rc_seq ?_
    refine rc_region ?_
    obtain ⟨y104, hw104, hres⟩ := let_ex hres
    have f104 := f7_ok   
    rw [hw104] at f104
    refine rd_call (cv_fn rfl rfl clL_nil f104) ?_
    refine rd_op (ov_move rfl) ?_
    refine rd_nil ?_
    refine pn_seq ?_
    subst hres
    exact rc_retV (.tmp rfl .nil) (deep_closed rfl) rfl
  · replace hres := (ite_f hc103).symm.trans hres
    have hc103' := hc103
    try simp only [Bool.or_eq_true, Bool.or_eq_false_iff, Bool.and_eq_true, Bool.and_eq_false_imp, decide_eq_true_eq, decide_eq_false_iff_not, Bool.not_eq_true', Bool.not_eq_false', Bool.not_eq_true, Bool.not_eq_false, Bool.not_true, Bool.not_false, ne_eq] at hc103'
    refine rc_skip ?_
    refine pn_seq ?_
    refine rc_seq ?_
    refine rc_region ?_
    refine rd_op (ov_move rfl) ?_
    obtain ⟨y105, hw105, hres⟩ := let_ex hres
    obtain ⟨v106, f105, r106⟩ := f9_ok  r0 (by first | assumption | omega | (have hk := small_len (by assumption) (And.left (by assumption)); omega))
    rw [hw105] at r106
    refine rd_call (cv_fn rfl rfl (clL_cons (TR.clo (tSl (tSl tI)) r0) clL_nil) f105) ?_
    refine rd_op (ov_move rfl) ?_
    refine rd_nil ?_
    refine pn_seq ?_
    refine rc_seq ?_
    refine rc_seq ?_
    refine rc_region ?_
    refine rd_op (ov_move rfl) ?_
    refine rd_op (ov_bi rfl (sl_len r106 Try.underlying23 _)) ?_
    refine rd_op (ov_move rfl) ?_
    refine rd_op (ov_bi rfl (sl_len r0 Try.underlying22 _)) ?_
    refine rd_op (ov_bin rfl rfl i_neq) ?_
    refine rd_op (ov_move rfl) ?_
    refine rd_cut (d := 33) (v := vb ((!decide ((y105.length : Int) = (x0.length : Int))) || (!(deps_Satisfied x0 y105)))) ?_ ?_
    · intro S Q r
      simp only [ac5_G2, List.cons_append, List.nil_append, List.append_assoc]
      cases hb107 : (!decide ((y105.length : Int) = (x0.length : Int)))
      · intro k
        have hb107' := hb107
        try simp only [Bool.or_eq_true, Bool.or_eq_false_iff, Bool.and_eq_true, Bool.and_eq_false_imp, decide_eq_true_eq, decide_eq_false_iff_not, Bool.not_eq_true', Bool.not_eq_false', Bool.not_eq_true, Bool.not_eq_false, Bool.not_true, Bool.not_false, ne_eq] at hb107'
        refine rd_yes rfl rfl (ov_move rfl) ?_
        refine rd_yes rfl rfl (ov_move rfl) ?_
        have f108 := f11_ok  r0 r106 (by first | assumption | omega | (have hk := small_len (by assumption) (And.left (by assumption)); omega))
        refine rd_ycall rfl rfl (cv_fn rfl rfl (clL_cons (TR.clo (tSl (tSl tI)) r0) (clL_cons (TR.clo (tSl tI) r106) clL_nil)) f108) ?_
        refine rd_yes rfl rfl (ov_not rfl) ?_
        refine rd_op (v := vb (!(deps_Satisfied x0 y105))) (ov_pick rfl rfl rfl rfl) ?_
        exact rd_weak (sub_cons rfl (sub_skip rfl (sub_skip rfl (sub_skip rfl (sub_skip rfl (sub_skip rfl (sub_refl _))))))) k
      · intro k
        refine rd_skip rfl rfl ?_
        refine rd_skip rfl rfl ?_
        refine rd_skip rfl rfl ?_
        refine rd_skip rfl rfl ?_
        refine rd_op (v := vb true) (ov_pick rfl rfl rfl rfl) ?_
        exact rd_weak (sub_cons rfl (sub_skip rfl (sub_skip rfl (sub_skip rfl (sub_skip rfl (sub_skip rfl (sub_refl _))))))) k
    refine rd_nil ?_
    refine pn_seq ?_
    refine rc_cond rfl (fun hc109 => ?_) (fun hc109 => ?_)
    · replace hres := (ite_t hc109).symm.trans hres
      have hc109' := hc109
      try simp only [Bool.or_eq_true, Bool.or_eq_false_iff, Bool.and_eq_true, Bool.and_eq_false_imp, decide_eq_true_eq, decide_eq_false_iff_not, Bool.not_eq_true', Bool.not_eq_false', Bool.not_eq_true, Bool.not_eq_false, Bool.not_true, Bool.not_false, ne_eq] at hc109'
      refine rc_seq ?_
      refine rc_region ?_
      refine rd_op (v := vb false) (ov_move rfl) ?_
      refine rd_nil ?_
      refine pn_seq ?_
      subst hres
      exact rc_retV (.tmp rfl .nil) (deep_closed rfl) rfl
    · replace hres := (ite_f hc109).symm.trans hres
      have hc109' := hc109
      try simp only [Bool.or_eq_true, Bool.or_eq_false_iff, Bool.and_eq_true, Bool.and_eq_false_imp, decide_eq_true_eq, decide_eq_false_iff_not, Bool.not_eq_true', Bool.not_eq_false', Bool.not_eq_true, Bool.not_eq_false, Bool.not_true, Bool.not_false, ne_eq] at hc109'
      refine rc_skip ?_
      refine pn_seq ?_
      refine rc_seq ?_
      refine rc_region ?_
      refine rd_op (v := vi (-1)) (ov_move rfl) ?_
      refine rd_nil ?_
      refine pn_seq ?_
      refine rc_seq ?_
      refine rc_seq ?_
      refine rc_region ?_
      refine rd_op (v := vi 0) (ov_move rfl) ?_
      refine rd_nil ?_
      refine pn_seq ?_
      refine rc_block ?_
      refine rc_weak ?_ (law33_DepsOptimal_L1_ok (x0 := x0) (x1 := x1) (y101 := y101) (y105 := y105) (v0 := v0) (v1 := v1) (v106 := v106)  (hw101 := hw101) (hc103 := hc103) (hw105 := hw105) (r106 := r106) (hc109 := hc109) ?_ (Int.toNat ((y105.length : Int) - 0)) (-1) 0 rfl (by omega) hres)
      · exact ((sub_cons rfl (sub_cons rfl (sub_cons rfl (sub_cons rfl (sub_cons rfl (sub_nil _)))))))
      · intro x6_113 hres
        refine px_blk ?_
        refine pn_seq ?_
        refine rc_seq ?_
        refine rc_region ?_
        refine rd_op (ov_move rfl) ?_
        obtain ⟨y114, hw114, hres⟩ := let_ex hres
        obtain ⟨v115, f114, r115⟩ := f13_ok  r0 (by first | assumption | omega | (have hk := small_len (by assumption) (And.left (by assumption)); omega))
        rw [hw114] at r115
        refine rd_call (cv_fn rfl rfl (clL_cons (TR.clo (tSl (tSl tI)) r0) clL_nil) f114) ?_
        refine rd_op (ov_move rfl) ?_
        refine rd_nil ?_
        refine pn_seq ?_
        refine rc_seq ?_
        refine rc_seq ?_
        refine rc_region ?_
        refine rd_op (ov_move rfl) ?_
        refine rd_op (ov_bi rfl (sl_len r115 Try.underlying23 _)) ?_
        refine rd_op (ov_move rfl) ?_
        refine rd_op (ov_bin rfl rfl i_add) ?_
        refine rd_op (ov_bin rfl rfl i_neq) ?_
        refine rd_nil ?_
        refine pn_seq ?_
        refine rc_cond rfl (fun hc116 => ?_) (fun hc116 => ?_)
        · replace hres := (ite_t hc116).symm.trans hres
          have hc116' := hc116
          try simp only [Bool.or_eq_true, Bool.or_eq_false_iff, Bool.and_eq_true, Bool.and_eq_false_imp, decide_eq_true_eq, decide_eq_false_iff_not, Bool.not_eq_true', Bool.not_eq_false', Bool.not_eq_true, Bool.not_eq_false, Bool.not_true, Bool.not_false, ne_eq] at hc116'
          refine rc_seq ?_
          refine rc_region ?_
          refine rd_op (v := vb false) (ov_move rfl) ?_
          refine rd_nil ?_
          refine pn_seq ?_
          subst hres
          exact rc_retV (.tmp rfl .nil) (deep_closed rfl) rfl
        · replace hres := (ite_f hc116).symm.trans hres
          have hc116' := hc116
          try simp only [Bool.or_eq_true, Bool.or_eq_false_iff, Bool.and_eq_true, Bool.and_eq_false_imp, decide_eq_true_eq, decide_eq_false_iff_not, Bool.not_eq_true', Bool.not_eq_false', Bool.not_eq_true, Bool.not_eq_false, Bool.not_true, Bool.not_false, ne_eq] at hc116'
          refine rc_skip ?_
          refine pn_seq ?_
          refine rc_seq ?_
          refine rc_seq ?_
          refine rc_region ?_
          refine rd_op (ov_move rfl) ?_
          refine rd_op (ov_move rfl) ?_
          obtain ⟨y117, hw117, hres⟩ := let_ex hres
          have f117 := f11_ok  r0 r1 (by first | assumption | omega | (have hk := small_len (by assumption) (And.left (by assumption)); omega))
          rw [hw117] at f117
          refine rd_call (cv_fn rfl rfl (clL_cons (TR.clo (tSl (tSl tI)) r0) (clL_cons (TR.clo (tSl tI) r1) clL_nil)) f117) ?_
          refine rd_op (ov_not rfl) ?_
          refine rd_nil ?_
          refine pn_seq ?_
          refine rc_cond rfl (fun hc118 => ?_) (fun hc118 => ?_)
          · replace hres := (ite_t hc118).symm.trans hres
            have hc118' := hc118
            try simp only [Bool.or_eq_true, Bool.or_eq_false_iff, Bool.and_eq_true, Bool.and_eq_false_imp, decide_eq_true_eq, decide_eq_false_iff_not, Bool.not_eq_true', Bool.not_eq_false', Bool.not_eq_true, Bool.not_eq_false, Bool.not_true, Bool.not_false, ne_eq] at hc118'
            refine rc_seq ?_
            refine rc_region ?_
            obtain ⟨y119, hw119, hres⟩ := let_ex hres
            have f119 := f7_ok   
            rw [hw119] at f119
            refine rd_call (cv_fn rfl rfl clL_nil f119) ?_
            refine rd_op (ov_move rfl) ?_
            refine rd_nil ?_
            refine pn_seq ?_
            subst hres
            exact rc_retV (.tmp rfl .nil) (deep_closed rfl) rfl
          · replace hres := (ite_f hc118).symm.trans hres
            have hc118' := hc118
            try simp only [Bool.or_eq_true, Bool.or_eq_false_iff, Bool.and_eq_true, Bool.and_eq_false_imp, decide_eq_true_eq, decide_eq_false_iff_not, Bool.not_eq_true', Bool.not_eq_false', Bool.not_eq_true, Bool.not_eq_false, Bool.not_true, Bool.not_false, ne_eq] at hc118'
            refine rc_skip ?_
            refine pn_seq ?_
            refine rc_seq ?_
            refine rc_seq ?_
            refine rc_region ?_
            refine rd_op (ov_move rfl) ?_
            refine rd_op (ov_bi rfl (sl_len r1 Try.underlying23 _)) ?_
            refine rd_op (ov_move rfl) ?_
            refine rd_op (ov_bi rfl (sl_len r0 Try.underlying22 _)) ?_
            refine rd_op (ov_bin rfl rfl i_neq) ?_
            refine rd_nil ?_
            refine pn_seq ?_
            refine rc_cond rfl (fun hc120 => ?_) (fun hc120 => ?_)
            · replace hres := (ite_t hc120).symm.trans hres
              have hc120' := hc120
              try simp only [Bool.or_eq_true, Bool.or_eq_false_iff, Bool.and_eq_true, Bool.and_eq_false_imp, decide_eq_true_eq, decide_eq_false_iff_not, Bool.not_eq_true', Bool.not_eq_false', Bool.not_eq_true, Bool.not_eq_false, Bool.not_true, Bool.not_false, ne_eq] at hc120'
              refine rc_seq ?_
              refine rc_region ?_
              refine rd_op (v := vb false) (ov_move rfl) ?_
              refine rd_nil ?_
              refine pn_seq ?_
              subst hres
              exact rc_retV (.tmp rfl .nil) (deep_closed rfl) rfl
            · replace hres := (ite_f hc120).symm.trans hres
              have hc120' := hc120
              try simp only [Bool.or_eq_true, Bool.or_eq_false_iff, Bool.and_eq_true, Bool.and_eq_false_imp, decide_eq_true_eq, decide_eq_false_iff_not, Bool.not_eq_true', Bool.not_eq_false', Bool.not_eq_true, Bool.not_eq_false, Bool.not_true, Bool.not_false, ne_eq] at hc120'
              refine rc_skip ?_
              refine pn_seq ?_
              refine rc_seq ?_
              refine rc_seq ?_
              refine rc_region ?_
              refine rd_op (v := vi 0) (ov_move rfl) ?_
              refine rd_nil ?_
              refine pn_seq ?_
              refine rc_block ?_
              refine rc_weak ?_ (law33_DepsOptimal_L2_ok (x0 := x0) (x1 := x1) (y101 := y101) (y105 := y105) (x6_113 := x6_113) (y114 := y114) (y117 := y117) (v0 := v0) (v1 := v1) (v106 := v106) (v115 := v115)  (r0 := r0) (r1 := r1) (hw101 := hw101) (hc103 := hc103) (hw105 := hw105) (hc109 := hc109) (hw114 := hw114) (r115 := r115) (hc116 := hc116) (hw117 := hw117) (hc118 := hc118) (hc120 := hc120) ?_ (Int.toNat ((y114.length : Int) - 0)) 0 rfl (by omega) hres)
              · exact ((sub_cons rfl (sub_cons rfl (sub_cons rfl (sub_cons rfl (sub_cons rfl (sub_nil _)))))))
              · intro  hres
                refine px_blk ?_
                refine pn_seq ?_
                refine rc_seq ?_
                refine rc_seq ?_
                refine rc_region ?_
                refine rd_op (v := vi 0) (ov_move rfl) ?_
                refine rd_nil ?_
                refine pn_seq ?_
                refine rc_block ?_
                refine rc_weak ?_ (law33_DepsOptimal_L3_ok (x0 := x0) (x1 := x1) (y101 := y101) (y105 := y105) (x6_113 := x6_113) (y114 := y114) (y117 := y117) (v1 := v1) (v106 := v106)  (r1 := r1) (hw101 := hw101) (hc103 := hc103) (hw105 := hw105) (hc109 := hc109) (hw114 := hw114) (hc116 := hc116) (hw117 := hw117) (hc118 := hc118) (hc120 := hc120) ?_ (Int.toNat ((x1.length : Int) - 0)) 0 rfl (by omega) hres)
                · exact ((sub_cons rfl (sub_cons rfl (sub_cons rfl (sub_nil _)))))
                · intro  hres
                  refine px_blk ?_
                  refine pn_seq ?_
                  refine rc_seq ?_
                  refine rc_seq ?_
                  refine rc_region ?_
                  refine rd_op (v := vi 0) (ov_move rfl) ?_
                  refine rd_nil ?_
                  refine pn_seq ?_
                  refine rc_block ?_
                  refine rc_weak ?_ (law33_DepsOptimal_L4_ok (x0 := x0) (x1 := x1) (y101 := y101) (y105 := y105) (x6_113 := x6_113) (y114 := y114) (y117 := y117) (v1 := v1) (v106 := v106)  (r1 := r1) (hw101 := hw101) (hc103 := hc103) (hw105 := hw105) (r106 := r106) (hc109 := hc109) (hw114 := hw114) (hc116 := hc116) (hw117 := hw117) (hc118 := hc118) (hc120 := hc120) ?_ (Int.toNat ((x1.length : Int) - 0)) 0 rfl (by omega) hres)
                  · exact ((sub_cons rfl (sub_cons rfl (sub_cons rfl (sub_nil _)))))
                  · intro  hres
                    refine px_blk ?_
                    refine pn_seq ?_
                    refine rc_seq ?_
                    refine rc_region ?_
                    obtain ⟨y137, hw137, hres⟩ := let_ex hres
                    have f137 := f7_ok   
                    rw [hw137] at f137
                    refine rd_call (cv_fn rfl rfl clL_nil f137) ?_
                    refine rd_op (ov_move rfl) ?_
                    refine rd_nil ?_
                    refine pn_seq ?_
                    subst hres
                    exact rc_retV (.tmp rfl .nil) (deep_closed rfl) rfl

end Go.Proofs.Ytfcgnnafaoanfaa.N
