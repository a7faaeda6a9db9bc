/-
  The code of each function does what its plain program says.
-/
import Derived.Test.YtklfdkbemkommaaL6W4
set_option linter.unusedVariables false
set_option linter.unusedSimpArgs false
set_option maxRecDepth 100000
namespace Go.Proofs.Ytklfdkbemkommaa
open Go Go.Pb Go.RowKit
/-- patchbay/patchbaylaw17.TableConsistent -/
def RF6 (res : Bool) (r : PV) : Prop := r = vb res
theorem law17_TableConsistent_L1_ok {S : List Fr} {res : Bool} {x0 : api_Program} {x1 : Int} {x2 : api_Env} {y101 : Bool} {y106 : Int × Int} {y107 : (List Int)} {y109 : (List (BitVec 32))} {v0 : PV} {v108 : PV} {v110 : PV} {v120 : PV} {i121 : Nat} {w121 : Nat} (hw101 : law17_Small x0 = y101) (hc104 : ((!y101) || (!(law17_SmallEnv x2))) = false) (hw106 : table_Check x0 x1 = y106) (hw107 : table_Widths x0 x1 = y107) (r108 : (tSl tI).R y107 v108) (hw109 : table_Key x0 x1 x2 = y109) (r110 : (tSl tU32).R y109 v110) (hc111 : (!decide (y106.2 = 0)) = false) (hc127 : ((!decide ((y107.length : Int) = (((ix x0.Tables x1).Keys).length : Int))) || (!decide ((y109.length : Int) = (((ix x0.Tables x1).Keys).length : Int)))) = false) {K0 : Int → Bool}
    (hK0 : ∀ (x12_ : Int) (h : Heap) (M0 : Mem h [⟨.op i121 w121 0, 56, 6, [v120]⟩]), K0 x12_ = res → PX Try.prog 0 S (QR Try.prog [(6, none)] (RF6 res)) [(1, vi x1), (3, .fp v0), (11, .op i121 w121 0), (12, vi x12_)] h) :
    ∀ (m : Nat) (x12_ : Int) (x13_ : Int) (hm1 : m = Int.toNat ((y107.length : Int) - x13_)) (hlo1 : 0 ≤ x13_) (h : Heap) (M0 : Mem h [⟨.op i121 w121 0, 56, 6, [v120]⟩]), law17_TableConsistent_L1 y107 y109 K0 m x12_ x13_ = res → RC Try.prog (.loop ac6_L1) S (QR Try.prog [(6, none)] (RF6 res)) [(13, vi x13_), (12, vi x12_), (11, .op i121 w121 0), (10, v110), (9, v108), (3, .fp v0), (1, vi x1)] h := by
  have hc104' := hc104
  try simp only [Bool.or_eq_true, Bool.or_eq_false_iff, Bool.and_eq_true, Bool.and_eq_false_imp, decide_eq_true_eq, decide_eq_false_iff_not, Bool.not_eq_true', Bool.not_eq_false', Bool.not_eq_true, Bool.not_eq_false, Bool.not_true, Bool.not_false, ne_eq] at hc104'
  have hc111' := hc111
  try simp only [Bool.or_eq_true, Bool.or_eq_false_iff, Bool.and_eq_true, Bool.and_eq_false_imp, decide_eq_true_eq, decide_eq_false_iff_not, Bool.not_eq_true', Bool.not_eq_false', Bool.not_eq_true, Bool.not_eq_false, Bool.not_true, Bool.not_false, ne_eq] at hc111'
  have hc127' := hc127
  try simp only [Bool.or_eq_true, Bool.or_eq_false_iff, Bool.and_eq_true, Bool.and_eq_false_imp, decide_eq_true_eq, decide_eq_false_iff_not, Bool.not_eq_true', Bool.not_eq_false', Bool.not_eq_true, Bool.not_eq_false, Bool.not_true, Bool.not_false, ne_eq] at hc127'
  intro m
  induction m with
  | zero =>
    intro x12_ x13_ hm1 hlo1 h M0 hres
    rw [law17_TableConsistent_L1] at hres
    refine rc_loop ?_
    unfold ac6_L1
    refine rc_seq ?_
    refine rc_seq ?_
    refine rc_region ?_
    refine rd_op (ov_move rfl) ?_
    refine rd_op (ov_move rfl) ?_
    refine rd_op (ov_bi rfl (sl_len r108 Try.underlying29 _)) ?_
    refine rd_op (ov_bin rfl rfl i_lss) ?_
    refine rd_nil ?_
    refine pn_seq ?_
    refine rc_cond rfl (fun hc128 => ?_) (fun hc128 => ?_)
    · exfalso
      try simp only [Bool.or_eq_true, Bool.or_eq_false_iff, Bool.and_eq_true, Bool.and_eq_false_imp, decide_eq_true_eq, decide_eq_false_iff_not, Bool.not_eq_true', Bool.not_eq_false', Bool.not_eq_true, Bool.not_eq_false, Bool.not_true, Bool.not_false, ne_eq] at hc128
      omega
    · have hend := hres
      have hc128' := hc128
      try simp only [Bool.or_eq_true, Bool.or_eq_false_iff, Bool.and_eq_true, Bool.and_eq_false_imp, decide_eq_true_eq, decide_eq_false_iff_not, Bool.not_eq_true', Bool.not_eq_false', Bool.not_eq_true, Bool.not_eq_false, Bool.not_true, Bool.not_false, ne_eq] at hc128'
      refine rc_exit ?_
      refine px_seq ?_
      refine px_again ?_
      exact px_weak ((sub_cons rfl (sub_cons rfl (sub_cons rfl (sub_cons rfl (sub_nil _)))))) (hK0 x12_ _ (Mem.sub M0 (.cons_cons _ .slnil)) hres)
  | succ m ih =>
    intro x12_ x13_ hm1 hlo1 h M0 hres
    rw [law17_TableConsistent_L1] at hres
    refine rc_loop ?_
    unfold ac6_L1
    refine rc_seq ?_
    refine rc_seq ?_
    refine rc_region ?_
    refine rd_op (ov_move rfl) ?_
    refine rd_op (ov_move rfl) ?_
    refine rd_op (ov_bi rfl (sl_len r108 Try.underlying29 _)) ?_
    refine rd_op (ov_bin rfl rfl i_lss) ?_
    refine rd_nil ?_
    refine pn_seq ?_
    refine rc_cond rfl (fun hc129 => ?_) (fun hc129 => ?_)
    · have hgo := hres
      have hc129' := hc129
      try simp only [Bool.or_eq_true, Bool.or_eq_false_iff, Bool.and_eq_true, Bool.and_eq_false_imp, decide_eq_true_eq, decide_eq_false_iff_not, Bool.not_eq_true', Bool.not_eq_false', Bool.not_eq_true, Bool.not_eq_false, Bool.not_true, Bool.not_false, ne_eq] at hc129'
      refine rc_skip ?_
      refine pn_seq ?_
      refine rc_seq ?_
      refine rc_block ?_
      refine rc_seq ?_
      refine rc_seq ?_
      refine rc_region ?_
      refine rd_op (ov_move rfl) ?_
      refine rd_op (ov_move rfl) ?_
      refine rd_op (ov_iaddr rfl rfl (slI r108 (by first | omega | (have hk := tck (by assumption) (by assumption); omega) | (have hk := rtck (by assumption) (by assumption); omega) | (have hk := eck (by assumption) (by assumption) (by assumption); omega) | (have hk := tv (by assumption) (by assumption); omega) | (have hk := rtv (by assumption) (by assumption); omega)) (by first | omega | (have hk := tck (by assumption) (by assumption); omega) | (have hk := rtck (by assumption) (by assumption); omega) | (have hk := eck (by assumption) (by assumption) (by assumption); omega) | (have hk := tv (by assumption) (by assumption); omega) | (have hk := rtv (by assumption) (by assumption); omega)))) ?_
      refine rd_op (ov_load rfl rfl rfl) ?_
      refine rd_op (ov_bin rfl rfl i_lss) ?_
      refine rd_op (ov_move rfl) ?_
      refine rd_cut (d := 100) (v := vb ((decide ((ix y107 x13_) < 1)) || (decide (32 < (ix y107 x13_))))) ?_ ?_
      · intro S Q r
        simp only [ac6_G7, List.cons_append, List.nil_append, List.append_assoc]
        cases hb130 : (decide ((ix y107 x13_) < 1))
        · intro k
          have hb130' := hb130
          try simp only [Bool.or_eq_true, Bool.or_eq_false_iff, Bool.and_eq_true, Bool.and_eq_false_imp, decide_eq_true_eq, decide_eq_false_iff_not, Bool.not_eq_true', Bool.not_eq_false', Bool.not_eq_true, Bool.not_eq_false, Bool.not_true, Bool.not_false, ne_eq] at hb130'
          refine rd_yes rfl rfl (ov_move rfl) ?_
          refine rd_yes rfl rfl (ov_move rfl) ?_
          refine rd_yes rfl rfl (ov_iaddr rfl rfl (slI r108 (by first | omega | (have hk := tck (by assumption) (by assumption); omega) | (have hk := rtck (by assumption) (by assumption); omega) | (have hk := eck (by assumption) (by assumption) (by assumption); omega) | (have hk := tv (by assumption) (by assumption); omega) | (have hk := rtv (by assumption) (by assumption); omega)) (by first | omega | (have hk := tck (by assumption) (by assumption); omega) | (have hk := rtck (by assumption) (by assumption); omega) | (have hk := eck (by assumption) (by assumption) (by assumption); omega) | (have hk := tv (by assumption) (by assumption); omega) | (have hk := rtv (by assumption) (by assumption); omega)))) ?_
          refine rd_yes rfl rfl (ov_load rfl rfl rfl) ?_
          refine rd_yes rfl rfl (ov_bin rfl rfl i_gtr) ?_
          refine rd_op (v := vb (decide (32 < (ix y107 x13_)))) (ov_pick rfl rfl rfl rfl) ?_
          exact rd_weak (sub_cons rfl (sub_skip rfl (sub_skip rfl (sub_skip rfl (sub_skip rfl (sub_skip rfl (sub_skip rfl (sub_refl _)))))))) k
        · intro k
          refine rd_skip rfl rfl ?_
          refine rd_skip rfl rfl ?_
          refine rd_skip rfl rfl ?_
          refine rd_skip rfl rfl ?_
          refine rd_skip rfl rfl ?_
          refine rd_op (v := vb true) (ov_pick rfl rfl rfl rfl) ?_
          exact rd_weak (sub_cons rfl (sub_skip rfl (sub_skip rfl (sub_skip rfl (sub_skip rfl (sub_skip rfl (sub_skip rfl (sub_refl _)))))))) k
      refine rd_op (ov_move rfl) ?_
      refine rd_cut (d := 113) (v := vb (((decide ((ix y107 x13_) < 1)) || (decide (32 < (ix y107 x13_)))) || (decide (1#32 < ((ix y109 x13_) >>> (wr ((ix y107 x13_) - 1)).toNat))))) ?_ ?_
      · intro S Q r
        simp only [ac6_G8, List.cons_append, List.nil_append, List.append_assoc]
        cases hb131 : ((decide ((ix y107 x13_) < 1)) || (decide (32 < (ix y107 x13_))))
        · intro k
          have hb131' := hb131
          try simp only [Bool.or_eq_true, Bool.or_eq_false_iff, Bool.and_eq_true, Bool.and_eq_false_imp, decide_eq_true_eq, decide_eq_false_iff_not, Bool.not_eq_true', Bool.not_eq_false', Bool.not_eq_true, Bool.not_eq_false, Bool.not_true, Bool.not_false, ne_eq] at hb131'
          refine rd_yes rfl rfl (ov_move rfl) ?_
          refine rd_yes rfl rfl (ov_move rfl) ?_
          refine rd_yes rfl rfl (ov_iaddr rfl rfl (slU32 r110 (by first | omega | (have hk := tck (by assumption) (by assumption); omega) | (have hk := rtck (by assumption) (by assumption); omega) | (have hk := eck (by assumption) (by assumption) (by assumption); omega) | (have hk := tv (by assumption) (by assumption); omega) | (have hk := rtv (by assumption) (by assumption); omega)) (by first | omega | (have hk := tck (by assumption) (by assumption); omega) | (have hk := rtck (by assumption) (by assumption); omega) | (have hk := eck (by assumption) (by assumption) (by assumption); omega) | (have hk := tv (by assumption) (by assumption); omega) | (have hk := rtv (by assumption) (by assumption); omega)))) ?_
          refine rd_yes rfl rfl (ov_load rfl rfl rfl) ?_
          refine rd_yes rfl rfl (ov_move rfl) ?_
          refine rd_yes rfl rfl (ov_move rfl) ?_
          refine rd_yes rfl rfl (ov_iaddr rfl rfl (slI r108 (by first | omega | (have hk := tck (by assumption) (by assumption); omega) | (have hk := rtck (by assumption) (by assumption); omega) | (have hk := eck (by assumption) (by assumption) (by assumption); omega) | (have hk := tv (by assumption) (by assumption); omega) | (have hk := rtv (by assumption) (by assumption); omega)) (by first | omega | (have hk := tck (by assumption) (by assumption); omega) | (have hk := rtck (by assumption) (by assumption); omega) | (have hk := eck (by assumption) (by assumption) (by assumption); omega) | (have hk := tv (by assumption) (by assumption); omega) | (have hk := rtv (by assumption) (by assumption); omega)))) ?_
          refine rd_yes rfl rfl (ov_load rfl rfl rfl) ?_
          refine rd_yes rfl rfl (ov_bin rfl rfl i_sub) ?_
          refine rd_yes rfl rfl (ov_bin (a := vu32 (ix y109 x13_)) (b := vi (wr ((ix y107 x13_) - 1))) rfl rfl (w_shr (by first | omega | (rw [wr_of (by omega) (by omega)]; omega)))) ?_
          refine rd_yes rfl rfl (ov_bin (a := vu32 ((ix y109 x13_) >>> (wr ((ix y107 x13_) - 1)).toNat)) (b := vu32 1#32) rfl rfl w_gtr) ?_
          refine rd_op (v := vb (decide (1#32 < ((ix y109 x13_) >>> (wr ((ix y107 x13_) - 1)).toNat)))) (ov_pick rfl rfl rfl rfl) ?_
          exact rd_weak (sub_cons rfl (sub_skip rfl (sub_skip rfl (sub_skip rfl (sub_skip rfl (sub_skip rfl (sub_skip rfl (sub_skip rfl (sub_skip rfl (sub_skip rfl (sub_skip rfl (sub_skip rfl (sub_skip rfl (sub_refl _)))))))))))))) k
        · intro k
          refine rd_skip rfl rfl ?_
          refine rd_skip rfl rfl ?_
          refine rd_skip rfl rfl ?_
          refine rd_skip rfl rfl ?_
          refine rd_skip rfl rfl ?_
          refine rd_skip rfl rfl ?_
          refine rd_skip rfl rfl ?_
          refine rd_skip rfl rfl ?_
          refine rd_skip rfl rfl ?_
          refine rd_skip rfl rfl ?_
          refine rd_skip rfl rfl ?_
          refine rd_op (v := vb true) (ov_pick rfl rfl rfl rfl) ?_
          exact rd_weak (sub_cons rfl (sub_skip rfl (sub_skip rfl (sub_skip rfl (sub_skip rfl (sub_skip rfl (sub_skip rfl (sub_skip rfl (sub_skip rfl (sub_skip rfl (sub_skip rfl (sub_skip rfl (sub_skip rfl (sub_refl _)))))))))))))) k
      refine rd_nil ?_
      refine pn_seq ?_
      refine rc_cond rfl (fun hc132 => ?_) (fun hc132 => ?_)
      · replace hres := (ite_t hc132).symm.trans hres
        have hc132' := hc132
        try simp only [Bool.or_eq_true, Bool.or_eq_false_iff, Bool.and_eq_true, Bool.and_eq_false_imp, decide_eq_true_eq, decide_eq_false_iff_not, Bool.not_eq_true', Bool.not_eq_false', Bool.not_eq_true, Bool.not_eq_false, Bool.not_true, Bool.not_false, ne_eq] at hc132'
        refine rc_seq ?_
        refine rc_region ?_
        refine rd_op (v := vb false) (ov_move rfl) ?_
        refine rd_nil ?_
        refine pn_seq ?_
        subst hres
        exact rc_retV (.tmp rfl .nil) (deep_closed rfl) rfl
      · replace hres := (ite_f hc132).symm.trans hres
        have hc132' := hc132
        try simp only [Bool.or_eq_true, Bool.or_eq_false_iff, Bool.and_eq_true, Bool.and_eq_false_imp, decide_eq_true_eq, decide_eq_false_iff_not, Bool.not_eq_true', Bool.not_eq_false', Bool.not_eq_true, Bool.not_eq_false, Bool.not_true, Bool.not_false, ne_eq] at hc132'
        refine rc_skip ?_
        refine pn_seq ?_
        refine rc_region ?_
        refine rd_op (ov_move rfl) ?_
        refine rd_op (ov_move rfl) ?_
        refine rd_op (ov_move rfl) ?_
        refine rd_op (ov_iaddr rfl rfl (slI r108 (by first | omega | (have hk := tck (by assumption) (by assumption); omega) | (have hk := rtck (by assumption) (by assumption); omega) | (have hk := eck (by assumption) (by assumption) (by assumption); omega) | (have hk := tv (by assumption) (by assumption); omega) | (have hk := rtv (by assumption) (by assumption); omega)) (by first | omega | (have hk := tck (by assumption) (by assumption); omega) | (have hk := rtck (by assumption) (by assumption); omega) | (have hk := eck (by assumption) (by assumption) (by assumption); omega) | (have hk := tv (by assumption) (by assumption); omega) | (have hk := rtv (by assumption) (by assumption); omega)))) ?_
        refine rd_op (ov_load rfl rfl rfl) ?_
        refine rd_op (ov_bin rfl rfl i_add) ?_
        refine rd_op (ov_move rfl) ?_
        refine rd_nil ?_
        refine pn_blk ?_
        refine pn_seq ?_
        refine rc_region ?_
        refine rd_op (ov_move rfl) ?_
        refine rd_op (ov_bin rfl rfl i_add) ?_
        refine rd_op (ov_move rfl) ?_
        refine rd_nil ?_
        refine pn_again ?_
        have hbd := sl_bound r108
        have hinc : wr (x13_ + 1) = x13_ + 1 := wr_of (by omega) (by omega)
        rw [hinc]
        refine rc_weak ?_ (ih (wr (x12_ + (ix y107 x13_))) (x13_ + 1)  (by omega) (by omega) _ (Mem.sub M0 (.cons_cons _ .slnil)) hres)
        exact ((sub_cons rfl (sub_cons rfl (sub_cons rfl (sub_cons rfl (sub_cons rfl (sub_cons rfl (sub_cons rfl (sub_nil _)))))))))
    · exfalso
      try simp only [Bool.or_eq_true, Bool.or_eq_false_iff, Bool.and_eq_true, Bool.and_eq_false_imp, decide_eq_true_eq, decide_eq_false_iff_not, Bool.not_eq_true', Bool.not_eq_false', Bool.not_eq_true, Bool.not_eq_false, Bool.not_true, Bool.not_false, ne_eq] at hc129
      omega

theorem law17_TableConsistent_L3_ok {S : List Fr} {res : Bool} {x0 : api_Program} {x1 : Int} {x2 : api_Env} {y101 : Bool} {y106 : Int × Int} {y107 : (List Int)} {y109 : (List (BitVec 32))} {x12_133 : Int} {x14_ : Int} {v0 : PV} {v120 : PV} {i121 : Nat} {w121 : Nat} (hw101 : law17_Small x0 = y101) (hc104 : ((!y101) || (!(law17_SmallEnv x2))) = false) (hw106 : table_Check x0 x1 = y106) (hw107 : table_Widths x0 x1 = y107) (hw109 : table_Key x0 x1 x2 = y109) (hc111 : (!decide (y106.2 = 0)) = false) (r120 : api_Table.t.R (ix x0.Tables x1) v120) (hc127 : ((!decide ((y107.length : Int) = (((ix x0.Tables x1).Keys).length : Int))) || (!decide ((y109.length : Int) = (((ix x0.Tables x1).Keys).length : Int)))) = false) (hlo2 : (-1) ≤ x14_) (hc137 : (decide (x14_ ≤ (x0.Actions.length : Int))) = true) {K4 : Bool → Bool}
    (hK4 : ∀ (x15_ : Bool) (h : Heap) (M0 : Mem h [⟨.op i121 w121 0, 56, 6, [v120]⟩]), K4 x15_ = res → PX Try.prog 4 S (QR Try.prog [(6, none)] (RF6 res)) [(1, vi x1), (3, .fp v0), (11, .op i121 w121 0), (12, vi x12_133), (14, vi x14_), (15, vb x15_)] h) :
    ∀ (m : Nat) (x15_ : Bool) (x16_ : Int) (hm3 : m = Int.toNat ((((ix x0.Tables x1).Actions).length : Int) - x16_)) (hlo3 : 0 ≤ x16_) (h : Heap) (M0 : Mem h [⟨.op i121 w121 0, 56, 6, [v120]⟩]), law17_TableConsistent_L3 x0 x1 x14_ K4 m x15_ x16_ = res → RC Try.prog (.loop ac6_L3) S (QR Try.prog [(6, none)] (RF6 res)) [(16, vi x16_), (15, vb x15_), (14, vi x14_), (12, vi x12_133), (11, .op i121 w121 0), (3, .fp v0), (1, vi x1)] h := by
  have hc104' := hc104
  try simp only [Bool.or_eq_true, Bool.or_eq_false_iff, Bool.and_eq_true, Bool.and_eq_false_imp, decide_eq_true_eq, decide_eq_false_iff_not, Bool.not_eq_true', Bool.not_eq_false', Bool.not_eq_true, Bool.not_eq_false, Bool.not_true, Bool.not_false, ne_eq] at hc104'
  have hc111' := hc111
  try simp only [Bool.or_eq_true, Bool.or_eq_false_iff, Bool.and_eq_true, Bool.and_eq_false_imp, decide_eq_true_eq, decide_eq_false_iff_not, Bool.not_eq_true', Bool.not_eq_false', Bool.not_eq_true, Bool.not_eq_false, Bool.not_true, Bool.not_false, ne_eq] at hc111'
  have hc127' := hc127
  try simp only [Bool.or_eq_true, Bool.or_eq_false_iff, Bool.and_eq_true, Bool.and_eq_false_imp, decide_eq_true_eq, decide_eq_false_iff_not, Bool.not_eq_true', Bool.not_eq_false', Bool.not_eq_true, Bool.not_eq_false, Bool.not_true, Bool.not_false, ne_eq] at hc127'
  have hc137' := hc137
  try simp only [Bool.or_eq_true, Bool.or_eq_false_iff, Bool.and_eq_true, Bool.and_eq_false_imp, decide_eq_true_eq, decide_eq_false_iff_not, Bool.not_eq_true', Bool.not_eq_false', Bool.not_eq_true, Bool.not_eq_false, Bool.not_true, Bool.not_false, ne_eq] at hc137'
  intro m
  induction m with
  | zero =>
    intro x15_ x16_ hm3 hlo3 h M0 hres
    rw [law17_TableConsistent_L3] at hres
    refine rc_loop ?_
    unfold ac6_L3
    refine rc_seq ?_
    refine rc_seq ?_
    refine rc_region ?_
    refine rd_op (ov_move rfl) ?_
    refine rd_op (ov_faddrO rfl) ?_
    obtain ⟨v138, e138, r138⟩ := api_Table.g_Actions r120
    refine rd_op (ov_loadf (k := 0) M0 rfl rfl e138) ?_
    refine rd_op (ov_bi rfl (sl_len r138 Try.underlying29 _)) ?_
    refine rd_op (ov_bin rfl rfl i_lss) ?_
    refine rd_nil ?_
    refine pn_seq ?_
    refine rc_cond rfl (fun hc139 => ?_) (fun hc139 => ?_)
    · exfalso
      try simp only [Bool.or_eq_true, Bool.or_eq_false_iff, Bool.and_eq_true, Bool.and_eq_false_imp, decide_eq_true_eq, decide_eq_false_iff_not, Bool.not_eq_true', Bool.not_eq_false', Bool.not_eq_true, Bool.not_eq_false, Bool.not_true, Bool.not_false, ne_eq] at hc139
      omega
    · have hend := hres
      have hc139' := hc139
      try simp only [Bool.or_eq_true, Bool.or_eq_false_iff, Bool.and_eq_true, Bool.and_eq_false_imp, decide_eq_true_eq, decide_eq_false_iff_not, Bool.not_eq_true', Bool.not_eq_false', Bool.not_eq_true, Bool.not_eq_false, Bool.not_true, Bool.not_false, ne_eq] at hc139'
      refine rc_exit ?_
      refine px_seq ?_
      refine px_again ?_
      exact px_weak ((sub_cons rfl (sub_cons rfl (sub_cons rfl (sub_cons rfl (sub_cons rfl (sub_cons rfl (sub_nil _)))))))) (hK4 x15_ _ (Mem.sub M0 (.cons_cons _ .slnil)) hres)
  | succ m ih =>
    intro x15_ x16_ hm3 hlo3 h M0 hres
    rw [law17_TableConsistent_L3] at hres
    refine rc_loop ?_
    unfold ac6_L3
    refine rc_seq ?_
    refine rc_seq ?_
    refine rc_region ?_
    refine rd_op (ov_move rfl) ?_
    refine rd_op (ov_faddrO rfl) ?_
    obtain ⟨v140, e140, r140⟩ := api_Table.g_Actions r120
    refine rd_op (ov_loadf (k := 0) M0 rfl rfl e140) ?_
    refine rd_op (ov_bi rfl (sl_len r140 Try.underlying29 _)) ?_
    refine rd_op (ov_bin rfl rfl i_lss) ?_
    refine rd_nil ?_
    refine pn_seq ?_
    refine rc_cond rfl (fun hc141 => ?_) (fun hc141 => ?_)
    · have hgo := hres
      have hc141' := hc141
      try simp only [Bool.or_eq_true, Bool.or_eq_false_iff, Bool.and_eq_true, Bool.and_eq_false_imp, decide_eq_true_eq, decide_eq_false_iff_not, Bool.not_eq_true', Bool.not_eq_false', Bool.not_eq_true, Bool.not_eq_false, Bool.not_true, Bool.not_false, ne_eq] at hc141'
      refine rc_skip ?_
      refine pn_seq ?_
      refine rc_seq ?_
      refine rc_block ?_
      refine rc_region ?_
      refine rd_op (ov_move rfl) ?_
      refine rd_op (ov_move rfl) ?_
      refine rd_cut (d := 143) (v := vb (x15_ || (decide ((ix ((ix x0.Tables x1).Actions) x16_) = x14_)))) ?_ ?_
      · intro S Q r
        simp only [ac6_G9, List.cons_append, List.nil_append, List.append_assoc]
        cases hb142 : x15_
        · intro k
          have hb142' := hb142
          try simp only [Bool.or_eq_true, Bool.or_eq_false_iff, Bool.and_eq_true, Bool.and_eq_false_imp, decide_eq_true_eq, decide_eq_false_iff_not, Bool.not_eq_true', Bool.not_eq_false', Bool.not_eq_true, Bool.not_eq_false, Bool.not_true, Bool.not_false, ne_eq] at hb142'
          refine rd_yes rfl rfl (ov_faddrO rfl) ?_
          obtain ⟨v143, e143, r143⟩ := api_Table.g_Actions r120
          refine rd_yes rfl rfl (ov_loadf (k := 0) M0 rfl rfl e143) ?_
          refine rd_yes rfl rfl (ov_move rfl) ?_
          refine rd_yes rfl rfl (ov_iaddr rfl rfl (slI r143 (by first | omega | (have hk := tck (by assumption) (by assumption); omega) | (have hk := rtck (by assumption) (by assumption); omega) | (have hk := eck (by assumption) (by assumption) (by assumption); omega) | (have hk := tv (by assumption) (by assumption); omega) | (have hk := rtv (by assumption) (by assumption); omega)) (by first | omega | (have hk := tck (by assumption) (by assumption); omega) | (have hk := rtck (by assumption) (by assumption); omega) | (have hk := eck (by assumption) (by assumption) (by assumption); omega) | (have hk := tv (by assumption) (by assumption); omega) | (have hk := rtv (by assumption) (by assumption); omega)))) ?_
          refine rd_yes rfl rfl (ov_load rfl rfl rfl) ?_
          refine rd_yes rfl rfl (ov_move rfl) ?_
          refine rd_yes rfl rfl (ov_bin rfl rfl i_eql) ?_
          refine rd_op (v := vb (decide ((ix ((ix x0.Tables x1).Actions) x16_) = x14_))) (ov_pick rfl rfl rfl rfl) ?_
          exact rd_weak (sub_cons rfl (sub_skip rfl (sub_skip rfl (sub_skip rfl (sub_skip rfl (sub_skip rfl (sub_skip rfl (sub_skip rfl (sub_skip rfl (sub_refl _)))))))))) k
        · intro k
          refine rd_skip rfl rfl ?_
          refine rd_skip rfl rfl ?_
          refine rd_skip rfl rfl ?_
          refine rd_skip rfl rfl ?_
          refine rd_skip rfl rfl ?_
          refine rd_skip rfl rfl ?_
          refine rd_skip rfl rfl ?_
          refine rd_op (v := vb true) (ov_pick rfl rfl rfl rfl) ?_
          exact rd_weak (sub_cons rfl (sub_skip rfl (sub_skip rfl (sub_skip rfl (sub_skip rfl (sub_skip rfl (sub_skip rfl (sub_skip rfl (sub_skip rfl (sub_refl _)))))))))) k
      refine rd_op (ov_move rfl) ?_
      refine rd_nil ?_
      refine pn_blk ?_
      refine pn_seq ?_
      refine rc_region ?_
      refine rd_op (ov_move rfl) ?_
      refine rd_op (ov_bin rfl rfl i_add) ?_
      refine rd_op (ov_move rfl) ?_
      refine rd_nil ?_
      refine pn_again ?_
      have hbd := sl_bound r140
      have hinc : wr (x16_ + 1) = x16_ + 1 := wr_of (by omega) (by omega)
      rw [hinc]
      refine rc_weak ?_ (ih (x15_ || (decide ((ix ((ix x0.Tables x1).Actions) x16_) = x14_))) (x16_ + 1)  (by omega) (by omega) _ (Mem.sub M0 (.cons_cons _ .slnil)) hres)
      exact ((sub_cons rfl (sub_cons rfl (sub_cons rfl (sub_cons rfl (sub_cons rfl (sub_cons rfl (sub_cons rfl (sub_nil _)))))))))
    · exfalso
      try simp only [Bool.or_eq_true, Bool.or_eq_false_iff, Bool.and_eq_true, Bool.and_eq_false_imp, decide_eq_true_eq, decide_eq_false_iff_not, Bool.not_eq_true', Bool.not_eq_false', Bool.not_eq_true, Bool.not_eq_false, Bool.not_true, Bool.not_false, ne_eq] at hc141
      omega

theorem law17_TableConsistent_L2_ok {S : List Fr} {res : Bool} {x0 : api_Program} {x1 : Int} {x2 : api_Env} {y101 : Bool} {y106 : Int × Int} {y107 : (List Int)} {y109 : (List (BitVec 32))} {x12_133 : Int} {v0 : PV} {v120 : PV} {i121 : Nat} {w121 : Nat} (r0 : api_Program.t.R x0 v0) (hw101 : law17_Small x0 = y101) (hc104 : ((!y101) || (!(law17_SmallEnv x2))) = false) (hw106 : table_Check x0 x1 = y106) (hw107 : table_Widths x0 x1 = y107) (hw109 : table_Key x0 x1 x2 = y109) (hc111 : (!decide (y106.2 = 0)) = false) (r120 : api_Table.t.R (ix x0.Tables x1) v120) (hc127 : ((!decide ((y107.length : Int) = (((ix x0.Tables x1).Keys).length : Int))) || (!decide ((y109.length : Int) = (((ix x0.Tables x1).Keys).length : Int)))) = false) {K2 : Unit → Bool}
    (hK2 : ∀ (h : Heap) (M0 : Mem h [⟨.op i121 w121 0, 56, 6, [v120]⟩]), K2 () = res → PX Try.prog 2 S (QR Try.prog [(6, none)] (RF6 res)) [(1, vi x1), (3, .fp v0), (11, .op i121 w121 0), (12, vi x12_133)] h) :
    ∀ (m : Nat) (x14_ : Int) (hm2 : m = Int.toNat (((x0.Actions.length : Int) + 1) - x14_)) (hlo2 : (-1) ≤ x14_) (h : Heap) (M0 : Mem h [⟨.op i121 w121 0, 56, 6, [v120]⟩]), law17_TableConsistent_L2 x0 x1 K2 m x14_ = res → RC Try.prog (.loop ac6_L2) S (QR Try.prog [(6, none)] (RF6 res)) [(14, vi x14_), (12, vi x12_133), (11, .op i121 w121 0), (3, .fp v0), (1, vi x1)] h := by
  have hc104' := hc104
  try simp only [Bool.or_eq_true, Bool.or_eq_false_iff, Bool.and_eq_true, Bool.and_eq_false_imp, decide_eq_true_eq, decide_eq_false_iff_not, Bool.not_eq_true', Bool.not_eq_false', Bool.not_eq_true, Bool.not_eq_false, Bool.not_true, Bool.not_false, ne_eq] at hc104'
  have hc111' := hc111
  try simp only [Bool.or_eq_true, Bool.or_eq_false_iff, Bool.and_eq_true, Bool.and_eq_false_imp, decide_eq_true_eq, decide_eq_false_iff_not, Bool.not_eq_true', Bool.not_eq_false', Bool.not_eq_true, Bool.not_eq_false, Bool.not_true, Bool.not_false, ne_eq] at hc111'
  have hc127' := hc127
  try simp only [Bool.or_eq_true, Bool.or_eq_false_iff, Bool.and_eq_true, Bool.and_eq_false_imp, decide_eq_true_eq, decide_eq_false_iff_not, Bool.not_eq_true', Bool.not_eq_false', Bool.not_eq_true, Bool.not_eq_false, Bool.not_true, Bool.not_false, ne_eq] at hc127'
  intro m
  induction m with
  | zero =>
    intro x14_ hm2 hlo2 h M0 hres
    rw [law17_TableConsistent_L2] at hres
    refine rc_loop ?_
    unfold ac6_L2
    refine rc_seq ?_
    refine rc_seq ?_
    refine rc_region ?_
    refine rd_op (ov_move rfl) ?_
    obtain ⟨v134, e134, r134⟩ := api_Program.g_Actions r0
    refine rd_op (ov_faddr rfl e134) ?_
    refine rd_op (ov_load rfl (TR.cnt (tSl api_Action.t) r134) (TR.agg (tSl api_Action.t) r134)) ?_
    refine rd_op (ov_bi rfl (sl_len r134 Try.underlying25 _)) ?_
    refine rd_op (ov_bin rfl rfl i_leq) ?_
    refine rd_nil ?_
    refine pn_seq ?_
    refine rc_cond rfl (fun hc135 => ?_) (fun hc135 => ?_)
    · exfalso
      try simp only [Bool.or_eq_true, Bool.or_eq_false_iff, Bool.and_eq_true, Bool.and_eq_false_imp, decide_eq_true_eq, decide_eq_false_iff_not, Bool.not_eq_true', Bool.not_eq_false', Bool.not_eq_true, Bool.not_eq_false, Bool.not_true, Bool.not_false, ne_eq] at hc135
      omega
    · have hend := hres
      have hc135' := hc135
      try simp only [Bool.or_eq_true, Bool.or_eq_false_iff, Bool.and_eq_true, Bool.and_eq_false_imp, decide_eq_true_eq, decide_eq_false_iff_not, Bool.not_eq_true', Bool.not_eq_false', Bool.not_eq_true, Bool.not_eq_false, Bool.not_true, Bool.not_false, ne_eq] at hc135'
      refine rc_exit ?_
      refine px_seq ?_
      refine px_again ?_
      exact px_weak ((sub_cons rfl (sub_cons rfl (sub_cons rfl (sub_cons rfl (sub_nil _)))))) (hK2 _ (Mem.sub M0 (.cons_cons _ .slnil)) hres)
  | succ m ih =>
    intro x14_ hm2 hlo2 h M0 hres
    rw [law17_TableConsistent_L2] at hres
    refine rc_loop ?_
    unfold ac6_L2
    refine rc_seq ?_
    refine rc_seq ?_
    refine rc_region ?_
    refine rd_op (ov_move rfl) ?_
    obtain ⟨v136, e136, r136⟩ := api_Program.g_Actions r0
    refine rd_op (ov_faddr rfl e136) ?_
    refine rd_op (ov_load rfl (TR.cnt (tSl api_Action.t) r136) (TR.agg (tSl api_Action.t) r136)) ?_
    refine rd_op (ov_bi rfl (sl_len r136 Try.underlying25 _)) ?_
    refine rd_op (ov_bin rfl rfl i_leq) ?_
    refine rd_nil ?_
    refine pn_seq ?_
    refine rc_cond rfl (fun hc137 => ?_) (fun hc137 => ?_)
    · have hgo := hres
      have hc137' := hc137
      try simp only [Bool.or_eq_true, Bool.or_eq_false_iff, Bool.and_eq_true, Bool.and_eq_false_imp, decide_eq_true_eq, decide_eq_false_iff_not, Bool.not_eq_true', Bool.not_eq_false', Bool.not_eq_true, Bool.not_eq_false, Bool.not_true, Bool.not_false, ne_eq] at hc137'
      refine rc_skip ?_
      refine pn_seq ?_
      refine rc_seq ?_
      refine rc_block ?_
      refine rc_seq ?_
      refine rc_region ?_
      refine rd_op (v := vb false) (ov_move rfl) ?_
      refine rd_nil ?_
      refine pn_seq ?_
      refine rc_seq ?_
      refine rc_seq ?_
      refine rc_region ?_
      refine rd_op (v := vi 0) (ov_move rfl) ?_
      refine rd_nil ?_
      refine pn_seq ?_
      refine rc_block ?_
      refine rc_weak ?_ (law17_TableConsistent_L3_ok (x0 := x0) (x1 := x1) (x2 := x2) (y101 := y101) (y106 := y106) (y107 := y107) (y109 := y109) (x12_133 := x12_133) (x14_ := x14_) (v0 := v0) (v120 := v120) (i121 := i121) (w121 := w121) (hw101 := hw101) (hc104 := hc104) (hw106 := hw106) (hw107 := hw107) (hw109 := hw109) (hc111 := hc111) (r120 := r120) (hc127 := hc127) (hlo2 := hlo2) (hc137 := hc137) ?_ (Int.toNat ((((ix x0.Tables x1).Actions).length : Int) - 0)) false 0 rfl (by omega) _ (Mem.sub M0 (.cons_cons _ .slnil)) hres)
      · exact ((sub_cons rfl (sub_cons rfl (sub_cons rfl (sub_cons rfl (sub_cons rfl (sub_cons rfl (sub_cons rfl (sub_nil _)))))))))
      · intro x15_144 h144 M144 hres
        refine px_blk ?_
        refine pn_seq ?_
        refine rc_seq ?_
        refine rc_region ?_
        refine rd_op (ov_load rfl (TR.cnt api_Program.t r0) (TR.agg api_Program.t r0)) ?_
        refine rd_op (ov_move rfl) ?_
        refine rd_op (ov_move rfl) ?_
        obtain ⟨y145, hw145, hres⟩ := let_ex hres
        have f145 := f25_ok (x1 := x1) (x2 := x14_) r0 
        rw [hw145] at f145
        refine rd_call (cv_fn rfl rfl (clL_cons (TR.clo api_Program.t r0) (clL_cons rfl (clL_cons rfl clL_nil))) f145) ?_
        refine rd_op (ov_move rfl) ?_
        refine rd_op (ov_bin rfl rfl (bin_neqb (by rw [Try.underlying4]; rfl))) ?_
        refine rd_nil ?_
        refine pn_seq ?_
        refine rc_cond rfl (fun hc146 => ?_) (fun hc146 => ?_)
        · replace hres := (ite_t hc146).symm.trans hres
          have hc146' := hc146
          try simp only [Bool.or_eq_true, Bool.or_eq_false_iff, Bool.and_eq_true, Bool.and_eq_false_imp, decide_eq_true_eq, decide_eq_false_iff_not, Bool.not_eq_true', Bool.not_eq_false', Bool.not_eq_true, Bool.not_eq_false, Bool.not_true, Bool.not_false, ne_eq] at hc146'
          refine rc_seq ?_
          refine rc_region ?_
          refine rd_op (v := vb false) (ov_move rfl) ?_
          refine rd_nil ?_
          refine pn_seq ?_
          subst hres
          exact rc_retV (.tmp rfl .nil) (deep_closed rfl) rfl
        · replace hres := (ite_f hc146).symm.trans hres
          have hc146' := hc146
          try simp only [Bool.or_eq_true, Bool.or_eq_false_iff, Bool.and_eq_true, Bool.and_eq_false_imp, decide_eq_true_eq, decide_eq_false_iff_not, Bool.not_eq_true', Bool.not_eq_false', Bool.not_eq_true, Bool.not_eq_false, Bool.not_true, Bool.not_false, ne_eq] at hc146'
          refine rc_skip ?_
          refine pn_blk ?_
          refine pn_seq ?_
          refine rc_region ?_
          refine rd_op (ov_move rfl) ?_
          refine rd_op (ov_bin rfl rfl i_add) ?_
          refine rd_op (ov_move rfl) ?_
          refine rd_nil ?_
          refine pn_again ?_
          have hinc : wr (x14_ + 1) = x14_ + 1 := wr_of (by omega) (by have hk := sml (by assumption) (And.left (by assumption)); omega)
          rw [hinc]
          refine rc_weak ?_ (ih (x14_ + 1)  (by omega) (by omega) _ (Mem.sub M144 (.cons_cons _ .slnil)) hres)
          exact ((sub_cons rfl (sub_cons rfl (sub_cons rfl (sub_cons rfl (sub_cons rfl (sub_nil _)))))))
    · exfalso
      try simp only [Bool.or_eq_true, Bool.or_eq_false_iff, Bool.and_eq_true, Bool.and_eq_false_imp, decide_eq_true_eq, decide_eq_false_iff_not, Bool.not_eq_true', Bool.not_eq_false', Bool.not_eq_true, Bool.not_eq_false, Bool.not_true, Bool.not_false, ne_eq] at hc137
      omega

theorem f6_ok {x0 : api_Program} {x1 : Int} {x2 : api_Env} {v0 v2 : PV} (r0 : api_Program.t.R x0 v0) (r2 : api_Env.t.R x2 v2) : FnR Try.prog 6 [v0, vi x1, v2] (vb (law17_TableConsistent x0 x1 x2)) := by
  obtain ⟨res, hres⟩ : ∃ res, law17_TableConsistent x0 x1 x2 = res := ⟨_, rfl⟩
  suffices H : RC Try.prog ac6 [] (QR Try.prog [(6, none)] (RF6 res)) (argE 0 [v0, vi x1, v2]) ⟨0, []⟩ by
    obtain ⟨r, h1, h2⟩ := fnE text6 (by simp) H
    rw [hres]
    have h2 : r = vb res := h2
    rw [← h2]; exact h1
  unfold law17_TableConsistent at hres
  unfold ac6
  refine rc_seq ?_
  refine rc_region ?_
  refine rd_op (ov_box rfl (TR.cnt api_Program.t r0)) ?_
  refine rd_op (ov_box rfl (TR.cnt api_Env.t r2)) ?_
  refine rd_op (v := vb false) (ov_move rfl) ?_
  refine rd_nil ?_
  refine pn_seq ?_
  refine rc_seq ?_
  refine rc_seq ?_
  refine rc_region ?_
  refine rd_op (ov_load rfl (TR.cnt api_Program.t r0) (TR.agg api_Program.t r0)) ?_
  obtain ⟨y101, hw101, hres⟩ := let_ex hres
  have f101 := f14_ok  r0 
  rw [hw101] at f101
  refine rd_call (cv_fn rfl rfl (clL_cons (TR.clo api_Program.t r0) clL_nil) f101) ?_
  refine rd_op (ov_not rfl) ?_
  refine rd_op (ov_move rfl) ?_
  refine rd_cut (d := 24) (v := vb ((!y101) || (!(law17_SmallEnv x2)))) ?_ ?_
  · intro S Q r
    simp only [ac6_G1, List.cons_append, List.nil_append, List.append_assoc]
    cases hb102 : (!y101)
    · intro k
      have hb102' := hb102
      try simp only [Bool.or_eq_true, Bool.or_eq_false_iff, Bool.and_eq_true, Bool.and_eq_false_imp, decide_eq_true_eq, decide_eq_false_iff_not, Bool.not_eq_true', Bool.not_eq_false', Bool.not_eq_true, Bool.not_eq_false, Bool.not_true, Bool.not_false, ne_eq] at hb102'
      refine rd_yes rfl rfl (ov_load rfl (TR.cnt api_Env.t r2) (TR.agg api_Env.t r2)) ?_
      have f103 := f27_ok  r2 
      refine rd_ycall rfl rfl (cv_fn rfl rfl (clL_cons (TR.clo api_Env.t r2) clL_nil) f103) ?_
      refine rd_yes rfl rfl (ov_not rfl) ?_
      refine rd_op (v := vb (!(law17_SmallEnv x2))) (ov_pick rfl rfl rfl rfl) ?_
      exact rd_weak (sub_cons rfl (sub_skip rfl (sub_skip rfl (sub_skip rfl (sub_skip rfl (sub_refl _)))))) k
    · intro k
      refine rd_skip rfl rfl ?_
      refine rd_skip rfl rfl ?_
      refine rd_skip rfl rfl ?_
      refine rd_op (v := vb true) (ov_pick rfl rfl rfl rfl) ?_
      exact rd_weak (sub_cons rfl (sub_skip rfl (sub_skip rfl (sub_skip rfl (sub_skip rfl (sub_refl _)))))) k
  refine rd_nil ?_
  refine pn_seq ?_
  refine rc_cond rfl (fun hc104 => ?_) (fun hc104 => ?_)
  · replace hres := (ite_t hc104).symm.trans hres
    have hc104' := hc104
    try simp only [Bool.or_eq_true, Bool.or_eq_false_iff, Bool.and_eq_true, Bool.and_eq_false_imp, decide_eq_true_eq, decide_eq_false_iff_not, Bool.not_eq_true', Bool.not_eq_false', Bool.not_eq_true, Bool.not_eq_false, Bool.not_true, Bool.not_false, ne_eq] at hc104'
    refine rc_seq ?_
    refine rc_region ?_
    obtain ⟨y105, hw105, hres⟩ := let_ex hres
    have f105 := f15_ok   
    rw [hw105] at f105
    refine rd_call (cv_fn rfl rfl clL_nil f105) ?_
    refine rd_op (ov_move rfl) ?_
    refine rd_nil ?_
    refine pn_seq ?_
    subst hres
    exact rc_retV (.tmp rfl .nil) (deep_closed rfl) rfl
  · replace hres := (ite_f hc104).symm.trans hres
    have hc104' := hc104
    try simp only [Bool.or_eq_true, Bool.or_eq_false_iff, Bool.and_eq_true, Bool.and_eq_false_imp, decide_eq_true_eq, decide_eq_false_iff_not, Bool.not_eq_true', Bool.not_eq_false', Bool.not_eq_true, Bool.not_eq_false, Bool.not_true, Bool.not_false, ne_eq] at hc104'
    refine rc_skip ?_
    refine pn_seq ?_
    refine rc_seq ?_
    refine rc_region ?_
    refine rd_op (ov_load rfl (TR.cnt api_Program.t r0) (TR.agg api_Program.t r0)) ?_
    refine rd_op (ov_move rfl) ?_
    obtain ⟨y106, hw106, hres⟩ := let_ex hres
    have f106 := f16_ok (x1 := x1) r0 
    rw [hw106] at f106
    refine rd_call (cv_fn rfl rfl (clL_cons (TR.clo api_Program.t r0) (clL_cons rfl clL_nil)) f106) ?_
    refine rd_op (ov_move rfl) ?_
    refine rd_op (ov_extract rfl rfl) ?_
    refine rd_op (ov_extract rfl rfl) ?_
    refine rd_op (ov_move rfl) ?_
    refine rd_op (ov_move rfl) ?_
    refine rd_nil ?_
    refine pn_seq ?_
    refine rc_seq ?_
    refine rc_region ?_
    refine rd_op (ov_load rfl (TR.cnt api_Program.t r0) (TR.agg api_Program.t r0)) ?_
    refine rd_op (ov_move rfl) ?_
    obtain ⟨y107, hw107, hres⟩ := let_ex hres
    obtain ⟨v108, f107, r108⟩ := f21_ok (x1 := x1) r0 
    rw [hw107] at r108
    refine rd_call (cv_fn rfl rfl (clL_cons (TR.clo api_Program.t r0) (clL_cons rfl clL_nil)) f107) ?_
    refine rd_op (ov_move rfl) ?_
    refine rd_nil ?_
    refine pn_seq ?_
    refine rc_seq ?_
    refine rc_region ?_
    refine rd_op (ov_load rfl (TR.cnt api_Program.t r0) (TR.agg api_Program.t r0)) ?_
    refine rd_op (ov_move rfl) ?_
    refine rd_op (ov_load rfl (TR.cnt api_Env.t r2) (TR.agg api_Env.t r2)) ?_
    obtain ⟨y109, hw109, hres⟩ := let_ex hres
    obtain ⟨v110, f109, r110⟩ := f29_ok (x1 := x1) r0 r2 
    rw [hw109] at r110
    refine rd_call (cv_fn rfl rfl (clL_cons (TR.clo api_Program.t r0) (clL_cons rfl (clL_cons (TR.clo api_Env.t r2) clL_nil))) f109) ?_
    refine rd_op (ov_move rfl) ?_
    refine rd_nil ?_
    refine pn_seq ?_
    refine rc_seq ?_
    refine rc_seq ?_
    refine rc_region ?_
    refine rd_op (ov_move rfl) ?_
    refine rd_op (ov_bin rfl rfl i_neq) ?_
    refine rd_nil ?_
    refine pn_seq ?_
    refine rc_cond rfl (fun hc111 => ?_) (fun hc111 => ?_)
    · replace hres := (ite_t hc111).symm.trans hres
      have hc111' := hc111
      try simp only [Bool.or_eq_true, Bool.or_eq_false_iff, Bool.and_eq_true, Bool.and_eq_false_imp, decide_eq_true_eq, decide_eq_false_iff_not, Bool.not_eq_true', Bool.not_eq_false', Bool.not_eq_true, Bool.not_eq_false, Bool.not_true, Bool.not_false, ne_eq] at hc111'
      refine rc_seq ?_
      refine rc_region ?_
      refine rd_op (ov_load rfl (TR.cnt api_Program.t r0) (TR.agg api_Program.t r0)) ?_
      refine rd_op (ov_move rfl) ?_
      obtain ⟨y112, hw112, hres⟩ := let_ex hres
      have f112 := f18_ok (x1 := x1) r0 
      rw [hw112] at f112
      refine rd_call (cv_fn rfl rfl (clL_cons (TR.clo api_Program.t r0) (clL_cons rfl clL_nil)) f112) ?_
      refine rd_op (ov_bin rfl rfl i_eql) ?_
      refine rd_op (ov_move rfl) ?_
      refine rd_cut (d := 49) (v := vb ((decide (y112 = 0)) && (decide ((y107.length : Int) = 0)))) ?_ ?_
      · intro S Q r
        simp only [ac6_G2, List.cons_append, List.nil_append, List.append_assoc]
        cases hb113 : (decide (y112 = 0))
        · intro k
          refine rd_skip rfl rfl ?_
          refine rd_skip rfl rfl ?_
          refine rd_skip rfl rfl ?_
          refine rd_op (v := vb false) (ov_pick rfl rfl rfl rfl) ?_
          exact rd_weak (sub_cons rfl (sub_skip rfl (sub_skip rfl (sub_skip rfl (sub_skip rfl (sub_refl _)))))) k
        · intro k
          have hb113' := hb113
          try simp only [Bool.or_eq_true, Bool.or_eq_false_iff, Bool.and_eq_true, Bool.and_eq_false_imp, decide_eq_true_eq, decide_eq_false_iff_not, Bool.not_eq_true', Bool.not_eq_false', Bool.not_eq_true, Bool.not_eq_false, Bool.not_true, Bool.not_false, ne_eq] at hb113'
          refine rd_yes rfl rfl (ov_move rfl) ?_
          refine rd_yes rfl rfl (ov_bi rfl (sl_len r108 Try.underlying29 _)) ?_
          refine rd_yes rfl rfl (ov_bin rfl rfl i_eql) ?_
          refine rd_op (v := vb (decide ((y107.length : Int) = 0))) (ov_pick rfl rfl rfl rfl) ?_
          exact rd_weak (sub_cons rfl (sub_skip rfl (sub_skip rfl (sub_skip rfl (sub_skip rfl (sub_refl _)))))) k
      refine rd_op (ov_move rfl) ?_
      refine rd_cut (d := 55) (v := vb (((decide (y112 = 0)) && (decide ((y107.length : Int) = 0))) && (decide ((table_Bits x0 x1) = 0)))) ?_ ?_
      · intro S Q r
        simp only [ac6_G3, List.cons_append, List.nil_append, List.append_assoc]
        cases hb114 : ((decide (y112 = 0)) && (decide ((y107.length : Int) = 0)))
        · intro k
          refine rd_skip rfl rfl ?_
          refine rd_skip rfl rfl ?_
          refine rd_skip rfl rfl ?_
          refine rd_skip rfl rfl ?_
          refine rd_op (v := vb false) (ov_pick rfl rfl rfl rfl) ?_
          exact rd_weak (sub_cons rfl (sub_skip rfl (sub_skip rfl (sub_skip rfl (sub_skip rfl (sub_skip rfl (sub_refl _))))))) k
        · intro k
          have hb114' := hb114
          try simp only [Bool.or_eq_true, Bool.or_eq_false_iff, Bool.and_eq_true, Bool.and_eq_false_imp, decide_eq_true_eq, decide_eq_false_iff_not, Bool.not_eq_true', Bool.not_eq_false', Bool.not_eq_true, Bool.not_eq_false, Bool.not_true, Bool.not_false, ne_eq] at hb114'
          refine rd_yes rfl rfl (ov_load rfl (TR.cnt api_Program.t r0) (TR.agg api_Program.t r0)) ?_
          refine rd_yes rfl rfl (ov_move rfl) ?_
          have f115 := f23_ok (x1 := x1) r0 
          refine rd_ycall rfl rfl (cv_fn rfl rfl (clL_cons (TR.clo api_Program.t r0) (clL_cons rfl clL_nil)) f115) ?_
          refine rd_yes rfl rfl (ov_bin rfl rfl i_eql) ?_
          refine rd_op (v := vb (decide ((table_Bits x0 x1) = 0))) (ov_pick rfl rfl rfl rfl) ?_
          exact rd_weak (sub_cons rfl (sub_skip rfl (sub_skip rfl (sub_skip rfl (sub_skip rfl (sub_skip rfl (sub_refl _))))))) k
      refine rd_op (ov_move rfl) ?_
      refine rd_cut (d := 60) (v := vb ((((decide (y112 = 0)) && (decide ((y107.length : Int) = 0))) && (decide ((table_Bits x0 x1) = 0))) && (decide ((y109.length : Int) = 0)))) ?_ ?_
      · intro S Q r
        simp only [ac6_G4, List.cons_append, List.nil_append, List.append_assoc]
        cases hb116 : (((decide (y112 = 0)) && (decide ((y107.length : Int) = 0))) && (decide ((table_Bits x0 x1) = 0)))
        · intro k
          refine rd_skip rfl rfl ?_
          refine rd_skip rfl rfl ?_
          refine rd_skip rfl rfl ?_
          refine rd_op (v := vb false) (ov_pick rfl rfl rfl rfl) ?_
          exact rd_weak (sub_cons rfl (sub_skip rfl (sub_skip rfl (sub_skip rfl (sub_skip rfl (sub_refl _)))))) k
        · intro k
          have hb116' := hb116
          try simp only [Bool.or_eq_true, Bool.or_eq_false_iff, Bool.and_eq_true, Bool.and_eq_false_imp, decide_eq_true_eq, decide_eq_false_iff_not, Bool.not_eq_true', Bool.not_eq_false', Bool.not_eq_true, Bool.not_eq_false, Bool.not_true, Bool.not_false, ne_eq] at hb116'
          refine rd_yes rfl rfl (ov_move rfl) ?_
          refine rd_yes rfl rfl (ov_bi rfl (sl_len r110 Try.underlying44 _)) ?_
          refine rd_yes rfl rfl (ov_bin rfl rfl i_eql) ?_
          refine rd_op (v := vb (decide ((y109.length : Int) = 0))) (ov_pick rfl rfl rfl rfl) ?_
          exact rd_weak (sub_cons rfl (sub_skip rfl (sub_skip rfl (sub_skip rfl (sub_skip rfl (sub_refl _)))))) k
      refine rd_op (ov_move rfl) ?_
      refine rd_cut (d := 63) (v := vb (((((decide (y112 = 0)) && (decide ((y107.length : Int) = 0))) && (decide ((table_Bits x0 x1) = 0))) && (decide ((y109.length : Int) = 0))) && (law17_works))) ?_ ?_
      · intro S Q r
        simp only [ac6_G5, List.cons_append, List.nil_append, List.append_assoc]
        cases hb117 : ((((decide (y112 = 0)) && (decide ((y107.length : Int) = 0))) && (decide ((table_Bits x0 x1) = 0))) && (decide ((y109.length : Int) = 0)))
        · intro k
          refine rd_skip rfl rfl ?_
          refine rd_op (v := vb false) (ov_pick rfl rfl rfl rfl) ?_
          exact rd_weak (sub_cons rfl (sub_skip rfl (sub_skip rfl (sub_refl _)))) k
        · intro k
          have hb117' := hb117
          try simp only [Bool.or_eq_true, Bool.or_eq_false_iff, Bool.and_eq_true, Bool.and_eq_false_imp, decide_eq_true_eq, decide_eq_false_iff_not, Bool.not_eq_true', Bool.not_eq_false', Bool.not_eq_true, Bool.not_eq_false, Bool.not_true, Bool.not_false, ne_eq] at hb117'
          have f118 := f15_ok   
          refine rd_ycall rfl rfl (cv_fn rfl rfl clL_nil f118) ?_
          refine rd_op (v := vb (law17_works)) (ov_pick rfl rfl rfl rfl) ?_
          exact rd_weak (sub_cons rfl (sub_skip rfl (sub_skip rfl (sub_refl _)))) k
      refine rd_op (ov_move rfl) ?_
      refine rd_nil ?_
      refine pn_seq ?_
      subst hres
      exact rc_retV (.tmp rfl .nil) (deep_closed rfl) rfl
    · replace hres := (ite_f hc111).symm.trans hres
      have hc111' := hc111
      try simp only [Bool.or_eq_true, Bool.or_eq_false_iff, Bool.and_eq_true, Bool.and_eq_false_imp, decide_eq_true_eq, decide_eq_false_iff_not, Bool.not_eq_true', Bool.not_eq_false', Bool.not_eq_true, Bool.not_eq_false, Bool.not_true, Bool.not_false, ne_eq] at hc111'
      refine rc_skip ?_
      refine pn_seq ?_
      refine rc_seq ?_
      refine rc_region ?_
      obtain ⟨v119, e119, r119⟩ := api_Program.g_Tables r0
      refine rd_op (ov_faddr rfl e119) ?_
      refine rd_op (ov_load rfl (TR.cnt (tSl api_Table.t) r119) (TR.agg (tSl api_Table.t) r119)) ?_
      refine rd_op (ov_move rfl) ?_
      obtain ⟨v120, e120, r120⟩ := sl_idx (i := x1) r119 (by first | omega | (have hk := tck (by assumption) (by assumption); omega) | (have hk := rtck (by assumption) (by assumption); omega) | (have hk := eck (by assumption) (by assumption) (by assumption); omega) | (have hk := tv (by assumption) (by assumption); omega) | (have hk := rtv (by assumption) (by assumption); omega)) (by first | omega | (have hk := tck (by assumption) (by assumption); omega) | (have hk := rtck (by assumption) (by assumption); omega) | (have hk := eck (by assumption) (by assumption) (by assumption); omega) | (have hk := tv (by assumption) (by assumption); omega) | (have hk := rtv (by assumption) (by assumption); omega))
      refine rd_op (ov_iaddr rfl rfl e120) ?_
      refine rd_op (ov_load rfl (TR.cnt api_Table.t r120) (TR.agg api_Table.t r120)) ?_
      refine rd_allocO (x := .agg [vs [], nilS, nilS, vi 0, nilS, vi 0]) (Mem.nil ⟨0, []⟩) rfl rfl (fun i121 w121 h121 M121 => ?_)
      refine rd_storeO (k := 0) (v := v120) M121 rfl rfl rfl (TR.cnt api_Table.t r120) (fun h123 M123 => ?_)
      replace M123 : Mem h123 [⟨.op i121 w121 0, 56, 6, [v120]⟩] := M123
      refine rd_nil ?_
      refine pn_seq ?_
      refine rc_seq ?_
      refine rc_seq ?_
      refine rc_region ?_
      refine rd_op (ov_move rfl) ?_
      refine rd_op (ov_bi rfl (sl_len r108 Try.underlying29 _)) ?_
      refine rd_op (ov_faddrO rfl) ?_
      obtain ⟨v124, e124, r124⟩ := api_Table.g_Keys r120
      refine rd_op (ov_loadf (k := 0) M123 rfl rfl e124) ?_
      refine rd_op (ov_bi rfl (sl_len r124 Try.underlying52 _)) ?_
      refine rd_op (ov_bin rfl rfl i_neq) ?_
      refine rd_op (ov_move rfl) ?_
      refine rd_cut (d := 82) (v := vb ((!decide ((y107.length : Int) = (((ix x0.Tables x1).Keys).length : Int))) || (!decide ((y109.length : Int) = (((ix x0.Tables x1).Keys).length : Int))))) ?_ ?_
      · intro S Q r
        simp only [ac6_G6, List.cons_append, List.nil_append, List.append_assoc]
        cases hb125 : (!decide ((y107.length : Int) = (((ix x0.Tables x1).Keys).length : Int)))
        · intro k
          have hb125' := hb125
          try simp only [Bool.or_eq_true, Bool.or_eq_false_iff, Bool.and_eq_true, Bool.and_eq_false_imp, decide_eq_true_eq, decide_eq_false_iff_not, Bool.not_eq_true', Bool.not_eq_false', Bool.not_eq_true, Bool.not_eq_false, Bool.not_true, Bool.not_false, ne_eq] at hb125'
          refine rd_yes rfl rfl (ov_move rfl) ?_
          refine rd_yes rfl rfl (ov_bi rfl (sl_len r110 Try.underlying44 _)) ?_
          refine rd_yes rfl rfl (ov_faddrO rfl) ?_
          obtain ⟨v126, e126, r126⟩ := api_Table.g_Keys r120
          refine rd_yes rfl rfl (ov_loadf (k := 0) M123 rfl rfl e126) ?_
          refine rd_yes rfl rfl (ov_bi rfl (sl_len r126 Try.underlying52 _)) ?_
          refine rd_yes rfl rfl (ov_bin rfl rfl i_neq) ?_
          refine rd_op (v := vb (!decide ((y109.length : Int) = (((ix x0.Tables x1).Keys).length : Int)))) (ov_pick rfl rfl rfl rfl) ?_
          exact rd_weak (sub_cons rfl (sub_skip rfl (sub_skip rfl (sub_skip rfl (sub_skip rfl (sub_skip rfl (sub_skip rfl (sub_skip rfl (sub_refl _))))))))) k
        · intro k
          refine rd_skip rfl rfl ?_
          refine rd_skip rfl rfl ?_
          refine rd_skip rfl rfl ?_
          refine rd_skip rfl rfl ?_
          refine rd_skip rfl rfl ?_
          refine rd_skip rfl rfl ?_
          refine rd_op (v := vb true) (ov_pick rfl rfl rfl rfl) ?_
          exact rd_weak (sub_cons rfl (sub_skip rfl (sub_skip rfl (sub_skip rfl (sub_skip rfl (sub_skip rfl (sub_skip rfl (sub_skip rfl (sub_refl _))))))))) k
      refine rd_nil ?_
      refine pn_seq ?_
      refine rc_cond rfl (fun hc127 => ?_) (fun hc127 => ?_)
      · replace hres := (ite_t hc127).symm.trans hres
        have hc127' := hc127
        try simp only [Bool.or_eq_true, Bool.or_eq_false_iff, Bool.and_eq_true, Bool.and_eq_false_imp, decide_eq_true_eq, decide_eq_false_iff_not, Bool.not_eq_true', Bool.not_eq_false', Bool.not_eq_true, Bool.not_eq_false, Bool.not_true, Bool.not_false, ne_eq] at hc127'
        refine rc_seq ?_
        refine rc_region ?_
        refine rd_op (v := vb false) (ov_move rfl) ?_
        refine rd_nil ?_
        refine pn_seq ?_
        subst hres
        exact rc_retV (.tmp rfl .nil) (deep_closed rfl) rfl
      · replace hres := (ite_f hc127).symm.trans hres
        have hc127' := hc127
        try simp only [Bool.or_eq_true, Bool.or_eq_false_iff, Bool.and_eq_true, Bool.and_eq_false_imp, decide_eq_true_eq, decide_eq_false_iff_not, Bool.not_eq_true', Bool.not_eq_false', Bool.not_eq_true, Bool.not_eq_false, Bool.not_true, Bool.not_false, ne_eq] at hc127'
        refine rc_skip ?_
        refine pn_seq ?_
        refine rc_seq ?_
        refine rc_region ?_
        refine rd_op (v := vi 0) (ov_move rfl) ?_
        refine rd_nil ?_
        refine pn_seq ?_
        refine rc_seq ?_
        refine rc_seq ?_
        refine rc_region ?_
        refine rd_op (v := vi 0) (ov_move rfl) ?_
        refine rd_nil ?_
        refine pn_seq ?_
        refine rc_block ?_
        refine rc_weak ?_ (law17_TableConsistent_L1_ok (x0 := x0) (x1 := x1) (x2 := x2) (y101 := y101) (y106 := y106) (y107 := y107) (y109 := y109) (v0 := v0) (v108 := v108) (v110 := v110) (v120 := v120) (i121 := i121) (w121 := w121) (hw101 := hw101) (hc104 := hc104) (hw106 := hw106) (hw107 := hw107) (r108 := r108) (hw109 := hw109) (r110 := r110) (hc111 := hc111) (hc127 := hc127) ?_ (Int.toNat ((y107.length : Int) - 0)) 0 0 rfl (by omega) _ (Mem.sub M123 (.cons_cons _ .slnil)) hres)
        · exact ((sub_cons rfl (sub_cons rfl (sub_cons rfl (sub_cons rfl (sub_cons rfl (sub_cons rfl (sub_cons rfl (sub_nil _)))))))))
        · intro x12_133 h133 M133 hres
          refine px_blk ?_
          refine pn_seq ?_
          refine rc_seq ?_
          refine rc_seq ?_
          refine rc_region ?_
          refine rd_op (v := vi (-1)) (ov_move rfl) ?_
          refine rd_nil ?_
          refine pn_seq ?_
          refine rc_block ?_
          refine rc_weak ?_ (law17_TableConsistent_L2_ok (x0 := x0) (x1 := x1) (x2 := x2) (y101 := y101) (y106 := y106) (y107 := y107) (y109 := y109) (x12_133 := x12_133) (v0 := v0) (v120 := v120) (i121 := i121) (w121 := w121) (r0 := r0) (hw101 := hw101) (hc104 := hc104) (hw106 := hw106) (hw107 := hw107) (hw109 := hw109) (hc111 := hc111) (r120 := r120) (hc127 := hc127) ?_ (Int.toNat (((x0.Actions.length : Int) + 1) - (-1))) (-1) rfl (by omega) _ (Mem.sub M133 (.cons_cons _ .slnil)) hres)
          · exact ((sub_cons rfl (sub_cons rfl (sub_cons rfl (sub_cons rfl (sub_cons rfl (sub_nil _)))))))
          · intro h147 M147 hres
            refine px_blk ?_
            refine pn_seq ?_
            refine rc_seq ?_
            refine rc_region ?_
            refine rd_op (ov_move rfl) ?_
            refine rd_op (ov_load rfl (TR.cnt api_Program.t r0) (TR.agg api_Program.t r0)) ?_
            refine rd_op (ov_move rfl) ?_
            obtain ⟨y148, hw148, hres⟩ := let_ex hres
            have f148 := f23_ok (x1 := x1) r0 
            rw [hw148] at f148
            refine rd_call (cv_fn rfl rfl (clL_cons (TR.clo api_Program.t r0) (clL_cons rfl clL_nil)) f148) ?_
            refine rd_op (ov_bin rfl rfl i_eql) ?_
            refine rd_op (ov_move rfl) ?_
            refine rd_cut (d := 158) (v := vb ((decide (x12_133 = y148)) && (decide (x12_133 ≤ 64)))) ?_ ?_
            · intro S Q r
              simp only [ac6_G10, List.cons_append, List.nil_append, List.append_assoc]
              cases hb149 : (decide (x12_133 = y148))
              · intro k
                refine rd_skip rfl rfl ?_
                refine rd_skip rfl rfl ?_
                refine rd_op (v := vb false) (ov_pick rfl rfl rfl rfl) ?_
                exact rd_weak (sub_cons rfl (sub_skip rfl (sub_skip rfl (sub_skip rfl (sub_refl _))))) k
              · intro k
                have hb149' := hb149
                try simp only [Bool.or_eq_true, Bool.or_eq_false_iff, Bool.and_eq_true, Bool.and_eq_false_imp, decide_eq_true_eq, decide_eq_false_iff_not, Bool.not_eq_true', Bool.not_eq_false', Bool.not_eq_true, Bool.not_eq_false, Bool.not_true, Bool.not_false, ne_eq] at hb149'
                refine rd_yes rfl rfl (ov_move rfl) ?_
                refine rd_yes rfl rfl (ov_bin rfl rfl i_leq) ?_
                refine rd_op (v := vb (decide (x12_133 ≤ 64))) (ov_pick rfl rfl rfl rfl) ?_
                exact rd_weak (sub_cons rfl (sub_skip rfl (sub_skip rfl (sub_skip rfl (sub_refl _))))) k
            refine rd_op (ov_move rfl) ?_
            refine rd_cut (d := 166) (v := vb (((decide (x12_133 = y148)) && (decide (x12_133 ≤ 64))) && (table_Allows x0 x1 (((ix x0.Tables x1).Default).Action)))) ?_ ?_
            · intro S Q r
              simp only [ac6_G11, List.cons_append, List.nil_append, List.append_assoc]
              cases hb150 : ((decide (x12_133 = y148)) && (decide (x12_133 ≤ 64)))
              · intro k
                refine rd_skip rfl rfl ?_
                refine rd_skip rfl rfl ?_
                refine rd_skip rfl rfl ?_
                refine rd_skip rfl rfl ?_
                refine rd_skip rfl rfl ?_
                refine rd_skip rfl rfl ?_
                refine rd_op (v := vb false) (ov_pick rfl rfl rfl rfl) ?_
                exact rd_weak (sub_cons rfl (sub_skip rfl (sub_skip rfl (sub_skip rfl (sub_skip rfl (sub_skip rfl (sub_skip rfl (sub_skip rfl (sub_refl _))))))))) k
              · intro k
                have hb150' := hb150
                try simp only [Bool.or_eq_true, Bool.or_eq_false_iff, Bool.and_eq_true, Bool.and_eq_false_imp, decide_eq_true_eq, decide_eq_false_iff_not, Bool.not_eq_true', Bool.not_eq_false', Bool.not_eq_true, Bool.not_eq_false, Bool.not_true, Bool.not_false, ne_eq] at hb150'
                refine rd_yes rfl rfl (ov_load rfl (TR.cnt api_Program.t r0) (TR.agg api_Program.t r0)) ?_
                refine rd_yes rfl rfl (ov_move rfl) ?_
                refine rd_yes rfl rfl (ov_faddrO rfl) ?_
                refine rd_yes rfl rfl (ov_faddrO rfl) ?_
                obtain ⟨v151, e151, r151⟩ := api_Table.g_Default r120
                refine rd_yes rfl rfl (ov_loadf (k := 0) M147 rfl rfl (field_field e151 (api_ActionCall.g_Action r151))) ?_
                have f152 := f25_ok (x1 := x1) (x2 := ((ix x0.Tables x1).Default).Action) r0 
                refine rd_ycall rfl rfl (cv_fn rfl rfl (clL_cons (TR.clo api_Program.t r0) (clL_cons rfl (clL_cons rfl clL_nil))) f152) ?_
                refine rd_op (v := vb (table_Allows x0 x1 (((ix x0.Tables x1).Default).Action))) (ov_pick rfl rfl rfl rfl) ?_
                exact rd_weak (sub_cons rfl (sub_skip rfl (sub_skip rfl (sub_skip rfl (sub_skip rfl (sub_skip rfl (sub_skip rfl (sub_skip rfl (sub_refl _))))))))) k
            refine rd_op (ov_move rfl) ?_
            refine rd_cut (d := 169) (v := vb ((((decide (x12_133 = y148)) && (decide (x12_133 ≤ 64))) && (table_Allows x0 x1 (((ix x0.Tables x1).Default).Action))) && (law17_works))) ?_ ?_
            · intro S Q r
              simp only [ac6_G12, List.cons_append, List.nil_append, List.append_assoc]
              cases hb153 : (((decide (x12_133 = y148)) && (decide (x12_133 ≤ 64))) && (table_Allows x0 x1 (((ix x0.Tables x1).Default).Action)))
              · intro k
                refine rd_skip rfl rfl ?_
                refine rd_op (v := vb false) (ov_pick rfl rfl rfl rfl) ?_
                exact rd_weak (sub_cons rfl (sub_skip rfl (sub_skip rfl (sub_refl _)))) k
              · intro k
                have hb153' := hb153
                try simp only [Bool.or_eq_true, Bool.or_eq_false_iff, Bool.and_eq_true, Bool.and_eq_false_imp, decide_eq_true_eq, decide_eq_false_iff_not, Bool.not_eq_true', Bool.not_eq_false', Bool.not_eq_true, Bool.not_eq_false, Bool.not_true, Bool.not_false, ne_eq] at hb153'
                have f154 := f15_ok   
                refine rd_ycall rfl rfl (cv_fn rfl rfl clL_nil f154) ?_
                refine rd_op (v := vb (law17_works)) (ov_pick rfl rfl rfl rfl) ?_
                exact rd_weak (sub_cons rfl (sub_skip rfl (sub_skip rfl (sub_refl _)))) k
            refine rd_op (ov_move rfl) ?_
            refine rd_nil ?_
            refine pn_seq ?_
            subst hres
            exact rc_retV (.tmp rfl .nil) (deep_closed rfl) rfl

end Go.Proofs.Ytklfdkbemkommaa
