/-
  The code of each function does what its plain program says.
-/
import Derived.Test.YtepkgeppmjmkjaaKDef
import Derived.Test.YtepkgeppmjmkjaaL3Text
import Derived.Test.YtepkgeppmjmkjaaPbC
import Derived.Test.YtepkgeppmjmkjaaKPure
import Derived.Test.YtepkgeppmjmkjaaL3Run
set_option linter.unusedVariables false
set_option linter.unusedSimpArgs false
set_option maxRecDepth 100000
namespace Go.Proofs.Ytepkgeppmjmkjaa
open Go Go.Pb Go.RowKit
/-- patchbay/patchbaylaw21.nodes -/
def RF10 (res : Int) (r : PV) : Prop := r = vi res
theorem law21_nodes_L1_ok {S : List Fr} {res : Int} {x0 : List api_ControlNode} {x1 : Int} {rec_ : (List api_ControlNode) → Int → Int} {mu_ : Nat} {v0 : PV} (r0 : (tSl api_ControlNode.t).R x0 v0) (hd : 0 ≤ x1) (hd2 : x1 ≤ 100) (ihR : ∀ {z0 : List api_ControlNode} {z1 : Int} {zv0 : PV} (zr0 : (tSl api_ControlNode.t).R z0 zv0) (hd : 0 ≤ z1) (hd2 : z1 ≤ 100), z1.toNat < mu_ → FnR Try.prog 10 [zv0, vi z1] (vi (rec_ z0 z1))) (hmu : mu_ = x1.toNat) {K0 : Int → Int}
    (hK0 : ∀ (x5_ : Int), K0 x5_ = res → PX Try.prog 0 S (QR Try.prog [(4, none)] (RF10 res)) [(5, vi x5_)] ⟨0, []⟩) :
    ∀ (m : Nat) (x5_ : Int) (x6_ : Int) (hm1 : m = Int.toNat ((x0.length : Int) - x6_)) (hlo1 : 0 ≤ x6_), law21_nodes_L1 x0 x1 rec_ K0 m x5_ x6_ = res → RC Try.prog (.loop ac10_L1) S (QR Try.prog [(4, none)] (RF10 res)) [(6, vi x6_), (5, vi x5_), (1, vi x1), (0, v0)] ⟨0, []⟩ := by
  intro m
  induction m with
  | zero =>
    intro x5_ x6_ hm1 hlo1 hres
    rw [law21_nodes_L1] at hres
    refine rc_loop ?_
    unfold ac10_L1
    refine rc_seq ?_
    refine rc_seq ?_
    refine rc_region ?_
    refine rd_op (ov_move rfl) ?_
    refine rd_op (ov_move rfl) ?_
    refine rd_op (ov_bi rfl (sl_len r0 Try.underlying28 _)) ?_
    refine rd_op (ov_bin rfl rfl i_lss) ?_
    refine rd_op (ov_move rfl) ?_
    refine rd_cut (d := 16) (v := vb ((decide (x6_ < (x0.length : Int))) && (decide (x5_ < 100)))) ?_ ?_
    · intro S Q r
      simp only [ac10_G1, List.cons_append, List.nil_append, List.append_assoc]
      cases hb101 : (decide (x6_ < (x0.length : Int)))
      · intro k
        refine rd_skip rfl rfl ?_
        refine rd_skip rfl rfl ?_
        refine rd_op (v := vb false) (ov_pick rfl rfl rfl rfl) ?_
        exact rd_weak (sub_cons rfl (sub_skip rfl (sub_skip rfl (sub_skip rfl (sub_refl _))))) k
      · intro k
        have hb101' := hb101
        try simp only [Bool.or_eq_true, Bool.or_eq_false_iff, Bool.and_eq_true, Bool.and_eq_false_imp, decide_eq_true_eq, decide_eq_false_iff_not, Bool.not_eq_true', Bool.not_eq_false', Bool.not_eq_true, Bool.not_eq_false, Bool.not_true, Bool.not_false, ne_eq] at hb101'
        refine rd_yes rfl rfl (ov_move rfl) ?_
        refine rd_yes rfl rfl (ov_bin rfl rfl i_lss) ?_
        refine rd_op (v := vb (decide (x5_ < 100))) (ov_pick rfl rfl rfl rfl) ?_
        exact rd_weak (sub_cons rfl (sub_skip rfl (sub_skip rfl (sub_skip rfl (sub_refl _))))) k
    refine rd_nil ?_
    refine pn_seq ?_
    refine rc_cond rfl (fun hc102 => ?_) (fun hc102 => ?_)
    · exfalso
      try simp only [Bool.or_eq_true, Bool.or_eq_false_iff, Bool.and_eq_true, Bool.and_eq_false_imp, decide_eq_true_eq, decide_eq_false_iff_not, Bool.not_eq_true', Bool.not_eq_false', Bool.not_eq_true, Bool.not_eq_false, Bool.not_true, Bool.not_false, ne_eq] at hc102
      omega
    · have hend := hres
      have hc102' := hc102
      try simp only [Bool.or_eq_true, Bool.or_eq_false_iff, Bool.and_eq_true, Bool.and_eq_false_imp, decide_eq_true_eq, decide_eq_false_iff_not, Bool.not_eq_true', Bool.not_eq_false', Bool.not_eq_true, Bool.not_eq_false, Bool.not_true, Bool.not_false, ne_eq] at hc102'
      refine rc_exit ?_
      refine px_seq ?_
      refine px_again ?_
      exact px_weak ((sub_cons rfl (sub_nil _))) (hK0 x5_ hres)
  | succ m ih =>
    intro x5_ x6_ hm1 hlo1 hres
    rw [law21_nodes_L1] at hres
    refine rc_loop ?_
    unfold ac10_L1
    refine rc_seq ?_
    refine rc_seq ?_
    refine rc_region ?_
    refine rd_op (ov_move rfl) ?_
    refine rd_op (ov_move rfl) ?_
    refine rd_op (ov_bi rfl (sl_len r0 Try.underlying28 _)) ?_
    refine rd_op (ov_bin rfl rfl i_lss) ?_
    refine rd_op (ov_move rfl) ?_
    refine rd_cut (d := 16) (v := vb ((decide (x6_ < (x0.length : Int))) && (decide (x5_ < 100)))) ?_ ?_
    · intro S Q r
      simp only [ac10_G1, List.cons_append, List.nil_append, List.append_assoc]
      cases hb103 : (decide (x6_ < (x0.length : Int)))
      · intro k
        refine rd_skip rfl rfl ?_
        refine rd_skip rfl rfl ?_
        refine rd_op (v := vb false) (ov_pick rfl rfl rfl rfl) ?_
        exact rd_weak (sub_cons rfl (sub_skip rfl (sub_skip rfl (sub_skip rfl (sub_refl _))))) k
      · intro k
        have hb103' := hb103
        try simp only [Bool.or_eq_true, Bool.or_eq_false_iff, Bool.and_eq_true, Bool.and_eq_false_imp, decide_eq_true_eq, decide_eq_false_iff_not, Bool.not_eq_true', Bool.not_eq_false', Bool.not_eq_true, Bool.not_eq_false, Bool.not_true, Bool.not_false, ne_eq] at hb103'
        refine rd_yes rfl rfl (ov_move rfl) ?_
        refine rd_yes rfl rfl (ov_bin rfl rfl i_lss) ?_
        refine rd_op (v := vb (decide (x5_ < 100))) (ov_pick rfl rfl rfl rfl) ?_
        exact rd_weak (sub_cons rfl (sub_skip rfl (sub_skip rfl (sub_skip rfl (sub_refl _))))) k
    refine rd_nil ?_
    refine pn_seq ?_
    refine rc_cond rfl (fun hc104 => ?_) (fun hc104 => ?_)
    · replace hres := (ite_t hc104).symm.trans hres
      have hc104' := hc104
      try simp only [Bool.or_eq_true, Bool.or_eq_false_iff, Bool.and_eq_true, Bool.and_eq_false_imp, decide_eq_true_eq, decide_eq_false_iff_not, Bool.not_eq_true', Bool.not_eq_false', Bool.not_eq_true, Bool.not_eq_false, Bool.not_true, Bool.not_false, ne_eq] at hc104'
      refine rc_skip ?_
      refine pn_seq ?_
      refine rc_seq ?_
      refine rc_block ?_
      refine rc_seq ?_
      refine rc_seq ?_
      refine rc_region ?_
      refine rd_op (ov_move rfl) ?_
      refine rd_op (ov_bin rfl rfl i_eql) ?_
      refine rd_op (ov_move rfl) ?_
      refine rd_cut (d := 29) (v := vb ((decide (x1 = 0)) || (decide (40 < (((ix x0 x6_).Cond).length : Int))))) ?_ ?_
      · intro S Q r
        simp only [ac10_G2, List.cons_append, List.nil_append, List.append_assoc]
        cases hb105 : (decide (x1 = 0))
        · intro k
          have hb105' := hb105
          try simp only [Bool.or_eq_true, Bool.or_eq_false_iff, Bool.and_eq_true, Bool.and_eq_false_imp, decide_eq_true_eq, decide_eq_false_iff_not, Bool.not_eq_true', Bool.not_eq_false', Bool.not_eq_true, Bool.not_eq_false, Bool.not_true, Bool.not_false, ne_eq] at hb105'
          refine rd_yes rfl rfl (ov_move rfl) ?_
          refine rd_yes rfl rfl (ov_move rfl) ?_
          obtain ⟨v106, e106, r106⟩ := sl_idx (i := x6_) r0 (by omega) (by omega)
          refine rd_yes rfl rfl (ov_iaddr rfl rfl e106) ?_
          obtain ⟨v107, e107, r107⟩ := api_ControlNode.g_Cond r106
          refine rd_yes rfl rfl (ov_faddr rfl e107) ?_
          refine rd_yes rfl rfl (ov_load rfl (TR.cnt (tSl api_ExprNode.t) r107) (TR.agg (tSl api_ExprNode.t) r107)) ?_
          refine rd_yes rfl rfl (ov_bi rfl (sl_len r107 Try.underlying61 _)) ?_
          refine rd_yes rfl rfl (ov_bin rfl rfl i_gtr) ?_
          refine rd_op (v := vb (decide (40 < (((ix x0 x6_).Cond).length : Int)))) (ov_pick rfl rfl rfl rfl) ?_
          exact rd_weak (sub_cons rfl (sub_skip rfl (sub_skip rfl (sub_skip rfl (sub_skip rfl (sub_skip rfl (sub_skip rfl (sub_skip rfl (sub_skip rfl (sub_refl _)))))))))) k
        · intro k
          refine rd_skip rfl rfl ?_
          refine rd_skip rfl rfl ?_
          refine rd_skip rfl rfl ?_
          refine rd_skip rfl rfl ?_
          refine rd_skip rfl rfl ?_
          refine rd_skip rfl rfl ?_
          refine rd_skip rfl rfl ?_
          refine rd_op (v := vb true) (ov_pick rfl rfl rfl rfl) ?_
          exact rd_weak (sub_cons rfl (sub_skip rfl (sub_skip rfl (sub_skip rfl (sub_skip rfl (sub_skip rfl (sub_skip rfl (sub_skip rfl (sub_skip rfl (sub_refl _)))))))))) k
      refine rd_nil ?_
      refine pn_seq ?_
      refine rc_cond rfl (fun hc108 => ?_) (fun hc108 => ?_)
      · replace hres := (ite_t hc108).symm.trans hres
        have hc108' := hc108
        try simp only [Bool.or_eq_true, Bool.or_eq_false_iff, Bool.and_eq_true, Bool.and_eq_false_imp, decide_eq_true_eq, decide_eq_false_iff_not, Bool.not_eq_true', Bool.not_eq_false', Bool.not_eq_true, Bool.not_eq_false, Bool.not_true, Bool.not_false, ne_eq] at hc108'
        refine rc_seq ?_
        refine rc_region ?_
        refine rd_op (v := vi 100) (ov_move rfl) ?_
        refine rd_nil ?_
        refine pn_seq ?_
        subst hres
        exact rc_retV (.tmp rfl .nil) (deep_closed rfl) rfl
      · replace hres := (ite_f hc108).symm.trans hres
        have hc108' := hc108
        try simp only [Bool.or_eq_true, Bool.or_eq_false_iff, Bool.and_eq_true, Bool.and_eq_false_imp, decide_eq_true_eq, decide_eq_false_iff_not, Bool.not_eq_true', Bool.not_eq_false', Bool.not_eq_true, Bool.not_eq_false, Bool.not_true, Bool.not_false, ne_eq] at hc108'
        refine rc_skip ?_
        refine pn_seq ?_
        refine rc_region ?_
        refine rd_op (ov_move rfl) ?_
        refine rd_op (ov_move rfl) ?_
        refine rd_op (ov_move rfl) ?_
        obtain ⟨v109, e109, r109⟩ := sl_idx (i := x6_) r0 (by omega) (by omega)
        refine rd_op (ov_iaddr rfl rfl e109) ?_
        obtain ⟨v110, e110, r110⟩ := api_ControlNode.g_Then r109
        refine rd_op (ov_faddr rfl e110) ?_
        refine rd_op (ov_load rfl (TR.cnt (tSl api_ControlNode.t) r110) (TR.agg (tSl api_ControlNode.t) r110)) ?_
        refine rd_op (ov_move rfl) ?_
        refine rd_op (ov_bin rfl rfl i_sub) ?_
        obtain ⟨y111, hw111, hres⟩ := let_ex hres
        have f111 := ihR (z0 := (ix x0 x6_).Then) (z1 := (wr (x1 - 1))) r110 (by first | assumption | omega | (rw [wr_of (by omega) (by omega)]; omega)) (by first | assumption | omega | (rw [wr_of (by omega) (by omega)]; omega)) (by (rw [wr_of (by omega) (by omega)]; omega))
        rw [hw111] at f111
        refine rd_call (cv_fn rfl rfl (clL_cons (TR.clo (tSl api_ControlNode.t) r110) (clL_cons rfl clL_nil)) f111) ?_
        refine rd_op (ov_bin rfl rfl i_add) ?_
        refine rd_op (ov_move rfl) ?_
        refine rd_op (ov_move rfl) ?_
        obtain ⟨v112, e112, r112⟩ := sl_idx (i := x6_) r0 (by omega) (by omega)
        refine rd_op (ov_iaddr rfl rfl e112) ?_
        obtain ⟨v113, e113, r113⟩ := api_ControlNode.g_Else r112
        refine rd_op (ov_faddr rfl e113) ?_
        refine rd_op (ov_load rfl (TR.cnt (tSl api_ControlNode.t) r113) (TR.agg (tSl api_ControlNode.t) r113)) ?_
        refine rd_op (ov_move rfl) ?_
        refine rd_op (ov_bin rfl rfl i_sub) ?_
        obtain ⟨y114, hw114, hres⟩ := let_ex hres
        have f114 := ihR (z0 := (ix x0 x6_).Else) (z1 := (wr (x1 - 1))) r113 (by first | assumption | omega | (rw [wr_of (by omega) (by omega)]; omega)) (by first | assumption | omega | (rw [wr_of (by omega) (by omega)]; omega)) (by (rw [wr_of (by omega) (by omega)]; omega))
        rw [hw114] at f114
        refine rd_call (cv_fn rfl rfl (clL_cons (TR.clo (tSl api_ControlNode.t) r113) (clL_cons rfl clL_nil)) f114) ?_
        refine rd_op (ov_bin rfl rfl i_add) ?_
        refine rd_op (ov_move rfl) ?_
        refine rd_nil ?_
        refine pn_blk ?_
        refine pn_seq ?_
        refine rc_region ?_
        refine rd_op (ov_move rfl) ?_
        refine rd_op (ov_bin rfl rfl i_add) ?_
        refine rd_op (ov_move rfl) ?_
        refine rd_nil ?_
        refine pn_again ?_
        have hbd := sl_bound r0
        have hinc : wr (x6_ + 1) = x6_ + 1 := wr_of (by omega) (by omega)
        rw [hinc]
        refine rc_weak ?_ (ih (wr ((wr (x5_ + y111)) + y114)) (x6_ + 1)  (by omega) (by omega) hres)
        exact ((sub_cons rfl (sub_cons rfl (sub_cons rfl (sub_cons rfl (sub_nil _))))))
    · replace hres := (ite_f hc104).symm.trans hres
      have hc104' := hc104
      try simp only [Bool.or_eq_true, Bool.or_eq_false_iff, Bool.and_eq_true, Bool.and_eq_false_imp, decide_eq_true_eq, decide_eq_false_iff_not, Bool.not_eq_true', Bool.not_eq_false', Bool.not_eq_true, Bool.not_eq_false, Bool.not_true, Bool.not_false, ne_eq] at hc104'
      refine rc_exit ?_
      refine px_seq ?_
      refine px_again ?_
      exact px_weak ((sub_cons rfl (sub_nil _))) (hK0 x5_ hres)

theorem f10_okB {rec_ : (List api_ControlNode) → Int → Int} {mu_ : Nat} {x0 : List api_ControlNode} {x1 : Int} {v0 : PV} (r0 : (tSl api_ControlNode.t).R x0 v0) (hd : 0 ≤ x1) (hd2 : x1 ≤ 100) (hmu : mu_ = x1.toNat) (ihR : ∀ {z0 : List api_ControlNode} {z1 : Int} {zv0 : PV} (zr0 : (tSl api_ControlNode.t).R z0 zv0) (hd : 0 ≤ z1) (hd2 : z1 ≤ 100), z1.toNat < mu_ → FnR Try.prog 10 [zv0, vi z1] (vi (rec_ z0 z1))) : FnR Try.prog 10 [v0, vi x1] (vi (law21_nodes_B rec_ x0 x1)) := by
  obtain ⟨res, hres⟩ : ∃ res, law21_nodes_B rec_ x0 x1 = res := ⟨_, rfl⟩
  suffices H : RC Try.prog ac10 [] (QR Try.prog [(4, none)] (RF10 res)) (argE 0 [v0, vi x1]) ⟨0, []⟩ by
    obtain ⟨r, h1, h2⟩ := fnE text10 (by simp) H
    rw [hres]
    have h2 : r = vi res := h2
    rw [← h2]; exact h1
  unfold law21_nodes_B at hres
  unfold ac10
  refine rc_seq ?_
  refine rc_region ?_
  refine rd_op (v := vi 0) (ov_move rfl) ?_
  refine rd_nil ?_
  refine pn_seq ?_
  refine rc_seq ?_
  refine rc_region ?_
  refine rd_op (ov_move rfl) ?_
  refine rd_op (ov_bi rfl (sl_len r0 Try.underlying28 _)) ?_
  refine rd_op (ov_move rfl) ?_
  refine rd_nil ?_
  refine pn_seq ?_
  refine rc_seq ?_
  refine rc_seq ?_
  refine rc_region ?_
  refine rd_op (v := vi 0) (ov_move rfl) ?_
  refine rd_nil ?_
  refine pn_seq ?_
  refine rc_block ?_
  refine rc_weak ?_ (law21_nodes_L1_ok (x0 := x0) (x1 := x1) (rec_ := rec_) (mu_ := mu_) (v0 := v0)  (r0 := r0) (hd := hd) (hd2 := hd2) (ihR := ihR) (hmu := hmu) ?_ (Int.toNat ((x0.length : Int) - 0)) (x0.length : Int) 0 rfl (by omega) hres)
  · exact ((sub_cons rfl (sub_cons rfl (sub_cons rfl (sub_cons rfl (sub_nil _))))))
  · intro x5_115 hres
    refine px_blk ?_
    refine pn_seq ?_
    refine rc_seq ?_
    refine rc_region ?_
    refine rd_op (ov_move rfl) ?_
    refine rd_op (ov_move rfl) ?_
    refine rd_nil ?_
    refine pn_seq ?_
    subst hres
    exact rc_retV (.tmp rfl .nil) (deep_closed rfl) rfl
theorem f10_okR : ∀ (n_ : Nat) {x0 : List api_ControlNode} {x1 : Int} {v0 : PV} (r0 : (tSl api_ControlNode.t).R x0 v0) (hd : 0 ≤ x1) (hd2 : x1 ≤ 100), x1.toNat < n_ → FnR Try.prog 10 [v0, vi x1] (vi (law21_nodes_R n_ x0 x1)) := by
  intro n_
  induction n_ with
  | zero => intros; rename_i hlt; exact absurd hlt (Nat.not_lt_zero _)
  | succ n_ ihn =>
    intro x0 x1 v0 r0 hd hd2 hlt
    have e_ : law21_nodes_R (n_ + 1) x0 x1 = law21_nodes_B (law21_nodes_R n_) x0 x1 := by rw [law21_nodes_R]
    rw [e_]
    exact f10_okB r0 hd hd2 rfl (fun {z0} {z1} {zv0} zr0 hd hd2 hz => ihn zr0 hd hd2 (by omega))
theorem f10_ok {x0 : List api_ControlNode} {x1 : Int} {v0 : PV} (r0 : (tSl api_ControlNode.t).R x0 v0) (hd : 0 ≤ x1) (hd2 : x1 ≤ 100) : FnR Try.prog 10 [v0, vi x1] (vi (law21_nodes x0 x1)) := f10_okR _ r0 hd hd2 (Nat.lt_succ_self _)

/-- patchbay/patchbayref11.Small -/
def RF11 (res : Bool) (r : PV) : Prop := r = vb res
theorem ref11_Small_L1_ok {S : List Fr} {res : Bool} {x0 : api_Header} {v0 : PV} (r0 : api_Header.t.R x0 v0) (hc103 : ((decide (30 < (x0.Name.length : Int))) || (decide (20 < (x0.Fields.length : Int)))) = false) {K0 : Unit → Bool}
    (hK0 : K0 () = res → PX Try.prog 0 S (QR Try.prog [(2, none)] (RF11 res)) [] ⟨0, []⟩) :
    ∀ (m : Nat) (x3_ : Int) (hm1 : m = Int.toNat ((x0.Fields.length : Int) - x3_)) (hlo1 : 0 ≤ x3_), ref11_Small_L1 x0 K0 m x3_ = res → RC Try.prog (.loop ac11_L1) S (QR Try.prog [(2, none)] (RF11 res)) [(3, vi x3_), (1, .fp v0)] ⟨0, []⟩ := by
  have hc103' := hc103
  try simp only [Bool.or_eq_true, Bool.or_eq_false_iff, Bool.and_eq_true, Bool.and_eq_false_imp, decide_eq_true_eq, decide_eq_false_iff_not, Bool.not_eq_true', Bool.not_eq_false', Bool.not_eq_true, Bool.not_eq_false, Bool.not_true, Bool.not_false, ne_eq] at hc103'
  intro m
  induction m with
  | zero =>
    intro x3_ hm1 hlo1 hres
    rw [ref11_Small_L1] at hres
    refine rc_loop ?_
    unfold ac11_L1
    refine rc_seq ?_
    refine rc_seq ?_
    refine rc_region ?_
    refine rd_op (ov_move rfl) ?_
    obtain ⟨v104, e104, r104⟩ := api_Header.g_Fields r0
    refine rd_op (ov_faddr rfl e104) ?_
    refine rd_op (ov_load rfl (TR.cnt (tSl api_Field.t) r104) (TR.agg (tSl api_Field.t) r104)) ?_
    refine rd_op (ov_bi rfl (sl_len r104 Try.underlying23 _)) ?_
    refine rd_op (ov_bin rfl rfl i_lss) ?_
    refine rd_nil ?_
    refine pn_seq ?_
    refine rc_cond rfl (fun hc105 => ?_) (fun hc105 => ?_)
    · exfalso
      try simp only [Bool.or_eq_true, Bool.or_eq_false_iff, Bool.and_eq_true, Bool.and_eq_false_imp, decide_eq_true_eq, decide_eq_false_iff_not, Bool.not_eq_true', Bool.not_eq_false', Bool.not_eq_true, Bool.not_eq_false, Bool.not_true, Bool.not_false, ne_eq] at hc105
      omega
    · have hend := hres
      have hc105' := hc105
      try simp only [Bool.or_eq_true, Bool.or_eq_false_iff, Bool.and_eq_true, Bool.and_eq_false_imp, decide_eq_true_eq, decide_eq_false_iff_not, Bool.not_eq_true', Bool.not_eq_false', Bool.not_eq_true, Bool.not_eq_false, Bool.not_true, Bool.not_false, ne_eq] at hc105'
      refine rc_exit ?_
      refine px_seq ?_
      refine px_again ?_
      exact px_weak ((sub_nil _)) (hK0  hres)
  | succ m ih =>
    intro x3_ hm1 hlo1 hres
    rw [ref11_Small_L1] at hres
    refine rc_loop ?_
    unfold ac11_L1
    refine rc_seq ?_
    refine rc_seq ?_
    refine rc_region ?_
    refine rd_op (ov_move rfl) ?_
    obtain ⟨v106, e106, r106⟩ := api_Header.g_Fields r0
    refine rd_op (ov_faddr rfl e106) ?_
    refine rd_op (ov_load rfl (TR.cnt (tSl api_Field.t) r106) (TR.agg (tSl api_Field.t) r106)) ?_
    refine rd_op (ov_bi rfl (sl_len r106 Try.underlying23 _)) ?_
    refine rd_op (ov_bin rfl rfl i_lss) ?_
    refine rd_nil ?_
    refine pn_seq ?_
    refine rc_cond rfl (fun hc107 => ?_) (fun hc107 => ?_)
    · have hgo := hres
      have hc107' := hc107
      try simp only [Bool.or_eq_true, Bool.or_eq_false_iff, Bool.and_eq_true, Bool.and_eq_false_imp, decide_eq_true_eq, decide_eq_false_iff_not, Bool.not_eq_true', Bool.not_eq_false', Bool.not_eq_true, Bool.not_eq_false, Bool.not_true, Bool.not_false, ne_eq] at hc107'
      refine rc_skip ?_
      refine pn_seq ?_
      refine rc_seq ?_
      refine rc_block ?_
      refine rc_seq ?_
      refine rc_region ?_
      obtain ⟨v108, e108, r108⟩ := api_Header.g_Fields r0
      refine rd_op (ov_faddr rfl e108) ?_
      refine rd_op (ov_load rfl (TR.cnt (tSl api_Field.t) r108) (TR.agg (tSl api_Field.t) r108)) ?_
      refine rd_op (ov_move rfl) ?_
      obtain ⟨v109, e109, r109⟩ := sl_idx (i := x3_) r108 (by omega) (by omega)
      refine rd_op (ov_iaddr rfl rfl e109) ?_
      refine rd_op (ov_faddr rfl (api_Field.g_Name r109)) ?_
      refine rd_op (ov_load rfl rfl rfl) ?_
      refine rd_op (ov_bi rfl (str_len Try.underlying9)) ?_
      refine rd_op (ov_bin rfl rfl i_gtr) ?_
      refine rd_nil ?_
      refine pn_seq ?_
      refine rc_cond rfl (fun hc110 => ?_) (fun hc110 => ?_)
      · replace hres := (ite_t hc110).symm.trans hres
        have hc110' := hc110
        try simp only [Bool.or_eq_true, Bool.or_eq_false_iff, Bool.and_eq_true, Bool.and_eq_false_imp, decide_eq_true_eq, decide_eq_false_iff_not, Bool.not_eq_true', Bool.not_eq_false', Bool.not_eq_true, Bool.not_eq_false, Bool.not_true, Bool.not_false, ne_eq] at hc110'
        refine rc_seq ?_
        refine rc_region ?_
        refine rd_op (v := vb false) (ov_move rfl) ?_
        refine rd_nil ?_
        refine pn_seq ?_
        subst hres
        exact rc_retV (.tmp rfl .nil) (deep_closed rfl) rfl
      · replace hres := (ite_f hc110).symm.trans hres
        have hc110' := hc110
        try simp only [Bool.or_eq_true, Bool.or_eq_false_iff, Bool.and_eq_true, Bool.and_eq_false_imp, decide_eq_true_eq, decide_eq_false_iff_not, Bool.not_eq_true', Bool.not_eq_false', Bool.not_eq_true, Bool.not_eq_false, Bool.not_true, Bool.not_false, ne_eq] at hc110'
        refine rc_skip ?_
        refine pn_blk ?_
        refine pn_seq ?_
        refine rc_region ?_
        refine rd_op (ov_move rfl) ?_
        refine rd_op (ov_bin rfl rfl i_add) ?_
        refine rd_op (ov_move rfl) ?_
        refine rd_nil ?_
        refine pn_again ?_
        have hbd := sl_bound r106
        have hinc : wr (x3_ + 1) = x3_ + 1 := wr_of (by omega) (by omega)
        rw [hinc]
        refine rc_weak ?_ (ih (x3_ + 1)  (by omega) (by omega) hres)
        exact ((sub_cons rfl (sub_cons rfl (sub_nil _))))
    · exfalso
      try simp only [Bool.or_eq_true, Bool.or_eq_false_iff, Bool.and_eq_true, Bool.and_eq_false_imp, decide_eq_true_eq, decide_eq_false_iff_not, Bool.not_eq_true', Bool.not_eq_false', Bool.not_eq_true, Bool.not_eq_false, Bool.not_true, Bool.not_false, ne_eq] at hc107
      omega

theorem f11_ok {x0 : api_Header} {v0 : PV} (r0 : api_Header.t.R x0 v0) : FnR Try.prog 11 [v0] (vb (ref11_Small x0)) := by
  obtain ⟨res, hres⟩ : ∃ res, ref11_Small x0 = res := ⟨_, rfl⟩
  suffices H : RC Try.prog ac11 [] (QR Try.prog [(2, none)] (RF11 res)) (argE 0 [v0]) ⟨0, []⟩ by
    obtain ⟨r, h1, h2⟩ := fnE text11 (by simp) H
    rw [hres]
    have h2 : r = vb res := h2
    rw [← h2]; exact h1
  unfold ref11_Small at hres
  unfold ac11
  refine rc_seq ?_
  refine rc_region ?_
  refine rd_op (ov_box rfl (TR.cnt api_Header.t r0)) ?_
  refine rd_op (v := vb false) (ov_move rfl) ?_
  refine rd_nil ?_
  refine pn_seq ?_
  refine rc_seq ?_
  refine rc_seq ?_
  refine rc_region ?_
  refine rd_op (ov_faddr rfl (api_Header.g_Name r0)) ?_
  refine rd_op (ov_load rfl rfl rfl) ?_
  refine rd_op (ov_bi rfl (str_len Try.underlying9)) ?_
  refine rd_op (ov_bin rfl rfl i_gtr) ?_
  refine rd_op (ov_move rfl) ?_
  refine rd_cut (d := 13) (v := vb ((decide (30 < (x0.Name.length : Int))) || (decide (20 < (x0.Fields.length : Int))))) ?_ ?_
  · intro S Q r
    simp only [ac11_G1, List.cons_append, List.nil_append, List.append_assoc]
    cases hb101 : (decide (30 < (x0.Name.length : Int)))
    · intro k
      have hb101' := hb101
      try simp only [Bool.or_eq_true, Bool.or_eq_false_iff, Bool.and_eq_true, Bool.and_eq_false_imp, decide_eq_true_eq, decide_eq_false_iff_not, Bool.not_eq_true', Bool.not_eq_false', Bool.not_eq_true, Bool.not_eq_false, Bool.not_true, Bool.not_false, ne_eq] at hb101'
      obtain ⟨v102, e102, r102⟩ := api_Header.g_Fields r0
      refine rd_yes rfl rfl (ov_faddr rfl e102) ?_
      refine rd_yes rfl rfl (ov_load rfl (TR.cnt (tSl api_Field.t) r102) (TR.agg (tSl api_Field.t) r102)) ?_
      refine rd_yes rfl rfl (ov_bi rfl (sl_len r102 Try.underlying23 _)) ?_
      refine rd_yes rfl rfl (ov_bin rfl rfl i_gtr) ?_
      refine rd_op (v := vb (decide (20 < (x0.Fields.length : Int)))) (ov_pick rfl rfl rfl rfl) ?_
      exact rd_weak (sub_cons rfl (sub_skip rfl (sub_skip rfl (sub_skip rfl (sub_skip rfl (sub_skip rfl (sub_refl _))))))) k
    · intro k
      refine rd_skip rfl rfl ?_
      refine rd_skip rfl rfl ?_
      refine rd_skip rfl rfl ?_
      refine rd_skip rfl rfl ?_
      refine rd_op (v := vb true) (ov_pick rfl rfl rfl rfl) ?_
      exact rd_weak (sub_cons rfl (sub_skip rfl (sub_skip rfl (sub_skip rfl (sub_skip rfl (sub_skip rfl (sub_refl _))))))) k
  refine rd_nil ?_
  refine pn_seq ?_
  refine rc_cond rfl (fun hc103 => ?_) (fun hc103 => ?_)
  · replace hres := (ite_t hc103).symm.trans hres
    have hc103' := hc103
    try simp only [Bool.or_eq_true, Bool.or_eq_false_iff, Bool.and_eq_true, Bool.and_eq_false_imp, decide_eq_true_eq, decide_eq_false_iff_not, Bool.not_eq_true', Bool.not_eq_false', Bool.not_eq_true, Bool.not_eq_false, Bool.not_true, Bool.not_false, ne_eq] at hc103'
    refine rc_seq ?_
    refine rc_region ?_
    refine rd_op (v := vb false) (ov_move rfl) ?_
    refine rd_nil ?_
    refine pn_seq ?_
    subst hres
    exact rc_retV (.tmp rfl .nil) (deep_closed rfl) rfl
  · replace hres := (ite_f hc103).symm.trans hres
    have hc103' := hc103
    try simp only [Bool.or_eq_true, Bool.or_eq_false_iff, Bool.and_eq_true, Bool.and_eq_false_imp, decide_eq_true_eq, decide_eq_false_iff_not, Bool.not_eq_true', Bool.not_eq_false', Bool.not_eq_true, Bool.not_eq_false, Bool.not_true, Bool.not_false, ne_eq] at hc103'
    refine rc_skip ?_
    refine pn_seq ?_
    refine rc_seq ?_
    refine rc_seq ?_
    refine rc_region ?_
    refine rd_op (v := vi 0) (ov_move rfl) ?_
    refine rd_nil ?_
    refine pn_seq ?_
    refine rc_block ?_
    refine rc_weak ?_ (ref11_Small_L1_ok (x0 := x0) (v0 := v0)  (r0 := r0) (hc103 := hc103) ?_ (Int.toNat ((x0.Fields.length : Int) - 0)) 0 rfl (by omega) hres)
    · exact ((sub_cons rfl (sub_cons rfl (sub_nil _))))
    · intro  hres
      refine px_blk ?_
      refine pn_seq ?_
      refine rc_seq ?_
      refine rc_region ?_
      refine rd_op (v := vb true) (ov_move rfl) ?_
      refine rd_nil ?_
      refine pn_seq ?_
      subst hres
      exact rc_retV (.tmp rfl .nil) (deep_closed rfl) rfl

/-- patchbay/patchbaylaw21.largeAction -/
def RF12 (res : Bool) (r : PV) : Prop := r = vb res
theorem law21_largeAction_L1_ok {S : List Fr} {res : Bool} {x0 : api_Action} {v0 : PV} (r0 : api_Action.t.R x0 v0) (hc105 : (((decide (8 < (x0.Params.length : Int))) || (decide (16 < (x0.Body.length : Int)))) || (decide (60 < (x0.Name.length : Int)))) = false) {K0 : Unit → Bool}
    (hK0 : K0 () = res → PX Try.prog 0 S (QR Try.prog [(2, none)] (RF12 res)) [] ⟨0, []⟩) :
    ∀ (m : Nat) (x3_ : Int) (hm1 : m = Int.toNat ((x0.Body.length : Int) - x3_)) (hlo1 : 0 ≤ x3_), law21_largeAction_L1 x0 K0 m x3_ = res → RC Try.prog (.loop ac12_L1) S (QR Try.prog [(2, none)] (RF12 res)) [(3, vi x3_), (1, .fp v0)] ⟨0, []⟩ := by
  have hc105' := hc105
  try simp only [Bool.or_eq_true, Bool.or_eq_false_iff, Bool.and_eq_true, Bool.and_eq_false_imp, decide_eq_true_eq, decide_eq_false_iff_not, Bool.not_eq_true', Bool.not_eq_false', Bool.not_eq_true, Bool.not_eq_false, Bool.not_true, Bool.not_false, ne_eq] at hc105'
  intro m
  induction m with
  | zero =>
    intro x3_ hm1 hlo1 hres
    rw [law21_largeAction_L1] at hres
    refine rc_loop ?_
    unfold ac12_L1
    refine rc_seq ?_
    refine rc_seq ?_
    refine rc_region ?_
    refine rd_op (ov_move rfl) ?_
    obtain ⟨v106, e106, r106⟩ := api_Action.g_Body r0
    refine rd_op (ov_faddr rfl e106) ?_
    refine rd_op (ov_load rfl (TR.cnt (tSl api_Statement.t) r106) (TR.agg (tSl api_Statement.t) r106)) ?_
    refine rd_op (ov_bi rfl (sl_len r106 Try.underlying45 _)) ?_
    refine rd_op (ov_bin rfl rfl i_lss) ?_
    refine rd_nil ?_
    refine pn_seq ?_
    refine rc_cond rfl (fun hc107 => ?_) (fun hc107 => ?_)
    · exfalso
      try simp only [Bool.or_eq_true, Bool.or_eq_false_iff, Bool.and_eq_true, Bool.and_eq_false_imp, decide_eq_true_eq, decide_eq_false_iff_not, Bool.not_eq_true', Bool.not_eq_false', Bool.not_eq_true, Bool.not_eq_false, Bool.not_true, Bool.not_false, ne_eq] at hc107
      omega
    · have hend := hres
      have hc107' := hc107
      try simp only [Bool.or_eq_true, Bool.or_eq_false_iff, Bool.and_eq_true, Bool.and_eq_false_imp, decide_eq_true_eq, decide_eq_false_iff_not, Bool.not_eq_true', Bool.not_eq_false', Bool.not_eq_true, Bool.not_eq_false, Bool.not_true, Bool.not_false, ne_eq] at hc107'
      refine rc_exit ?_
      refine px_seq ?_
      refine px_again ?_
      exact px_weak ((sub_nil _)) (hK0  hres)
  | succ m ih =>
    intro x3_ hm1 hlo1 hres
    rw [law21_largeAction_L1] at hres
    refine rc_loop ?_
    unfold ac12_L1
    refine rc_seq ?_
    refine rc_seq ?_
    refine rc_region ?_
    refine rd_op (ov_move rfl) ?_
    obtain ⟨v108, e108, r108⟩ := api_Action.g_Body r0
    refine rd_op (ov_faddr rfl e108) ?_
    refine rd_op (ov_load rfl (TR.cnt (tSl api_Statement.t) r108) (TR.agg (tSl api_Statement.t) r108)) ?_
    refine rd_op (ov_bi rfl (sl_len r108 Try.underlying45 _)) ?_
    refine rd_op (ov_bin rfl rfl i_lss) ?_
    refine rd_nil ?_
    refine pn_seq ?_
    refine rc_cond rfl (fun hc109 => ?_) (fun hc109 => ?_)
    · have hgo := hres
      have hc109' := hc109
      try simp only [Bool.or_eq_true, Bool.or_eq_false_iff, Bool.and_eq_true, Bool.and_eq_false_imp, decide_eq_true_eq, decide_eq_false_iff_not, Bool.not_eq_true', Bool.not_eq_false', Bool.not_eq_true, Bool.not_eq_false, Bool.not_true, Bool.not_false, ne_eq] at hc109'
      refine rc_skip ?_
      refine pn_seq ?_
      refine rc_seq ?_
      refine rc_block ?_
      refine rc_seq ?_
      refine rc_region ?_
      obtain ⟨v110, e110, r110⟩ := api_Action.g_Body r0
      refine rd_op (ov_faddr rfl e110) ?_
      refine rd_op (ov_load rfl (TR.cnt (tSl api_Statement.t) r110) (TR.agg (tSl api_Statement.t) r110)) ?_
      refine rd_op (ov_move rfl) ?_
      obtain ⟨v111, e111, r111⟩ := sl_idx (i := x3_) r110 (by omega) (by omega)
      refine rd_op (ov_iaddr rfl rfl e111) ?_
      obtain ⟨v112, e112, r112⟩ := api_Statement.g_Index r111
      refine rd_op (ov_faddr rfl e112) ?_
      refine rd_op (ov_load rfl (TR.cnt (tSl api_ExprNode.t) r112) (TR.agg (tSl api_ExprNode.t) r112)) ?_
      refine rd_op (ov_bi rfl (sl_len r112 Try.underlying61 _)) ?_
      refine rd_op (ov_bin rfl rfl i_gtr) ?_
      refine rd_op (ov_move rfl) ?_
      refine rd_cut (d := 44) (v := vb ((decide (40 < (((ix x0.Body x3_).Index).length : Int))) || (decide (40 < (((ix x0.Body x3_).Value).length : Int))))) ?_ ?_
      · intro S Q r
        simp only [ac12_G3, List.cons_append, List.nil_append, List.append_assoc]
        cases hb113 : (decide (40 < (((ix x0.Body x3_).Index).length : Int)))
        · intro k
          have hb113' := hb113
          try simp only [Bool.or_eq_true, Bool.or_eq_false_iff, Bool.and_eq_true, Bool.and_eq_false_imp, decide_eq_true_eq, decide_eq_false_iff_not, Bool.not_eq_true', Bool.not_eq_false', Bool.not_eq_true, Bool.not_eq_false, Bool.not_true, Bool.not_false, ne_eq] at hb113'
          obtain ⟨v114, e114, r114⟩ := api_Action.g_Body r0
          refine rd_yes rfl rfl (ov_faddr rfl e114) ?_
          refine rd_yes rfl rfl (ov_load rfl (TR.cnt (tSl api_Statement.t) r114) (TR.agg (tSl api_Statement.t) r114)) ?_
          refine rd_yes rfl rfl (ov_move rfl) ?_
          obtain ⟨v115, e115, r115⟩ := sl_idx (i := x3_) r114 (by omega) (by omega)
          refine rd_yes rfl rfl (ov_iaddr rfl rfl e115) ?_
          obtain ⟨v116, e116, r116⟩ := api_Statement.g_Value r115
          refine rd_yes rfl rfl (ov_faddr rfl e116) ?_
          refine rd_yes rfl rfl (ov_load rfl (TR.cnt (tSl api_ExprNode.t) r116) (TR.agg (tSl api_ExprNode.t) r116)) ?_
          refine rd_yes rfl rfl (ov_bi rfl (sl_len r116 Try.underlying61 _)) ?_
          refine rd_yes rfl rfl (ov_bin rfl rfl i_gtr) ?_
          refine rd_op (v := vb (decide (40 < (((ix x0.Body x3_).Value).length : Int)))) (ov_pick rfl rfl rfl rfl) ?_
          exact rd_weak (sub_cons rfl (sub_skip rfl (sub_skip rfl (sub_skip rfl (sub_skip rfl (sub_skip rfl (sub_skip rfl (sub_skip rfl (sub_skip rfl (sub_skip rfl (sub_refl _))))))))))) k
        · intro k
          refine rd_skip rfl rfl ?_
          refine rd_skip rfl rfl ?_
          refine rd_skip rfl rfl ?_
          refine rd_skip rfl rfl ?_
          refine rd_skip rfl rfl ?_
          refine rd_skip rfl rfl ?_
          refine rd_skip rfl rfl ?_
          refine rd_skip rfl rfl ?_
          refine rd_op (v := vb true) (ov_pick rfl rfl rfl rfl) ?_
          exact rd_weak (sub_cons rfl (sub_skip rfl (sub_skip rfl (sub_skip rfl (sub_skip rfl (sub_skip rfl (sub_skip rfl (sub_skip rfl (sub_skip rfl (sub_skip rfl (sub_refl _))))))))))) k
      refine rd_nil ?_
      refine pn_seq ?_
      refine rc_cond rfl (fun hc117 => ?_) (fun hc117 => ?_)
      · replace hres := (ite_t hc117).symm.trans hres
        have hc117' := hc117
        try simp only [Bool.or_eq_true, Bool.or_eq_false_iff, Bool.and_eq_true, Bool.and_eq_false_imp, decide_eq_true_eq, decide_eq_false_iff_not, Bool.not_eq_true', Bool.not_eq_false', Bool.not_eq_true, Bool.not_eq_false, Bool.not_true, Bool.not_false, ne_eq] at hc117'
        refine rc_seq ?_
        refine rc_region ?_
        refine rd_op (v := vb true) (ov_move rfl) ?_
        refine rd_nil ?_
        refine pn_seq ?_
        subst hres
        exact rc_retV (.tmp rfl .nil) (deep_closed rfl) rfl
      · replace hres := (ite_f hc117).symm.trans hres
        have hc117' := hc117
        try simp only [Bool.or_eq_true, Bool.or_eq_false_iff, Bool.and_eq_true, Bool.and_eq_false_imp, decide_eq_true_eq, decide_eq_false_iff_not, Bool.not_eq_true', Bool.not_eq_false', Bool.not_eq_true, Bool.not_eq_false, Bool.not_true, Bool.not_false, ne_eq] at hc117'
        refine rc_skip ?_
        refine pn_blk ?_
        refine pn_seq ?_
        refine rc_region ?_
        refine rd_op (ov_move rfl) ?_
        refine rd_op (ov_bin rfl rfl i_add) ?_
        refine rd_op (ov_move rfl) ?_
        refine rd_nil ?_
        refine pn_again ?_
        have hbd := sl_bound r108
        have hinc : wr (x3_ + 1) = x3_ + 1 := wr_of (by omega) (by omega)
        rw [hinc]
        refine rc_weak ?_ (ih (x3_ + 1)  (by omega) (by omega) hres)
        exact ((sub_cons rfl (sub_cons rfl (sub_nil _))))
    · exfalso
      try simp only [Bool.or_eq_true, Bool.or_eq_false_iff, Bool.and_eq_true, Bool.and_eq_false_imp, decide_eq_true_eq, decide_eq_false_iff_not, Bool.not_eq_true', Bool.not_eq_false', Bool.not_eq_true, Bool.not_eq_false, Bool.not_true, Bool.not_false, ne_eq] at hc109
      omega

theorem f12_ok {x0 : api_Action} {v0 : PV} (r0 : api_Action.t.R x0 v0) : FnR Try.prog 12 [v0] (vb (law21_largeAction x0)) := by
  obtain ⟨res, hres⟩ : ∃ res, law21_largeAction x0 = res := ⟨_, rfl⟩
  suffices H : RC Try.prog ac12 [] (QR Try.prog [(2, none)] (RF12 res)) (argE 0 [v0]) ⟨0, []⟩ by
    obtain ⟨r, h1, h2⟩ := fnE text12 (by simp) H
    rw [hres]
    have h2 : r = vb res := h2
    rw [← h2]; exact h1
  unfold law21_largeAction at hres
  unfold ac12
  refine rc_seq ?_
  refine rc_region ?_
  refine rd_op (ov_box rfl (TR.cnt api_Action.t r0)) ?_
  refine rd_op (v := vb false) (ov_move rfl) ?_
  refine rd_nil ?_
  refine pn_seq ?_
  refine rc_seq ?_
  refine rc_seq ?_
  refine rc_region ?_
  obtain ⟨v101, e101, r101⟩ := api_Action.g_Params r0
  refine rd_op (ov_faddr rfl e101) ?_
  refine rd_op (ov_load rfl (TR.cnt (tSl api_Field.t) r101) (TR.agg (tSl api_Field.t) r101)) ?_
  refine rd_op (ov_bi rfl (sl_len r101 Try.underlying23 _)) ?_
  refine rd_op (ov_bin rfl rfl i_gtr) ?_
  refine rd_op (ov_move rfl) ?_
  refine rd_cut (d := 13) (v := vb ((decide (8 < (x0.Params.length : Int))) || (decide (16 < (x0.Body.length : Int))))) ?_ ?_
  · intro S Q r
    simp only [ac12_G1, List.cons_append, List.nil_append, List.append_assoc]
    cases hb102 : (decide (8 < (x0.Params.length : Int)))
    · intro k
      have hb102' := hb102
      try simp only [Bool.or_eq_true, Bool.or_eq_false_iff, Bool.and_eq_true, Bool.and_eq_false_imp, decide_eq_true_eq, decide_eq_false_iff_not, Bool.not_eq_true', Bool.not_eq_false', Bool.not_eq_true, Bool.not_eq_false, Bool.not_true, Bool.not_false, ne_eq] at hb102'
      obtain ⟨v103, e103, r103⟩ := api_Action.g_Body r0
      refine rd_yes rfl rfl (ov_faddr rfl e103) ?_
      refine rd_yes rfl rfl (ov_load rfl (TR.cnt (tSl api_Statement.t) r103) (TR.agg (tSl api_Statement.t) r103)) ?_
      refine rd_yes rfl rfl (ov_bi rfl (sl_len r103 Try.underlying45 _)) ?_
      refine rd_yes rfl rfl (ov_bin rfl rfl i_gtr) ?_
      refine rd_op (v := vb (decide (16 < (x0.Body.length : Int)))) (ov_pick rfl rfl rfl rfl) ?_
      exact rd_weak (sub_cons rfl (sub_skip rfl (sub_skip rfl (sub_skip rfl (sub_skip rfl (sub_skip rfl (sub_refl _))))))) k
    · intro k
      refine rd_skip rfl rfl ?_
      refine rd_skip rfl rfl ?_
      refine rd_skip rfl rfl ?_
      refine rd_skip rfl rfl ?_
      refine rd_op (v := vb true) (ov_pick rfl rfl rfl rfl) ?_
      exact rd_weak (sub_cons rfl (sub_skip rfl (sub_skip rfl (sub_skip rfl (sub_skip rfl (sub_skip rfl (sub_refl _))))))) k
  refine rd_op (ov_move rfl) ?_
  refine rd_cut (d := 19) (v := vb (((decide (8 < (x0.Params.length : Int))) || (decide (16 < (x0.Body.length : Int)))) || (decide (60 < (x0.Name.length : Int))))) ?_ ?_
  · intro S Q r
    simp only [ac12_G2, List.cons_append, List.nil_append, List.append_assoc]
    cases hb104 : ((decide (8 < (x0.Params.length : Int))) || (decide (16 < (x0.Body.length : Int))))
    · intro k
      have hb104' := hb104
      try simp only [Bool.or_eq_true, Bool.or_eq_false_iff, Bool.and_eq_true, Bool.and_eq_false_imp, decide_eq_true_eq, decide_eq_false_iff_not, Bool.not_eq_true', Bool.not_eq_false', Bool.not_eq_true, Bool.not_eq_false, Bool.not_true, Bool.not_false, ne_eq] at hb104'
      refine rd_yes rfl rfl (ov_faddr rfl (api_Action.g_Name r0)) ?_
      refine rd_yes rfl rfl (ov_load rfl rfl rfl) ?_
      refine rd_yes rfl rfl (ov_bi rfl (str_len Try.underlying9)) ?_
      refine rd_yes rfl rfl (ov_bin rfl rfl i_gtr) ?_
      refine rd_op (v := vb (decide (60 < (x0.Name.length : Int)))) (ov_pick rfl rfl rfl rfl) ?_
      exact rd_weak (sub_cons rfl (sub_skip rfl (sub_skip rfl (sub_skip rfl (sub_skip rfl (sub_skip rfl (sub_refl _))))))) k
    · intro k
      refine rd_skip rfl rfl ?_
      refine rd_skip rfl rfl ?_
      refine rd_skip rfl rfl ?_
      refine rd_skip rfl rfl ?_
      refine rd_op (v := vb true) (ov_pick rfl rfl rfl rfl) ?_
      exact rd_weak (sub_cons rfl (sub_skip rfl (sub_skip rfl (sub_skip rfl (sub_skip rfl (sub_skip rfl (sub_refl _))))))) k
  refine rd_nil ?_
  refine pn_seq ?_
  refine rc_cond rfl (fun hc105 => ?_) (fun hc105 => ?_)
  · replace hres := (ite_t hc105).symm.trans hres
    have hc105' := hc105
    try simp only [Bool.or_eq_true, Bool.or_eq_false_iff, Bool.and_eq_true, Bool.and_eq_false_imp, decide_eq_true_eq, decide_eq_false_iff_not, Bool.not_eq_true', Bool.not_eq_false', Bool.not_eq_true, Bool.not_eq_false, Bool.not_true, Bool.not_false, ne_eq] at hc105'
    refine rc_seq ?_
    refine rc_region ?_
    refine rd_op (v := vb true) (ov_move rfl) ?_
    refine rd_nil ?_
    refine pn_seq ?_
    subst hres
    exact rc_retV (.tmp rfl .nil) (deep_closed rfl) rfl
  · replace hres := (ite_f hc105).symm.trans hres
    have hc105' := hc105
    try simp only [Bool.or_eq_true, Bool.or_eq_false_iff, Bool.and_eq_true, Bool.and_eq_false_imp, decide_eq_true_eq, decide_eq_false_iff_not, Bool.not_eq_true', Bool.not_eq_false', Bool.not_eq_true, Bool.not_eq_false, Bool.not_true, Bool.not_false, ne_eq] at hc105'
    refine rc_skip ?_
    refine pn_seq ?_
    refine rc_seq ?_
    refine rc_seq ?_
    refine rc_region ?_
    refine rd_op (v := vi 0) (ov_move rfl) ?_
    refine rd_nil ?_
    refine pn_seq ?_
    refine rc_block ?_
    refine rc_weak ?_ (law21_largeAction_L1_ok (x0 := x0) (v0 := v0)  (r0 := r0) (hc105 := hc105) ?_ (Int.toNat ((x0.Body.length : Int) - 0)) 0 rfl (by omega) hres)
    · exact ((sub_cons rfl (sub_cons rfl (sub_nil _))))
    · intro  hres
      refine px_blk ?_
      refine pn_seq ?_
      refine rc_seq ?_
      refine rc_region ?_
      refine rd_op (v := vb false) (ov_move rfl) ?_
      refine rd_nil ?_
      refine pn_seq ?_
      subst hres
      exact rc_retV (.tmp rfl .nil) (deep_closed rfl) rfl

/-- patchbay/patchbaylaw21.largeState -/
def RF13 (res : Bool) (r : PV) : Prop := r = vb res
theorem f13_ok {x0 : api_ParserState} {v0 : PV} (r0 : api_ParserState.t.R x0 v0) : FnR Try.prog 13 [v0] (vb (law21_largeState x0)) := by
  obtain ⟨res, hres⟩ : ∃ res, law21_largeState x0 = res := ⟨_, rfl⟩
  suffices H : RC Try.prog ac13 [] (QR Try.prog [(2, none)] (RF13 res)) (argE 0 [v0]) ⟨0, []⟩ by
    obtain ⟨r, h1, h2⟩ := fnE text13 (by simp) H
    rw [hres]
    have h2 : r = vb res := h2
    rw [← h2]; exact h1
  unfold law21_largeState at hres
  unfold ac13
  refine rc_seq ?_
  refine rc_region ?_
  refine rd_op (ov_box rfl (TR.cnt api_ParserState.t r0)) ?_
  refine rd_op (v := vb false) (ov_move rfl) ?_
  refine rd_nil ?_
  refine pn_seq ?_
  refine rc_seq ?_
  refine rc_region ?_
  obtain ⟨v101, e101, r101⟩ := api_ParserState.g_Extract r0
  refine rd_op (ov_faddr rfl e101) ?_
  refine rd_op (ov_load rfl (TR.cnt (tSl tI) r101) (TR.agg (tSl tI) r101)) ?_
  refine rd_op (ov_bi rfl (sl_len r101 Try.underlying29 _)) ?_
  refine rd_op (ov_bin rfl rfl i_gtr) ?_
  refine rd_op (ov_move rfl) ?_
  refine rd_cut (d := 12) (v := vb ((decide (8 < (x0.Extract.length : Int))) || (decide (12 < (x0.Cases.length : Int))))) ?_ ?_
  · intro S Q r
    simp only [ac13_G1, List.cons_append, List.nil_append, List.append_assoc]
    cases hb102 : (decide (8 < (x0.Extract.length : Int)))
    · intro k
      have hb102' := hb102
      try simp only [Bool.or_eq_true, Bool.or_eq_false_iff, Bool.and_eq_true, Bool.and_eq_false_imp, decide_eq_true_eq, decide_eq_false_iff_not, Bool.not_eq_true', Bool.not_eq_false', Bool.not_eq_true, Bool.not_eq_false, Bool.not_true, Bool.not_false, ne_eq] at hb102'
      obtain ⟨v103, e103, r103⟩ := api_ParserState.g_Cases r0
      refine rd_yes rfl rfl (ov_faddr rfl e103) ?_
      refine rd_yes rfl rfl (ov_load rfl (TR.cnt (tSl api_SelectCase.t) r103) (TR.agg (tSl api_SelectCase.t) r103)) ?_
      refine rd_yes rfl rfl (ov_bi rfl (sl_len r103 Try.underlying55 _)) ?_
      refine rd_yes rfl rfl (ov_bin rfl rfl i_gtr) ?_
      refine rd_op (v := vb (decide (12 < (x0.Cases.length : Int)))) (ov_pick rfl rfl rfl rfl) ?_
      exact rd_weak (sub_cons rfl (sub_skip rfl (sub_skip rfl (sub_skip rfl (sub_skip rfl (sub_skip rfl (sub_refl _))))))) k
    · intro k
      refine rd_skip rfl rfl ?_
      refine rd_skip rfl rfl ?_
      refine rd_skip rfl rfl ?_
      refine rd_skip rfl rfl ?_
      refine rd_op (v := vb true) (ov_pick rfl rfl rfl rfl) ?_
      exact rd_weak (sub_cons rfl (sub_skip rfl (sub_skip rfl (sub_skip rfl (sub_skip rfl (sub_skip rfl (sub_refl _))))))) k
  refine rd_op (ov_move rfl) ?_
  refine rd_cut (d := 18) (v := vb (((decide (8 < (x0.Extract.length : Int))) || (decide (12 < (x0.Cases.length : Int)))) || (decide (60 < (x0.Name.length : Int))))) ?_ ?_
  · intro S Q r
    simp only [ac13_G2, List.cons_append, List.nil_append, List.append_assoc]
    cases hb104 : ((decide (8 < (x0.Extract.length : Int))) || (decide (12 < (x0.Cases.length : Int))))
    · intro k
      have hb104' := hb104
      try simp only [Bool.or_eq_true, Bool.or_eq_false_iff, Bool.and_eq_true, Bool.and_eq_false_imp, decide_eq_true_eq, decide_eq_false_iff_not, Bool.not_eq_true', Bool.not_eq_false', Bool.not_eq_true, Bool.not_eq_false, Bool.not_true, Bool.not_false, ne_eq] at hb104'
      refine rd_yes rfl rfl (ov_faddr rfl (api_ParserState.g_Name r0)) ?_
      refine rd_yes rfl rfl (ov_load rfl rfl rfl) ?_
      refine rd_yes rfl rfl (ov_bi rfl (str_len Try.underlying9)) ?_
      refine rd_yes rfl rfl (ov_bin rfl rfl i_gtr) ?_
      refine rd_op (v := vb (decide (60 < (x0.Name.length : Int)))) (ov_pick rfl rfl rfl rfl) ?_
      exact rd_weak (sub_cons rfl (sub_skip rfl (sub_skip rfl (sub_skip rfl (sub_skip rfl (sub_skip rfl (sub_refl _))))))) k
    · intro k
      refine rd_skip rfl rfl ?_
      refine rd_skip rfl rfl ?_
      refine rd_skip rfl rfl ?_
      refine rd_skip rfl rfl ?_
      refine rd_op (v := vb true) (ov_pick rfl rfl rfl rfl) ?_
      exact rd_weak (sub_cons rfl (sub_skip rfl (sub_skip rfl (sub_skip rfl (sub_skip rfl (sub_skip rfl (sub_refl _))))))) k
  refine rd_op (ov_move rfl) ?_
  refine rd_nil ?_
  refine pn_seq ?_
  subst hres
  exact rc_retV (.tmp rfl .nil) (deep_closed rfl) rfl

/-- patchbay/patchbaylaw21.TooLarge -/
def RF4 (res : Bool) (r : PV) : Prop := r = vb res
theorem law21_TooLarge_L1_ok {S : List Fr} {res : Bool} {x0 : api_Program} {v0 : PV} (r0 : api_Program.t.R x0 v0) (hc118 : (((((((((decide (60 < (x0.Name.length : Int))) || (decide (16 < (x0.Headers.length : Int)))) || (decide (20 < (x0.Metadata.length : Int)))) || (decide (8 < (x0.Registers.length : Int)))) || (decide (24 < (x0.Actions.length : Int)))) || (decide (16 < (x0.Tables.length : Int)))) || (decide (16 < (x0.States.length : Int)))) || (decide (16 < (x0.Deparser.length : Int)))) || (decide (60 < (law21_nodes x0.Control 10)))) = false) {K0 : Unit → Bool}
    (hK0 : K0 () = res → PX Try.prog 0 S (QR Try.prog [(2, none)] (RF4 res)) [(1, .fp v0)] ⟨0, []⟩) :
    ∀ (m : Nat) (x3_ : Int) (hm1 : m = Int.toNat ((x0.Headers.length : Int) - x3_)) (hlo1 : 0 ≤ x3_), law21_TooLarge_L1 x0 K0 m x3_ = res → RC Try.prog (.loop ac4_L1) S (QR Try.prog [(2, none)] (RF4 res)) [(3, vi x3_), (1, .fp v0)] ⟨0, []⟩ := by
  have hc118' := hc118
  try simp only [Bool.or_eq_true, Bool.or_eq_false_iff, Bool.and_eq_true, Bool.and_eq_false_imp, decide_eq_true_eq, decide_eq_false_iff_not, Bool.not_eq_true', Bool.not_eq_false', Bool.not_eq_true, Bool.not_eq_false, Bool.not_true, Bool.not_false, ne_eq] at hc118'
  intro m
  induction m with
  | zero =>
    intro x3_ hm1 hlo1 hres
    rw [law21_TooLarge_L1] at hres
    refine rc_loop ?_
    unfold ac4_L1
    refine rc_seq ?_
    refine rc_seq ?_
    refine rc_region ?_
    refine rd_op (ov_move rfl) ?_
    obtain ⟨v119, e119, r119⟩ := api_Program.g_Headers r0
    refine rd_op (ov_faddr rfl e119) ?_
    refine rd_op (ov_load rfl (TR.cnt (tSl api_Header.t) r119) (TR.agg (tSl api_Header.t) r119)) ?_
    refine rd_op (ov_bi rfl (sl_len r119 Try.underlying22 _)) ?_
    refine rd_op (ov_bin rfl rfl i_lss) ?_
    refine rd_nil ?_
    refine pn_seq ?_
    refine rc_cond rfl (fun hc120 => ?_) (fun hc120 => ?_)
    · exfalso
      try simp only [Bool.or_eq_true, Bool.or_eq_false_iff, Bool.and_eq_true, Bool.and_eq_false_imp, decide_eq_true_eq, decide_eq_false_iff_not, Bool.not_eq_true', Bool.not_eq_false', Bool.not_eq_true, Bool.not_eq_false, Bool.not_true, Bool.not_false, ne_eq] at hc120
      omega
    · have hend := hres
      have hc120' := hc120
      try simp only [Bool.or_eq_true, Bool.or_eq_false_iff, Bool.and_eq_true, Bool.and_eq_false_imp, decide_eq_true_eq, decide_eq_false_iff_not, Bool.not_eq_true', Bool.not_eq_false', Bool.not_eq_true, Bool.not_eq_false, Bool.not_true, Bool.not_false, ne_eq] at hc120'
      refine rc_exit ?_
      refine px_seq ?_
      refine px_again ?_
      exact px_weak ((sub_cons rfl (sub_nil _))) (hK0  hres)
  | succ m ih =>
    intro x3_ hm1 hlo1 hres
    rw [law21_TooLarge_L1] at hres
    refine rc_loop ?_
    unfold ac4_L1
    refine rc_seq ?_
    refine rc_seq ?_
    refine rc_region ?_
    refine rd_op (ov_move rfl) ?_
    obtain ⟨v121, e121, r121⟩ := api_Program.g_Headers r0
    refine rd_op (ov_faddr rfl e121) ?_
    refine rd_op (ov_load rfl (TR.cnt (tSl api_Header.t) r121) (TR.agg (tSl api_Header.t) r121)) ?_
    refine rd_op (ov_bi rfl (sl_len r121 Try.underlying22 _)) ?_
    refine rd_op (ov_bin rfl rfl i_lss) ?_
    refine rd_nil ?_
    refine pn_seq ?_
    refine rc_cond rfl (fun hc122 => ?_) (fun hc122 => ?_)
    · have hgo := hres
      have hc122' := hc122
      try simp only [Bool.or_eq_true, Bool.or_eq_false_iff, Bool.and_eq_true, Bool.and_eq_false_imp, decide_eq_true_eq, decide_eq_false_iff_not, Bool.not_eq_true', Bool.not_eq_false', Bool.not_eq_true, Bool.not_eq_false, Bool.not_true, Bool.not_false, ne_eq] at hc122'
      refine rc_skip ?_
      refine pn_seq ?_
      refine rc_seq ?_
      refine rc_block ?_
      refine rc_seq ?_
      refine rc_region ?_
      obtain ⟨v123, e123, r123⟩ := api_Program.g_Headers r0
      refine rd_op (ov_faddr rfl e123) ?_
      refine rd_op (ov_load rfl (TR.cnt (tSl api_Header.t) r123) (TR.agg (tSl api_Header.t) r123)) ?_
      refine rd_op (ov_move rfl) ?_
      obtain ⟨v124, e124, r124⟩ := sl_idx (i := x3_) r123 (by omega) (by omega)
      refine rd_op (ov_iaddr rfl rfl e124) ?_
      refine rd_op (ov_load rfl (TR.cnt api_Header.t r124) (TR.agg api_Header.t r124)) ?_
      obtain ⟨y125, hw125, hres⟩ := let_ex hres
      have f125 := f11_ok  r124 
      rw [hw125] at f125
      refine rd_call (cv_fn rfl rfl (clL_cons (TR.clo api_Header.t r124) clL_nil) f125) ?_
      refine rd_op (ov_not rfl) ?_
      refine rd_nil ?_
      refine pn_seq ?_
      refine rc_cond rfl (fun hc126 => ?_) (fun hc126 => ?_)
      · replace hres := (ite_t hc126).symm.trans hres
        have hc126' := hc126
        try simp only [Bool.or_eq_true, Bool.or_eq_false_iff, Bool.and_eq_true, Bool.and_eq_false_imp, decide_eq_true_eq, decide_eq_false_iff_not, Bool.not_eq_true', Bool.not_eq_false', Bool.not_eq_true, Bool.not_eq_false, Bool.not_true, Bool.not_false, ne_eq] at hc126'
        refine rc_seq ?_
        refine rc_region ?_
        refine rd_op (v := vb true) (ov_move rfl) ?_
        refine rd_nil ?_
        refine pn_seq ?_
        subst hres
        exact rc_retV (.tmp rfl .nil) (deep_closed rfl) rfl
      · replace hres := (ite_f hc126).symm.trans hres
        have hc126' := hc126
        try simp only [Bool.or_eq_true, Bool.or_eq_false_iff, Bool.and_eq_true, Bool.and_eq_false_imp, decide_eq_true_eq, decide_eq_false_iff_not, Bool.not_eq_true', Bool.not_eq_false', Bool.not_eq_true, Bool.not_eq_false, Bool.not_true, Bool.not_false, ne_eq] at hc126'
        refine rc_skip ?_
        refine pn_blk ?_
        refine pn_seq ?_
        refine rc_region ?_
        refine rd_op (ov_move rfl) ?_
        refine rd_op (ov_bin rfl rfl i_add) ?_
        refine rd_op (ov_move rfl) ?_
        refine rd_nil ?_
        refine pn_again ?_
        have hbd := sl_bound r121
        have hinc : wr (x3_ + 1) = x3_ + 1 := wr_of (by omega) (by omega)
        rw [hinc]
        refine rc_weak ?_ (ih (x3_ + 1)  (by omega) (by omega) hres)
        exact ((sub_cons rfl (sub_cons rfl (sub_nil _))))
    · exfalso
      try simp only [Bool.or_eq_true, Bool.or_eq_false_iff, Bool.and_eq_true, Bool.and_eq_false_imp, decide_eq_true_eq, decide_eq_false_iff_not, Bool.not_eq_true', Bool.not_eq_false', Bool.not_eq_true, Bool.not_eq_false, Bool.not_true, Bool.not_false, ne_eq] at hc122
      omega

theorem law21_TooLarge_L2_ok {S : List Fr} {res : Bool} {x0 : api_Program} {v0 : PV} (r0 : api_Program.t.R x0 v0) (hc118 : (((((((((decide (60 < (x0.Name.length : Int))) || (decide (16 < (x0.Headers.length : Int)))) || (decide (20 < (x0.Metadata.length : Int)))) || (decide (8 < (x0.Registers.length : Int)))) || (decide (24 < (x0.Actions.length : Int)))) || (decide (16 < (x0.Tables.length : Int)))) || (decide (16 < (x0.States.length : Int)))) || (decide (16 < (x0.Deparser.length : Int)))) || (decide (60 < (law21_nodes x0.Control 10)))) = false) {K2 : Unit → Bool}
    (hK2 : K2 () = res → PX Try.prog 2 S (QR Try.prog [(2, none)] (RF4 res)) [(1, .fp v0)] ⟨0, []⟩) :
    ∀ (m : Nat) (x4_ : Int) (hm2 : m = Int.toNat ((x0.Actions.length : Int) - x4_)) (hlo2 : 0 ≤ x4_), law21_TooLarge_L2 x0 K2 m x4_ = res → RC Try.prog (.loop ac4_L2) S (QR Try.prog [(2, none)] (RF4 res)) [(4, vi x4_), (1, .fp v0)] ⟨0, []⟩ := by
  have hc118' := hc118
  try simp only [Bool.or_eq_true, Bool.or_eq_false_iff, Bool.and_eq_true, Bool.and_eq_false_imp, decide_eq_true_eq, decide_eq_false_iff_not, Bool.not_eq_true', Bool.not_eq_false', Bool.not_eq_true, Bool.not_eq_false, Bool.not_true, Bool.not_false, ne_eq] at hc118'
  intro m
  induction m with
  | zero =>
    intro x4_ hm2 hlo2 hres
    rw [law21_TooLarge_L2] at hres
    refine rc_loop ?_
    unfold ac4_L2
    refine rc_seq ?_
    refine rc_seq ?_
    refine rc_region ?_
    refine rd_op (ov_move rfl) ?_
    obtain ⟨v128, e128, r128⟩ := api_Program.g_Actions r0
    refine rd_op (ov_faddr rfl e128) ?_
    refine rd_op (ov_load rfl (TR.cnt (tSl api_Action.t) r128) (TR.agg (tSl api_Action.t) r128)) ?_
    refine rd_op (ov_bi rfl (sl_len r128 Try.underlying25 _)) ?_
    refine rd_op (ov_bin rfl rfl i_lss) ?_
    refine rd_nil ?_
    refine pn_seq ?_
    refine rc_cond rfl (fun hc129 => ?_) (fun hc129 => ?_)
    · exfalso
      try simp only [Bool.or_eq_true, Bool.or_eq_false_iff, Bool.and_eq_true, Bool.and_eq_false_imp, decide_eq_true_eq, decide_eq_false_iff_not, Bool.not_eq_true', Bool.not_eq_false', Bool.not_eq_true, Bool.not_eq_false, Bool.not_true, Bool.not_false, ne_eq] at hc129
      omega
    · have hend := hres
      have hc129' := hc129
      try simp only [Bool.or_eq_true, Bool.or_eq_false_iff, Bool.and_eq_true, Bool.and_eq_false_imp, decide_eq_true_eq, decide_eq_false_iff_not, Bool.not_eq_true', Bool.not_eq_false', Bool.not_eq_true, Bool.not_eq_false, Bool.not_true, Bool.not_false, ne_eq] at hc129'
      refine rc_exit ?_
      refine px_seq ?_
      refine px_again ?_
      exact px_weak ((sub_cons rfl (sub_nil _))) (hK2  hres)
  | succ m ih =>
    intro x4_ hm2 hlo2 hres
    rw [law21_TooLarge_L2] at hres
    refine rc_loop ?_
    unfold ac4_L2
    refine rc_seq ?_
    refine rc_seq ?_
    refine rc_region ?_
    refine rd_op (ov_move rfl) ?_
    obtain ⟨v130, e130, r130⟩ := api_Program.g_Actions r0
    refine rd_op (ov_faddr rfl e130) ?_
    refine rd_op (ov_load rfl (TR.cnt (tSl api_Action.t) r130) (TR.agg (tSl api_Action.t) r130)) ?_
    refine rd_op (ov_bi rfl (sl_len r130 Try.underlying25 _)) ?_
    refine rd_op (ov_bin rfl rfl i_lss) ?_
    refine rd_nil ?_
    refine pn_seq ?_
    refine rc_cond rfl (fun hc131 => ?_) (fun hc131 => ?_)
    · have hgo := hres
      have hc131' := hc131
      try simp only [Bool.or_eq_true, Bool.or_eq_false_iff, Bool.and_eq_true, Bool.and_eq_false_imp, decide_eq_true_eq, decide_eq_false_iff_not, Bool.not_eq_true', Bool.not_eq_false', Bool.not_eq_true, Bool.not_eq_false, Bool.not_true, Bool.not_false, ne_eq] at hc131'
      refine rc_skip ?_
      refine pn_seq ?_
      refine rc_seq ?_
      refine rc_block ?_
      refine rc_seq ?_
      refine rc_region ?_
      obtain ⟨v132, e132, r132⟩ := api_Program.g_Actions r0
      refine rd_op (ov_faddr rfl e132) ?_
      refine rd_op (ov_load rfl (TR.cnt (tSl api_Action.t) r132) (TR.agg (tSl api_Action.t) r132)) ?_
      refine rd_op (ov_move rfl) ?_
      obtain ⟨v133, e133, r133⟩ := sl_idx (i := x4_) r132 (by omega) (by omega)
      refine rd_op (ov_iaddr rfl rfl e133) ?_
      refine rd_op (ov_load rfl (TR.cnt api_Action.t r133) (TR.agg api_Action.t r133)) ?_
      obtain ⟨y134, hw134, hres⟩ := let_ex hres
      have f134 := f12_ok  r133 
      rw [hw134] at f134
      refine rd_call (cv_fn rfl rfl (clL_cons (TR.clo api_Action.t r133) clL_nil) f134) ?_
      refine rd_nil ?_
      refine pn_seq ?_
      refine rc_cond rfl (fun hc135 => ?_) (fun hc135 => ?_)
      · replace hres := (ite_t hc135).symm.trans hres
        have hc135' := hc135
        try simp only [Bool.or_eq_true, Bool.or_eq_false_iff, Bool.and_eq_true, Bool.and_eq_false_imp, decide_eq_true_eq, decide_eq_false_iff_not, Bool.not_eq_true', Bool.not_eq_false', Bool.not_eq_true, Bool.not_eq_false, Bool.not_true, Bool.not_false, ne_eq] at hc135'
        refine rc_seq ?_
        refine rc_region ?_
        refine rd_op (v := vb true) (ov_move rfl) ?_
        refine rd_nil ?_
        refine pn_seq ?_
        subst hres
        exact rc_retV (.tmp rfl .nil) (deep_closed rfl) rfl
      · replace hres := (ite_f hc135).symm.trans hres
        have hc135' := hc135
        try simp only [Bool.or_eq_true, Bool.or_eq_false_iff, Bool.and_eq_true, Bool.and_eq_false_imp, decide_eq_true_eq, decide_eq_false_iff_not, Bool.not_eq_true', Bool.not_eq_false', Bool.not_eq_true, Bool.not_eq_false, Bool.not_true, Bool.not_false, ne_eq] at hc135'
        refine rc_skip ?_
        refine pn_blk ?_
        refine pn_seq ?_
        refine rc_region ?_
        refine rd_op (ov_move rfl) ?_
        refine rd_op (ov_bin rfl rfl i_add) ?_
        refine rd_op (ov_move rfl) ?_
        refine rd_nil ?_
        refine pn_again ?_
        have hbd := sl_bound r130
        have hinc : wr (x4_ + 1) = x4_ + 1 := wr_of (by omega) (by omega)
        rw [hinc]
        refine rc_weak ?_ (ih (x4_ + 1)  (by omega) (by omega) hres)
        exact ((sub_cons rfl (sub_cons rfl (sub_nil _))))
    · exfalso
      try simp only [Bool.or_eq_true, Bool.or_eq_false_iff, Bool.and_eq_true, Bool.and_eq_false_imp, decide_eq_true_eq, decide_eq_false_iff_not, Bool.not_eq_true', Bool.not_eq_false', Bool.not_eq_true, Bool.not_eq_false, Bool.not_true, Bool.not_false, ne_eq] at hc131
      omega

theorem law21_TooLarge_L3_ok {S : List Fr} {res : Bool} {x0 : api_Program} {v0 : PV} (r0 : api_Program.t.R x0 v0) (hc118 : (((((((((decide (60 < (x0.Name.length : Int))) || (decide (16 < (x0.Headers.length : Int)))) || (decide (20 < (x0.Metadata.length : Int)))) || (decide (8 < (x0.Registers.length : Int)))) || (decide (24 < (x0.Actions.length : Int)))) || (decide (16 < (x0.Tables.length : Int)))) || (decide (16 < (x0.States.length : Int)))) || (decide (16 < (x0.Deparser.length : Int)))) || (decide (60 < (law21_nodes x0.Control 10)))) = false) {K4 : Unit → Bool}
    (hK4 : K4 () = res → PX Try.prog 4 S (QR Try.prog [(2, none)] (RF4 res)) [(1, .fp v0)] ⟨0, []⟩) :
    ∀ (m : Nat) (x5_ : Int) (hm3 : m = Int.toNat ((x0.Tables.length : Int) - x5_)) (hlo3 : 0 ≤ x5_), law21_TooLarge_L3 x0 K4 m x5_ = res → RC Try.prog (.loop ac4_L3) S (QR Try.prog [(2, none)] (RF4 res)) [(5, vi x5_), (1, .fp v0)] ⟨0, []⟩ := by
  have hc118' := hc118
  try simp only [Bool.or_eq_true, Bool.or_eq_false_iff, Bool.and_eq_true, Bool.and_eq_false_imp, decide_eq_true_eq, decide_eq_false_iff_not, Bool.not_eq_true', Bool.not_eq_false', Bool.not_eq_true, Bool.not_eq_false, Bool.not_true, Bool.not_false, ne_eq] at hc118'
  intro m
  induction m with
  | zero =>
    intro x5_ hm3 hlo3 hres
    rw [law21_TooLarge_L3] at hres
    refine rc_loop ?_
    unfold ac4_L3
    refine rc_seq ?_
    refine rc_seq ?_
    refine rc_region ?_
    refine rd_op (ov_move rfl) ?_
    obtain ⟨v137, e137, r137⟩ := api_Program.g_Tables r0
    refine rd_op (ov_faddr rfl e137) ?_
    refine rd_op (ov_load rfl (TR.cnt (tSl api_Table.t) r137) (TR.agg (tSl api_Table.t) r137)) ?_
    refine rd_op (ov_bi rfl (sl_len r137 Try.underlying26 _)) ?_
    refine rd_op (ov_bin rfl rfl i_lss) ?_
    refine rd_nil ?_
    refine pn_seq ?_
    refine rc_cond rfl (fun hc138 => ?_) (fun hc138 => ?_)
    · exfalso
      try simp only [Bool.or_eq_true, Bool.or_eq_false_iff, Bool.and_eq_true, Bool.and_eq_false_imp, decide_eq_true_eq, decide_eq_false_iff_not, Bool.not_eq_true', Bool.not_eq_false', Bool.not_eq_true, Bool.not_eq_false, Bool.not_true, Bool.not_false, ne_eq] at hc138
      omega
    · have hend := hres
      have hc138' := hc138
      try simp only [Bool.or_eq_true, Bool.or_eq_false_iff, Bool.and_eq_true, Bool.and_eq_false_imp, decide_eq_true_eq, decide_eq_false_iff_not, Bool.not_eq_true', Bool.not_eq_false', Bool.not_eq_true, Bool.not_eq_false, Bool.not_true, Bool.not_false, ne_eq] at hc138'
      refine rc_exit ?_
      refine px_seq ?_
      refine px_again ?_
      exact px_weak ((sub_cons rfl (sub_nil _))) (hK4  hres)
  | succ m ih =>
    intro x5_ hm3 hlo3 hres
    rw [law21_TooLarge_L3] at hres
    refine rc_loop ?_
    unfold ac4_L3
    refine rc_seq ?_
    refine rc_seq ?_
    refine rc_region ?_
    refine rd_op (ov_move rfl) ?_
    obtain ⟨v139, e139, r139⟩ := api_Program.g_Tables r0
    refine rd_op (ov_faddr rfl e139) ?_
    refine rd_op (ov_load rfl (TR.cnt (tSl api_Table.t) r139) (TR.agg (tSl api_Table.t) r139)) ?_
    refine rd_op (ov_bi rfl (sl_len r139 Try.underlying26 _)) ?_
    refine rd_op (ov_bin rfl rfl i_lss) ?_
    refine rd_nil ?_
    refine pn_seq ?_
    refine rc_cond rfl (fun hc140 => ?_) (fun hc140 => ?_)
    · have hgo := hres
      have hc140' := hc140
      try simp only [Bool.or_eq_true, Bool.or_eq_false_iff, Bool.and_eq_true, Bool.and_eq_false_imp, decide_eq_true_eq, decide_eq_false_iff_not, Bool.not_eq_true', Bool.not_eq_false', Bool.not_eq_true, Bool.not_eq_false, Bool.not_true, Bool.not_false, ne_eq] at hc140'
      refine rc_skip ?_
      refine pn_seq ?_
      refine rc_seq ?_
      refine rc_block ?_
      refine rc_seq ?_
      refine rc_region ?_
      obtain ⟨v141, e141, r141⟩ := api_Program.g_Tables r0
      refine rd_op (ov_faddr rfl e141) ?_
      refine rd_op (ov_load rfl (TR.cnt (tSl api_Table.t) r141) (TR.agg (tSl api_Table.t) r141)) ?_
      refine rd_op (ov_move rfl) ?_
      obtain ⟨v142, e142, r142⟩ := sl_idx (i := x5_) r141 (by omega) (by omega)
      refine rd_op (ov_iaddr rfl rfl e142) ?_
      obtain ⟨v143, e143, r143⟩ := api_Table.g_Keys r142
      refine rd_op (ov_faddr rfl e143) ?_
      refine rd_op (ov_load rfl (TR.cnt (tSl api_TableKey.t) r143) (TR.agg (tSl api_TableKey.t) r143)) ?_
      refine rd_op (ov_bi rfl (sl_len r143 Try.underlying48 _)) ?_
      refine rd_op (ov_bin rfl rfl i_gtr) ?_
      refine rd_op (ov_move rfl) ?_
      refine rd_cut (d := 110) (v := vb ((decide (10 < (((ix x0.Tables x5_).Keys).length : Int))) || (decide (24 < (((ix x0.Tables x5_).Actions).length : Int))))) ?_ ?_
      · intro S Q r
        simp only [ac4_G9, List.cons_append, List.nil_append, List.append_assoc]
        cases hb144 : (decide (10 < (((ix x0.Tables x5_).Keys).length : Int)))
        · intro k
          have hb144' := hb144
          try simp only [Bool.or_eq_true, Bool.or_eq_false_iff, Bool.and_eq_true, Bool.and_eq_false_imp, decide_eq_true_eq, decide_eq_false_iff_not, Bool.not_eq_true', Bool.not_eq_false', Bool.not_eq_true, Bool.not_eq_false, Bool.not_true, Bool.not_false, ne_eq] at hb144'
          obtain ⟨v145, e145, r145⟩ := api_Program.g_Tables r0
          refine rd_yes rfl rfl (ov_faddr rfl e145) ?_
          refine rd_yes rfl rfl (ov_load rfl (TR.cnt (tSl api_Table.t) r145) (TR.agg (tSl api_Table.t) r145)) ?_
          refine rd_yes rfl rfl (ov_move rfl) ?_
          obtain ⟨v146, e146, r146⟩ := sl_idx (i := x5_) r145 (by omega) (by omega)
          refine rd_yes rfl rfl (ov_iaddr rfl rfl e146) ?_
          obtain ⟨v147, e147, r147⟩ := api_Table.g_Actions r146
          refine rd_yes rfl rfl (ov_faddr rfl e147) ?_
          refine rd_yes rfl rfl (ov_load rfl (TR.cnt (tSl tI) r147) (TR.agg (tSl tI) r147)) ?_
          refine rd_yes rfl rfl (ov_bi rfl (sl_len r147 Try.underlying29 _)) ?_
          refine rd_yes rfl rfl (ov_bin rfl rfl i_gtr) ?_
          refine rd_op (v := vb (decide (24 < (((ix x0.Tables x5_).Actions).length : Int)))) (ov_pick rfl rfl rfl rfl) ?_
          exact rd_weak (sub_cons rfl (sub_skip rfl (sub_skip rfl (sub_skip rfl (sub_skip rfl (sub_skip rfl (sub_skip rfl (sub_skip rfl (sub_skip rfl (sub_skip rfl (sub_refl _))))))))))) k
        · intro k
          refine rd_skip rfl rfl ?_
          refine rd_skip rfl rfl ?_
          refine rd_skip rfl rfl ?_
          refine rd_skip rfl rfl ?_
          refine rd_skip rfl rfl ?_
          refine rd_skip rfl rfl ?_
          refine rd_skip rfl rfl ?_
          refine rd_skip rfl rfl ?_
          refine rd_op (v := vb true) (ov_pick rfl rfl rfl rfl) ?_
          exact rd_weak (sub_cons rfl (sub_skip rfl (sub_skip rfl (sub_skip rfl (sub_skip rfl (sub_skip rfl (sub_skip rfl (sub_skip rfl (sub_skip rfl (sub_skip rfl (sub_refl _))))))))))) k
      refine rd_op (ov_move rfl) ?_
      refine rd_cut (d := 121) (v := vb (((decide (10 < (((ix x0.Tables x5_).Keys).length : Int))) || (decide (24 < (((ix x0.Tables x5_).Actions).length : Int)))) || (decide (8 < ((((ix x0.Tables x5_).Default).Args).length : Int))))) ?_ ?_
      · intro S Q r
        simp only [ac4_G10, List.cons_append, List.nil_append, List.append_assoc]
        cases hb148 : ((decide (10 < (((ix x0.Tables x5_).Keys).length : Int))) || (decide (24 < (((ix x0.Tables x5_).Actions).length : Int))))
        · intro k
          have hb148' := hb148
          try simp only [Bool.or_eq_true, Bool.or_eq_false_iff, Bool.and_eq_true, Bool.and_eq_false_imp, decide_eq_true_eq, decide_eq_false_iff_not, Bool.not_eq_true', Bool.not_eq_false', Bool.not_eq_true, Bool.not_eq_false, Bool.not_true, Bool.not_false, ne_eq] at hb148'
          obtain ⟨v149, e149, r149⟩ := api_Program.g_Tables r0
          refine rd_yes rfl rfl (ov_faddr rfl e149) ?_
          refine rd_yes rfl rfl (ov_load rfl (TR.cnt (tSl api_Table.t) r149) (TR.agg (tSl api_Table.t) r149)) ?_
          refine rd_yes rfl rfl (ov_move rfl) ?_
          obtain ⟨v150, e150, r150⟩ := sl_idx (i := x5_) r149 (by omega) (by omega)
          refine rd_yes rfl rfl (ov_iaddr rfl rfl e150) ?_
          obtain ⟨v151, e151, r151⟩ := api_Table.g_Default r150
          refine rd_yes rfl rfl (ov_faddr rfl e151) ?_
          obtain ⟨v152, e152, r152⟩ := api_ActionCall.g_Args r151
          refine rd_yes rfl rfl (ov_faddr rfl e152) ?_
          refine rd_yes rfl rfl (ov_load rfl (TR.cnt (tSl tU32) r152) (TR.agg (tSl tU32) r152)) ?_
          refine rd_yes rfl rfl (ov_bi rfl (sl_len r152 Try.underlying49 _)) ?_
          refine rd_yes rfl rfl (ov_bin rfl rfl i_gtr) ?_
          refine rd_op (v := vb (decide (8 < ((((ix x0.Tables x5_).Default).Args).length : Int)))) (ov_pick rfl rfl rfl rfl) ?_
          exact rd_weak (sub_cons rfl (sub_skip rfl (sub_skip rfl (sub_skip rfl (sub_skip rfl (sub_skip rfl (sub_skip rfl (sub_skip rfl (sub_skip rfl (sub_skip rfl (sub_skip rfl (sub_refl _)))))))))))) k
        · intro k
          refine rd_skip rfl rfl ?_
          refine rd_skip rfl rfl ?_
          refine rd_skip rfl rfl ?_
          refine rd_skip rfl rfl ?_
          refine rd_skip rfl rfl ?_
          refine rd_skip rfl rfl ?_
          refine rd_skip rfl rfl ?_
          refine rd_skip rfl rfl ?_
          refine rd_skip rfl rfl ?_
          refine rd_op (v := vb true) (ov_pick rfl rfl rfl rfl) ?_
          exact rd_weak (sub_cons rfl (sub_skip rfl (sub_skip rfl (sub_skip rfl (sub_skip rfl (sub_skip rfl (sub_skip rfl (sub_skip rfl (sub_skip rfl (sub_skip rfl (sub_skip rfl (sub_refl _)))))))))))) k
      refine rd_op (ov_move rfl) ?_
      refine rd_cut (d := 131) (v := vb ((((decide (10 < (((ix x0.Tables x5_).Keys).length : Int))) || (decide (24 < (((ix x0.Tables x5_).Actions).length : Int)))) || (decide (8 < ((((ix x0.Tables x5_).Default).Args).length : Int)))) || (decide (60 < (((ix x0.Tables x5_).Name).length : Int))))) ?_ ?_
      · intro S Q r
        simp only [ac4_G11, List.cons_append, List.nil_append, List.append_assoc]
        cases hb153 : (((decide (10 < (((ix x0.Tables x5_).Keys).length : Int))) || (decide (24 < (((ix x0.Tables x5_).Actions).length : Int)))) || (decide (8 < ((((ix x0.Tables x5_).Default).Args).length : Int))))
        · intro k
          have hb153' := hb153
          try simp only [Bool.or_eq_true, Bool.or_eq_false_iff, Bool.and_eq_true, Bool.and_eq_false_imp, decide_eq_true_eq, decide_eq_false_iff_not, Bool.not_eq_true', Bool.not_eq_false', Bool.not_eq_true, Bool.not_eq_false, Bool.not_true, Bool.not_false, ne_eq] at hb153'
          obtain ⟨v154, e154, r154⟩ := api_Program.g_Tables r0
          refine rd_yes rfl rfl (ov_faddr rfl e154) ?_
          refine rd_yes rfl rfl (ov_load rfl (TR.cnt (tSl api_Table.t) r154) (TR.agg (tSl api_Table.t) r154)) ?_
          refine rd_yes rfl rfl (ov_move rfl) ?_
          obtain ⟨v155, e155, r155⟩ := sl_idx (i := x5_) r154 (by omega) (by omega)
          refine rd_yes rfl rfl (ov_iaddr rfl rfl e155) ?_
          refine rd_yes rfl rfl (ov_faddr rfl (api_Table.g_Name r155)) ?_
          refine rd_yes rfl rfl (ov_load rfl rfl rfl) ?_
          refine rd_yes rfl rfl (ov_bi rfl (str_len Try.underlying9)) ?_
          refine rd_yes rfl rfl (ov_bin rfl rfl i_gtr) ?_
          refine rd_op (v := vb (decide (60 < (((ix x0.Tables x5_).Name).length : Int)))) (ov_pick rfl rfl rfl rfl) ?_
          exact rd_weak (sub_cons rfl (sub_skip rfl (sub_skip rfl (sub_skip rfl (sub_skip rfl (sub_skip rfl (sub_skip rfl (sub_skip rfl (sub_skip rfl (sub_skip rfl (sub_refl _))))))))))) k
        · intro k
          refine rd_skip rfl rfl ?_
          refine rd_skip rfl rfl ?_
          refine rd_skip rfl rfl ?_
          refine rd_skip rfl rfl ?_
          refine rd_skip rfl rfl ?_
          refine rd_skip rfl rfl ?_
          refine rd_skip rfl rfl ?_
          refine rd_skip rfl rfl ?_
          refine rd_op (v := vb true) (ov_pick rfl rfl rfl rfl) ?_
          exact rd_weak (sub_cons rfl (sub_skip rfl (sub_skip rfl (sub_skip rfl (sub_skip rfl (sub_skip rfl (sub_skip rfl (sub_skip rfl (sub_skip rfl (sub_skip rfl (sub_refl _))))))))))) k
      refine rd_nil ?_
      refine pn_seq ?_
      refine rc_cond rfl (fun hc156 => ?_) (fun hc156 => ?_)
      · replace hres := (ite_t hc156).symm.trans hres
        have hc156' := hc156
        try simp only [Bool.or_eq_true, Bool.or_eq_false_iff, Bool.and_eq_true, Bool.and_eq_false_imp, decide_eq_true_eq, decide_eq_false_iff_not, Bool.not_eq_true', Bool.not_eq_false', Bool.not_eq_true, Bool.not_eq_false, Bool.not_true, Bool.not_false, ne_eq] at hc156'
        refine rc_seq ?_
        refine rc_region ?_
        refine rd_op (v := vb true) (ov_move rfl) ?_
        refine rd_nil ?_
        refine pn_seq ?_
        subst hres
        exact rc_retV (.tmp rfl .nil) (deep_closed rfl) rfl
      · replace hres := (ite_f hc156).symm.trans hres
        have hc156' := hc156
        try simp only [Bool.or_eq_true, Bool.or_eq_false_iff, Bool.and_eq_true, Bool.and_eq_false_imp, decide_eq_true_eq, decide_eq_false_iff_not, Bool.not_eq_true', Bool.not_eq_false', Bool.not_eq_true, Bool.not_eq_false, Bool.not_true, Bool.not_false, ne_eq] at hc156'
        refine rc_skip ?_
        refine pn_blk ?_
        refine pn_seq ?_
        refine rc_region ?_
        refine rd_op (ov_move rfl) ?_
        refine rd_op (ov_bin rfl rfl i_add) ?_
        refine rd_op (ov_move rfl) ?_
        refine rd_nil ?_
        refine pn_again ?_
        have hbd := sl_bound r139
        have hinc : wr (x5_ + 1) = x5_ + 1 := wr_of (by omega) (by omega)
        rw [hinc]
        refine rc_weak ?_ (ih (x5_ + 1)  (by omega) (by omega) hres)
        exact ((sub_cons rfl (sub_cons rfl (sub_nil _))))
    · exfalso
      try simp only [Bool.or_eq_true, Bool.or_eq_false_iff, Bool.and_eq_true, Bool.and_eq_false_imp, decide_eq_true_eq, decide_eq_false_iff_not, Bool.not_eq_true', Bool.not_eq_false', Bool.not_eq_true, Bool.not_eq_false, Bool.not_true, Bool.not_false, ne_eq] at hc140
      omega

theorem law21_TooLarge_L4_ok {S : List Fr} {res : Bool} {x0 : api_Program} {v0 : PV} (r0 : api_Program.t.R x0 v0) (hc118 : (((((((((decide (60 < (x0.Name.length : Int))) || (decide (16 < (x0.Headers.length : Int)))) || (decide (20 < (x0.Metadata.length : Int)))) || (decide (8 < (x0.Registers.length : Int)))) || (decide (24 < (x0.Actions.length : Int)))) || (decide (16 < (x0.Tables.length : Int)))) || (decide (16 < (x0.States.length : Int)))) || (decide (16 < (x0.Deparser.length : Int)))) || (decide (60 < (law21_nodes x0.Control 10)))) = false) {K6 : Unit → Bool}
    (hK6 : K6 () = res → PX Try.prog 6 S (QR Try.prog [(2, none)] (RF4 res)) [] ⟨0, []⟩) :
    ∀ (m : Nat) (x6_ : Int) (hm4 : m = Int.toNat ((x0.States.length : Int) - x6_)) (hlo4 : 0 ≤ x6_), law21_TooLarge_L4 x0 K6 m x6_ = res → RC Try.prog (.loop ac4_L4) S (QR Try.prog [(2, none)] (RF4 res)) [(6, vi x6_), (1, .fp v0)] ⟨0, []⟩ := by
  have hc118' := hc118
  try simp only [Bool.or_eq_true, Bool.or_eq_false_iff, Bool.and_eq_true, Bool.and_eq_false_imp, decide_eq_true_eq, decide_eq_false_iff_not, Bool.not_eq_true', Bool.not_eq_false', Bool.not_eq_true, Bool.not_eq_false, Bool.not_true, Bool.not_false, ne_eq] at hc118'
  intro m
  induction m with
  | zero =>
    intro x6_ hm4 hlo4 hres
    rw [law21_TooLarge_L4] at hres
    refine rc_loop ?_
    unfold ac4_L4
    refine rc_seq ?_
    refine rc_seq ?_
    refine rc_region ?_
    refine rd_op (ov_move rfl) ?_
    obtain ⟨v158, e158, r158⟩ := api_Program.g_States r0
    refine rd_op (ov_faddr rfl e158) ?_
    refine rd_op (ov_load rfl (TR.cnt (tSl api_ParserState.t) r158) (TR.agg (tSl api_ParserState.t) r158)) ?_
    refine rd_op (ov_bi rfl (sl_len r158 Try.underlying27 _)) ?_
    refine rd_op (ov_bin rfl rfl i_lss) ?_
    refine rd_nil ?_
    refine pn_seq ?_
    refine rc_cond rfl (fun hc159 => ?_) (fun hc159 => ?_)
    · exfalso
      try simp only [Bool.or_eq_true, Bool.or_eq_false_iff, Bool.and_eq_true, Bool.and_eq_false_imp, decide_eq_true_eq, decide_eq_false_iff_not, Bool.not_eq_true', Bool.not_eq_false', Bool.not_eq_true, Bool.not_eq_false, Bool.not_true, Bool.not_false, ne_eq] at hc159
      omega
    · have hend := hres
      have hc159' := hc159
      try simp only [Bool.or_eq_true, Bool.or_eq_false_iff, Bool.and_eq_true, Bool.and_eq_false_imp, decide_eq_true_eq, decide_eq_false_iff_not, Bool.not_eq_true', Bool.not_eq_false', Bool.not_eq_true, Bool.not_eq_false, Bool.not_true, Bool.not_false, ne_eq] at hc159'
      refine rc_exit ?_
      refine px_seq ?_
      refine px_again ?_
      exact px_weak ((sub_nil _)) (hK6  hres)
  | succ m ih =>
    intro x6_ hm4 hlo4 hres
    rw [law21_TooLarge_L4] at hres
    refine rc_loop ?_
    unfold ac4_L4
    refine rc_seq ?_
    refine rc_seq ?_
    refine rc_region ?_
    refine rd_op (ov_move rfl) ?_
    obtain ⟨v160, e160, r160⟩ := api_Program.g_States r0
    refine rd_op (ov_faddr rfl e160) ?_
    refine rd_op (ov_load rfl (TR.cnt (tSl api_ParserState.t) r160) (TR.agg (tSl api_ParserState.t) r160)) ?_
    refine rd_op (ov_bi rfl (sl_len r160 Try.underlying27 _)) ?_
    refine rd_op (ov_bin rfl rfl i_lss) ?_
    refine rd_nil ?_
    refine pn_seq ?_
    refine rc_cond rfl (fun hc161 => ?_) (fun hc161 => ?_)
    · have hgo := hres
      have hc161' := hc161
      try simp only [Bool.or_eq_true, Bool.or_eq_false_iff, Bool.and_eq_true, Bool.and_eq_false_imp, decide_eq_true_eq, decide_eq_false_iff_not, Bool.not_eq_true', Bool.not_eq_false', Bool.not_eq_true, Bool.not_eq_false, Bool.not_true, Bool.not_false, ne_eq] at hc161'
      refine rc_skip ?_
      refine pn_seq ?_
      refine rc_seq ?_
      refine rc_block ?_
      refine rc_seq ?_
      refine rc_region ?_
      obtain ⟨v162, e162, r162⟩ := api_Program.g_States r0
      refine rd_op (ov_faddr rfl e162) ?_
      refine rd_op (ov_load rfl (TR.cnt (tSl api_ParserState.t) r162) (TR.agg (tSl api_ParserState.t) r162)) ?_
      refine rd_op (ov_move rfl) ?_
      obtain ⟨v163, e163, r163⟩ := sl_idx (i := x6_) r162 (by omega) (by omega)
      refine rd_op (ov_iaddr rfl rfl e163) ?_
      refine rd_op (ov_load rfl (TR.cnt api_ParserState.t r163) (TR.agg api_ParserState.t r163)) ?_
      obtain ⟨y164, hw164, hres⟩ := let_ex hres
      have f164 := f13_ok  r163 
      rw [hw164] at f164
      refine rd_call (cv_fn rfl rfl (clL_cons (TR.clo api_ParserState.t r163) clL_nil) f164) ?_
      refine rd_nil ?_
      refine pn_seq ?_
      refine rc_cond rfl (fun hc165 => ?_) (fun hc165 => ?_)
      · replace hres := (ite_t hc165).symm.trans hres
        have hc165' := hc165
        try simp only [Bool.or_eq_true, Bool.or_eq_false_iff, Bool.and_eq_true, Bool.and_eq_false_imp, decide_eq_true_eq, decide_eq_false_iff_not, Bool.not_eq_true', Bool.not_eq_false', Bool.not_eq_true, Bool.not_eq_false, Bool.not_true, Bool.not_false, ne_eq] at hc165'
        refine rc_seq ?_
        refine rc_region ?_
        refine rd_op (v := vb true) (ov_move rfl) ?_
        refine rd_nil ?_
        refine pn_seq ?_
        subst hres
        exact rc_retV (.tmp rfl .nil) (deep_closed rfl) rfl
      · replace hres := (ite_f hc165).symm.trans hres
        have hc165' := hc165
        try simp only [Bool.or_eq_true, Bool.or_eq_false_iff, Bool.and_eq_true, Bool.and_eq_false_imp, decide_eq_true_eq, decide_eq_false_iff_not, Bool.not_eq_true', Bool.not_eq_false', Bool.not_eq_true, Bool.not_eq_false, Bool.not_true, Bool.not_false, ne_eq] at hc165'
        refine rc_skip ?_
        refine pn_blk ?_
        refine pn_seq ?_
        refine rc_region ?_
        refine rd_op (ov_move rfl) ?_
        refine rd_op (ov_bin rfl rfl i_add) ?_
        refine rd_op (ov_move rfl) ?_
        refine rd_nil ?_
        refine pn_again ?_
        have hbd := sl_bound r160
        have hinc : wr (x6_ + 1) = x6_ + 1 := wr_of (by omega) (by omega)
        rw [hinc]
        refine rc_weak ?_ (ih (x6_ + 1)  (by omega) (by omega) hres)
        exact ((sub_cons rfl (sub_cons rfl (sub_nil _))))
    · exfalso
      try simp only [Bool.or_eq_true, Bool.or_eq_false_iff, Bool.and_eq_true, Bool.and_eq_false_imp, decide_eq_true_eq, decide_eq_false_iff_not, Bool.not_eq_true', Bool.not_eq_false', Bool.not_eq_true, Bool.not_eq_false, Bool.not_true, Bool.not_false, ne_eq] at hc161
      omega

theorem f4_ok {x0 : api_Program} {v0 : PV} (r0 : api_Program.t.R x0 v0) : FnR Try.prog 4 [v0] (vb (law21_TooLarge x0)) := by
  obtain ⟨res, hres⟩ : ∃ res, law21_TooLarge x0 = res := ⟨_, rfl⟩
  suffices H : RC Try.prog ac4 [] (QR Try.prog [(2, none)] (RF4 res)) (argE 0 [v0]) ⟨0, []⟩ by
    obtain ⟨r, h1, h2⟩ := fnE text4 (by simp) H
    rw [hres]
    have h2 : r = vb res := h2
    rw [← h2]; exact h1
  unfold law21_TooLarge at hres
  unfold ac4
  refine rc_seq ?_
  refine rc_region ?_
  refine rd_op (ov_box rfl (TR.cnt api_Program.t r0)) ?_
  refine rd_op (v := vb false) (ov_move rfl) ?_
  refine rd_nil ?_
  refine pn_seq ?_
  refine rc_seq ?_
  refine rc_seq ?_
  refine rc_region ?_
  refine rd_op (ov_faddr rfl (api_Program.g_Name r0)) ?_
  refine rd_op (ov_load rfl rfl rfl) ?_
  refine rd_op (ov_bi rfl (str_len Try.underlying9)) ?_
  refine rd_op (ov_bin rfl rfl i_gtr) ?_
  refine rd_op (ov_move rfl) ?_
  refine rd_cut (d := 16) (v := vb ((decide (60 < (x0.Name.length : Int))) || (decide (16 < (x0.Headers.length : Int))))) ?_ ?_
  · intro S Q r
    simp only [ac4_G1, List.cons_append, List.nil_append, List.append_assoc]
    cases hb101 : (decide (60 < (x0.Name.length : Int)))
    · intro k
      have hb101' := hb101
      try simp only [Bool.or_eq_true, Bool.or_eq_false_iff, Bool.and_eq_true, Bool.and_eq_false_imp, decide_eq_true_eq, decide_eq_false_iff_not, Bool.not_eq_true', Bool.not_eq_false', Bool.not_eq_true, Bool.not_eq_false, Bool.not_true, Bool.not_false, ne_eq] at hb101'
      obtain ⟨v102, e102, r102⟩ := api_Program.g_Headers r0
      refine rd_yes rfl rfl (ov_faddr rfl e102) ?_
      refine rd_yes rfl rfl (ov_load rfl (TR.cnt (tSl api_Header.t) r102) (TR.agg (tSl api_Header.t) r102)) ?_
      refine rd_yes rfl rfl (ov_bi rfl (sl_len r102 Try.underlying22 _)) ?_
      refine rd_yes rfl rfl (ov_bin rfl rfl i_gtr) ?_
      refine rd_op (v := vb (decide (16 < (x0.Headers.length : Int)))) (ov_pick rfl rfl rfl rfl) ?_
      exact rd_weak (sub_cons rfl (sub_skip rfl (sub_skip rfl (sub_skip rfl (sub_skip rfl (sub_skip rfl (sub_refl _))))))) k
    · intro k
      refine rd_skip rfl rfl ?_
      refine rd_skip rfl rfl ?_
      refine rd_skip rfl rfl ?_
      refine rd_skip rfl rfl ?_
      refine rd_op (v := vb true) (ov_pick rfl rfl rfl rfl) ?_
      exact rd_weak (sub_cons rfl (sub_skip rfl (sub_skip rfl (sub_skip rfl (sub_skip rfl (sub_skip rfl (sub_refl _))))))) k
  refine rd_op (ov_move rfl) ?_
  refine rd_cut (d := 22) (v := vb (((decide (60 < (x0.Name.length : Int))) || (decide (16 < (x0.Headers.length : Int)))) || (decide (20 < (x0.Metadata.length : Int))))) ?_ ?_
  · intro S Q r
    simp only [ac4_G2, List.cons_append, List.nil_append, List.append_assoc]
    cases hb103 : ((decide (60 < (x0.Name.length : Int))) || (decide (16 < (x0.Headers.length : Int))))
    · intro k
      have hb103' := hb103
      try simp only [Bool.or_eq_true, Bool.or_eq_false_iff, Bool.and_eq_true, Bool.and_eq_false_imp, decide_eq_true_eq, decide_eq_false_iff_not, Bool.not_eq_true', Bool.not_eq_false', Bool.not_eq_true, Bool.not_eq_false, Bool.not_true, Bool.not_false, ne_eq] at hb103'
      obtain ⟨v104, e104, r104⟩ := api_Program.g_Metadata r0
      refine rd_yes rfl rfl (ov_faddr rfl e104) ?_
      refine rd_yes rfl rfl (ov_load rfl (TR.cnt (tSl api_Field.t) r104) (TR.agg (tSl api_Field.t) r104)) ?_
      refine rd_yes rfl rfl (ov_bi rfl (sl_len r104 Try.underlying23 _)) ?_
      refine rd_yes rfl rfl (ov_bin rfl rfl i_gtr) ?_
      refine rd_op (v := vb (decide (20 < (x0.Metadata.length : Int)))) (ov_pick rfl rfl rfl rfl) ?_
      exact rd_weak (sub_cons rfl (sub_skip rfl (sub_skip rfl (sub_skip rfl (sub_skip rfl (sub_skip rfl (sub_refl _))))))) k
    · intro k
      refine rd_skip rfl rfl ?_
      refine rd_skip rfl rfl ?_
      refine rd_skip rfl rfl ?_
      refine rd_skip rfl rfl ?_
      refine rd_op (v := vb true) (ov_pick rfl rfl rfl rfl) ?_
      exact rd_weak (sub_cons rfl (sub_skip rfl (sub_skip rfl (sub_skip rfl (sub_skip rfl (sub_skip rfl (sub_refl _))))))) k
  refine rd_op (ov_move rfl) ?_
  refine rd_cut (d := 28) (v := vb ((((decide (60 < (x0.Name.length : Int))) || (decide (16 < (x0.Headers.length : Int)))) || (decide (20 < (x0.Metadata.length : Int)))) || (decide (8 < (x0.Registers.length : Int))))) ?_ ?_
  · intro S Q r
    simp only [ac4_G3, List.cons_append, List.nil_append, List.append_assoc]
    cases hb105 : (((decide (60 < (x0.Name.length : Int))) || (decide (16 < (x0.Headers.length : Int)))) || (decide (20 < (x0.Metadata.length : Int))))
    · intro k
      have hb105' := hb105
      try simp only [Bool.or_eq_true, Bool.or_eq_false_iff, Bool.and_eq_true, Bool.and_eq_false_imp, decide_eq_true_eq, decide_eq_false_iff_not, Bool.not_eq_true', Bool.not_eq_false', Bool.not_eq_true, Bool.not_eq_false, Bool.not_true, Bool.not_false, ne_eq] at hb105'
      obtain ⟨v106, e106, r106⟩ := api_Program.g_Registers r0
      refine rd_yes rfl rfl (ov_faddr rfl e106) ?_
      refine rd_yes rfl rfl (ov_load rfl (TR.cnt (tSl api_Register.t) r106) (TR.agg (tSl api_Register.t) r106)) ?_
      refine rd_yes rfl rfl (ov_bi rfl (sl_len r106 Try.underlying24 _)) ?_
      refine rd_yes rfl rfl (ov_bin rfl rfl i_gtr) ?_
      refine rd_op (v := vb (decide (8 < (x0.Registers.length : Int)))) (ov_pick rfl rfl rfl rfl) ?_
      exact rd_weak (sub_cons rfl (sub_skip rfl (sub_skip rfl (sub_skip rfl (sub_skip rfl (sub_skip rfl (sub_refl _))))))) k
    · intro k
      refine rd_skip rfl rfl ?_
      refine rd_skip rfl rfl ?_
      refine rd_skip rfl rfl ?_
      refine rd_skip rfl rfl ?_
      refine rd_op (v := vb true) (ov_pick rfl rfl rfl rfl) ?_
      exact rd_weak (sub_cons rfl (sub_skip rfl (sub_skip rfl (sub_skip rfl (sub_skip rfl (sub_skip rfl (sub_refl _))))))) k
  refine rd_op (ov_move rfl) ?_
  refine rd_cut (d := 34) (v := vb (((((decide (60 < (x0.Name.length : Int))) || (decide (16 < (x0.Headers.length : Int)))) || (decide (20 < (x0.Metadata.length : Int)))) || (decide (8 < (x0.Registers.length : Int)))) || (decide (24 < (x0.Actions.length : Int))))) ?_ ?_
  · intro S Q r
    simp only [ac4_G4, List.cons_append, List.nil_append, List.append_assoc]
    cases hb107 : ((((decide (60 < (x0.Name.length : Int))) || (decide (16 < (x0.Headers.length : Int)))) || (decide (20 < (x0.Metadata.length : Int)))) || (decide (8 < (x0.Registers.length : Int))))
    · intro k
      have hb107' := hb107
      try simp only [Bool.or_eq_true, Bool.or_eq_false_iff, Bool.and_eq_true, Bool.and_eq_false_imp, decide_eq_true_eq, decide_eq_false_iff_not, Bool.not_eq_true', Bool.not_eq_false', Bool.not_eq_true, Bool.not_eq_false, Bool.not_true, Bool.not_false, ne_eq] at hb107'
      obtain ⟨v108, e108, r108⟩ := api_Program.g_Actions r0
      refine rd_yes rfl rfl (ov_faddr rfl e108) ?_
      refine rd_yes rfl rfl (ov_load rfl (TR.cnt (tSl api_Action.t) r108) (TR.agg (tSl api_Action.t) r108)) ?_
      refine rd_yes rfl rfl (ov_bi rfl (sl_len r108 Try.underlying25 _)) ?_
      refine rd_yes rfl rfl (ov_bin rfl rfl i_gtr) ?_
      refine rd_op (v := vb (decide (24 < (x0.Actions.length : Int)))) (ov_pick rfl rfl rfl rfl) ?_
      exact rd_weak (sub_cons rfl (sub_skip rfl (sub_skip rfl (sub_skip rfl (sub_skip rfl (sub_skip rfl (sub_refl _))))))) k
    · intro k
      refine rd_skip rfl rfl ?_
      refine rd_skip rfl rfl ?_
      refine rd_skip rfl rfl ?_
      refine rd_skip rfl rfl ?_
      refine rd_op (v := vb true) (ov_pick rfl rfl rfl rfl) ?_
      exact rd_weak (sub_cons rfl (sub_skip rfl (sub_skip rfl (sub_skip rfl (sub_skip rfl (sub_skip rfl (sub_refl _))))))) k
  refine rd_op (ov_move rfl) ?_
  refine rd_cut (d := 40) (v := vb ((((((decide (60 < (x0.Name.length : Int))) || (decide (16 < (x0.Headers.length : Int)))) || (decide (20 < (x0.Metadata.length : Int)))) || (decide (8 < (x0.Registers.length : Int)))) || (decide (24 < (x0.Actions.length : Int)))) || (decide (16 < (x0.Tables.length : Int))))) ?_ ?_
  · intro S Q r
    simp only [ac4_G5, List.cons_append, List.nil_append, List.append_assoc]
    cases hb109 : (((((decide (60 < (x0.Name.length : Int))) || (decide (16 < (x0.Headers.length : Int)))) || (decide (20 < (x0.Metadata.length : Int)))) || (decide (8 < (x0.Registers.length : Int)))) || (decide (24 < (x0.Actions.length : Int))))
    · intro k
      have hb109' := hb109
      try simp only [Bool.or_eq_true, Bool.or_eq_false_iff, Bool.and_eq_true, Bool.and_eq_false_imp, decide_eq_true_eq, decide_eq_false_iff_not, Bool.not_eq_true', Bool.not_eq_false', Bool.not_eq_true, Bool.not_eq_false, Bool.not_true, Bool.not_false, ne_eq] at hb109'
      obtain ⟨v110, e110, r110⟩ := api_Program.g_Tables r0
      refine rd_yes rfl rfl (ov_faddr rfl e110) ?_
      refine rd_yes rfl rfl (ov_load rfl (TR.cnt (tSl api_Table.t) r110) (TR.agg (tSl api_Table.t) r110)) ?_
      refine rd_yes rfl rfl (ov_bi rfl (sl_len r110 Try.underlying26 _)) ?_
      refine rd_yes rfl rfl (ov_bin rfl rfl i_gtr) ?_
      refine rd_op (v := vb (decide (16 < (x0.Tables.length : Int)))) (ov_pick rfl rfl rfl rfl) ?_
      exact rd_weak (sub_cons rfl (sub_skip rfl (sub_skip rfl (sub_skip rfl (sub_skip rfl (sub_skip rfl (sub_refl _))))))) k
    · intro k
      refine rd_skip rfl rfl ?_
      refine rd_skip rfl rfl ?_
      refine rd_skip rfl rfl ?_
      refine rd_skip rfl rfl ?_
      refine rd_op (v := vb true) (ov_pick rfl rfl rfl rfl) ?_
      exact rd_weak (sub_cons rfl (sub_skip rfl (sub_skip rfl (sub_skip rfl (sub_skip rfl (sub_skip rfl (sub_refl _))))))) k
  refine rd_op (ov_move rfl) ?_
  refine rd_cut (d := 46) (v := vb (((((((decide (60 < (x0.Name.length : Int))) || (decide (16 < (x0.Headers.length : Int)))) || (decide (20 < (x0.Metadata.length : Int)))) || (decide (8 < (x0.Registers.length : Int)))) || (decide (24 < (x0.Actions.length : Int)))) || (decide (16 < (x0.Tables.length : Int)))) || (decide (16 < (x0.States.length : Int))))) ?_ ?_
  · intro S Q r
    simp only [ac4_G6, List.cons_append, List.nil_append, List.append_assoc]
    cases hb111 : ((((((decide (60 < (x0.Name.length : Int))) || (decide (16 < (x0.Headers.length : Int)))) || (decide (20 < (x0.Metadata.length : Int)))) || (decide (8 < (x0.Registers.length : Int)))) || (decide (24 < (x0.Actions.length : Int)))) || (decide (16 < (x0.Tables.length : Int))))
    · intro k
      have hb111' := hb111
      try simp only [Bool.or_eq_true, Bool.or_eq_false_iff, Bool.and_eq_true, Bool.and_eq_false_imp, decide_eq_true_eq, decide_eq_false_iff_not, Bool.not_eq_true', Bool.not_eq_false', Bool.not_eq_true, Bool.not_eq_false, Bool.not_true, Bool.not_false, ne_eq] at hb111'
      obtain ⟨v112, e112, r112⟩ := api_Program.g_States r0
      refine rd_yes rfl rfl (ov_faddr rfl e112) ?_
      refine rd_yes rfl rfl (ov_load rfl (TR.cnt (tSl api_ParserState.t) r112) (TR.agg (tSl api_ParserState.t) r112)) ?_
      refine rd_yes rfl rfl (ov_bi rfl (sl_len r112 Try.underlying27 _)) ?_
      refine rd_yes rfl rfl (ov_bin rfl rfl i_gtr) ?_
      refine rd_op (v := vb (decide (16 < (x0.States.length : Int)))) (ov_pick rfl rfl rfl rfl) ?_
      exact rd_weak (sub_cons rfl (sub_skip rfl (sub_skip rfl (sub_skip rfl (sub_skip rfl (sub_skip rfl (sub_refl _))))))) k
    · intro k
      refine rd_skip rfl rfl ?_
      refine rd_skip rfl rfl ?_
      refine rd_skip rfl rfl ?_
      refine rd_skip rfl rfl ?_
      refine rd_op (v := vb true) (ov_pick rfl rfl rfl rfl) ?_
      exact rd_weak (sub_cons rfl (sub_skip rfl (sub_skip rfl (sub_skip rfl (sub_skip rfl (sub_skip rfl (sub_refl _))))))) k
  refine rd_op (ov_move rfl) ?_
  refine rd_cut (d := 52) (v := vb ((((((((decide (60 < (x0.Name.length : Int))) || (decide (16 < (x0.Headers.length : Int)))) || (decide (20 < (x0.Metadata.length : Int)))) || (decide (8 < (x0.Registers.length : Int)))) || (decide (24 < (x0.Actions.length : Int)))) || (decide (16 < (x0.Tables.length : Int)))) || (decide (16 < (x0.States.length : Int)))) || (decide (16 < (x0.Deparser.length : Int))))) ?_ ?_
  · intro S Q r
    simp only [ac4_G7, List.cons_append, List.nil_append, List.append_assoc]
    cases hb113 : (((((((decide (60 < (x0.Name.length : Int))) || (decide (16 < (x0.Headers.length : Int)))) || (decide (20 < (x0.Metadata.length : Int)))) || (decide (8 < (x0.Registers.length : Int)))) || (decide (24 < (x0.Actions.length : Int)))) || (decide (16 < (x0.Tables.length : Int)))) || (decide (16 < (x0.States.length : Int))))
    · intro k
      have hb113' := hb113
      try simp only [Bool.or_eq_true, Bool.or_eq_false_iff, Bool.and_eq_true, Bool.and_eq_false_imp, decide_eq_true_eq, decide_eq_false_iff_not, Bool.not_eq_true', Bool.not_eq_false', Bool.not_eq_true, Bool.not_eq_false, Bool.not_true, Bool.not_false, ne_eq] at hb113'
      obtain ⟨v114, e114, r114⟩ := api_Program.g_Deparser r0
      refine rd_yes rfl rfl (ov_faddr rfl e114) ?_
      refine rd_yes rfl rfl (ov_load rfl (TR.cnt (tSl tI) r114) (TR.agg (tSl tI) r114)) ?_
      refine rd_yes rfl rfl (ov_bi rfl (sl_len r114 Try.underlying29 _)) ?_
      refine rd_yes rfl rfl (ov_bin rfl rfl i_gtr) ?_
      refine rd_op (v := vb (decide (16 < (x0.Deparser.length : Int)))) (ov_pick rfl rfl rfl rfl) ?_
      exact rd_weak (sub_cons rfl (sub_skip rfl (sub_skip rfl (sub_skip rfl (sub_skip rfl (sub_skip rfl (sub_refl _))))))) k
    · intro k
      refine rd_skip rfl rfl ?_
      refine rd_skip rfl rfl ?_
      refine rd_skip rfl rfl ?_
      refine rd_skip rfl rfl ?_
      refine rd_op (v := vb true) (ov_pick rfl rfl rfl rfl) ?_
      exact rd_weak (sub_cons rfl (sub_skip rfl (sub_skip rfl (sub_skip rfl (sub_skip rfl (sub_skip rfl (sub_refl _))))))) k
  refine rd_op (ov_move rfl) ?_
  refine rd_cut (d := 58) (v := vb (((((((((decide (60 < (x0.Name.length : Int))) || (decide (16 < (x0.Headers.length : Int)))) || (decide (20 < (x0.Metadata.length : Int)))) || (decide (8 < (x0.Registers.length : Int)))) || (decide (24 < (x0.Actions.length : Int)))) || (decide (16 < (x0.Tables.length : Int)))) || (decide (16 < (x0.States.length : Int)))) || (decide (16 < (x0.Deparser.length : Int)))) || (decide (60 < (law21_nodes x0.Control 10))))) ?_ ?_
  · intro S Q r
    simp only [ac4_G8, List.cons_append, List.nil_append, List.append_assoc]
    cases hb115 : ((((((((decide (60 < (x0.Name.length : Int))) || (decide (16 < (x0.Headers.length : Int)))) || (decide (20 < (x0.Metadata.length : Int)))) || (decide (8 < (x0.Registers.length : Int)))) || (decide (24 < (x0.Actions.length : Int)))) || (decide (16 < (x0.Tables.length : Int)))) || (decide (16 < (x0.States.length : Int)))) || (decide (16 < (x0.Deparser.length : Int))))
    · intro k
      have hb115' := hb115
      try simp only [Bool.or_eq_true, Bool.or_eq_false_iff, Bool.and_eq_true, Bool.and_eq_false_imp, decide_eq_true_eq, decide_eq_false_iff_not, Bool.not_eq_true', Bool.not_eq_false', Bool.not_eq_true, Bool.not_eq_false, Bool.not_true, Bool.not_false, ne_eq] at hb115'
      obtain ⟨v116, e116, r116⟩ := api_Program.g_Control r0
      refine rd_yes rfl rfl (ov_faddr rfl e116) ?_
      refine rd_yes rfl rfl (ov_load rfl (TR.cnt (tSl api_ControlNode.t) r116) (TR.agg (tSl api_ControlNode.t) r116)) ?_
      have f117 := f10_ok (x1 := 10) r116 (by first | assumption | omega | (rw [wr_of (by omega) (by omega)]; omega)) (by first | assumption | omega | (rw [wr_of (by omega) (by omega)]; omega))
      refine rd_ycall rfl rfl (cv_fn rfl rfl (clL_cons (TR.clo (tSl api_ControlNode.t) r116) (clL_cons rfl clL_nil)) f117) ?_
      refine rd_yes rfl rfl (ov_bin rfl rfl i_gtr) ?_
      refine rd_op (v := vb (decide (60 < (law21_nodes x0.Control 10)))) (ov_pick rfl rfl rfl rfl) ?_
      exact rd_weak (sub_cons rfl (sub_skip rfl (sub_skip rfl (sub_skip rfl (sub_skip rfl (sub_skip rfl (sub_refl _))))))) k
    · intro k
      refine rd_skip rfl rfl ?_
      refine rd_skip rfl rfl ?_
      refine rd_skip rfl rfl ?_
      refine rd_skip rfl rfl ?_
      refine rd_op (v := vb true) (ov_pick rfl rfl rfl rfl) ?_
      exact rd_weak (sub_cons rfl (sub_skip rfl (sub_skip rfl (sub_skip rfl (sub_skip rfl (sub_skip rfl (sub_refl _))))))) k
  refine rd_nil ?_
  refine pn_seq ?_
  refine rc_cond rfl (fun hc118 => ?_) (fun hc118 => ?_)
  · replace hres := (ite_t hc118).symm.trans hres
    have hc118' := hc118
    try simp only [Bool.or_eq_true, Bool.or_eq_false_iff, Bool.and_eq_true, Bool.and_eq_false_imp, decide_eq_true_eq, decide_eq_false_iff_not, Bool.not_eq_true', Bool.not_eq_false', Bool.not_eq_true, Bool.not_eq_false, Bool.not_true, Bool.not_false, ne_eq] at hc118'
    refine rc_seq ?_
    refine rc_region ?_
    refine rd_op (v := vb true) (ov_move rfl) ?_
    refine rd_nil ?_
    refine pn_seq ?_
    subst hres
    exact rc_retV (.tmp rfl .nil) (deep_closed rfl) rfl
  · replace hres := (ite_f hc118).symm.trans hres
    have hc118' := hc118
    try simp only [Bool.or_eq_true, Bool.or_eq_false_iff, Bool.and_eq_true, Bool.and_eq_false_imp, decide_eq_true_eq, decide_eq_false_iff_not, Bool.not_eq_true', Bool.not_eq_false', Bool.not_eq_true, Bool.not_eq_false, Bool.not_true, Bool.not_false, ne_eq] at hc118'
    refine rc_skip ?_
    refine pn_seq ?_
    refine rc_seq ?_
    refine rc_seq ?_
    refine rc_region ?_
    refine rd_op (v := vi 0) (ov_move rfl) ?_
    refine rd_nil ?_
    refine pn_seq ?_
    refine rc_block ?_
    refine rc_weak ?_ (law21_TooLarge_L1_ok (x0 := x0) (v0 := v0)  (r0 := r0) (hc118 := hc118) ?_ (Int.toNat ((x0.Headers.length : Int) - 0)) 0 rfl (by omega) hres)
    · exact ((sub_cons rfl (sub_cons rfl (sub_nil _))))
    · intro  hres
      refine px_blk ?_
      refine pn_seq ?_
      refine rc_seq ?_
      refine rc_seq ?_
      refine rc_region ?_
      refine rd_op (v := vi 0) (ov_move rfl) ?_
      refine rd_nil ?_
      refine pn_seq ?_
      refine rc_block ?_
      refine rc_weak ?_ (law21_TooLarge_L2_ok (x0 := x0) (v0 := v0)  (r0 := r0) (hc118 := hc118) ?_ (Int.toNat ((x0.Actions.length : Int) - 0)) 0 rfl (by omega) hres)
      · exact ((sub_cons rfl (sub_cons rfl (sub_nil _))))
      · intro  hres
        refine px_blk ?_
        refine pn_seq ?_
        refine rc_seq ?_
        refine rc_seq ?_
        refine rc_region ?_
        refine rd_op (v := vi 0) (ov_move rfl) ?_
        refine rd_nil ?_
        refine pn_seq ?_
        refine rc_block ?_
        refine rc_weak ?_ (law21_TooLarge_L3_ok (x0 := x0) (v0 := v0)  (r0 := r0) (hc118 := hc118) ?_ (Int.toNat ((x0.Tables.length : Int) - 0)) 0 rfl (by omega) hres)
        · exact ((sub_cons rfl (sub_cons rfl (sub_nil _))))
        · intro  hres
          refine px_blk ?_
          refine pn_seq ?_
          refine rc_seq ?_
          refine rc_seq ?_
          refine rc_region ?_
          refine rd_op (v := vi 0) (ov_move rfl) ?_
          refine rd_nil ?_
          refine pn_seq ?_
          refine rc_block ?_
          refine rc_weak ?_ (law21_TooLarge_L4_ok (x0 := x0) (v0 := v0)  (r0 := r0) (hc118 := hc118) ?_ (Int.toNat ((x0.States.length : Int) - 0)) 0 rfl (by omega) hres)
          · exact ((sub_cons rfl (sub_cons rfl (sub_nil _))))
          · intro  hres
            refine px_blk ?_
            refine pn_seq ?_
            refine rc_seq ?_
            refine rc_region ?_
            refine rd_op (v := vb false) (ov_move rfl) ?_
            refine rd_nil ?_
            refine pn_seq ?_
            subst hres
            exact rc_retV (.tmp rfl .nil) (deep_closed rfl) rfl

end Go.Proofs.Ytepkgeppmjmkjaa
