/-
  The code of each function does what its plain program says.
-/
import Derived.Test.YtkgnjpoafilicaaKDef
import Derived.Test.YtkgnjpoafilicaaL4Text
import Derived.Test.YtkgnjpoafilicaaPbC
import Derived.Test.YtkgnjpoafilicaaKVis
import Derived.Test.YtkgnjpoafilicaaKPure
import Derived.Test.YtkgnjpoafilicaaL4Run
set_option linter.unusedVariables false
set_option linter.unusedSimpArgs false
set_option maxRecDepth 100000
namespace Go.Proofs.Ytkgnjpoafilicaa
open Go Go.Pb Go.RowKit
/-- patchbay/patchbaylaw20.size -/
def RF47 (res : Int) (r : PV) : Prop := r = vi res
theorem law20_size_L1_ok {S : List Fr} {res : Int} {x0 : List api_ControlNode} {x1 : Int} {x2 : Int} {rec_ : (List api_ControlNode) → Int → Int → Int} {mu_ : Nat} {v0 : PV} (r0 : (tSl api_ControlNode.t).R x0 v0) (ihR : ∀ {z0 : List api_ControlNode} {z1 : Int} {z2 : Int} {zv0 : PV} (zr0 : (tSl api_ControlNode.t).R z0 zv0), csl z0 < mu_ → FnR Try.prog 47 [zv0, vi z1, vi z2] (vi (rec_ z0 z1 z2))) (hmu : mu_ = csl x0) {K0 : Int → Int}
    (hK0 : ∀ (x7_ : Int), K0 x7_ = res → PX Try.prog 0 S (QR Try.prog [(6, none)] (RF47 res)) [(7, vi x7_)] ⟨0, []⟩) :
    ∀ (m : Nat) (x7_ : Int) (x8_ : Int) (hm1 : m = Int.toNat ((x0.length : Int) - x8_)) (hlo1 : 0 ≤ x8_), law20_size_L1 x0 x1 x2 rec_ K0 m x7_ x8_ = res → RC Try.prog (.loop ac47_L1) S (QR Try.prog [(6, none)] (RF47 res)) [(8, vi x8_), (7, vi x7_), (2, vi x2), (1, vi x1), (0, v0)] ⟨0, []⟩ := by
  intro m
  induction m with
  | zero =>
    intro x7_ x8_ hm1 hlo1 hres
    rw [law20_size_L1] at hres
    refine rc_loop ?_
    unfold ac47_L1
    refine rc_seq ?_
    refine rc_seq ?_
    refine rc_region ?_
    refine rd_op (ov_move rfl) ?_
    refine rd_op (ov_move rfl) ?_
    refine rd_op (ov_bi rfl (sl_len r0 Try.underlying28 _)) ?_
    refine rd_op (ov_bin rfl rfl i_lss) ?_
    refine rd_op (ov_move rfl) ?_
    refine rd_cut (d := 17) (v := vb ((decide (x8_ < (x0.length : Int))) && (decide (x7_ ≤ x1)))) ?_ ?_
    · intro S Q r
      simp only [ac47_G1, List.cons_append, List.nil_append, List.append_assoc]
      cases hb101 : (decide (x8_ < (x0.length : Int)))
      · intro k
        refine rd_skip rfl rfl ?_
        refine rd_skip rfl rfl ?_
        refine rd_skip rfl rfl ?_
        refine rd_op (v := vb false) (ov_pick rfl rfl rfl rfl) ?_
        exact rd_weak (sub_cons rfl (sub_skip rfl (sub_skip rfl (sub_skip rfl (sub_skip rfl (sub_refl _)))))) k
      · intro k
        have hb101' := hb101
        try simp only [Bool.or_eq_true, Bool.or_eq_false_iff, Bool.and_eq_true, Bool.and_eq_false_imp, decide_eq_true_eq, decide_eq_false_iff_not, Bool.not_eq_true', Bool.not_eq_false', Bool.not_eq_true, Bool.not_eq_false, Bool.not_true, Bool.not_false, ne_eq] at hb101'
        refine rd_yes rfl rfl (ov_move rfl) ?_
        refine rd_yes rfl rfl (ov_move rfl) ?_
        refine rd_yes rfl rfl (ov_bin rfl rfl i_leq) ?_
        refine rd_op (v := vb (decide (x7_ ≤ x1))) (ov_pick rfl rfl rfl rfl) ?_
        exact rd_weak (sub_cons rfl (sub_skip rfl (sub_skip rfl (sub_skip rfl (sub_skip rfl (sub_refl _)))))) k
    refine rd_nil ?_
    refine pn_seq ?_
    refine rc_cond rfl (fun hc102 => ?_) (fun hc102 => ?_)
    · exfalso
      try simp only [Bool.or_eq_true, Bool.or_eq_false_iff, Bool.and_eq_true, Bool.and_eq_false_imp, decide_eq_true_eq, decide_eq_false_iff_not, Bool.not_eq_true', Bool.not_eq_false', Bool.not_eq_true, Bool.not_eq_false, Bool.not_true, Bool.not_false, ne_eq] at hc102
      omega
    · have hend := hres
      have hc102' := hc102
      try simp only [Bool.or_eq_true, Bool.or_eq_false_iff, Bool.and_eq_true, Bool.and_eq_false_imp, decide_eq_true_eq, decide_eq_false_iff_not, Bool.not_eq_true', Bool.not_eq_false', Bool.not_eq_true, Bool.not_eq_false, Bool.not_true, Bool.not_false, ne_eq] at hc102'
      refine rc_exit ?_
      refine px_seq ?_
      refine px_again ?_
      exact px_weak ((sub_cons rfl (sub_nil _))) (hK0 x7_ hres)
  | succ m ih =>
    intro x7_ x8_ hm1 hlo1 hres
    rw [law20_size_L1] at hres
    refine rc_loop ?_
    unfold ac47_L1
    refine rc_seq ?_
    refine rc_seq ?_
    refine rc_region ?_
    refine rd_op (ov_move rfl) ?_
    refine rd_op (ov_move rfl) ?_
    refine rd_op (ov_bi rfl (sl_len r0 Try.underlying28 _)) ?_
    refine rd_op (ov_bin rfl rfl i_lss) ?_
    refine rd_op (ov_move rfl) ?_
    refine rd_cut (d := 17) (v := vb ((decide (x8_ < (x0.length : Int))) && (decide (x7_ ≤ x1)))) ?_ ?_
    · intro S Q r
      simp only [ac47_G1, List.cons_append, List.nil_append, List.append_assoc]
      cases hb103 : (decide (x8_ < (x0.length : Int)))
      · intro k
        refine rd_skip rfl rfl ?_
        refine rd_skip rfl rfl ?_
        refine rd_skip rfl rfl ?_
        refine rd_op (v := vb false) (ov_pick rfl rfl rfl rfl) ?_
        exact rd_weak (sub_cons rfl (sub_skip rfl (sub_skip rfl (sub_skip rfl (sub_skip rfl (sub_refl _)))))) k
      · intro k
        have hb103' := hb103
        try simp only [Bool.or_eq_true, Bool.or_eq_false_iff, Bool.and_eq_true, Bool.and_eq_false_imp, decide_eq_true_eq, decide_eq_false_iff_not, Bool.not_eq_true', Bool.not_eq_false', Bool.not_eq_true, Bool.not_eq_false, Bool.not_true, Bool.not_false, ne_eq] at hb103'
        refine rd_yes rfl rfl (ov_move rfl) ?_
        refine rd_yes rfl rfl (ov_move rfl) ?_
        refine rd_yes rfl rfl (ov_bin rfl rfl i_leq) ?_
        refine rd_op (v := vb (decide (x7_ ≤ x1))) (ov_pick rfl rfl rfl rfl) ?_
        exact rd_weak (sub_cons rfl (sub_skip rfl (sub_skip rfl (sub_skip rfl (sub_skip rfl (sub_refl _)))))) k
    refine rd_nil ?_
    refine pn_seq ?_
    refine rc_cond rfl (fun hc104 => ?_) (fun hc104 => ?_)
    · replace hres := (ite_t hc104).symm.trans hres
      have hc104' := hc104
      try simp only [Bool.or_eq_true, Bool.or_eq_false_iff, Bool.and_eq_true, Bool.and_eq_false_imp, decide_eq_true_eq, decide_eq_false_iff_not, Bool.not_eq_true', Bool.not_eq_false', Bool.not_eq_true, Bool.not_eq_false, Bool.not_true, Bool.not_false, ne_eq] at hc104'
      refine rc_skip ?_
      refine pn_seq ?_
      refine rc_seq ?_
      refine rc_block ?_
      refine rc_seq ?_
      refine rc_region ?_
      refine rd_op (ov_move rfl) ?_
      refine rd_op (ov_bin rfl rfl i_add) ?_
      refine rd_op (ov_move rfl) ?_
      refine rd_nil ?_
      refine pn_seq ?_
      refine rc_seq ?_
      refine rc_seq ?_
      refine rc_region ?_
      refine rd_op (ov_move rfl) ?_
      refine rd_op (ov_move rfl) ?_
      obtain ⟨v105, e105, r105⟩ := sl_idx (i := x8_) r0 (by omega) (by omega)
      refine rd_op (ov_iaddr rfl rfl e105) ?_
      obtain ⟨v106, e106, r106⟩ := api_ControlNode.g_Cond r105
      refine rd_op (ov_faddr rfl e106) ?_
      refine rd_op (ov_load rfl (TR.cnt (tSl api_ExprNode.t) r106) (TR.agg (tSl api_ExprNode.t) r106)) ?_
      refine rd_op (ov_bi rfl (sl_len r106 Try.underlying38 _)) ?_
      refine rd_op (ov_bin rfl rfl i_gtr) ?_
      refine rd_op (ov_move rfl) ?_
      refine rd_cut (d := 32) (v := vb ((decide (40 < (((ix x0 x8_).Cond).length : Int))) || (decide (x2 = 0)))) ?_ ?_
      · intro S Q r
        simp only [ac47_G2, List.cons_append, List.nil_append, List.append_assoc]
        cases hb107 : (decide (40 < (((ix x0 x8_).Cond).length : Int)))
        · intro k
          have hb107' := hb107
          try simp only [Bool.or_eq_true, Bool.or_eq_false_iff, Bool.and_eq_true, Bool.and_eq_false_imp, decide_eq_true_eq, decide_eq_false_iff_not, Bool.not_eq_true', Bool.not_eq_false', Bool.not_eq_true, Bool.not_eq_false, Bool.not_true, Bool.not_false, ne_eq] at hb107'
          refine rd_yes rfl rfl (ov_move rfl) ?_
          refine rd_yes rfl rfl (ov_bin rfl rfl i_eql) ?_
          refine rd_op (v := vb (decide (x2 = 0))) (ov_pick rfl rfl rfl rfl) ?_
          exact rd_weak (sub_cons rfl (sub_skip rfl (sub_skip rfl (sub_skip rfl (sub_refl _))))) k
        · intro k
          refine rd_skip rfl rfl ?_
          refine rd_skip rfl rfl ?_
          refine rd_op (v := vb true) (ov_pick rfl rfl rfl rfl) ?_
          exact rd_weak (sub_cons rfl (sub_skip rfl (sub_skip rfl (sub_skip rfl (sub_refl _))))) k
      refine rd_nil ?_
      refine pn_seq ?_
      refine rc_cond rfl (fun hc108 => ?_) (fun hc108 => ?_)
      · replace hres := (ite_t hc108).symm.trans hres
        have hc108' := hc108
        try simp only [Bool.or_eq_true, Bool.or_eq_false_iff, Bool.and_eq_true, Bool.and_eq_false_imp, decide_eq_true_eq, decide_eq_false_iff_not, Bool.not_eq_true', Bool.not_eq_false', Bool.not_eq_true, Bool.not_eq_false, Bool.not_true, Bool.not_false, ne_eq] at hc108'
        refine rc_seq ?_
        refine rc_region ?_
        refine rd_op (ov_move rfl) ?_
        refine rd_op (ov_bin rfl rfl i_add) ?_
        refine rd_op (ov_move rfl) ?_
        refine rd_nil ?_
        refine pn_seq ?_
        subst hres
        exact rc_retV (.tmp rfl .nil) (deep_closed rfl) rfl
      · replace hres := (ite_f hc108).symm.trans hres
        have hc108' := hc108
        try simp only [Bool.or_eq_true, Bool.or_eq_false_iff, Bool.and_eq_true, Bool.and_eq_false_imp, decide_eq_true_eq, decide_eq_false_iff_not, Bool.not_eq_true', Bool.not_eq_false', Bool.not_eq_true, Bool.not_eq_false, Bool.not_true, Bool.not_false, ne_eq] at hc108'
        refine rc_skip ?_
        refine pn_seq ?_
        refine rc_seq ?_
        refine rc_region ?_
        refine rd_op (ov_move rfl) ?_
        refine rd_op (ov_move rfl) ?_
        refine rd_op (ov_move rfl) ?_
        obtain ⟨v109, e109, r109⟩ := sl_idx (i := x8_) r0 (by omega) (by omega)
        refine rd_op (ov_iaddr rfl rfl e109) ?_
        obtain ⟨v110, e110, r110⟩ := api_ControlNode.g_Then r109
        refine rd_op (ov_faddr rfl e110) ?_
        refine rd_op (ov_load rfl (TR.cnt (tSl api_ControlNode.t) r110) (TR.agg (tSl api_ControlNode.t) r110)) ?_
        refine rd_op (ov_move rfl) ?_
        refine rd_op (ov_move rfl) ?_
        refine rd_op (ov_bin rfl rfl i_sub) ?_
        refine rd_op (ov_move rfl) ?_
        refine rd_op (ov_bin rfl rfl i_sub) ?_
        obtain ⟨y111, hw111, hres⟩ := let_ex hres
        have f111 := ihR (z0 := (ix x0 x8_).Then) (z1 := (wr (x1 - (wr (x7_ + 1))))) (z2 := (wr (x2 - 1))) r110  (by (have hk := csl_ix (l := x0) (by omega) (by omega); omega))
        rw [hw111] at f111
        refine rd_call (cv_fn rfl rfl (clL_cons (TR.clo (tSl api_ControlNode.t) r110) (clL_cons rfl (clL_cons rfl clL_nil))) f111) ?_
        refine rd_op (ov_bin rfl rfl i_add) ?_
        refine rd_op (ov_move rfl) ?_
        refine rd_nil ?_
        refine pn_seq ?_
        refine rc_seq ?_
        refine rc_region ?_
        refine rd_op (ov_move rfl) ?_
        refine rd_op (ov_move rfl) ?_
        refine rd_op (ov_bin rfl rfl i_leq) ?_
        refine rd_nil ?_
        refine pn_seq ?_
        refine rc_cond rfl (fun hc112 => ?_) (fun hc112 => ?_)
        · replace hres := (ite_t hc112).symm.trans hres
          have hc112' := hc112
          try simp only [Bool.or_eq_true, Bool.or_eq_false_iff, Bool.and_eq_true, Bool.and_eq_false_imp, decide_eq_true_eq, decide_eq_false_iff_not, Bool.not_eq_true', Bool.not_eq_false', Bool.not_eq_true, Bool.not_eq_false, Bool.not_true, Bool.not_false, ne_eq] at hc112'
          refine rc_region ?_
          refine rd_op (ov_move rfl) ?_
          refine rd_op (ov_move rfl) ?_
          refine rd_op (ov_move rfl) ?_
          obtain ⟨v113, e113, r113⟩ := sl_idx (i := x8_) r0 (by omega) (by omega)
          refine rd_op (ov_iaddr rfl rfl e113) ?_
          obtain ⟨v114, e114, r114⟩ := api_ControlNode.g_Else r113
          refine rd_op (ov_faddr rfl e114) ?_
          refine rd_op (ov_load rfl (TR.cnt (tSl api_ControlNode.t) r114) (TR.agg (tSl api_ControlNode.t) r114)) ?_
          refine rd_op (ov_move rfl) ?_
          refine rd_op (ov_move rfl) ?_
          refine rd_op (ov_bin rfl rfl i_sub) ?_
          refine rd_op (ov_move rfl) ?_
          refine rd_op (ov_bin rfl rfl i_sub) ?_
          obtain ⟨y115, hw115, hres⟩ := let_ex hres
          have f115 := ihR (z0 := (ix x0 x8_).Else) (z1 := (wr (x1 - (wr ((wr (x7_ + 1)) + y111))))) (z2 := (wr (x2 - 1))) r114  (by (have hk := csl_ix (l := x0) (by omega) (by omega); omega))
          rw [hw115] at f115
          refine rd_call (cv_fn rfl rfl (clL_cons (TR.clo (tSl api_ControlNode.t) r114) (clL_cons rfl (clL_cons rfl clL_nil))) f115) ?_
          refine rd_op (ov_bin rfl rfl i_add) ?_
          refine rd_op (ov_move rfl) ?_
          refine rd_nil ?_
          refine pn_blk ?_
          refine pn_seq ?_
          refine rc_region ?_
          refine rd_op (ov_move rfl) ?_
          refine rd_op (ov_bin rfl rfl i_add) ?_
          refine rd_op (ov_move rfl) ?_
          refine rd_nil ?_
          refine pn_again ?_
          have hbd := sl_bound r0
          have hinc : wr (x8_ + 1) = x8_ + 1 := wr_of (by omega) (by omega)
          rw [hinc]
          refine rc_weak ?_ (ih (wr ((wr ((wr (x7_ + 1)) + y111)) + y115)) (x8_ + 1)  (by omega) (by omega) hres)
          exact ((sub_cons rfl (sub_cons rfl (sub_cons rfl (sub_cons rfl (sub_cons rfl (sub_nil _)))))))
        · replace hres := (ite_f hc112).symm.trans hres
          have hc112' := hc112
          try simp only [Bool.or_eq_true, Bool.or_eq_false_iff, Bool.and_eq_true, Bool.and_eq_false_imp, decide_eq_true_eq, decide_eq_false_iff_not, Bool.not_eq_true', Bool.not_eq_false', Bool.not_eq_true, Bool.not_eq_false, Bool.not_true, Bool.not_false, ne_eq] at hc112'
          refine rc_skip ?_
          refine pn_blk ?_
          refine pn_seq ?_
          refine rc_region ?_
          refine rd_op (ov_move rfl) ?_
          refine rd_op (ov_bin rfl rfl i_add) ?_
          refine rd_op (ov_move rfl) ?_
          refine rd_nil ?_
          refine pn_again ?_
          have hbd := sl_bound r0
          have hinc : wr (x8_ + 1) = x8_ + 1 := wr_of (by omega) (by omega)
          rw [hinc]
          refine rc_weak ?_ (ih (wr ((wr (x7_ + 1)) + y111)) (x8_ + 1)  (by omega) (by omega) hres)
          exact ((sub_cons rfl (sub_cons rfl (sub_cons rfl (sub_cons rfl (sub_cons rfl (sub_nil _)))))))
    · replace hres := (ite_f hc104).symm.trans hres
      have hc104' := hc104
      try simp only [Bool.or_eq_true, Bool.or_eq_false_iff, Bool.and_eq_true, Bool.and_eq_false_imp, decide_eq_true_eq, decide_eq_false_iff_not, Bool.not_eq_true', Bool.not_eq_false', Bool.not_eq_true, Bool.not_eq_false, Bool.not_true, Bool.not_false, ne_eq] at hc104'
      refine rc_exit ?_
      refine px_seq ?_
      refine px_again ?_
      exact px_weak ((sub_cons rfl (sub_nil _))) (hK0 x7_ hres)

theorem f47_okB {rec_ : (List api_ControlNode) → Int → Int → Int} {mu_ : Nat} {x0 : List api_ControlNode} {x1 : Int} {x2 : Int} {v0 : PV} (r0 : (tSl api_ControlNode.t).R x0 v0) (hmu : mu_ = csl x0) (ihR : ∀ {z0 : List api_ControlNode} {z1 : Int} {z2 : Int} {zv0 : PV} (zr0 : (tSl api_ControlNode.t).R z0 zv0), csl z0 < mu_ → FnR Try.prog 47 [zv0, vi z1, vi z2] (vi (rec_ z0 z1 z2))) : FnR Try.prog 47 [v0, vi x1, vi x2] (vi (law20_size_B rec_ x0 x1 x2)) := by
  obtain ⟨res, hres⟩ : ∃ res, law20_size_B rec_ x0 x1 x2 = res := ⟨_, rfl⟩
  suffices H : RC Try.prog ac47 [] (QR Try.prog [(6, none)] (RF47 res)) (argE 0 [v0, vi x1, vi x2]) ⟨0, []⟩ by
    obtain ⟨r, h1, h2⟩ := fnE text47 (by simp) H
    rw [hres]
    have h2 : r = vi res := h2
    rw [← h2]; exact h1
  unfold law20_size_B at hres
  unfold ac47
  refine rc_seq ?_
  refine rc_region ?_
  refine rd_op (v := vi 0) (ov_move rfl) ?_
  refine rd_nil ?_
  refine pn_seq ?_
  refine rc_seq ?_
  refine rc_region ?_
  refine rd_op (v := vi 0) (ov_move rfl) ?_
  refine rd_nil ?_
  refine pn_seq ?_
  refine rc_seq ?_
  refine rc_seq ?_
  refine rc_region ?_
  refine rd_op (v := vi 0) (ov_move rfl) ?_
  refine rd_nil ?_
  refine pn_seq ?_
  refine rc_block ?_
  refine rc_weak ?_ (law20_size_L1_ok (x0 := x0) (x1 := x1) (x2 := x2) (rec_ := rec_) (mu_ := mu_) (v0 := v0)  (r0 := r0) (ihR := ihR) (hmu := hmu) ?_ (Int.toNat ((x0.length : Int) - 0)) 0 0 rfl (by omega) hres)
  · exact ((sub_cons rfl (sub_cons rfl (sub_cons rfl (sub_cons rfl (sub_cons rfl (sub_nil _)))))))
  · intro x7_116 hres
    refine px_blk ?_
    refine pn_seq ?_
    refine rc_seq ?_
    refine rc_region ?_
    refine rd_op (ov_move rfl) ?_
    refine rd_op (ov_move rfl) ?_
    refine rd_nil ?_
    refine pn_seq ?_
    subst hres
    exact rc_retV (.tmp rfl .nil) (deep_closed rfl) rfl
theorem f47_okR : ∀ (n_ : Nat) {x0 : List api_ControlNode} {x1 : Int} {x2 : Int} {v0 : PV} (r0 : (tSl api_ControlNode.t).R x0 v0), csl x0 < n_ → FnR Try.prog 47 [v0, vi x1, vi x2] (vi (law20_size_R n_ x0 x1 x2)) := by
  intro n_
  induction n_ with
  | zero => intros; rename_i hlt; exact absurd hlt (Nat.not_lt_zero _)
  | succ n_ ihn =>
    intro x0 x1 x2 v0 r0 hlt
    have e_ : law20_size_R (n_ + 1) x0 x1 x2 = law20_size_B (law20_size_R n_) x0 x1 x2 := by rw [law20_size_R]
    rw [e_]
    exact f47_okB r0 rfl (fun {z0} {z1} {z2} {zv0} zr0 hz => ihn zr0 (by omega))
theorem f47_ok {x0 : List api_ControlNode} {x1 : Int} {x2 : Int} {v0 : PV} (r0 : (tSl api_ControlNode.t).R x0 v0) : FnR Try.prog 47 [v0, vi x1, vi x2] (vi (law20_size x0 x1 x2)) := f47_okR _ r0 (Nat.lt_succ_self _)

/-- patchbay/patchbaylaw20.Small -/
def RF14 (res : Bool) (r : PV) : Prop := r = vb res
theorem f14_ok {x0 : List api_ControlNode} {x1 : Int} {v0 : PV} (r0 : (tSl api_ControlNode.t).R x0 v0) : FnR Try.prog 14 [v0, vi x1] (vb (law20_Small x0 x1)) := by
  obtain ⟨res, hres⟩ : ∃ res, law20_Small x0 x1 = res := ⟨_, rfl⟩
  suffices H : RC Try.prog ac14 [] (QR Try.prog [(4, none)] (RF14 res)) (argE 0 [v0, vi x1]) ⟨0, []⟩ by
    obtain ⟨r, h1, h2⟩ := fnE text14 (by simp) H
    rw [hres]
    have h2 : r = vb res := h2
    rw [← h2]; exact h1
  unfold law20_Small at hres
  unfold ac14
  refine rc_seq ?_
  refine rc_region ?_
  refine rd_op (v := vb false) (ov_move rfl) ?_
  refine rd_nil ?_
  refine pn_seq ?_
  refine rc_seq ?_
  refine rc_region ?_
  refine rd_op (ov_move rfl) ?_
  refine rd_op (ov_move rfl) ?_
  obtain ⟨y101, hw101, hres⟩ := let_ex hres
  have f101 := f47_ok (x1 := x1) (x2 := 12) r0 
  rw [hw101] at f101
  refine rd_call (cv_fn rfl rfl (clL_cons (TR.clo (tSl api_ControlNode.t) r0) (clL_cons rfl (clL_cons rfl clL_nil))) f101) ?_
  refine rd_op (ov_move rfl) ?_
  refine rd_op (ov_bin rfl rfl i_leq) ?_
  refine rd_op (ov_move rfl) ?_
  refine rd_nil ?_
  refine pn_seq ?_
  subst hres
  exact rc_retV (.tmp rfl .nil) (deep_closed rfl) rfl

theorem f15_ok : FnR Try.prog 15 [] (vb law20_works) := run15

/-- patchbay/control.cloneAll -/
def RF78 (res : (List api_ControlNode)) (r : PV) : Prop := (tSl api_ControlNode.t).R res r
theorem control_cloneAll_H_L1_ok {S : List Fr} {res : (List api_ControlNode)} {x0 : List api_ControlNode} {rec55_ : api_ControlNode → api_ControlNode} {v0 : PV} (r0 : (tSl api_ControlNode.t).R x0 v0) (hg : GL x0) (ih55_ : ∀ {z0 : api_ControlNode} {zv0 : PV} (zr0 : api_ControlNode.t.R z0 zv0), GN z0 → csn z0 ≤ csl x0 → ∃ r, FnR Try.prog 55 [zv0] r ∧ api_ControlNode.t.R (rec55_ z0) r) {K0 : (List api_ControlNode) → (List api_ControlNode)}
    (hK0 : ∀ (zE102 : List api_ControlNode) (esE102 : List PV) (aE102 : PV) (qE102 : All2 api_ControlNode.t.R zE102 esE102) (nE102 : isL aE102 = true) (wrE102 : Wri aE102 esE102) (hlE102 : zE102.length ≤ 4611686018427387904) (h : Heap) (M0 : Mem h [⟨aE102, 40, 5, esE102⟩]), K0 zE102 = res → PX Try.prog 0 S (QR Try.prog [(2, none)] (RF78 res)) [(3, aE102)] h) :
    ∀ (m : Nat) (x8_ : Int) (zE102 : List api_ControlNode) (esE102 : List PV) (aE102 : PV) (qE102 : All2 api_ControlNode.t.R zE102 esE102) (nE102 : isL aE102 = true) (wrE102 : Wri aE102 esE102) (hlE102 : zE102.length ≤ 4611686018427387904) (hm1 : m = Int.toNat ((x0.length : Int) - x8_)) (hlo1 : 0 ≤ x8_) (iv1_0 : (zE102.length : Int) ≤ x8_) (h : Heap) (M0 : Mem h [⟨aE102, 40, 5, esE102⟩]), control_cloneAll_H_L1 x0 rec55_ K0 m x8_ zE102 = res → RC Try.prog (.loop ac78_L1) S (QR Try.prog [(2, none)] (RF78 res)) [(8, vi x8_), (7, vi (x0.length : Int)), (6, v0), (3, aE102)] h := by
  intro m
  induction m with
  | zero =>
    intro x8_ zE102 esE102 aE102 qE102 nE102 wrE102 hlE102 hm1 hlo1 iv1_0 h M0 hres
    rw [control_cloneAll_H_L1] at hres
    refine rc_loop ?_
    unfold ac78_L1
    refine rc_seq ?_
    refine rc_region ?_
    refine rd_op (ov_bin rfl rfl i_lss) ?_
    refine rd_nil ?_
    refine pn_seq ?_
    refine rc_seq ?_
    refine rc_cond rfl (fun hc103 => ?_) (fun hc103 => ?_)
    · exfalso
      try simp only [Bool.or_eq_true, Bool.or_eq_false_iff, Bool.and_eq_true, Bool.and_eq_false_imp, decide_eq_true_eq, decide_eq_false_iff_not, Bool.not_eq_true', Bool.not_eq_false', Bool.not_eq_true, Bool.not_eq_false, Bool.not_true, Bool.not_false, ne_eq] at hc103
      omega
    · have hend := hres
      have hc103' := hc103
      try simp only [Bool.or_eq_true, Bool.or_eq_false_iff, Bool.and_eq_true, Bool.and_eq_false_imp, decide_eq_true_eq, decide_eq_false_iff_not, Bool.not_eq_true', Bool.not_eq_false', Bool.not_eq_true, Bool.not_eq_false, Bool.not_true, Bool.not_false, ne_eq] at hc103'
      refine rc_exit ?_
      refine px_seq ?_
      refine px_again ?_
      exact px_weak ((sub_cons rfl (sub_nil _))) (hK0 zE102 esE102 aE102 qE102 nE102 wrE102 hlE102 _ (Mem.sub M0 (.cons_cons _ .slnil)) hres)
  | succ m ih =>
    intro x8_ zE102 esE102 aE102 qE102 nE102 wrE102 hlE102 hm1 hlo1 iv1_0 h M0 hres
    rw [control_cloneAll_H_L1] at hres
    refine rc_loop ?_
    unfold ac78_L1
    refine rc_seq ?_
    refine rc_region ?_
    refine rd_op (ov_bin rfl rfl i_lss) ?_
    refine rd_nil ?_
    refine pn_seq ?_
    refine rc_seq ?_
    refine rc_cond rfl (fun hc104 => ?_) (fun hc104 => ?_)
    · have hgo := hres
      have hc104' := hc104
      try simp only [Bool.or_eq_true, Bool.or_eq_false_iff, Bool.and_eq_true, Bool.and_eq_false_imp, decide_eq_true_eq, decide_eq_false_iff_not, Bool.not_eq_true', Bool.not_eq_false', Bool.not_eq_true, Bool.not_eq_false, Bool.not_true, Bool.not_false, ne_eq] at hc104'
      refine rc_skip ?_
      refine pn_seq ?_
      refine rc_seq ?_
      refine rc_block ?_
      refine rc_seq ?_
      refine rc_region ?_
      obtain ⟨v105, e105, r105⟩ := sl_idx (i := x8_) r0 (by omega) (by omega)
      refine rd_op (ov_iaddr rfl rfl e105) ?_
      refine rd_op (ov_load rfl (TR.cnt api_ControlNode.t r105) (TR.agg api_ControlNode.t r105)) ?_
      refine rd_allocO (x := .agg [vi 0, vi 0, nilS, nilS, nilS]) M0 rfl rfl (fun i106 w106 h106 M106 => ?_)
      refine rd_storeO (k := 0) (v := v105) M106 rfl rfl rfl (TR.cnt api_ControlNode.t r105) (fun h108 M108 => ?_)
      replace M108 : Mem h108 [⟨.op i106 w106 0, 40, 5, [v105]⟩, ⟨aE102, 40, 5, esE102⟩] := M108
      refine rd_nil ?_
      refine pn_seq ?_
      refine rc_region ?_
      refine rd_op (ov_move rfl) ?_
      refine rd_op (ov_load0 (k := 0) M108 rfl rfl (TR.agg api_ControlNode.t r105)) ?_
      obtain ⟨y109, hw109, hres⟩ := let_ex hres
      obtain ⟨v110, f109, r110⟩ := ih55_ (z0 := (ix x0 x8_)) r105 (by exact hg.at (by omega) (by omega)) (by exact csl_mem (ix_mem (by omega) (by omega)))
      rw [hw109] at r110
      refine rd_call (cv_fn rfl rfl (clL_cons (TR.clo api_ControlNode.t r105) clL_nil) f109) ?_
      refine rd_op (v := .fs true [v110]) (ov_bslice rfl (all_cons (TR.cnt api_ControlNode.t r110) all_nil)) ?_
      have r111 : (tSl api_ControlNode.t).R ([y109] : List api_ControlNode) (.fs true [v110]) := sl_fs ⟨r110, trivial⟩ (by simp)
      obtain ⟨nw112, sr112, ar112⟩ := src_of (t := api_ControlNode.t) (h := h108) r111
      have f112 : fits (esE102.length + nw112.length) 88 = true := by rw [All2.length_eq qE102, All2.length_eq ar112]; (try simp only [List.length_cons, List.length_nil]); exact fits_of (by (have hk := hg.len; first | omega | (simp only [List.length_append, List.length_cons, List.length_nil]; omega))) (by (have hk := hg.len; first | omega | (simp only [List.length_append, List.length_cons, List.length_nil]; omega)))
      refine rd_appW (k := 1) (es := esE102) (news := nw112) M108 rfl rfl rfl nE102 wrE102 sr112 f112 (fun a112 h112 n112 wr112 M112 => ?_)
      have q112 : All2 api_ControlNode.t.R (zE102 ++ ([y109] : List api_ControlNode)) (esE102 ++ nw112) := All2.app qE102 ar112
      have hl112 : (zE102 ++ ([y109] : List api_ControlNode)).length ≤ 4611686018427387904 := by rw [← All2.length_eq q112, List.length_append]; exact fits_len f112
      refine rd_op (ov_move rfl) ?_
      refine rd_nil ?_
      refine pn_blk ?_
      refine pn_seq ?_
      refine rc_region ?_
      refine rd_op (ov_bin rfl rfl i_add) ?_
      refine rd_op (ov_move rfl) ?_
      refine rd_nil ?_
      refine pn_again ?_
      have hbd := sl_bound r0
      have hinc : wr (x8_ + 1) = x8_ + 1 := wr_of (by omega) (by omega)
      rw [hinc]
      refine rc_weak ?_ (ih (x8_ + 1) (zE102 ++ ([y109] : List api_ControlNode)) (esE102 ++ nw112) a112 q112 n112 wr112 hl112 (by omega) (by omega) (by (simp only [List.length_append, List.length_cons, List.length_nil]; omega)) _ (Mem.sub M112 (.cons _ (.cons_cons _ .slnil))) hres)
      exact ((sub_cons rfl (sub_cons rfl (sub_cons rfl (sub_cons rfl (sub_nil _))))))
    · exfalso
      try simp only [Bool.or_eq_true, Bool.or_eq_false_iff, Bool.and_eq_true, Bool.and_eq_false_imp, decide_eq_true_eq, decide_eq_false_iff_not, Bool.not_eq_true', Bool.not_eq_false', Bool.not_eq_true, Bool.not_eq_false, Bool.not_true, Bool.not_false, ne_eq] at hc104
      omega

theorem f78_okH {rec55_ : api_ControlNode → api_ControlNode} {x0 : List api_ControlNode} {v0 : PV} (r0 : (tSl api_ControlNode.t).R x0 v0) (hg : GL x0) (ih55_ : ∀ {z0 : api_ControlNode} {zv0 : PV} (zr0 : api_ControlNode.t.R z0 zv0), GN z0 → csn z0 ≤ csl x0 → ∃ r, FnR Try.prog 55 [zv0] r ∧ api_ControlNode.t.R (rec55_ z0) r) : ∃ r, FnR Try.prog 78 [v0] r ∧ (tSl api_ControlNode.t).R (control_cloneAll_H rec55_ x0) r := by
  obtain ⟨res, hres⟩ : ∃ res, control_cloneAll_H rec55_ x0 = res := ⟨_, rfl⟩
  suffices H : RC Try.prog ac78 [] (QR Try.prog [(2, none)] (RF78 res)) (argE 0 [v0]) ⟨0, []⟩ by
    rw [hres]
    exact fnE text78 (by simp) H
  unfold control_cloneAll_H at hres
  unfold ac78
  refine rc_seq ?_
  refine rc_region ?_
  refine rd_op (v := nilS) (ov_move rfl) ?_
  refine rd_nil ?_
  refine pn_seq ?_
  refine rc_seq ?_
  refine rc_region ?_
  refine rd_op (v := nilS) (ov_move rfl) ?_
  refine rd_nil ?_
  refine pn_seq ?_
  refine rc_seq ?_
  refine rc_seq ?_
  refine rc_region ?_
  refine rd_op (ov_move rfl) ?_
  refine rd_op (ov_bi rfl (sl_len r0 Try.underlying28 _)) ?_
  refine rd_op (v := vi 0) (ov_move rfl) ?_
  refine rd_nil ?_
  refine pn_seq ?_
  refine rc_block ?_
  have M101 := mem_acc (sz := 5) (es := []) (Mem.nil ⟨0, []⟩) 40 (.inl ⟨none, rfl, rfl⟩) (by simp)
  refine rc_weak ?_ (control_cloneAll_H_L1_ok (x0 := x0) (rec55_ := rec55_) (v0 := v0)  (r0 := r0) (hg := hg) (ih55_ := ih55_) ?_ (Int.toNat ((x0.length : Int) - 0)) 0 ([] : List api_ControlNode) ([] : List PV) nilS (show All2 api_ControlNode.t.R ([] : List api_ControlNode) [] from trivial) rfl (.inl rfl) (by decide) rfl (by omega) (by simp) _ (Mem.sub M101 (.cons_cons _ .slnil)) hres)
  · exact ((sub_cons rfl (sub_cons rfl (sub_cons rfl (sub_cons rfl (sub_nil _))))))
  · intro zE102_113 es113E102 a113E102 q113E102 n113E102 wr113E102 hl113E102 h113 M113 hres
    refine px_blk ?_
    refine pn_seq ?_
    refine rc_seq ?_
    refine rc_region ?_
    refine rd_op (ov_move rfl) ?_
    refine rd_op (ov_move rfl) ?_
    refine rd_nil ?_
    refine pn_seq ?_
    obtain ⟨v114, d114, r114⟩ := own_sl (P := Try.prog) (k := 0) (t := api_ControlNode.t) M113 rfl n113E102 q113E102 (Nat.le_trans hl113E102 (by decide))
    subst hres
    exact rc_retV (.tmp rfl .nil) d114 r114

/-- patchbay/control.clone -/
def RF55 (res : api_ControlNode) (r : PV) : Prop := api_ControlNode.t.R res r
theorem f55_okH {rec78_ : (List api_ControlNode) → (List api_ControlNode)} {x0 : api_ControlNode} {v0 : PV} (r0 : api_ControlNode.t.R x0 v0) (hg : GN x0) (ih78_ : ∀ {z0 : List api_ControlNode} {zv0 : PV} (zr0 : (tSl api_ControlNode.t).R z0 zv0), GL z0 → csl z0 < csn x0 → ∃ r, FnR Try.prog 78 [zv0] r ∧ (tSl api_ControlNode.t).R (rec78_ z0) r) : ∃ r, FnR Try.prog 55 [v0] r ∧ api_ControlNode.t.R (control_clone_H rec78_ x0) r := by
  obtain ⟨res, hres⟩ : ∃ res, control_clone_H rec78_ x0 = res := ⟨_, rfl⟩
  suffices H : RC Try.prog ac55 [] (QR Try.prog [(2, some (5, true))] (RF55 res)) (argE 0 [v0]) ⟨0, []⟩ by
    rw [hres]
    exact fnE text55 (by simp) H
  unfold control_clone_H at hres
  unfold ac55
  refine rc_seq ?_
  refine rc_region ?_
  refine rd_boxO (x := v0) (Mem.nil ⟨0, []⟩) rfl (TR.cnt api_ControlNode.t r0) (fun i101 w101 h101 M101 => ?_)
  refine rd_allocO (x := .agg [vi 0, vi 0, nilS, nilS, nilS]) M101 rfl rfl (fun i103 w103 h103 M103 => ?_)
  refine rd_nil ?_
  refine pn_seq ?_
  refine rc_seq ?_
  refine rc_region ?_
  refine rd_op (ov_faddrO rfl) ?_
  obtain ⟨v105, e105, r105⟩ := api_ControlNode.g_Cond r0
  refine rd_op (ov_loadf (k := 1) M103 rfl rfl e105) ?_
  have M106 := mem_acc (sz := 3) (es := []) M103 106 (.inl ⟨none, rfl, rfl⟩) (by simp)
  obtain ⟨nw108, sr108, ar108⟩ := src_of (t := api_ExprNode.t) (h := h103) r105
  have f108 : fits (([] : List PV).length + nw108.length) 24 = true := by rw [All2.length_eq (show All2 api_ExprNode.t.R ([] : List api_ExprNode) [] from trivial), All2.length_eq ar108]; (try simp only [List.length_cons, List.length_nil]); exact fits_of (by (have hk := hg.cond; first | omega | (simp only [List.length_append, List.length_cons, List.length_nil] at *; omega))) (by (have hk := hg.cond; first | omega | (simp only [List.length_append, List.length_cons, List.length_nil] at *; omega)))
  refine rd_appW (k := 0) (es := ([] : List PV)) (news := nw108) M106 rfl rfl rfl rfl (.inl rfl) sr108 f108 (fun a108 h108 n108 wr108 M108 => ?_)
  have q108 : All2 api_ExprNode.t.R x0.Cond (([] : List PV) ++ nw108) := All2.app (show All2 api_ExprNode.t.R ([] : List api_ExprNode) [] from trivial) ar108
  have hl108 : x0.Cond.length ≤ 4611686018427387904 := by rw [← All2.length_eq q108, List.length_append]; exact fits_len f108
  refine rd_op (ov_faddrO rfl) ?_
  obtain ⟨v110_c2, v110_c3, v110_c4, e110, r110_c2, r110_c3, r110_c4⟩ := api_ControlNode.op_of r0
  subst e110
  refine rd_storeF (k := 2) (v := a108) M108 rfl rfl rfl (mem_one (k := 0) M108 rfl n108).1 rfl (by first | decide | (simp only [List.length_cons, List.length_nil]; omega) | simp) (fun h109 M109 => ?_)
  replace M109 : Mem h109 [⟨a108, 106, 3, (([] : List PV) ++ nw108)⟩, ⟨.op i103 w103 0, 40, 5, [.agg [vi 0, vi 0, nilS, nilS, nilS]]⟩, ⟨.op i101 w101 0, 40, 5, [.agg [vi x0.Kind, vi x0.Table, a108, v110_c3, v110_c4]]⟩] := M109
  refine rd_nil ?_
  refine pn_seq ?_
  refine rc_seq ?_
  refine rc_region ?_
  refine rd_op (ov_faddrO rfl) ?_
  refine rd_op (ov_loadf (k := 2) M109 rfl rfl (mk1 (TR.agg (tSl api_ControlNode.t) r110_c3))) ?_
  obtain ⟨y111, hw111, hres⟩ := let_ex hres
  obtain ⟨v112, f111, r112⟩ := ih78_ (z0 := x0.Then) r110_c3 (by first | exact hg.thn | exact hg.els) (by (rw [csn_eq]; omega))
  rw [hw111] at r112
  refine rd_call (cv_fn rfl rfl (clL_cons (TR.clo (tSl api_ControlNode.t) r110_c3) clL_nil) f111) ?_
  refine rd_op (ov_faddrO rfl) ?_
  refine rd_op (ov_loadf (k := 2) M109 rfl rfl (mk1 (TR.agg (tSl api_ControlNode.t) r110_c4))) ?_
  obtain ⟨y113, hw113, hres⟩ := let_ex hres
  obtain ⟨v114, f113, r114⟩ := ih78_ (z0 := x0.Else) r110_c4 (by first | exact hg.thn | exact hg.els) (by (rw [csn_eq]; omega))
  rw [hw113] at r114
  refine rd_call (cv_fn rfl rfl (clL_cons (TR.clo (tSl api_ControlNode.t) r110_c4) clL_nil) f113) ?_
  refine rd_op (ov_faddrO rfl) ?_
  refine rd_storeF (k := 2) (v := v112) M109 rfl rfl rfl (cells_one (TR.cnt (tSl api_ControlNode.t) r112) (TR.agg (tSl api_ControlNode.t) r112)) rfl (by first | decide | (simp only [List.length_cons, List.length_nil]; omega) | simp) (fun h115 M115 => ?_)
  replace M115 : Mem h115 [⟨a108, 106, 3, (([] : List PV) ++ nw108)⟩, ⟨.op i103 w103 0, 40, 5, [.agg [vi 0, vi 0, nilS, nilS, nilS]]⟩, ⟨.op i101 w101 0, 40, 5, [.agg [vi x0.Kind, vi x0.Table, a108, v112, v110_c4]]⟩] := M115
  refine rd_op (ov_faddrO rfl) ?_
  refine rd_storeF (k := 2) (v := v114) M115 rfl rfl rfl (cells_one (TR.cnt (tSl api_ControlNode.t) r114) (TR.agg (tSl api_ControlNode.t) r114)) rfl (by first | decide | (simp only [List.length_cons, List.length_nil]; omega) | simp) (fun h116 M116 => ?_)
  replace M116 : Mem h116 [⟨a108, 106, 3, (([] : List PV) ++ nw108)⟩, ⟨.op i103 w103 0, 40, 5, [.agg [vi 0, vi 0, nilS, nilS, nilS]]⟩, ⟨.op i101 w101 0, 40, 5, [.agg [vi x0.Kind, vi x0.Table, a108, v112, v114]]⟩] := M116
  refine rd_nil ?_
  refine pn_seq ?_
  refine rc_seq ?_
  refine rc_regionS ?_
  refine rs_step ?_
  refine rd_op (ov_load0 (k := 2) M116 rfl rfl rfl) ?_
  refine rs_back ?_
  refine rs_freeze (k := 0) (E' := fun v117 => [(15, .agg [vi x0.Kind, vi x0.Table, v117, v112, v114]), (14, .op i101 w101 (0 + 4)), (13, .op i101 w101 (0 + 3)), (12, v114), (11, v110_c4), (10, .op i101 w101 (0 + 4)), (9, v112), (8, v110_c3), (7, .op i101 w101 (0 + 3)), (6, .op i101 w101 (0 + 2)), (5, v117), (4, v105), (3, .op i101 w101 (0 + 2)), (2, .op i103 w103 0), (1, .op i101 w101 0), (0, .agg [vi x0.Kind, vi x0.Table, v110_c2, v110_c3, v110_c4])]) M116 rfl n108 (fun v117 => (frz_cons rfl (.agg (.cons (.same _) (.cons (.same _) (.cons .turn (.cons (.same _) (.cons (.same _) .nil)))))) (frz_keep rfl (frz_keep rfl (frz_keep rfl (frz_keep rfl (frz_keep rfl (frz_keep rfl (frz_keep rfl (frz_keep rfl (frz_keep rfl (frz_turn rfl (frz_keep rfl (frz_keep rfl (frz_keep rfl (frz_keep rfl (frz_keep rfl frz_nil))))))))))))))))) (fun v117 h117 b117 M117 => ?_)
  have r117 : (tSl api_ExprNode.t).R x0.Cond v117 := ⟨⟨_, b117, q108⟩, Nat.le_trans hl108 (by decide)⟩
  replace M117 : Mem h117 [⟨.op i103 w103 0, 40, 5, [.agg [vi 0, vi 0, nilS, nilS, nilS]]⟩] := M117.sub (.cons_cons _ (.cons _ .slnil))
  refine rs_step ?_
  refine rd_storeO (k := 0) (v := .agg [vi x0.Kind, vi x0.Table, v117, v112, v114]) M117 rfl rfl rfl rfl (fun h118 M118 => ?_)
  replace M118 : Mem h118 [⟨.op i103 w103 0, 40, 5, [.agg [vi x0.Kind, vi x0.Table, v117, v112, v114]]⟩] := M118
  refine rs_back ?_
  refine rs_nil ?_
  refine pn_seq ?_
  subst hres
  exact rc_retV (.cell rfl (load_whole (k := 0) M118 rfl rfl) .nil) (deep_closed (TR.clo api_ControlNode.t (show api_ControlNode.t.R ({ Kind := x0.Kind, Table := x0.Table, Cond := x0.Cond, Then := y111, Else := y113 } : api_ControlNode) (.agg [vi x0.Kind, vi x0.Table, v117, v112, v114]) from ⟨v117, v112, v114, rfl, r117, (api_ControlNode.sl_of r112), (api_ControlNode.sl_of r114)⟩))) (show api_ControlNode.t.R ({ Kind := x0.Kind, Table := x0.Table, Cond := x0.Cond, Then := y111, Else := y113 } : api_ControlNode) (.agg [vi x0.Kind, vi x0.Table, v117, v112, v114]) from ⟨v117, v112, v114, rfl, r117, (api_ControlNode.sl_of r112), (api_ControlNode.sl_of r114)⟩)
theorem f55_id : ∀ (n : Nat), (∀ (x : api_ControlNode) (v : PV), csn x < n → GN x → api_ControlNode.t.R x v → ∃ r, FnR Try.prog 55 [v] r ∧ api_ControlNode.t.R (control_clone x) r) ∧ (∀ (l : List api_ControlNode) (v : PV), csl l < n → GL l → (tSl api_ControlNode.t).R l v → ∃ r, FnR Try.prog 78 [v] r ∧ (tSl api_ControlNode.t).R (control_cloneAll l) r) := by
  intro n
  induction n with
  | zero => exact ⟨fun x v h => absurd h (Nat.not_lt_zero _), fun x v h => absurd h (Nat.not_lt_zero _)⟩
  | succ n ih =>
    have h1 : ∀ (x : api_ControlNode) (v : PV), csn x < n + 1 → GN x → api_ControlNode.t.R x v → ∃ r, FnR Try.prog 55 [v] r ∧ api_ControlNode.t.R (control_clone x) r := fun x v hx hg r => by
      have := f55_okH (rec78_ := control_cloneAll) r hg (fun {z0 zv0} zr0 hg0 hz => ih.2 z0 zv0 (by omega) hg0 zr0)
      rw [clone_id] at this
      exact this
    refine ⟨h1, fun l v hl hg r => ?_⟩
    have := f78_okH (rec55_ := control_clone) r hg (fun {z0 zv0} zr0 hg0 hz => h1 z0 zv0 (by omega) hg0 zr0)
    rw [cloneAll_id] at this
    exact this
theorem f55_ok {x0 : api_ControlNode} {v0 : PV} (r0 : api_ControlNode.t.R x0 v0) (hg : GN x0) : ∃ r, FnR Try.prog 55 [v0] r ∧ api_ControlNode.t.R (control_clone x0) r := (f55_id _).1 x0 v0 (Nat.lt_succ_self _) hg r0

/-- patchbay/control.Node$1 -/
def RF54 (i1_ w1_ i3_ w3_ : Nat) (R_ : List Ent) (res : Bool × Int × api_ControlNode) (r : PV) (h : Heap) : Prop := ∃ uF1 : PV, Mem h (⟨.op i1_ w1_ 0, 3, 1, [vi res.2.1]⟩ :: ⟨.op i3_ w3_ 0, 40, 5, [uF1]⟩ :: R_) ∧ (api_ControlNode.t.R res.2.2 uF1) ∧ r = vb res.1
theorem f54_ok {x0 : api_ControlNode} {c0 : Int} {c1 : Int} {c2 : api_ControlNode} {v0 : PV} {u3_ : PV} {R_ : List Ent} {h_ : Heap} {i1_ w1_ i3_ w3_ : Nat} (r0 : api_ControlNode.t.R x0 v0) (ru3_ : api_ControlNode.t.R c2 u3_) (M_ : Mem h_ (⟨.op i1_ w1_ 0, 3, 1, [vi c0]⟩ :: ⟨.op i3_ w3_ 0, 40, 5, [u3_]⟩ :: R_)) (hg : GN x0) : ∃ r h2_, FnX Try.prog 54 [v0, .op i1_ w1_ 0, .fp (vi c1), .op i3_ w3_ 0] h_ r h2_ ∧ RF54 i1_ w1_ i3_ w3_ R_ (control_Node_1 x0 c0 c1 c2) r h2_ := by
  obtain ⟨res, hres⟩ : ∃ res, control_Node_1 x0 c0 c1 c2 = res := ⟨_, rfl⟩
  suffices H : RC Try.prog ac54 [] (retPost Try.prog [(5, none)] (RF54 i1_ w1_ i3_ w3_ R_ res)) (argE 0 [v0, .op i1_ w1_ 0, .fp (vi c1), .op i3_ w3_ 0]) h_ by
    rw [hres]
    exact fnX text54 (by simp) H
  unfold control_Node_1 at hres
  unfold ac54
  refine rc_seq ?_
  refine rc_region ?_
  refine rd_op (ov_box rfl (TR.cnt api_ControlNode.t r0)) ?_
  refine rd_op (v := vb false) (ov_move rfl) ?_
  refine rd_nil ?_
  refine pn_seq ?_
  refine rc_seq ?_
  refine rc_seq ?_
  refine rc_region ?_
  refine rd_op (ov_load0 (k := 0) M_ rfl rfl rfl) ?_
  refine rd_op (ov_load rfl rfl rfl) ?_
  refine rd_op (ov_bin rfl rfl i_eql) ?_
  refine rd_nil ?_
  refine pn_seq ?_
  refine rc_cond rfl (fun hc103 => ?_) (fun hc103 => ?_)
  · replace hres := (ite_t hc103).symm.trans hres
    have hc103' := hc103
    try simp only [Bool.or_eq_true, Bool.or_eq_false_iff, Bool.and_eq_true, Bool.and_eq_false_imp, decide_eq_true_eq, decide_eq_false_iff_not, Bool.not_eq_true', Bool.not_eq_false', Bool.not_eq_true, Bool.not_eq_false, Bool.not_true, Bool.not_false, ne_eq] at hc103'
    refine rc_seq ?_
    refine rc_region ?_
    refine rd_op (ov_load rfl (TR.cnt api_ControlNode.t r0) (TR.agg api_ControlNode.t r0)) ?_
    obtain ⟨y104, hw104, hres⟩ := let_ex hres
    obtain ⟨v105, f104, r105⟩ := f55_ok  r0 (by first | assumption | omega)
    rw [hw104] at r105
    refine rd_call (cv_fn rfl rfl (clL_cons (TR.clo api_ControlNode.t r0) clL_nil) f104) ?_
    refine rd_storeO (k := 1) (v := v105) M_ rfl rfl rfl (TR.cnt api_ControlNode.t r105) (fun h106 M106 => ?_)
    replace M106 : Mem h106 (⟨.op i1_ w1_ 0, 3, 1, [vi c0]⟩ :: ⟨.op i3_ w3_ 0, 40, 5, [v105]⟩ :: R_) := M106
    refine rd_nil ?_
    refine pn_seq ?_
    refine rc_seq ?_
    refine rc_region ?_
    refine rd_op (v := vb false) (ov_move rfl) ?_
    refine rd_nil ?_
    refine pn_seq ?_
    have MZ107 : Mem h106 (⟨.op i1_ w1_ 0, 3, 1, [vi c0]⟩ :: ⟨.op i3_ w3_ 0, 40, 5, [v105]⟩ :: R_) := (Mem.front (k := 1) (Mem.front (k := 1) M106 rfl) rfl)
    subst hres
    exact rc_retX (.tmp rfl .nil) ⟨v105, Mem.sub MZ107 (.cons_cons _ (.cons_cons _ (List.Sublist.refl R_))), r105, rfl⟩
  · replace hres := (ite_f hc103).symm.trans hres
    have hc103' := hc103
    try simp only [Bool.or_eq_true, Bool.or_eq_false_iff, Bool.and_eq_true, Bool.and_eq_false_imp, decide_eq_true_eq, decide_eq_false_iff_not, Bool.not_eq_true', Bool.not_eq_false', Bool.not_eq_true, Bool.not_eq_false, Bool.not_true, Bool.not_false, ne_eq] at hc103'
    refine rc_skip ?_
    refine pn_seq ?_
    refine rc_seq ?_
    refine rc_region ?_
    refine rd_op (ov_load0 (k := 0) M_ rfl rfl rfl) ?_
    refine rd_op (ov_bin rfl rfl i_add) ?_
    refine rd_storeO (k := 0) (v := vi (wr (c0 + 1))) M_ rfl rfl rfl rfl (fun h108 M108 => ?_)
    replace M108 : Mem h108 (⟨.op i1_ w1_ 0, 3, 1, [vi (wr (c0 + 1))]⟩ :: ⟨.op i3_ w3_ 0, 40, 5, [u3_]⟩ :: R_) := M108
    refine rd_nil ?_
    refine pn_seq ?_
    refine rc_seq ?_
    refine rc_region ?_
    refine rd_op (v := vb true) (ov_move rfl) ?_
    refine rd_nil ?_
    refine pn_seq ?_
    have MZ109 : Mem h108 (⟨.op i1_ w1_ 0, 3, 1, [vi (wr (c0 + 1))]⟩ :: ⟨.op i3_ w3_ 0, 40, 5, [u3_]⟩ :: R_) := (Mem.front (k := 1) (Mem.front (k := 1) M108 rfl) rfl)
    subst hres
    exact rc_retX (.tmp rfl .nil) ⟨u3_, Mem.sub MZ109 (.cons_cons _ (.cons_cons _ (List.Sublist.refl R_))), ru3_, rfl⟩
def ME54 (i1_ w1_ i3_ w3_ : Nat) (k_ : Nat) (s_ : Int × api_ControlNode) (L_ : List Ent) : Prop := (∃ uV1 : PV, L_ = (⟨.op i1_ w1_ 0, 3, 1, [vi s_.1]⟩ :: ⟨.op i3_ w3_ 0, 40, 5, [uV1]⟩ :: []) ∧ (api_ControlNode.t.R s_.2 uV1)) ∧ (True)
theorem mono54 (i1_ w1_ i3_ w3_ : Nat) : ∀ k_ s_ L_, ME54 i1_ w1_ i3_ w3_ (k_ + 1) s_ L_ → ME54 i1_ w1_ i3_ w3_ k_ s_ L_ := fun k_ s_ L_ h_ => ⟨h_.1, by have hi_ := h_.2; trivial⟩
theorem hv54 {c1 : Int} {i1_ w1_ i3_ w3_ : Nat} : VIS Try.prog 54 [.op i1_ w1_ 0, .fp (vi c1), .op i3_ w3_ 0] (fun a_ s_ => control_Node_1 a_ s_.1 c1 s_.2) (ME54 i1_ w1_ i3_ w3_) (GN) := by
  intro k_ a_ va_ s_ L_ R_ h_ hg_ ra_ hE_ M_
  obtain ⟨⟨uV1, hL_, ruV1⟩, hi_⟩ := hE_
  subst hL_
  obtain ⟨r_, h2_, hX_, hZ_⟩ := f54_ok (x0 := a_) (c0 := s_.1) (c1 := c1) (c2 := s_.2) ra_  ruV1 M_ (by exact hg_)
  obtain ⟨uV1n, M2_, ruV1n, hr_⟩ := hZ_
  subst hr_
  exact ⟨h2_, _, hX_, ⟨⟨uV1n, rfl, ruV1n⟩, by trivial⟩, M2_⟩

/-- patchbay/control.Node -/
def RF18 (res : api_ControlNode × Bool) (r : PV) : Prop := ∃ c0, r = .tup [c0, vb res.2] ∧ api_ControlNode.t.R res.1 c0
theorem f18_ok {x0 : List api_ControlNode} {x1 : Int} {v0 : PV} (r0 : (tSl api_ControlNode.t).R x0 v0) (hg : GL x0) : ∃ c0, FnR Try.prog 18 [v0, vi x1] (.tup [c0, vb ((control_Node x0 x1).2)]) ∧ api_ControlNode.t.R (control_Node x0 x1).1 c0 := by
  obtain ⟨res, hres⟩ : ∃ res, control_Node x0 x1 = res := ⟨_, rfl⟩
  suffices H : RC Try.prog ac18 [] (QR Try.prog [(4, some (5, true)), (5, none)] (RF18 res)) (argE 0 [v0, vi x1]) ⟨0, []⟩ by
    rw [hres]
    obtain ⟨r, h1, c0, rfl, qc0⟩ := fnE text18 (by simp) H
    exact ⟨c0, h1, qc0⟩
  unfold control_Node at hres
  unfold ac18
  refine rc_seq ?_
  refine rc_region ?_
  refine rd_op (ov_box rfl rfl) ?_
  refine rd_allocO (x := .agg [vi 0, vi 0, nilS, nilS, nilS]) (Mem.nil ⟨0, []⟩) rfl rfl (fun i101 w101 h101 M101 => ?_)
  refine rd_op (v := vb false) (ov_move rfl) ?_
  refine rd_nil ?_
  refine pn_seq ?_
  refine rc_seq ?_
  refine rc_region ?_
  refine rd_allocO (x := .agg [vi 0, vi 0, nilS, nilS, nilS]) M101 rfl rfl (fun i103 w103 h103 M103 => ?_)
  refine rd_nil ?_
  refine pn_seq ?_
  refine rc_seq ?_
  refine rc_region ?_
  refine rd_allocO (x := vi 0) M103 rfl rfl (fun i105 w105 h105 M105 => ?_)
  refine rd_storeO (k := 0) (v := vi 0) M105 rfl rfl rfl rfl (fun h107 M107 => ?_)
  replace M107 : Mem h107 [⟨.op i105 w105 0, 3, 1, [vi 0]⟩, ⟨.op i103 w103 0, 40, 5, [.agg [vi 0, vi 0, nilS, nilS, nilS]]⟩, ⟨.op i101 w101 0, 40, 5, [.agg [vi 0, vi 0, nilS, nilS, nilS]]⟩] := M107
  refine rd_nil ?_
  refine pn_seq ?_
  refine rc_seq ?_
  refine rc_regionS ?_
  refine rs_step ?_
  refine rd_op (ov_move rfl) ?_
  refine rs_back ?_
  refine rs_step ?_
  refine rd_op (v := .fn (.func 54) [] [.op i105 w105 0, .fp (vi x1), .op i103 w103 0]) (ov_mkFunc rfl rfl) ?_
  refine rs_back ?_
  have M108 : Mem h107 [⟨.op i105 w105 0, 3, 1, [vi 0]⟩, ⟨.op i103 w103 0, 40, 5, [.agg [vi 0, vi 0, nilS, nilS, nilS]]⟩, ⟨.op i101 w101 0, 40, 5, [.agg [vi 0, vi 0, nilS, nilS, nilS]]⟩] := (Mem.front (k := 1) (Mem.front (k := 1) M107 rfl) rfl)
  obtain ⟨y108, hw108, hres⟩ := let_ex hres
  obtain ⟨h108, L108, hX108, hE108, M108v⟩ : ∃ h2 L2, FnX Try.prog 48 [v0, .fn (.func 54) [] [.op i105 w105 0, .fp (vi x1), .op i103 w103 0]] h107 (vb y108.1) h2 ∧ ME54 i105 w105 i103 w103 0 y108.2 L2 ∧ Mem h2 (L2 ++ [⟨.op i101 w101 0, 40, 5, [.agg [vi 0, vi 0, nilS, nilS, nilS]]⟩]) := by
    rw [← hw108]
    exact f48_pre (mono54 i105 w105 i103 w103) (hv54 (c1 := x1) ) _ _ (Nat.lt_succ_self _) (by exact hg.nodes) 0 _ (0, ({ Kind := 0, Table := 0, Cond := ([] : List api_ExprNode), Then := ([] : List api_ControlNode), Else := ([] : List api_ControlNode) } : api_ControlNode)) [⟨.op i105 w105 0, 3, 1, [vi 0]⟩, ⟨.op i103 w103 0, 40, 5, [.agg [vi 0, vi 0, nilS, nilS, nilS]]⟩] [⟨.op i101 w101 0, 40, 5, [.agg [vi 0, vi 0, nilS, nilS, nilS]]⟩] _ r0 (show ME54 i105 w105 i103 w103 (csl x0 + 0) (0, ({ Kind := 0, Table := 0, Cond := ([] : List api_ExprNode), Then := ([] : List api_ControlNode), Else := ([] : List api_ControlNode) } : api_ControlNode)) [⟨.op i105 w105 0, 3, 1, [vi 0]⟩, ⟨.op i103 w103 0, 40, 5, [.agg [vi 0, vi 0, nilS, nilS, nilS]]⟩] from ⟨⟨(.agg [vi 0, vi 0, nilS, nilS, nilS]), rfl, (show api_ControlNode.t.R ({ Kind := 0, Table := 0, Cond := ([] : List api_ExprNode), Then := ([] : List api_ControlNode), Else := ([] : List api_ControlNode) } : api_ControlNode) (.agg [vi 0, vi 0, nilS, nilS, nilS]) from ⟨nilS, nilS, nilS, rfl, sl_nil, (api_ControlNode.sl_of sl_nil), (api_ControlNode.sl_of sl_nil)⟩)⟩, by trivial⟩) M108
  obtain ⟨⟨u108_1, hL108, ru108_1⟩, hi108⟩ := hE108
  subst hL108
  replace M108v : Mem h108 [⟨.op i105 w105 0, 3, 1, [vi y108.2.1]⟩, ⟨.op i103 w103 0, 40, 5, [u108_1]⟩, ⟨.op i101 w101 0, 40, 5, [.agg [vi 0, vi 0, nilS, nilS, nilS]]⟩] := M108v
  refine rs_callX rfl rfl hX108 ?_
  refine rs_step ?_
  refine rd_op (ov_move rfl) ?_
  refine rs_back ?_
  refine rs_nil ?_
  refine pn_seq ?_
  refine rc_seq ?_
  refine rc_region ?_
  refine rd_op (ov_load0 (k := 1) M108v rfl rfl (TR.agg api_ControlNode.t ru108_1)) ?_
  refine rd_op (ov_move rfl) ?_
  refine rd_op (ov_not rfl) ?_
  refine rd_storeO (k := 2) (v := u108_1) M108v rfl rfl rfl (TR.cnt api_ControlNode.t ru108_1) (fun h109 M109 => ?_)
  replace M109 : Mem h109 [⟨.op i105 w105 0, 3, 1, [vi y108.2.1]⟩, ⟨.op i103 w103 0, 40, 5, [u108_1]⟩, ⟨.op i101 w101 0, 40, 5, [u108_1]⟩] := M109
  refine rd_op (ov_move rfl) ?_
  refine rd_nil ?_
  refine pn_seq ?_
  subst hres
  exact rc_retV (.cell rfl (load_whole (k := 2) M109 rfl (TR.agg api_ControlNode.t ru108_1)) (.tmp rfl .nil)) (deep_closed (show closed (.tup _) = true from (clL_cons (TR.clo api_ControlNode.t ru108_1) (clL_cons rfl clL_nil)))) ⟨u108_1, rfl, ru108_1⟩

/-- patchbay/patchbayref20.Preorder -/
def RF52 (res : (List api_ControlNode)) (r : PV) : Prop := (tSl api_ControlNode.t).R res r
theorem ref20_Preorder_L1_ok {S : List Fr} {res : (List api_ControlNode)} {x0 : List api_ControlNode} {rec_ : (List api_ControlNode) → (List api_ControlNode)} {mu_ : Nat} {v0 : PV} (r0 : (tSl api_ControlNode.t).R x0 v0) (hs : csl x0 ≤ 1000) (ihR : ∀ {z0 : List api_ControlNode} {zv0 : PV} (zr0 : (tSl api_ControlNode.t).R z0 zv0) (hs : csl z0 ≤ 1000), csl z0 < mu_ → ∃ r, FnR Try.prog 52 [zv0] r ∧ (tSl api_ControlNode.t).R (rec_ z0) r) (hmu : mu_ = csl x0) (hrec : ∀ z, (rec_ z).length ≤ csl z) {K0 : (List api_ControlNode) → (List api_ControlNode)}
    (hK0 : ∀ (zE102 : List api_ControlNode) (esE102 : List PV) (aE102 : PV) (qE102 : All2 api_ControlNode.t.R zE102 esE102) (nE102 : isL aE102 = true) (wrE102 : Wri aE102 esE102) (hlE102 : zE102.length ≤ 4611686018427387904) (h : Heap) (M0 : Mem h [⟨aE102, 40, 5, esE102⟩]), K0 zE102 = res → PX Try.prog 0 S (QR Try.prog [(2, none)] (RF52 res)) [(3, aE102)] h) :
    ∀ (m : Nat) (x4_ : Int) (zE102 : List api_ControlNode) (esE102 : List PV) (aE102 : PV) (qE102 : All2 api_ControlNode.t.R zE102 esE102) (nE102 : isL aE102 = true) (wrE102 : Wri aE102 esE102) (hlE102 : zE102.length ≤ 4611686018427387904) (hm1 : m = Int.toNat ((x0.length : Int) - x4_)) (hlo1 : 0 ≤ x4_) (iv1_0 : zE102.length + csl (x0.drop x4_.toNat) ≤ csl x0) (h : Heap) (M0 : Mem h [⟨aE102, 40, 5, esE102⟩]), ref20_Preorder_L1 x0 rec_ K0 m x4_ zE102 = res → RC Try.prog (.loop ac52_L1) S (QR Try.prog [(2, none)] (RF52 res)) [(4, vi x4_), (3, aE102), (0, v0)] h := by
  intro m
  induction m with
  | zero =>
    intro x4_ zE102 esE102 aE102 qE102 nE102 wrE102 hlE102 hm1 hlo1 iv1_0 h M0 hres
    rw [ref20_Preorder_L1] at hres
    refine rc_loop ?_
    unfold ac52_L1
    refine rc_seq ?_
    refine rc_seq ?_
    refine rc_region ?_
    refine rd_op (ov_move rfl) ?_
    refine rd_op (ov_move rfl) ?_
    refine rd_op (ov_bi rfl (sl_len r0 Try.underlying28 _)) ?_
    refine rd_op (ov_bin rfl rfl i_lss) ?_
    refine rd_nil ?_
    refine pn_seq ?_
    refine rc_cond rfl (fun hc103 => ?_) (fun hc103 => ?_)
    · exfalso
      try simp only [Bool.or_eq_true, Bool.or_eq_false_iff, Bool.and_eq_true, Bool.and_eq_false_imp, decide_eq_true_eq, decide_eq_false_iff_not, Bool.not_eq_true', Bool.not_eq_false', Bool.not_eq_true, Bool.not_eq_false, Bool.not_true, Bool.not_false, ne_eq] at hc103
      omega
    · have hend := hres
      have hc103' := hc103
      try simp only [Bool.or_eq_true, Bool.or_eq_false_iff, Bool.and_eq_true, Bool.and_eq_false_imp, decide_eq_true_eq, decide_eq_false_iff_not, Bool.not_eq_true', Bool.not_eq_false', Bool.not_eq_true, Bool.not_eq_false, Bool.not_true, Bool.not_false, ne_eq] at hc103'
      refine rc_exit ?_
      refine px_seq ?_
      refine px_again ?_
      exact px_weak ((sub_cons rfl (sub_nil _))) (hK0 zE102 esE102 aE102 qE102 nE102 wrE102 hlE102 _ (Mem.sub M0 (.cons_cons _ .slnil)) hres)
  | succ m ih =>
    intro x4_ zE102 esE102 aE102 qE102 nE102 wrE102 hlE102 hm1 hlo1 iv1_0 h M0 hres
    rw [ref20_Preorder_L1] at hres
    refine rc_loop ?_
    unfold ac52_L1
    refine rc_seq ?_
    refine rc_seq ?_
    refine rc_region ?_
    refine rd_op (ov_move rfl) ?_
    refine rd_op (ov_move rfl) ?_
    refine rd_op (ov_bi rfl (sl_len r0 Try.underlying28 _)) ?_
    refine rd_op (ov_bin rfl rfl i_lss) ?_
    refine rd_nil ?_
    refine pn_seq ?_
    refine rc_cond rfl (fun hc104 => ?_) (fun hc104 => ?_)
    · have hgo := hres
      have hc104' := hc104
      try simp only [Bool.or_eq_true, Bool.or_eq_false_iff, Bool.and_eq_true, Bool.and_eq_false_imp, decide_eq_true_eq, decide_eq_false_iff_not, Bool.not_eq_true', Bool.not_eq_false', Bool.not_eq_true, Bool.not_eq_false, Bool.not_true, Bool.not_false, ne_eq] at hc104'
      refine rc_skip ?_
      refine pn_seq ?_
      refine rc_seq ?_
      refine rc_block ?_
      refine rc_seq ?_
      refine rc_region ?_
      refine rd_op (ov_move rfl) ?_
      refine rd_op (ov_move rfl) ?_
      refine rd_op (ov_move rfl) ?_
      obtain ⟨v105, e105, r105⟩ := sl_idx (i := x4_) r0 (by omega) (by omega)
      refine rd_op (ov_iaddr rfl rfl e105) ?_
      refine rd_op (ov_load rfl (TR.cnt api_ControlNode.t r105) (TR.agg api_ControlNode.t r105)) ?_
      refine rd_op (v := .fs true [v105]) (ov_bslice rfl (all_cons (TR.cnt api_ControlNode.t r105) all_nil)) ?_
      have r106 : (tSl api_ControlNode.t).R ([(ix x0 x4_)] : List api_ControlNode) (.fs true [v105]) := sl_fs ⟨r105, trivial⟩ (by simp)
      obtain ⟨nw107, sr107, ar107⟩ := src_of (t := api_ControlNode.t) (h := h) r106
      have f107 : fits (esE102.length + nw107.length) 88 = true := by rw [All2.length_eq qE102, All2.length_eq ar107]; (try simp only [List.length_cons, List.length_nil]); exact fits_of (by first | omega | (have hk := csl_drop (l := x0) (i := x4_) (by omega) (by omega); simp only [List.length_append, List.length_cons, List.length_nil]; omega)) (by first | omega | (have hk := csl_drop (l := x0) (i := x4_) (by omega) (by omega); simp only [List.length_append, List.length_cons, List.length_nil]; omega))
      refine rd_appW (k := 0) (es := esE102) (news := nw107) M0 rfl rfl rfl nE102 wrE102 sr107 f107 (fun a107 h107 n107 wr107 M107 => ?_)
      have q107 : All2 api_ControlNode.t.R (zE102 ++ ([(ix x0 x4_)] : List api_ControlNode)) (esE102 ++ nw107) := All2.app qE102 ar107
      have hl107 : (zE102 ++ ([(ix x0 x4_)] : List api_ControlNode)).length ≤ 4611686018427387904 := by rw [← All2.length_eq q107, List.length_append]; exact fits_len f107
      refine rd_op (ov_move rfl) ?_
      refine rd_nil ?_
      refine pn_seq ?_
      refine rc_seq ?_
      refine rc_region ?_
      refine rd_op (ov_move rfl) ?_
      refine rd_op (ov_move rfl) ?_
      refine rd_op (ov_move rfl) ?_
      obtain ⟨v108, e108, r108⟩ := sl_idx (i := x4_) r0 (by omega) (by omega)
      refine rd_op (ov_iaddr rfl rfl e108) ?_
      obtain ⟨v109, e109, r109⟩ := api_ControlNode.g_Then r108
      refine rd_op (ov_faddr rfl e109) ?_
      refine rd_op (ov_load rfl (TR.cnt (tSl api_ControlNode.t) r109) (TR.agg (tSl api_ControlNode.t) r109)) ?_
      obtain ⟨y110, hw110, hres⟩ := let_ex hres
      obtain ⟨v111, f110, r111⟩ := ihR (z0 := (ix x0 x4_).Then) r109 (by (have hk := csl_ix (l := x0) (by omega) (by omega); omega)) (by (have hk := csl_ix (l := x0) (by omega) (by omega); omega))
      rw [hw110] at r111
      have ek110 := lenle hrec hw110
      refine rd_call (cv_fn rfl rfl (clL_cons (TR.clo (tSl api_ControlNode.t) r109) clL_nil) f110) ?_
      obtain ⟨nw112, sr112, ar112⟩ := src_of (t := api_ControlNode.t) (h := h107) r111
      have f112 : fits ((esE102 ++ nw107).length + nw112.length) 88 = true := by rw [All2.length_eq q107, All2.length_eq ar112]; (try simp only [List.length_cons, List.length_nil]); exact fits_of (by first | omega | (have hk := csl_drop (l := x0) (i := x4_) (by omega) (by omega); simp only [List.length_append, List.length_cons, List.length_nil]; omega)) (by first | omega | (have hk := csl_drop (l := x0) (i := x4_) (by omega) (by omega); simp only [List.length_append, List.length_cons, List.length_nil]; omega))
      refine rd_appW (k := 0) (es := (esE102 ++ nw107)) (news := nw112) M107 rfl rfl rfl n107 wr107 sr112 f112 (fun a112 h112 n112 wr112 M112 => ?_)
      have q112 : All2 api_ControlNode.t.R ((zE102 ++ ([(ix x0 x4_)] : List api_ControlNode)) ++ y110) ((esE102 ++ nw107) ++ nw112) := All2.app q107 ar112
      have hl112 : ((zE102 ++ ([(ix x0 x4_)] : List api_ControlNode)) ++ y110).length ≤ 4611686018427387904 := by rw [← All2.length_eq q112, List.length_append]; exact fits_len f112
      refine rd_op (ov_move rfl) ?_
      refine rd_nil ?_
      refine pn_seq ?_
      refine rc_region ?_
      refine rd_op (ov_move rfl) ?_
      refine rd_op (ov_move rfl) ?_
      refine rd_op (ov_move rfl) ?_
      obtain ⟨v113, e113, r113⟩ := sl_idx (i := x4_) r0 (by omega) (by omega)
      refine rd_op (ov_iaddr rfl rfl e113) ?_
      obtain ⟨v114, e114, r114⟩ := api_ControlNode.g_Else r113
      refine rd_op (ov_faddr rfl e114) ?_
      refine rd_op (ov_load rfl (TR.cnt (tSl api_ControlNode.t) r114) (TR.agg (tSl api_ControlNode.t) r114)) ?_
      obtain ⟨y115, hw115, hres⟩ := let_ex hres
      obtain ⟨v116, f115, r116⟩ := ihR (z0 := (ix x0 x4_).Else) r114 (by (have hk := csl_ix (l := x0) (by omega) (by omega); omega)) (by (have hk := csl_ix (l := x0) (by omega) (by omega); omega))
      rw [hw115] at r116
      have ek115 := lenle hrec hw115
      refine rd_call (cv_fn rfl rfl (clL_cons (TR.clo (tSl api_ControlNode.t) r114) clL_nil) f115) ?_
      obtain ⟨nw117, sr117, ar117⟩ := src_of (t := api_ControlNode.t) (h := h112) r116
      have f117 : fits (((esE102 ++ nw107) ++ nw112).length + nw117.length) 88 = true := by rw [All2.length_eq q112, All2.length_eq ar117]; (try simp only [List.length_cons, List.length_nil]); exact fits_of (by first | omega | (have hk := csl_drop (l := x0) (i := x4_) (by omega) (by omega); simp only [List.length_append, List.length_cons, List.length_nil]; omega)) (by first | omega | (have hk := csl_drop (l := x0) (i := x4_) (by omega) (by omega); simp only [List.length_append, List.length_cons, List.length_nil]; omega))
      refine rd_appW (k := 0) (es := ((esE102 ++ nw107) ++ nw112)) (news := nw117) M112 rfl rfl rfl n112 wr112 sr117 f117 (fun a117 h117 n117 wr117 M117 => ?_)
      have q117 : All2 api_ControlNode.t.R (((zE102 ++ ([(ix x0 x4_)] : List api_ControlNode)) ++ y110) ++ y115) (((esE102 ++ nw107) ++ nw112) ++ nw117) := All2.app q112 ar117
      have hl117 : (((zE102 ++ ([(ix x0 x4_)] : List api_ControlNode)) ++ y110) ++ y115).length ≤ 4611686018427387904 := by rw [← All2.length_eq q117, List.length_append]; exact fits_len f117
      refine rd_op (ov_move rfl) ?_
      refine rd_nil ?_
      refine pn_blk ?_
      refine pn_seq ?_
      refine rc_region ?_
      refine rd_op (ov_move rfl) ?_
      refine rd_op (ov_bin rfl rfl i_add) ?_
      refine rd_op (ov_move rfl) ?_
      refine rd_nil ?_
      refine pn_again ?_
      have hbd := sl_bound r0
      have hinc : wr (x4_ + 1) = x4_ + 1 := wr_of (by omega) (by omega)
      rw [hinc]
      refine rc_weak ?_ (ih (x4_ + 1) (((zE102 ++ ([(ix x0 x4_)] : List api_ControlNode)) ++ y110) ++ y115) (((esE102 ++ nw107) ++ nw112) ++ nw117) a117 q117 n117 wr117 hl117 (by omega) (by omega) (by (have hk := csl_drop (l := x0) (i := x4_) (by omega) (by omega); simp only [List.length_append, List.length_cons, List.length_nil]; omega)) _ (Mem.sub M117 (.cons_cons _ .slnil)) hres)
      exact ((sub_cons rfl (sub_cons rfl (sub_cons rfl (sub_nil _)))))
    · exfalso
      try simp only [Bool.or_eq_true, Bool.or_eq_false_iff, Bool.and_eq_true, Bool.and_eq_false_imp, decide_eq_true_eq, decide_eq_false_iff_not, Bool.not_eq_true', Bool.not_eq_false', Bool.not_eq_true, Bool.not_eq_false, Bool.not_true, Bool.not_false, ne_eq] at hc104
      omega

theorem f52_okB {rec_ : (List api_ControlNode) → (List api_ControlNode)} {mu_ : Nat} {x0 : List api_ControlNode} {v0 : PV} (r0 : (tSl api_ControlNode.t).R x0 v0) (hs : csl x0 ≤ 1000) (hmu : mu_ = csl x0) (hrec : ∀ z, (rec_ z).length ≤ csl z) (ihR : ∀ {z0 : List api_ControlNode} {zv0 : PV} (zr0 : (tSl api_ControlNode.t).R z0 zv0) (hs : csl z0 ≤ 1000), csl z0 < mu_ → ∃ r, FnR Try.prog 52 [zv0] r ∧ (tSl api_ControlNode.t).R (rec_ z0) r) : ∃ r, FnR Try.prog 52 [v0] r ∧ (tSl api_ControlNode.t).R (ref20_Preorder_B rec_ x0) r := by
  obtain ⟨res, hres⟩ : ∃ res, ref20_Preorder_B rec_ x0 = res := ⟨_, rfl⟩
  suffices H : RC Try.prog ac52 [] (QR Try.prog [(2, none)] (RF52 res)) (argE 0 [v0]) ⟨0, []⟩ by
    rw [hres]
    exact fnE text52 (by simp) H
  unfold ref20_Preorder_B at hres
  unfold ac52
  refine rc_seq ?_
  refine rc_region ?_
  refine rd_op (v := nilS) (ov_move rfl) ?_
  refine rd_nil ?_
  refine pn_seq ?_
  refine rc_seq ?_
  refine rc_region ?_
  refine rd_op (v := nilS) (ov_move rfl) ?_
  refine rd_nil ?_
  refine pn_seq ?_
  refine rc_seq ?_
  refine rc_seq ?_
  refine rc_region ?_
  refine rd_op (v := vi 0) (ov_move rfl) ?_
  refine rd_nil ?_
  refine pn_seq ?_
  refine rc_block ?_
  have M101 := mem_acc (sz := 5) (es := []) (Mem.nil ⟨0, []⟩) 40 (.inl ⟨none, rfl, rfl⟩) (by simp)
  refine rc_weak ?_ (ref20_Preorder_L1_ok (x0 := x0) (rec_ := rec_) (mu_ := mu_) (v0 := v0)  (r0 := r0) (hs := hs) (ihR := ihR) (hmu := hmu) (hrec := hrec) ?_ (Int.toNat ((x0.length : Int) - 0)) 0 ([] : List api_ControlNode) ([] : List PV) nilS (show All2 api_ControlNode.t.R ([] : List api_ControlNode) [] from trivial) rfl (.inl rfl) (by decide) rfl (by omega) (by simp) _ (Mem.sub M101 (.cons_cons _ .slnil)) hres)
  · exact ((sub_cons rfl (sub_cons rfl (sub_cons rfl (sub_nil _)))))
  · intro zE102_118 es118E102 a118E102 q118E102 n118E102 wr118E102 hl118E102 h118 M118 hres
    refine px_blk ?_
    refine pn_seq ?_
    refine rc_seq ?_
    refine rc_region ?_
    refine rd_op (ov_move rfl) ?_
    refine rd_op (ov_move rfl) ?_
    refine rd_nil ?_
    refine pn_seq ?_
    obtain ⟨v119, d119, r119⟩ := own_sl (P := Try.prog) (k := 0) (t := api_ControlNode.t) M118 rfl n118E102 q118E102 (Nat.le_trans hl118E102 (by decide))
    subst hres
    exact rc_retV (.tmp rfl .nil) d119 r119
theorem f52_okR : ∀ (n_ : Nat) {x0 : List api_ControlNode} {v0 : PV} (r0 : (tSl api_ControlNode.t).R x0 v0) (hs : csl x0 ≤ 1000), csl x0 < n_ → ∃ r, FnR Try.prog 52 [v0] r ∧ (tSl api_ControlNode.t).R (ref20_Preorder_R n_ x0) r := by
  intro n_
  induction n_ with
  | zero => intros; rename_i hlt; exact absurd hlt (Nat.not_lt_zero _)
  | succ n_ ihn =>
    intro x0 v0 r0 hs hlt
    have e_ : ref20_Preorder_R (n_ + 1) x0 = ref20_Preorder_B (ref20_Preorder_R n_) x0 := by rw [ref20_Preorder_R]
    rw [e_]
    exact f52_okB r0 hs rfl (preorder_len n_) (fun {z0} {zv0} zr0 hs hz => ihn zr0 hs (by omega))
theorem f52_ok {x0 : List api_ControlNode} {v0 : PV} (r0 : (tSl api_ControlNode.t).R x0 v0) (hs : csl x0 ≤ 1000) : ∃ r, FnR Try.prog 52 [v0] r ∧ (tSl api_ControlNode.t).R (ref20_Preorder x0) r := f52_okR _ r0 hs (Nat.lt_succ_self _)

/-- patchbay/patchbayref20.Node -/
def RF19 (res : api_ControlNode × Bool) (r : PV) : Prop := ∃ c0, r = .tup [c0, vb res.2] ∧ api_ControlNode.t.R res.1 c0
theorem f19_ok {x0 : List api_ControlNode} {x1 : Int} {v0 : PV} (r0 : (tSl api_ControlNode.t).R x0 v0) (hs : csl x0 ≤ 1000) : ∃ c0, FnR Try.prog 19 [v0, vi x1] (.tup [c0, vb ((ref20_Node x0 x1).2)]) ∧ api_ControlNode.t.R (ref20_Node x0 x1).1 c0 := by
  obtain ⟨res, hres⟩ : ∃ res, ref20_Node x0 x1 = res := ⟨_, rfl⟩
  suffices H : RC Try.prog ac19 [] (QR Try.prog [(4, some (5, true)), (5, none)] (RF19 res)) (argE 0 [v0, vi x1]) ⟨0, []⟩ by
    rw [hres]
    obtain ⟨r, h1, c0, rfl, qc0⟩ := fnE text19 (by simp) H
    exact ⟨c0, h1, qc0⟩
  unfold ref20_Node at hres
  unfold ac19
  refine rc_seq ?_
  refine rc_region ?_
  refine rd_allocO (x := .agg [vi 0, vi 0, nilS, nilS, nilS]) (Mem.nil ⟨0, []⟩) rfl rfl (fun i101 w101 h101 M101 => ?_)
  refine rd_op (v := vb false) (ov_move rfl) ?_
  refine rd_nil ?_
  refine pn_seq ?_
  refine rc_seq ?_
  refine rc_region ?_
  refine rd_op (ov_move rfl) ?_
  obtain ⟨y103, hw103, hres⟩ := let_ex hres
  obtain ⟨v104, f103, r104⟩ := f52_ok  r0 (by first | assumption | omega)
  rw [hw103] at r104
  refine rd_call (cv_fn rfl rfl (clL_cons (TR.clo (tSl api_ControlNode.t) r0) clL_nil) f103) ?_
  refine rd_op (ov_move rfl) ?_
  refine rd_nil ?_
  refine pn_seq ?_
  refine rc_seq ?_
  refine rc_seq ?_
  refine rc_region ?_
  refine rd_op (ov_move rfl) ?_
  refine rd_op (ov_bin rfl rfl i_lss) ?_
  refine rd_op (ov_move rfl) ?_
  refine rd_cut (d := 16) (v := vb ((decide (x1 < 0)) || (decide ((y103.length : Int) ≤ x1)))) ?_ ?_
  · intro S Q r
    simp only [ac19_G1, List.cons_append, List.nil_append, List.append_assoc]
    cases hb105 : (decide (x1 < 0))
    · intro k
      have hb105' := hb105
      try simp only [Bool.or_eq_true, Bool.or_eq_false_iff, Bool.and_eq_true, Bool.and_eq_false_imp, decide_eq_true_eq, decide_eq_false_iff_not, Bool.not_eq_true', Bool.not_eq_false', Bool.not_eq_true, Bool.not_eq_false, Bool.not_true, Bool.not_false, ne_eq] at hb105'
      refine rd_yes rfl rfl (ov_move rfl) ?_
      refine rd_yes rfl rfl (ov_move rfl) ?_
      refine rd_yes rfl rfl (ov_bi rfl (sl_len r104 Try.underlying28 _)) ?_
      refine rd_yes rfl rfl (ov_bin rfl rfl i_geq) ?_
      refine rd_op (v := vb (decide ((y103.length : Int) ≤ x1))) (ov_pick rfl rfl rfl rfl) ?_
      exact rd_weak (sub_cons rfl (sub_skip rfl (sub_skip rfl (sub_skip rfl (sub_skip rfl (sub_skip rfl (sub_refl _))))))) k
    · intro k
      refine rd_skip rfl rfl ?_
      refine rd_skip rfl rfl ?_
      refine rd_skip rfl rfl ?_
      refine rd_skip rfl rfl ?_
      refine rd_op (v := vb true) (ov_pick rfl rfl rfl rfl) ?_
      exact rd_weak (sub_cons rfl (sub_skip rfl (sub_skip rfl (sub_skip rfl (sub_skip rfl (sub_skip rfl (sub_refl _))))))) k
  refine rd_nil ?_
  refine pn_seq ?_
  refine rc_cond rfl (fun hc106 => ?_) (fun hc106 => ?_)
  · replace hres := (ite_t hc106).symm.trans hres
    have hc106' := hc106
    try simp only [Bool.or_eq_true, Bool.or_eq_false_iff, Bool.and_eq_true, Bool.and_eq_false_imp, decide_eq_true_eq, decide_eq_false_iff_not, Bool.not_eq_true', Bool.not_eq_false', Bool.not_eq_true, Bool.not_eq_false, Bool.not_true, Bool.not_false, ne_eq] at hc106'
    refine rc_seq ?_
    refine rc_region ?_
    refine rd_op (v := .agg [vi 0, vi 0, nilS, nilS, nilS]) (ov_build (cs := [vi 0, vi 0, nilS, nilS, nilS]) rfl rfl) ?_
    refine rd_storeO (k := 0) (v := .agg [vi 0, vi 0, nilS, nilS, nilS]) M101 rfl rfl rfl rfl (fun h107 M107 => ?_)
    replace M107 : Mem h107 [⟨.op i101 w101 0, 40, 5, [.agg [vi 0, vi 0, nilS, nilS, nilS]]⟩] := M107
    refine rd_op (v := vb false) (ov_move rfl) ?_
    refine rd_nil ?_
    refine pn_seq ?_
    subst hres
    exact rc_retV (.cell rfl (load_whole (k := 0) M107 rfl rfl) (.tmp rfl .nil)) (deep_closed (show closed (.tup _) = true from (clL_cons (TR.clo api_ControlNode.t (show api_ControlNode.t.R ({ Kind := 0, Table := 0, Cond := ([] : List api_ExprNode), Then := ([] : List api_ControlNode), Else := ([] : List api_ControlNode) } : api_ControlNode) (.agg [vi 0, vi 0, nilS, nilS, nilS]) from ⟨nilS, nilS, nilS, rfl, sl_nil, (api_ControlNode.sl_of sl_nil), (api_ControlNode.sl_of sl_nil)⟩)) (clL_cons rfl clL_nil)))) ⟨.agg [vi 0, vi 0, nilS, nilS, nilS], rfl, ⟨nilS, nilS, nilS, rfl, sl_nil, (api_ControlNode.sl_of sl_nil), (api_ControlNode.sl_of sl_nil)⟩⟩
  · replace hres := (ite_f hc106).symm.trans hres
    have hc106' := hc106
    try simp only [Bool.or_eq_true, Bool.or_eq_false_iff, Bool.and_eq_true, Bool.and_eq_false_imp, decide_eq_true_eq, decide_eq_false_iff_not, Bool.not_eq_true', Bool.not_eq_false', Bool.not_eq_true, Bool.not_eq_false, Bool.not_true, Bool.not_false, ne_eq] at hc106'
    refine rc_skip ?_
    refine pn_seq ?_
    refine rc_seq ?_
    refine rc_region ?_
    refine rd_op (ov_move rfl) ?_
    refine rd_op (ov_move rfl) ?_
    obtain ⟨v108, e108, r108⟩ := sl_idx (i := x1) r104 (by omega) (by omega)
    refine rd_op (ov_iaddr rfl rfl e108) ?_
    refine rd_op (ov_load rfl (TR.cnt api_ControlNode.t r108) (TR.agg api_ControlNode.t r108)) ?_
    refine rd_storeO (k := 0) (v := v108) M101 rfl rfl rfl (TR.cnt api_ControlNode.t r108) (fun h109 M109 => ?_)
    replace M109 : Mem h109 [⟨.op i101 w101 0, 40, 5, [v108]⟩] := M109
    refine rd_op (v := vb true) (ov_move rfl) ?_
    refine rd_nil ?_
    refine pn_seq ?_
    subst hres
    exact rc_retV (.cell rfl (load_whole (k := 0) M109 rfl (TR.agg api_ControlNode.t r108)) (.tmp rfl .nil)) (deep_closed (show closed (.tup _) = true from (clL_cons (TR.clo api_ControlNode.t r108) (clL_cons rfl clL_nil)))) ⟨v108, rfl, r108⟩

/-- patchbay/control.Count$1 -/
def RF56 (i1_ w1_ : Nat) (R_ : List Ent) (res : Bool × Int) (r : PV) (h : Heap) : Prop := Mem h (⟨.op i1_ w1_ 0, 3, 1, [vi res.2]⟩ :: R_) ∧ r = vb res.1
theorem f56_ok {x0 : api_ControlNode} {c0 : Int} {v0 : PV} {R_ : List Ent} {h_ : Heap} {i1_ w1_ : Nat} (r0 : api_ControlNode.t.R x0 v0) (M_ : Mem h_ (⟨.op i1_ w1_ 0, 3, 1, [vi c0]⟩ :: R_)) : ∃ r h2_, FnX Try.prog 56 [v0, .op i1_ w1_ 0] h_ r h2_ ∧ RF56 i1_ w1_ R_ (control_Count_1 x0 c0) r h2_ := by
  obtain ⟨res, hres⟩ : ∃ res, control_Count_1 x0 c0 = res := ⟨_, rfl⟩
  suffices H : RC Try.prog ac56 [] (retPost Try.prog [(3, none)] (RF56 i1_ w1_ R_ res)) (argE 0 [v0, .op i1_ w1_ 0]) h_ by
    rw [hres]
    exact fnX text56 (by simp) H
  unfold control_Count_1 at hres
  unfold ac56
  refine rc_seq ?_
  refine rc_region ?_
  refine rd_op (ov_box rfl (TR.cnt api_ControlNode.t r0)) ?_
  refine rd_op (v := vb false) (ov_move rfl) ?_
  refine rd_nil ?_
  refine pn_seq ?_
  refine rc_seq ?_
  refine rc_region ?_
  refine rd_op (ov_load0 (k := 0) M_ rfl rfl rfl) ?_
  refine rd_op (ov_bin rfl rfl i_add) ?_
  refine rd_storeO (k := 0) (v := vi (wr (c0 + 1))) M_ rfl rfl rfl rfl (fun h102 M102 => ?_)
  replace M102 : Mem h102 (⟨.op i1_ w1_ 0, 3, 1, [vi (wr (c0 + 1))]⟩ :: R_) := M102
  refine rd_nil ?_
  refine pn_seq ?_
  refine rc_seq ?_
  refine rc_region ?_
  refine rd_op (v := vb true) (ov_move rfl) ?_
  refine rd_nil ?_
  refine pn_seq ?_
  have MZ103 : Mem h102 (⟨.op i1_ w1_ 0, 3, 1, [vi (wr (c0 + 1))]⟩ :: R_) := (Mem.front (k := 0) M102 rfl)
  subst hres
  exact rc_retX (.tmp rfl .nil) ⟨Mem.sub MZ103 (.cons_cons _ (List.Sublist.refl R_)), rfl⟩
def ME56 (i1_ w1_ : Nat) (k_ : Nat) (s_ : Int) (L_ : List Ent) : Prop := (L_ = (⟨.op i1_ w1_ 0, 3, 1, [vi s_]⟩ :: [])) ∧ (True)
theorem mono56 (i1_ w1_ : Nat) : ∀ k_ s_ L_, ME56 i1_ w1_ (k_ + 1) s_ L_ → ME56 i1_ w1_ k_ s_ L_ := fun k_ s_ L_ h_ => ⟨h_.1, by have hi_ := h_.2; trivial⟩
theorem hv56 {i1_ w1_ : Nat} : VIS Try.prog 56 [.op i1_ w1_ 0] (fun a_ s_ => control_Count_1 a_ s_) (ME56 i1_ w1_) (fun _ => True) := by
  intro k_ a_ va_ s_ L_ R_ h_ hg_ ra_ hE_ M_
  obtain ⟨hL_, hi_⟩ := hE_
  subst hL_
  obtain ⟨r_, h2_, hX_, hZ_⟩ := f56_ok (x0 := a_) (c0 := s_) ra_   M_ 
  obtain ⟨M2_, hr_⟩ := hZ_
  subst hr_
  exact ⟨h2_, _, hX_, ⟨rfl, by trivial⟩, M2_⟩

/-- patchbay/control.Count -/
def RF20 (res : Int) (r : PV) : Prop := r = vi res
theorem f20_ok {x0 : List api_ControlNode} {v0 : PV} (r0 : (tSl api_ControlNode.t).R x0 v0) : FnR Try.prog 20 [v0] (vi (control_Count x0)) := by
  obtain ⟨res, hres⟩ : ∃ res, control_Count x0 = res := ⟨_, rfl⟩
  suffices H : RC Try.prog ac20 [] (QR Try.prog [(2, none)] (RF20 res)) (argE 0 [v0]) ⟨0, []⟩ by
    obtain ⟨r, h1, h2⟩ := fnE text20 (by simp) H
    rw [hres]
    have h2 : r = vi res := h2
    rw [← h2]; exact h1
  unfold control_Count at hres
  unfold ac20
  refine rc_seq ?_
  refine rc_region ?_
  refine rd_op (v := vi 0) (ov_move rfl) ?_
  refine rd_nil ?_
  refine pn_seq ?_
  refine rc_seq ?_
  refine rc_region ?_
  refine rd_allocO (x := vi 0) (Mem.nil ⟨0, []⟩) rfl rfl (fun i101 w101 h101 M101 => ?_)
  refine rd_storeO (k := 0) (v := vi 0) M101 rfl rfl rfl rfl (fun h103 M103 => ?_)
  replace M103 : Mem h103 [⟨.op i101 w101 0, 3, 1, [vi 0]⟩] := M103
  refine rd_nil ?_
  refine pn_seq ?_
  refine rc_seq ?_
  refine rc_regionS ?_
  refine rs_step ?_
  refine rd_op (ov_move rfl) ?_
  refine rs_back ?_
  refine rs_step ?_
  refine rd_op (v := .fn (.func 56) [] [.op i101 w101 0]) (ov_mkFunc rfl rfl) ?_
  refine rs_back ?_
  have M104 : Mem h103 [⟨.op i101 w101 0, 3, 1, [vi 0]⟩] := (Mem.front (k := 0) M103 rfl)
  obtain ⟨y104, hw104, hres⟩ := let_ex hres
  obtain ⟨h104, L104, hX104, hE104, M104v⟩ : ∃ h2 L2, FnX Try.prog 48 [v0, .fn (.func 56) [] [.op i101 w101 0]] h103 (vb y104.1) h2 ∧ ME56 i101 w101 0 y104.2 L2 ∧ Mem h2 (L2 ++ []) := by
    rw [← hw104]
    exact f48_pre (mono56 i101 w101) (hv56  ) _ _ (Nat.lt_succ_self _) (by exact fun _ _ => trivial) 0 _ 0 [⟨.op i101 w101 0, 3, 1, [vi 0]⟩] [] _ r0 (show ME56 i101 w101 (csl x0 + 0) 0 [⟨.op i101 w101 0, 3, 1, [vi 0]⟩] from ⟨rfl, by trivial⟩) M104
  obtain ⟨hL104, hi104⟩ := hE104
  subst hL104
  replace M104v : Mem h104 [⟨.op i101 w101 0, 3, 1, [vi y104.2]⟩] := M104v
  refine rs_callX rfl rfl hX104 ?_
  refine rs_nil ?_
  refine pn_seq ?_
  refine rc_seq ?_
  refine rc_region ?_
  refine rd_op (ov_load0 (k := 0) M104v rfl rfl rfl) ?_
  refine rd_op (ov_move rfl) ?_
  refine rd_nil ?_
  refine pn_seq ?_
  subst hres
  exact rc_retV (.tmp rfl .nil) (deep_closed rfl) rfl

/-- patchbay/patchbayref20.Count -/
def RF21 (res : Int) (r : PV) : Prop := r = vi res
theorem ref20_Count_L1_ok {S : List Fr} {res : Int} {x0 : List api_ControlNode} {rec_ : (List api_ControlNode) → Int} {mu_ : Nat} {v0 : PV} (r0 : (tSl api_ControlNode.t).R x0 v0) (ihR : ∀ {z0 : List api_ControlNode} {zv0 : PV} (zr0 : (tSl api_ControlNode.t).R z0 zv0), csl z0 < mu_ → FnR Try.prog 21 [zv0] (vi (rec_ z0))) (hmu : mu_ = csl x0) {K0 : Int → Int}
    (hK0 : ∀ (x3_ : Int), K0 x3_ = res → PX Try.prog 0 S (QR Try.prog [(2, none)] (RF21 res)) [(3, vi x3_)] ⟨0, []⟩) :
    ∀ (m : Nat) (x3_ : Int) (x4_ : Int) (hm1 : m = Int.toNat ((x0.length : Int) - x4_)) (hlo1 : 0 ≤ x4_), ref20_Count_L1 x0 rec_ K0 m x3_ x4_ = res → RC Try.prog (.loop ac21_L1) S (QR Try.prog [(2, none)] (RF21 res)) [(4, vi x4_), (3, vi x3_), (0, v0)] ⟨0, []⟩ := by
  intro m
  induction m with
  | zero =>
    intro x3_ x4_ hm1 hlo1 hres
    rw [ref20_Count_L1] at hres
    refine rc_loop ?_
    unfold ac21_L1
    refine rc_seq ?_
    refine rc_seq ?_
    refine rc_region ?_
    refine rd_op (ov_move rfl) ?_
    refine rd_op (ov_move rfl) ?_
    refine rd_op (ov_bi rfl (sl_len r0 Try.underlying28 _)) ?_
    refine rd_op (ov_bin rfl rfl i_lss) ?_
    refine rd_nil ?_
    refine pn_seq ?_
    refine rc_cond rfl (fun hc101 => ?_) (fun hc101 => ?_)
    · exfalso
      try simp only [Bool.or_eq_true, Bool.or_eq_false_iff, Bool.and_eq_true, Bool.and_eq_false_imp, decide_eq_true_eq, decide_eq_false_iff_not, Bool.not_eq_true', Bool.not_eq_false', Bool.not_eq_true, Bool.not_eq_false, Bool.not_true, Bool.not_false, ne_eq] at hc101
      omega
    · have hend := hres
      have hc101' := hc101
      try simp only [Bool.or_eq_true, Bool.or_eq_false_iff, Bool.and_eq_true, Bool.and_eq_false_imp, decide_eq_true_eq, decide_eq_false_iff_not, Bool.not_eq_true', Bool.not_eq_false', Bool.not_eq_true, Bool.not_eq_false, Bool.not_true, Bool.not_false, ne_eq] at hc101'
      refine rc_exit ?_
      refine px_seq ?_
      refine px_again ?_
      exact px_weak ((sub_cons rfl (sub_nil _))) (hK0 x3_ hres)
  | succ m ih =>
    intro x3_ x4_ hm1 hlo1 hres
    rw [ref20_Count_L1] at hres
    refine rc_loop ?_
    unfold ac21_L1
    refine rc_seq ?_
    refine rc_seq ?_
    refine rc_region ?_
    refine rd_op (ov_move rfl) ?_
    refine rd_op (ov_move rfl) ?_
    refine rd_op (ov_bi rfl (sl_len r0 Try.underlying28 _)) ?_
    refine rd_op (ov_bin rfl rfl i_lss) ?_
    refine rd_nil ?_
    refine pn_seq ?_
    refine rc_cond rfl (fun hc102 => ?_) (fun hc102 => ?_)
    · have hgo := hres
      have hc102' := hc102
      try simp only [Bool.or_eq_true, Bool.or_eq_false_iff, Bool.and_eq_true, Bool.and_eq_false_imp, decide_eq_true_eq, decide_eq_false_iff_not, Bool.not_eq_true', Bool.not_eq_false', Bool.not_eq_true, Bool.not_eq_false, Bool.not_true, Bool.not_false, ne_eq] at hc102'
      refine rc_skip ?_
      refine pn_seq ?_
      refine rc_seq ?_
      refine rc_block ?_
      refine rc_region ?_
      refine rd_op (ov_move rfl) ?_
      refine rd_op (ov_move rfl) ?_
      refine rd_op (ov_move rfl) ?_
      obtain ⟨v103, e103, r103⟩ := sl_idx (i := x4_) r0 (by omega) (by omega)
      refine rd_op (ov_iaddr rfl rfl e103) ?_
      obtain ⟨v104, e104, r104⟩ := api_ControlNode.g_Then r103
      refine rd_op (ov_faddr rfl e104) ?_
      refine rd_op (ov_load rfl (TR.cnt (tSl api_ControlNode.t) r104) (TR.agg (tSl api_ControlNode.t) r104)) ?_
      obtain ⟨y105, hw105, hres⟩ := let_ex hres
      have f105 := ihR (z0 := (ix x0 x4_).Then) r104  (by (have hk := csl_ix (l := x0) (by omega) (by omega); omega))
      rw [hw105] at f105
      refine rd_call (cv_fn rfl rfl (clL_cons (TR.clo (tSl api_ControlNode.t) r104) clL_nil) f105) ?_
      refine rd_op (ov_bin rfl rfl i_add) ?_
      refine rd_op (ov_move rfl) ?_
      refine rd_op (ov_move rfl) ?_
      obtain ⟨v106, e106, r106⟩ := sl_idx (i := x4_) r0 (by omega) (by omega)
      refine rd_op (ov_iaddr rfl rfl e106) ?_
      obtain ⟨v107, e107, r107⟩ := api_ControlNode.g_Else r106
      refine rd_op (ov_faddr rfl e107) ?_
      refine rd_op (ov_load rfl (TR.cnt (tSl api_ControlNode.t) r107) (TR.agg (tSl api_ControlNode.t) r107)) ?_
      obtain ⟨y108, hw108, hres⟩ := let_ex hres
      have f108 := ihR (z0 := (ix x0 x4_).Else) r107  (by (have hk := csl_ix (l := x0) (by omega) (by omega); omega))
      rw [hw108] at f108
      refine rd_call (cv_fn rfl rfl (clL_cons (TR.clo (tSl api_ControlNode.t) r107) clL_nil) f108) ?_
      refine rd_op (ov_bin rfl rfl i_add) ?_
      refine rd_op (ov_bin rfl rfl i_add) ?_
      refine rd_op (ov_move rfl) ?_
      refine rd_nil ?_
      refine pn_blk ?_
      refine pn_seq ?_
      refine rc_region ?_
      refine rd_op (ov_move rfl) ?_
      refine rd_op (ov_bin rfl rfl i_add) ?_
      refine rd_op (ov_move rfl) ?_
      refine rd_nil ?_
      refine pn_again ?_
      have hbd := sl_bound r0
      have hinc : wr (x4_ + 1) = x4_ + 1 := wr_of (by omega) (by omega)
      rw [hinc]
      refine rc_weak ?_ (ih (wr (x3_ + (wr ((wr (1 + y105)) + y108)))) (x4_ + 1)  (by omega) (by omega) hres)
      exact ((sub_cons rfl (sub_cons rfl (sub_cons rfl (sub_nil _)))))
    · exfalso
      try simp only [Bool.or_eq_true, Bool.or_eq_false_iff, Bool.and_eq_true, Bool.and_eq_false_imp, decide_eq_true_eq, decide_eq_false_iff_not, Bool.not_eq_true', Bool.not_eq_false', Bool.not_eq_true, Bool.not_eq_false, Bool.not_true, Bool.not_false, ne_eq] at hc102
      omega

theorem f21_okB {rec_ : (List api_ControlNode) → Int} {mu_ : Nat} {x0 : List api_ControlNode} {v0 : PV} (r0 : (tSl api_ControlNode.t).R x0 v0) (hmu : mu_ = csl x0) (ihR : ∀ {z0 : List api_ControlNode} {zv0 : PV} (zr0 : (tSl api_ControlNode.t).R z0 zv0), csl z0 < mu_ → FnR Try.prog 21 [zv0] (vi (rec_ z0))) : FnR Try.prog 21 [v0] (vi (ref20_Count_B rec_ x0)) := by
  obtain ⟨res, hres⟩ : ∃ res, ref20_Count_B rec_ x0 = res := ⟨_, rfl⟩
  suffices H : RC Try.prog ac21 [] (QR Try.prog [(2, none)] (RF21 res)) (argE 0 [v0]) ⟨0, []⟩ by
    obtain ⟨r, h1, h2⟩ := fnE text21 (by simp) H
    rw [hres]
    have h2 : r = vi res := h2
    rw [← h2]; exact h1
  unfold ref20_Count_B at hres
  unfold ac21
  refine rc_seq ?_
  refine rc_region ?_
  refine rd_op (v := vi 0) (ov_move rfl) ?_
  refine rd_nil ?_
  refine pn_seq ?_
  refine rc_seq ?_
  refine rc_region ?_
  refine rd_op (v := vi 0) (ov_move rfl) ?_
  refine rd_nil ?_
  refine pn_seq ?_
  refine rc_seq ?_
  refine rc_seq ?_
  refine rc_region ?_
  refine rd_op (v := vi 0) (ov_move rfl) ?_
  refine rd_nil ?_
  refine pn_seq ?_
  refine rc_block ?_
  refine rc_weak ?_ (ref20_Count_L1_ok (x0 := x0) (rec_ := rec_) (mu_ := mu_) (v0 := v0)  (r0 := r0) (ihR := ihR) (hmu := hmu) ?_ (Int.toNat ((x0.length : Int) - 0)) 0 0 rfl (by omega) hres)
  · exact ((sub_cons rfl (sub_cons rfl (sub_cons rfl (sub_nil _)))))
  · intro x3_109 hres
    refine px_blk ?_
    refine pn_seq ?_
    refine rc_seq ?_
    refine rc_region ?_
    refine rd_op (ov_move rfl) ?_
    refine rd_op (ov_move rfl) ?_
    refine rd_nil ?_
    refine pn_seq ?_
    subst hres
    exact rc_retV (.tmp rfl .nil) (deep_closed rfl) rfl
theorem f21_okR : ∀ (n_ : Nat) {x0 : List api_ControlNode} {v0 : PV} (r0 : (tSl api_ControlNode.t).R x0 v0), csl x0 < n_ → FnR Try.prog 21 [v0] (vi (ref20_Count_R n_ x0)) := by
  intro n_
  induction n_ with
  | zero => intros; rename_i hlt; exact absurd hlt (Nat.not_lt_zero _)
  | succ n_ ihn =>
    intro x0 v0 r0 hlt
    have e_ : ref20_Count_R (n_ + 1) x0 = ref20_Count_B (ref20_Count_R n_) x0 := by rw [ref20_Count_R]
    rw [e_]
    exact f21_okB r0 rfl (fun {z0} {zv0} zr0 hz => ihn zr0 (by omega))
theorem f21_ok {x0 : List api_ControlNode} {v0 : PV} (r0 : (tSl api_ControlNode.t).R x0 v0) : FnR Try.prog 21 [v0] (vi (ref20_Count x0)) := f21_okR _ r0 (Nat.lt_succ_self _)

/-- patchbay/control.Nesting -/
def RF22 (res : Int) (r : PV) : Prop := r = vi res
theorem control_Nesting_L1_ok {S : List Fr} {res : Int} {x0 : List api_ControlNode} {rec_ : (List api_ControlNode) → Int} {mu_ : Nat} {v0 : PV} (r0 : (tSl api_ControlNode.t).R x0 v0) (ihR : ∀ {z0 : List api_ControlNode} {zv0 : PV} (zr0 : (tSl api_ControlNode.t).R z0 zv0), csl z0 < mu_ → FnR Try.prog 22 [zv0] (vi (rec_ z0))) (hmu : mu_ = csl x0) (hc101 : (decide ((x0.length : Int) = 0)) = false) {K0 : Int → Int}
    (hK0 : ∀ (x3_ : Int) (h : Heap) (M0 : Mem h []), K0 x3_ = res → PX Try.prog 0 S (QR Try.prog [(2, none)] (RF22 res)) [(3, vi x3_)] h) :
    ∀ (m : Nat) (x3_ : Int) (x11_ : Int) (hm1 : m = Int.toNat ((x0.length : Int) - x11_)) (hlo1 : 0 ≤ x11_) (h : Heap) (M0 : Mem h []), control_Nesting_L1 x0 rec_ K0 m x3_ x11_ = res → RC Try.prog (.loop ac22_L1) S (QR Try.prog [(2, none)] (RF22 res)) [(11, vi x11_), (10, vi (x0.length : Int)), (9, v0), (3, vi x3_)] h := by
  have hc101' := hc101
  try simp only [Bool.or_eq_true, Bool.or_eq_false_iff, Bool.and_eq_true, Bool.and_eq_false_imp, decide_eq_true_eq, decide_eq_false_iff_not, Bool.not_eq_true', Bool.not_eq_false', Bool.not_eq_true, Bool.not_eq_false, Bool.not_true, Bool.not_false, ne_eq] at hc101'
  intro m
  induction m with
  | zero =>
    intro x3_ x11_ hm1 hlo1 h M0 hres
    rw [control_Nesting_L1] at hres
    refine rc_loop ?_
    unfold ac22_L1
    refine rc_seq ?_
    refine rc_region ?_
    refine rd_op (ov_bin rfl rfl i_lss) ?_
    refine rd_nil ?_
    refine pn_seq ?_
    refine rc_seq ?_
    refine rc_cond rfl (fun hc102 => ?_) (fun hc102 => ?_)
    · exfalso
      try simp only [Bool.or_eq_true, Bool.or_eq_false_iff, Bool.and_eq_true, Bool.and_eq_false_imp, decide_eq_true_eq, decide_eq_false_iff_not, Bool.not_eq_true', Bool.not_eq_false', Bool.not_eq_true, Bool.not_eq_false, Bool.not_true, Bool.not_false, ne_eq] at hc102
      omega
    · have hend := hres
      have hc102' := hc102
      try simp only [Bool.or_eq_true, Bool.or_eq_false_iff, Bool.and_eq_true, Bool.and_eq_false_imp, decide_eq_true_eq, decide_eq_false_iff_not, Bool.not_eq_true', Bool.not_eq_false', Bool.not_eq_true, Bool.not_eq_false, Bool.not_true, Bool.not_false, ne_eq] at hc102'
      refine rc_exit ?_
      refine px_seq ?_
      refine px_again ?_
      exact px_weak ((sub_cons rfl (sub_nil _))) (hK0 x3_ _ (Mem.sub M0 .slnil) hres)
  | succ m ih =>
    intro x3_ x11_ hm1 hlo1 h M0 hres
    rw [control_Nesting_L1] at hres
    refine rc_loop ?_
    unfold ac22_L1
    refine rc_seq ?_
    refine rc_region ?_
    refine rd_op (ov_bin rfl rfl i_lss) ?_
    refine rd_nil ?_
    refine pn_seq ?_
    refine rc_seq ?_
    refine rc_cond rfl (fun hc103 => ?_) (fun hc103 => ?_)
    · have hgo := hres
      have hc103' := hc103
      try simp only [Bool.or_eq_true, Bool.or_eq_false_iff, Bool.and_eq_true, Bool.and_eq_false_imp, decide_eq_true_eq, decide_eq_false_iff_not, Bool.not_eq_true', Bool.not_eq_false', Bool.not_eq_true, Bool.not_eq_false, Bool.not_true, Bool.not_false, ne_eq] at hc103'
      refine rc_skip ?_
      refine pn_seq ?_
      refine rc_seq ?_
      refine rc_block ?_
      refine rc_seq ?_
      refine rc_region ?_
      obtain ⟨v104, e104, r104⟩ := sl_idx (i := x11_) r0 (by omega) (by omega)
      refine rd_op (ov_iaddr rfl rfl e104) ?_
      refine rd_op (ov_load rfl (TR.cnt api_ControlNode.t r104) (TR.agg api_ControlNode.t r104)) ?_
      refine rd_allocO (x := .agg [vi 0, vi 0, nilS, nilS, nilS]) M0 rfl rfl (fun i105 w105 h105 M105 => ?_)
      refine rd_storeO (k := 0) (v := v104) M105 rfl rfl rfl (TR.cnt api_ControlNode.t r104) (fun h107 M107 => ?_)
      replace M107 : Mem h107 [⟨.op i105 w105 0, 40, 5, [v104]⟩] := M107
      refine rd_nil ?_
      refine pn_seq ?_
      refine rc_region ?_
      refine rd_op (ov_move rfl) ?_
      refine rd_op (ov_faddrO rfl) ?_
      obtain ⟨v108, e108, r108⟩ := api_ControlNode.g_Then r104
      refine rd_op (ov_loadf (k := 0) M107 rfl rfl e108) ?_
      obtain ⟨y109, hw109, hres⟩ := let_ex hres
      have f109 := ihR (z0 := (ix x0 x11_).Then) r108  (by (have hk := csl_ix (l := x0) (by omega) (by omega); omega))
      rw [hw109] at f109
      refine rd_call (cv_fn rfl rfl (clL_cons (TR.clo (tSl api_ControlNode.t) r108) clL_nil) f109) ?_
      refine rd_op (ov_faddrO rfl) ?_
      obtain ⟨v110, e110, r110⟩ := api_ControlNode.g_Else r104
      refine rd_op (ov_loadf (k := 0) M107 rfl rfl e110) ?_
      obtain ⟨y111, hw111, hres⟩ := let_ex hres
      have f111 := ihR (z0 := (ix x0 x11_).Else) r110  (by (have hk := csl_ix (l := x0) (by omega) (by omega); omega))
      rw [hw111] at f111
      refine rd_call (cv_fn rfl rfl (clL_cons (TR.clo (tSl api_ControlNode.t) r110) clL_nil) f111) ?_
      refine rd_op (ov_bi rfl (max_int3 _ _)) ?_
      refine rd_op (ov_move rfl) ?_
      refine rd_nil ?_
      refine pn_blk ?_
      refine pn_seq ?_
      refine rc_region ?_
      refine rd_op (ov_bin rfl rfl i_add) ?_
      refine rd_op (ov_move rfl) ?_
      refine rd_nil ?_
      refine pn_again ?_
      have hbd := sl_bound r0
      have hinc : wr (x11_ + 1) = x11_ + 1 := wr_of (by omega) (by omega)
      rw [hinc]
      refine rc_weak ?_ (ih (max (max x3_ y109) y111) (x11_ + 1)  (by omega) (by omega) _ (Mem.sub M107 (.cons _ .slnil)) hres)
      exact ((sub_cons rfl (sub_cons rfl (sub_cons rfl (sub_cons rfl (sub_nil _))))))
    · exfalso
      try simp only [Bool.or_eq_true, Bool.or_eq_false_iff, Bool.and_eq_true, Bool.and_eq_false_imp, decide_eq_true_eq, decide_eq_false_iff_not, Bool.not_eq_true', Bool.not_eq_false', Bool.not_eq_true, Bool.not_eq_false, Bool.not_true, Bool.not_false, ne_eq] at hc103
      omega

theorem f22_okB {rec_ : (List api_ControlNode) → Int} {mu_ : Nat} {x0 : List api_ControlNode} {v0 : PV} (r0 : (tSl api_ControlNode.t).R x0 v0) (hmu : mu_ = csl x0) (ihR : ∀ {z0 : List api_ControlNode} {zv0 : PV} (zr0 : (tSl api_ControlNode.t).R z0 zv0), csl z0 < mu_ → FnR Try.prog 22 [zv0] (vi (rec_ z0))) : FnR Try.prog 22 [v0] (vi (control_Nesting_B rec_ x0)) := by
  obtain ⟨res, hres⟩ : ∃ res, control_Nesting_B rec_ x0 = res := ⟨_, rfl⟩
  suffices H : RC Try.prog ac22 [] (QR Try.prog [(2, none)] (RF22 res)) (argE 0 [v0]) ⟨0, []⟩ by
    obtain ⟨r, h1, h2⟩ := fnE text22 (by simp) H
    rw [hres]
    have h2 : r = vi res := h2
    rw [← h2]; exact h1
  unfold control_Nesting_B at hres
  unfold ac22
  refine rc_seq ?_
  refine rc_region ?_
  refine rd_op (v := vi 0) (ov_move rfl) ?_
  refine rd_nil ?_
  refine pn_seq ?_
  refine rc_seq ?_
  refine rc_seq ?_
  refine rc_region ?_
  refine rd_op (ov_move rfl) ?_
  refine rd_op (ov_bi rfl (sl_len r0 Try.underlying28 _)) ?_
  refine rd_op (ov_bin rfl rfl i_eql) ?_
  refine rd_nil ?_
  refine pn_seq ?_
  refine rc_cond rfl (fun hc101 => ?_) (fun hc101 => ?_)
  · replace hres := (ite_t hc101).symm.trans hres
    have hc101' := hc101
    try simp only [Bool.or_eq_true, Bool.or_eq_false_iff, Bool.and_eq_true, Bool.and_eq_false_imp, decide_eq_true_eq, decide_eq_false_iff_not, Bool.not_eq_true', Bool.not_eq_false', Bool.not_eq_true, Bool.not_eq_false, Bool.not_true, Bool.not_false, ne_eq] at hc101'
    refine rc_seq ?_
    refine rc_region ?_
    refine rd_op (v := vi 0) (ov_move rfl) ?_
    refine rd_nil ?_
    refine pn_seq ?_
    subst hres
    exact rc_retV (.tmp rfl .nil) (deep_closed rfl) rfl
  · replace hres := (ite_f hc101).symm.trans hres
    have hc101' := hc101
    try simp only [Bool.or_eq_true, Bool.or_eq_false_iff, Bool.and_eq_true, Bool.and_eq_false_imp, decide_eq_true_eq, decide_eq_false_iff_not, Bool.not_eq_true', Bool.not_eq_false', Bool.not_eq_true, Bool.not_eq_false, Bool.not_true, Bool.not_false, ne_eq] at hc101'
    refine rc_skip ?_
    refine pn_seq ?_
    refine rc_seq ?_
    refine rc_region ?_
    refine rd_op (v := vi 0) (ov_move rfl) ?_
    refine rd_nil ?_
    refine pn_seq ?_
    refine rc_seq ?_
    refine rc_seq ?_
    refine rc_region ?_
    refine rd_op (ov_move rfl) ?_
    refine rd_op (ov_bi rfl (sl_len r0 Try.underlying28 _)) ?_
    refine rd_op (v := vi 0) (ov_move rfl) ?_
    refine rd_nil ?_
    refine pn_seq ?_
    refine rc_block ?_
    refine rc_weak ?_ (control_Nesting_L1_ok (x0 := x0) (rec_ := rec_) (mu_ := mu_) (v0 := v0)  (r0 := r0) (ihR := ihR) (hmu := hmu) (hc101 := hc101) ?_ (Int.toNat ((x0.length : Int) - 0)) 0 0 rfl (by omega) _ (Mem.sub (Mem.nil ⟨0, []⟩) .slnil) hres)
    · exact ((sub_cons rfl (sub_cons rfl (sub_cons rfl (sub_cons rfl (sub_nil _))))))
    · intro x3_112 h112 M112 hres
      refine px_blk ?_
      refine pn_seq ?_
      refine rc_seq ?_
      refine rc_region ?_
      refine rd_op (ov_move rfl) ?_
      refine rd_op (ov_bin rfl rfl i_add) ?_
      refine rd_op (ov_move rfl) ?_
      refine rd_nil ?_
      refine pn_seq ?_
      subst hres
      exact rc_retV (.tmp rfl .nil) (deep_closed rfl) rfl
theorem f22_okR : ∀ (n_ : Nat) {x0 : List api_ControlNode} {v0 : PV} (r0 : (tSl api_ControlNode.t).R x0 v0), csl x0 < n_ → FnR Try.prog 22 [v0] (vi (control_Nesting_R n_ x0)) := by
  intro n_
  induction n_ with
  | zero => intros; rename_i hlt; exact absurd hlt (Nat.not_lt_zero _)
  | succ n_ ihn =>
    intro x0 v0 r0 hlt
    have e_ : control_Nesting_R (n_ + 1) x0 = control_Nesting_B (control_Nesting_R n_) x0 := by rw [control_Nesting_R]
    rw [e_]
    exact f22_okB r0 rfl (fun {z0} {zv0} zr0 hz => ihn zr0 (by omega))
theorem f22_ok {x0 : List api_ControlNode} {v0 : PV} (r0 : (tSl api_ControlNode.t).R x0 v0) : FnR Try.prog 22 [v0] (vi (control_Nesting x0)) := f22_okR _ r0 (Nat.lt_succ_self _)

/-- patchbay/patchbayref20.Nesting -/
def RF23 (res : Int) (r : PV) : Prop := r = vi res
theorem ref20_Nesting_L1_ok {S : List Fr} {res : Int} {x0 : List api_ControlNode} {rec_ : (List api_ControlNode) → Int} {mu_ : Nat} {v0 : PV} (r0 : (tSl api_ControlNode.t).R x0 v0) (ihR : ∀ {z0 : List api_ControlNode} {zv0 : PV} (zr0 : (tSl api_ControlNode.t).R z0 zv0), csl z0 < mu_ → FnR Try.prog 23 [zv0] (vi (rec_ z0))) (hmu : mu_ = csl x0) {K0 : Int → Int}
    (hK0 : ∀ (x3_ : Int), K0 x3_ = res → PX Try.prog 0 S (QR Try.prog [(2, none)] (RF23 res)) [(3, vi x3_)] ⟨0, []⟩) :
    ∀ (m : Nat) (x3_ : Int) (x4_ : Int) (hm1 : m = Int.toNat ((x0.length : Int) - x4_)) (hlo1 : 0 ≤ x4_), ref20_Nesting_L1 x0 rec_ K0 m x3_ x4_ = res → RC Try.prog (.loop ac23_L1) S (QR Try.prog [(2, none)] (RF23 res)) [(4, vi x4_), (3, vi x3_), (0, v0)] ⟨0, []⟩ := by
  intro m
  induction m with
  | zero =>
    intro x3_ x4_ hm1 hlo1 hres
    rw [ref20_Nesting_L1] at hres
    refine rc_loop ?_
    unfold ac23_L1
    refine rc_seq ?_
    refine rc_seq ?_
    refine rc_region ?_
    refine rd_op (ov_move rfl) ?_
    refine rd_op (ov_move rfl) ?_
    refine rd_op (ov_bi rfl (sl_len r0 Try.underlying28 _)) ?_
    refine rd_op (ov_bin rfl rfl i_lss) ?_
    refine rd_nil ?_
    refine pn_seq ?_
    refine rc_cond rfl (fun hc101 => ?_) (fun hc101 => ?_)
    · exfalso
      try simp only [Bool.or_eq_true, Bool.or_eq_false_iff, Bool.and_eq_true, Bool.and_eq_false_imp, decide_eq_true_eq, decide_eq_false_iff_not, Bool.not_eq_true', Bool.not_eq_false', Bool.not_eq_true, Bool.not_eq_false, Bool.not_true, Bool.not_false, ne_eq] at hc101
      omega
    · have hend := hres
      have hc101' := hc101
      try simp only [Bool.or_eq_true, Bool.or_eq_false_iff, Bool.and_eq_true, Bool.and_eq_false_imp, decide_eq_true_eq, decide_eq_false_iff_not, Bool.not_eq_true', Bool.not_eq_false', Bool.not_eq_true, Bool.not_eq_false, Bool.not_true, Bool.not_false, ne_eq] at hc101'
      refine rc_exit ?_
      refine px_seq ?_
      refine px_again ?_
      exact px_weak ((sub_cons rfl (sub_nil _))) (hK0 x3_ hres)
  | succ m ih =>
    intro x3_ x4_ hm1 hlo1 hres
    rw [ref20_Nesting_L1] at hres
    refine rc_loop ?_
    unfold ac23_L1
    refine rc_seq ?_
    refine rc_seq ?_
    refine rc_region ?_
    refine rd_op (ov_move rfl) ?_
    refine rd_op (ov_move rfl) ?_
    refine rd_op (ov_bi rfl (sl_len r0 Try.underlying28 _)) ?_
    refine rd_op (ov_bin rfl rfl i_lss) ?_
    refine rd_nil ?_
    refine pn_seq ?_
    refine rc_cond rfl (fun hc102 => ?_) (fun hc102 => ?_)
    · have hgo := hres
      have hc102' := hc102
      try simp only [Bool.or_eq_true, Bool.or_eq_false_iff, Bool.and_eq_true, Bool.and_eq_false_imp, decide_eq_true_eq, decide_eq_false_iff_not, Bool.not_eq_true', Bool.not_eq_false', Bool.not_eq_true, Bool.not_eq_false, Bool.not_true, Bool.not_false, ne_eq] at hc102'
      refine rc_skip ?_
      refine pn_seq ?_
      refine rc_seq ?_
      refine rc_block ?_
      refine rc_region ?_
      refine rd_op (ov_move rfl) ?_
      refine rd_op (ov_move rfl) ?_
      refine rd_op (ov_move rfl) ?_
      obtain ⟨v103, e103, r103⟩ := sl_idx (i := x4_) r0 (by omega) (by omega)
      refine rd_op (ov_iaddr rfl rfl e103) ?_
      obtain ⟨v104, e104, r104⟩ := api_ControlNode.g_Then r103
      refine rd_op (ov_faddr rfl e104) ?_
      refine rd_op (ov_load rfl (TR.cnt (tSl api_ControlNode.t) r104) (TR.agg (tSl api_ControlNode.t) r104)) ?_
      obtain ⟨y105, hw105, hres⟩ := let_ex hres
      have f105 := ihR (z0 := (ix x0 x4_).Then) r104  (by (have hk := csl_ix (l := x0) (by omega) (by omega); omega))
      rw [hw105] at f105
      refine rd_call (cv_fn rfl rfl (clL_cons (TR.clo (tSl api_ControlNode.t) r104) clL_nil) f105) ?_
      refine rd_op (ov_bin rfl rfl i_add) ?_
      refine rd_op (ov_move rfl) ?_
      refine rd_op (ov_move rfl) ?_
      obtain ⟨v106, e106, r106⟩ := sl_idx (i := x4_) r0 (by omega) (by omega)
      refine rd_op (ov_iaddr rfl rfl e106) ?_
      obtain ⟨v107, e107, r107⟩ := api_ControlNode.g_Else r106
      refine rd_op (ov_faddr rfl e107) ?_
      refine rd_op (ov_load rfl (TR.cnt (tSl api_ControlNode.t) r107) (TR.agg (tSl api_ControlNode.t) r107)) ?_
      obtain ⟨y108, hw108, hres⟩ := let_ex hres
      have f108 := ihR (z0 := (ix x0 x4_).Else) r107  (by (have hk := csl_ix (l := x0) (by omega) (by omega); omega))
      rw [hw108] at f108
      refine rd_call (cv_fn rfl rfl (clL_cons (TR.clo (tSl api_ControlNode.t) r107) clL_nil) f108) ?_
      refine rd_op (ov_bin rfl rfl i_add) ?_
      refine rd_op (ov_bi rfl (max_int3 _ _)) ?_
      refine rd_op (ov_move rfl) ?_
      refine rd_nil ?_
      refine pn_blk ?_
      refine pn_seq ?_
      refine rc_region ?_
      refine rd_op (ov_move rfl) ?_
      refine rd_op (ov_bin rfl rfl i_add) ?_
      refine rd_op (ov_move rfl) ?_
      refine rd_nil ?_
      refine pn_again ?_
      have hbd := sl_bound r0
      have hinc : wr (x4_ + 1) = x4_ + 1 := wr_of (by omega) (by omega)
      rw [hinc]
      refine rc_weak ?_ (ih (max (max x3_ (wr (1 + y105))) (wr (1 + y108))) (x4_ + 1)  (by omega) (by omega) hres)
      exact ((sub_cons rfl (sub_cons rfl (sub_cons rfl (sub_nil _)))))
    · exfalso
      try simp only [Bool.or_eq_true, Bool.or_eq_false_iff, Bool.and_eq_true, Bool.and_eq_false_imp, decide_eq_true_eq, decide_eq_false_iff_not, Bool.not_eq_true', Bool.not_eq_false', Bool.not_eq_true, Bool.not_eq_false, Bool.not_true, Bool.not_false, ne_eq] at hc102
      omega

theorem f23_okB {rec_ : (List api_ControlNode) → Int} {mu_ : Nat} {x0 : List api_ControlNode} {v0 : PV} (r0 : (tSl api_ControlNode.t).R x0 v0) (hmu : mu_ = csl x0) (ihR : ∀ {z0 : List api_ControlNode} {zv0 : PV} (zr0 : (tSl api_ControlNode.t).R z0 zv0), csl z0 < mu_ → FnR Try.prog 23 [zv0] (vi (rec_ z0))) : FnR Try.prog 23 [v0] (vi (ref20_Nesting_B rec_ x0)) := by
  obtain ⟨res, hres⟩ : ∃ res, ref20_Nesting_B rec_ x0 = res := ⟨_, rfl⟩
  suffices H : RC Try.prog ac23 [] (QR Try.prog [(2, none)] (RF23 res)) (argE 0 [v0]) ⟨0, []⟩ by
    obtain ⟨r, h1, h2⟩ := fnE text23 (by simp) H
    rw [hres]
    have h2 : r = vi res := h2
    rw [← h2]; exact h1
  unfold ref20_Nesting_B at hres
  unfold ac23
  refine rc_seq ?_
  refine rc_region ?_
  refine rd_op (v := vi 0) (ov_move rfl) ?_
  refine rd_nil ?_
  refine pn_seq ?_
  refine rc_seq ?_
  refine rc_region ?_
  refine rd_op (v := vi 0) (ov_move rfl) ?_
  refine rd_nil ?_
  refine pn_seq ?_
  refine rc_seq ?_
  refine rc_seq ?_
  refine rc_region ?_
  refine rd_op (v := vi 0) (ov_move rfl) ?_
  refine rd_nil ?_
  refine pn_seq ?_
  refine rc_block ?_
  refine rc_weak ?_ (ref20_Nesting_L1_ok (x0 := x0) (rec_ := rec_) (mu_ := mu_) (v0 := v0)  (r0 := r0) (ihR := ihR) (hmu := hmu) ?_ (Int.toNat ((x0.length : Int) - 0)) 0 0 rfl (by omega) hres)
  · exact ((sub_cons rfl (sub_cons rfl (sub_cons rfl (sub_nil _)))))
  · intro x3_109 hres
    refine px_blk ?_
    refine pn_seq ?_
    refine rc_seq ?_
    refine rc_region ?_
    refine rd_op (ov_move rfl) ?_
    refine rd_op (ov_move rfl) ?_
    refine rd_nil ?_
    refine pn_seq ?_
    subst hres
    exact rc_retV (.tmp rfl .nil) (deep_closed rfl) rfl
theorem f23_okR : ∀ (n_ : Nat) {x0 : List api_ControlNode} {v0 : PV} (r0 : (tSl api_ControlNode.t).R x0 v0), csl x0 < n_ → FnR Try.prog 23 [v0] (vi (ref20_Nesting_R n_ x0)) := by
  intro n_
  induction n_ with
  | zero => intros; rename_i hlt; exact absurd hlt (Nat.not_lt_zero _)
  | succ n_ ihn =>
    intro x0 v0 r0 hlt
    have e_ : ref20_Nesting_R (n_ + 1) x0 = ref20_Nesting_B (ref20_Nesting_R n_) x0 := by rw [ref20_Nesting_R]
    rw [e_]
    exact f23_okB r0 rfl (fun {z0} {zv0} zr0 hz => ihn zr0 (by omega))
theorem f23_ok {x0 : List api_ControlNode} {v0 : PV} (r0 : (tSl api_ControlNode.t).R x0 v0) : FnR Try.prog 23 [v0] (vi (ref20_Nesting x0)) := f23_okR _ r0 (Nat.lt_succ_self _)

/-- patchbay/control.applies -/
def RF51 (res : Bool) (r : PV) : Prop := r = vb res
theorem f51_ok {x0 : api_ControlNode} {v0 : PV} (r0 : api_ControlNode.t.R x0 v0) : FnR Try.prog 51 [v0] (vb (control_applies x0)) := by
  obtain ⟨res, hres⟩ : ∃ res, control_applies x0 = res := ⟨_, rfl⟩
  suffices H : RC Try.prog ac51 [] (QR Try.prog [(2, none)] (RF51 res)) (argE 0 [v0]) ⟨0, []⟩ by
    obtain ⟨r, h1, h2⟩ := fnE text51 (by simp) H
    rw [hres]
    have h2 : r = vb res := h2
    rw [← h2]; exact h1
  unfold control_applies at hres
  unfold ac51
  refine rc_seq ?_
  refine rc_region ?_
  refine rd_op (ov_box rfl (TR.cnt api_ControlNode.t r0)) ?_
  refine rd_op (v := vb false) (ov_move rfl) ?_
  refine rd_nil ?_
  refine pn_seq ?_
  refine rc_seq ?_
  refine rc_region ?_
  refine rd_op (ov_faddr rfl (api_ControlNode.g_Kind r0)) ?_
  refine rd_op (ov_load rfl rfl rfl) ?_
  refine rd_op (ov_bin rfl rfl i_eql) ?_
  refine rd_op (ov_move rfl) ?_
  refine rd_cut (d := 10) (v := vb ((decide (x0.Kind = 1)) || (decide (x0.Kind = 3)))) ?_ ?_
  · intro S Q r
    simp only [ac51_G1, List.cons_append, List.nil_append, List.append_assoc]
    cases hb101 : (decide (x0.Kind = 1))
    · intro k
      have hb101' := hb101
      try simp only [Bool.or_eq_true, Bool.or_eq_false_iff, Bool.and_eq_true, Bool.and_eq_false_imp, decide_eq_true_eq, decide_eq_false_iff_not, Bool.not_eq_true', Bool.not_eq_false', Bool.not_eq_true, Bool.not_eq_false, Bool.not_true, Bool.not_false, ne_eq] at hb101'
      refine rd_yes rfl rfl (ov_faddr rfl (api_ControlNode.g_Kind r0)) ?_
      refine rd_yes rfl rfl (ov_load rfl rfl rfl) ?_
      refine rd_yes rfl rfl (ov_bin rfl rfl i_eql) ?_
      refine rd_op (v := vb (decide (x0.Kind = 3))) (ov_pick rfl rfl rfl rfl) ?_
      exact rd_weak (sub_cons rfl (sub_skip rfl (sub_skip rfl (sub_skip rfl (sub_skip rfl (sub_refl _)))))) k
    · intro k
      refine rd_skip rfl rfl ?_
      refine rd_skip rfl rfl ?_
      refine rd_skip rfl rfl ?_
      refine rd_op (v := vb true) (ov_pick rfl rfl rfl rfl) ?_
      exact rd_weak (sub_cons rfl (sub_skip rfl (sub_skip rfl (sub_skip rfl (sub_skip rfl (sub_refl _)))))) k
  refine rd_op (ov_move rfl) ?_
  refine rd_nil ?_
  refine pn_seq ?_
  subst hres
  exact rc_retV (.tmp rfl .nil) (deep_closed rfl) rfl

/-- patchbay/control.Tables$1 -/
def RF57 (i1_ w1_ : Nat) (R_ : List Ent) (res : Bool × (List Int)) (r : PV) (h : Heap) : Prop := ∃ aF0_0 : PV, ∃ esF0_0 : List PV, Mem h (⟨.op i1_ w1_ 0, 29, 1, [aF0_0]⟩ :: ⟨aF0_0, 3, 1, esF0_0⟩ :: R_) ∧ (All2 tI.R res.2 esF0_0) ∧ (isL aF0_0 = true) ∧ (res.2.length ≤ 4611686018427387904) ∧ r = vb res.1
theorem f57_ok {x0 : api_ControlNode} {c0 : List Int} {v0 : PV} {a1__0 : PV} {es1__0 : List PV} {R_ : List Ent} {h_ : Heap} {i1_ w1_ : Nat} (r0 : api_ControlNode.t.R x0 v0) (qs1__0 : All2 tI.R c0 es1__0) (ne1__0 : isL a1__0 = true) (hl1__0 : c0.length ≤ 4611686018427387904) (M_ : Mem h_ (⟨.op i1_ w1_ 0, 29, 1, [a1__0]⟩ :: ⟨a1__0, 3, 1, es1__0⟩ :: R_)) (hb : c0.length ≤ 1000000) : ∃ r h2_, FnX Try.prog 57 [v0, .op i1_ w1_ 0] h_ r h2_ ∧ RF57 i1_ w1_ R_ (control_Tables_1 x0 c0) r h2_ := by
  obtain ⟨res, hres⟩ : ∃ res, control_Tables_1 x0 c0 = res := ⟨_, rfl⟩
  suffices H : RC Try.prog ac57 [] (retPost Try.prog [(3, none)] (RF57 i1_ w1_ R_ res)) (argE 0 [v0, .op i1_ w1_ 0]) h_ by
    rw [hres]
    exact fnX text57 (by simp) H
  unfold control_Tables_1 at hres
  unfold ac57
  refine rc_seq ?_
  refine rc_region ?_
  refine rd_op (ov_box rfl (TR.cnt api_ControlNode.t r0)) ?_
  refine rd_op (v := vb false) (ov_move rfl) ?_
  refine rd_nil ?_
  refine pn_seq ?_
  refine rc_seq ?_
  refine rc_seq ?_
  refine rc_region ?_
  refine rd_op (ov_load rfl (TR.cnt api_ControlNode.t r0) (TR.agg api_ControlNode.t r0)) ?_
  obtain ⟨y103, hw103, hres⟩ := let_ex hres
  have f103 := f51_ok  r0 
  rw [hw103] at f103
  refine rd_call (cv_fn rfl rfl (clL_cons (TR.clo api_ControlNode.t r0) clL_nil) f103) ?_
  refine rd_nil ?_
  refine pn_seq ?_
  refine rc_cond rfl (fun hc104 => ?_) (fun hc104 => ?_)
  · replace hres := (ite_t hc104).symm.trans hres
    have hc104' := hc104
    try simp only [Bool.or_eq_true, Bool.or_eq_false_iff, Bool.and_eq_true, Bool.and_eq_false_imp, decide_eq_true_eq, decide_eq_false_iff_not, Bool.not_eq_true', Bool.not_eq_false', Bool.not_eq_true, Bool.not_eq_false, Bool.not_true, Bool.not_false, ne_eq] at hc104'
    refine rc_region ?_
    refine rd_op (ov_load0 (k := 0) M_ rfl rfl (mem_one (k := 1) M_ rfl ne1__0).2) ?_
    refine rd_op (ov_faddr rfl (api_ControlNode.g_Table r0)) ?_
    refine rd_op (ov_load rfl rfl rfl) ?_
    refine rd_op (v := .fs true [vi x0.Table]) (ov_bslice rfl (all_cons rfl all_nil)) ?_
    have r105 : (tSl tI).R ([x0.Table] : List Int) (.fs true [vi x0.Table]) := sl_fs ⟨rfl, trivial⟩ (by simp)
    obtain ⟨nw106, sr106, ar106⟩ := src_of (t := tI) (h := h_) r105
    have f106 : fits (es1__0.length + nw106.length) 8 = true := by rw [All2.length_eq qs1__0, All2.length_eq ar106]; (try simp only [List.length_cons, List.length_nil]); exact fits_of (by first | omega | (simp only [List.length_append, List.length_cons, List.length_nil] at *; omega)) (by first | omega | (simp only [List.length_append, List.length_cons, List.length_nil] at *; omega))
    refine rd_appO (k := 1) (es := es1__0) (news := nw106) M_ rfl rfl rfl ne1__0 sr106 f106 (fun a106 h106 n106 M106 => ?_)
    have q106 : All2 tI.R (c0 ++ ([x0.Table] : List Int)) (es1__0 ++ nw106) := All2.app qs1__0 ar106
    have hl106 : (c0 ++ ([x0.Table] : List Int)).length ≤ 4611686018427387904 := by rw [← All2.length_eq q106, List.length_append]; exact fits_len f106
    refine rd_storeO (k := 0) (v := a106) M106 rfl rfl rfl (mem_cnt1 (k := 1) M106 rfl n106) (fun h107 M107 => ?_)
    replace M107 : Mem h107 (⟨.op i1_ w1_ 0, 29, 1, [a106]⟩ :: ⟨a106, 3, 1, (es1__0 ++ nw106)⟩ :: R_) := M107
    refine rd_nil ?_
    refine pn_seq ?_
    refine rc_seq ?_
    refine rc_region ?_
    refine rd_op (v := vb true) (ov_move rfl) ?_
    refine rd_nil ?_
    refine pn_seq ?_
    have MZ108 : Mem h107 (⟨.op i1_ w1_ 0, 29, 1, [a106]⟩ :: ⟨a106, 3, 1, (es1__0 ++ nw106)⟩ :: R_) := (Mem.front (k := 1) (Mem.front (k := 1) M107 rfl) rfl)
    subst hres
    exact rc_retX (.tmp rfl .nil) ⟨a106, (es1__0 ++ nw106), Mem.sub MZ108 (.cons_cons _ (.cons_cons _ (List.Sublist.refl R_))), q106, n106, hl106, rfl⟩
  · replace hres := (ite_f hc104).symm.trans hres
    have hc104' := hc104
    try simp only [Bool.or_eq_true, Bool.or_eq_false_iff, Bool.and_eq_true, Bool.and_eq_false_imp, decide_eq_true_eq, decide_eq_false_iff_not, Bool.not_eq_true', Bool.not_eq_false', Bool.not_eq_true, Bool.not_eq_false, Bool.not_true, Bool.not_false, ne_eq] at hc104'
    refine rc_skip ?_
    refine pn_seq ?_
    refine rc_seq ?_
    refine rc_region ?_
    refine rd_op (v := vb true) (ov_move rfl) ?_
    refine rd_nil ?_
    refine pn_seq ?_
    have MZ109 : Mem h_ (⟨.op i1_ w1_ 0, 29, 1, [a1__0]⟩ :: ⟨a1__0, 3, 1, es1__0⟩ :: R_) := (Mem.front (k := 1) (Mem.front (k := 1) M_ rfl) rfl)
    subst hres
    exact rc_retX (.tmp rfl .nil) ⟨a1__0, es1__0, Mem.sub MZ109 (.cons_cons _ (.cons_cons _ (List.Sublist.refl R_))), qs1__0, ne1__0, hl1__0, rfl⟩
def ME57 (i1_ w1_ : Nat) (k_ : Nat) (s_ : (List Int)) (L_ : List Ent) : Prop := (∃ aV0_0 : PV, ∃ esV0_0 : List PV, L_ = (⟨.op i1_ w1_ 0, 29, 1, [aV0_0]⟩ :: ⟨aV0_0, 3, 1, esV0_0⟩ :: []) ∧ (All2 tI.R s_ esV0_0) ∧ (isL aV0_0 = true) ∧ (s_.length ≤ 4611686018427387904)) ∧ (s_.length + k_ ≤ 1000000)
theorem mono57 (i1_ w1_ : Nat) : ∀ k_ s_ L_, ME57 i1_ w1_ (k_ + 1) s_ L_ → ME57 i1_ w1_ k_ s_ L_ := fun k_ s_ L_ h_ => ⟨h_.1, by have hi_ := h_.2; omega⟩
theorem hv57 {i1_ w1_ : Nat} : VIS Try.prog 57 [.op i1_ w1_ 0] (fun a_ s_ => control_Tables_1 a_ s_) (ME57 i1_ w1_) (fun _ => True) := by
  intro k_ a_ va_ s_ L_ R_ h_ hg_ ra_ hE_ M_
  obtain ⟨⟨aV0_0, esV0_0, hL_, qsV0_0, neV0_0, hlV0_0⟩, hi_⟩ := hE_
  subst hL_
  obtain ⟨r_, h2_, hX_, hZ_⟩ := f57_ok (x0 := a_) (c0 := s_) ra_  qsV0_0 neV0_0 hlV0_0 M_ (by omega)
  obtain ⟨aV0_0n, esV0_0n, M2_, qsV0_0n, neV0_0n, hlV0_0n, hr_⟩ := hZ_
  subst hr_
  exact ⟨h2_, _, hX_, ⟨⟨aV0_0n, esV0_0n, rfl, qsV0_0n, neV0_0n, hlV0_0n⟩, by (have hk := tables_step a_ s_; show (control_Tables_1 a_ s_).2.length + k_ ≤ 1000000; omega)⟩, M2_⟩

end Go.Proofs.Ytkgnjpoafilicaa
