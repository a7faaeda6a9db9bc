/-
  The code of each function does what its plain program says.
-/
import Derived.Test.YtkgnjpoafilicaaKDef
import Derived.Test.YtkgnjpoafilicaaL10Text
import Derived.Test.YtkgnjpoafilicaaPbC
import Derived.Test.YtkgnjpoafilicaaKVisWkWl
import Derived.Test.YtkgnjpoafilicaaKSzPureQRsPw
import Derived.Test.YtkgnjpoafilicaaKSzPureQRsPw
import Derived.Test.YtkgnjpoafilicaaKSzPureQRsPw
import Derived.Test.YtkgnjpoafilicaaKSzPureQRsPw
import Derived.Test.YtkgnjpoafilicaaL10Run
set_option linter.unusedVariables false
set_option linter.unusedSimpArgs false
set_option maxRecDepth 100000
namespace Go.Proofs.Ytkgnjpoafilicaa
open Go Go.Pb Go.RowKit
/-- patchbay/patchbaylaw20.size -/
def RF47 (res : Int) (r : PV) : Prop := r = vi res
theorem law20_size_L1_ok {S : List Fr} {res : Int} {x0 : List api_ControlNode} {x1 : Int} {x2 : Int} {rec_ : (List api_ControlNode) → Int → Int → Int} {mu_ : Nat} {v0 : PV} (r0 : (tSl api_ControlNode.t).R x0 v0) (ihR : ∀ {z0 : List api_ControlNode} {z1 : Int} {z2 : Int} {zv0 : PV} (zr0 : (tSl api_ControlNode.t).R z0 zv0), csl z0 < mu_ → FnR Try.prog 47 [zv0, vi z1, vi z2] (vi (rec_ z0 z1 z2))) (hmu : mu_ = csl x0) {K0 : Int → Int}
    (hK0 : ∀ (x7_ : Int), K0 x7_ = res → PX Try.prog 0 S (QR Try.prog [(6, none)] (RF47 res)) [(7, vi x7_)] ⟨0, []⟩) :
    ∀ (m : Nat) (x7_ : Int) (x8_ : Int) (hm1 : m = Int.toNat ((x0.length : Int) - x8_)) (hlo1 : 0 ≤ x8_), law20_size_L1 x0 x1 x2 rec_ K0 m x7_ x8_ = res → RC Try.prog (.loop ac47_L1) S (QR Try.prog [(6, none)] (RF47 res)) [(8, vi x8_), (7, vi x7_), (2, vi x2), (1, vi x1), (0, v0)] ⟨0, []⟩ := by
  intro m
  induction m with
  | zero =>
    intro x7_ x8_ hm1 hlo1 hres
    rw [law20_size_L1] at hres
    refine rc_loop ?_
    unfold ac47_L1
    refine rc_seq ?_
    refine rc_seq ?_
    refine rc_region ?_
    refine rd_op (ov_move rfl) ?_
    refine rd_op (ov_move rfl) ?_
    refine rd_op (ov_bi rfl (sl_len r0 Try.underlying28 _)) ?_
    refine rd_op (ov_bin rfl rfl i_lss) ?_
    refine rd_op (ov_move rfl) ?_
    refine rd_cut (d := 17) (v := vb ((decide (x8_ < (x0.length : Int))) && (decide (x7_ ≤ x1)))) ?_ ?_
    · intro S Q r
      simp only [ac47_G1, List.cons_append, List.nil_append, List.append_assoc]
      cases hb101 : (decide (x8_ < (x0.length : Int)))
      · intro k
        refine rd_skip rfl rfl ?_
        refine rd_skip rfl rfl ?_
        refine rd_skip rfl rfl ?_
        refine rd_op (v := vb false) (ov_pick rfl rfl rfl rfl) ?_
        exact rd_weak (sub_cons rfl (sub_skip rfl (sub_skip rfl (sub_skip rfl (sub_skip rfl (sub_refl _)))))) k
      · intro k
        have hb101' := hb101
        try simp only [Bool.or_eq_true, Bool.or_eq_false_iff, Bool.and_eq_true, Bool.and_eq_false_imp, decide_eq_true_eq, decide_eq_false_iff_not, Bool.not_eq_true', Bool.not_eq_false', Bool.not_eq_true, Bool.not_eq_false, Bool.not_true, Bool.not_false, ne_eq] at hb101'
        refine rd_yes rfl rfl (ov_move rfl) ?_
        refine rd_yes rfl rfl (ov_move rfl) ?_
        refine rd_yes rfl rfl (ov_bin rfl rfl i_leq) ?_
        refine rd_op (v := vb (decide (x7_ ≤ x1))) (ov_pick rfl rfl rfl rfl) ?_
        exact rd_weak (sub_cons rfl (sub_skip rfl (sub_skip rfl (sub_skip rfl (sub_skip rfl (sub_refl _)))))) k
    refine rd_nil ?_
    refine pn_seq ?_
    refine rc_cond rfl (fun hc102 => ?_) (fun hc102 => ?_)
    · exfalso
      try simp only [Bool.or_eq_true, Bool.or_eq_false_iff, Bool.and_eq_true, Bool.and_eq_false_imp, decide_eq_true_eq, decide_eq_false_iff_not, Bool.not_eq_true', Bool.not_eq_false', Bool.not_eq_true, Bool.not_eq_false, Bool.not_true, Bool.not_false, ne_eq] at hc102
      omega
    · have hend := hres
      have hc102' := hc102
      try simp only [Bool.or_eq_true, Bool.or_eq_false_iff, Bool.and_eq_true, Bool.and_eq_false_imp, decide_eq_true_eq, decide_eq_false_iff_not, Bool.not_eq_true', Bool.not_eq_false', Bool.not_eq_true, Bool.not_eq_false, Bool.not_true, Bool.not_false, ne_eq] at hc102'
      refine rc_exit ?_
      refine px_seq ?_
      refine px_again ?_
      exact px_weak ((sub_cons rfl (sub_nil _))) (hK0 x7_ hres)
  | succ m ih =>
    intro x7_ x8_ hm1 hlo1 hres
    rw [law20_size_L1] at hres
    refine rc_loop ?_
    unfold ac47_L1
    refine rc_seq ?_
    refine rc_seq ?_
    refine rc_region ?_
    refine rd_op (ov_move rfl) ?_
    refine rd_op (ov_move rfl) ?_
    refine rd_op (ov_bi rfl (sl_len r0 Try.underlying28 _)) ?_
    refine rd_op (ov_bin rfl rfl i_lss) ?_
    refine rd_op (ov_move rfl) ?_
    refine rd_cut (d := 17) (v := vb ((decide (x8_ < (x0.length : Int))) && (decide (x7_ ≤ x1)))) ?_ ?_
    · intro S Q r
      simp only [ac47_G1, List.cons_append, List.nil_append, List.append_assoc]
      cases hb103 : (decide (x8_ < (x0.length : Int)))
      · intro k
        refine rd_skip rfl rfl ?_
        refine rd_skip rfl rfl ?_
        refine rd_skip rfl rfl ?_
        refine rd_op (v := vb false) (ov_pick rfl rfl rfl rfl) ?_
        exact rd_weak (sub_cons rfl (sub_skip rfl (sub_skip rfl (sub_skip rfl (sub_skip rfl (sub_refl _)))))) k
      · intro k
        have hb103' := hb103
        try simp only [Bool.or_eq_true, Bool.or_eq_false_iff, Bool.and_eq_true, Bool.and_eq_false_imp, decide_eq_true_eq, decide_eq_false_iff_not, Bool.not_eq_true', Bool.not_eq_false', Bool.not_eq_true, Bool.not_eq_false, Bool.not_true, Bool.not_false, ne_eq] at hb103'
        refine rd_yes rfl rfl (ov_move rfl) ?_
        refine rd_yes rfl rfl (ov_move rfl) ?_
        refine rd_yes rfl rfl (ov_bin rfl rfl i_leq) ?_
        refine rd_op (v := vb (decide (x7_ ≤ x1))) (ov_pick rfl rfl rfl rfl) ?_
        exact rd_weak (sub_cons rfl (sub_skip rfl (sub_skip rfl (sub_skip rfl (sub_skip rfl (sub_refl _)))))) k
    refine rd_nil ?_
    refine pn_seq ?_
    refine rc_cond rfl (fun hc104 => ?_) (fun hc104 => ?_)
    · replace hres := (ite_t hc104).symm.trans hres
      have hc104' := hc104
      try simp only [Bool.or_eq_true, Bool.or_eq_false_iff, Bool.and_eq_true, Bool.and_eq_false_imp, decide_eq_true_eq, decide_eq_false_iff_not, Bool.not_eq_true', Bool.not_eq_false', Bool.not_eq_true, Bool.not_eq_false, Bool.not_true, Bool.not_false, ne_eq] at hc104'
      refine rc_skip ?_
      refine pn_seq ?_
      refine rc_seq ?_
      refine rc_block ?_
      refine rc_seq ?_
      refine rc_region ?_
      refine rd_op (ov_move rfl) ?_
      refine rd_op (ov_bin rfl rfl i_add) ?_
      refine rd_op (ov_move rfl) ?_
      refine rd_nil ?_
      refine pn_seq ?_
      refine rc_seq ?_
      refine rc_seq ?_
      refine rc_region ?_
      refine rd_op (ov_move rfl) ?_
      refine rd_op (ov_move rfl) ?_
      obtain ⟨v105, e105, r105⟩ := sl_idx (i := x8_) r0 (by omega) (by omega)
      refine rd_op (ov_iaddr rfl rfl e105) ?_
      obtain ⟨v106, e106, r106⟩ := api_ControlNode.g_Cond r105
      refine rd_op (ov_faddr rfl e106) ?_
      refine rd_op (ov_load rfl (TR.cnt (tSl api_ExprNode.t) r106) (TR.agg (tSl api_ExprNode.t) r106)) ?_
      refine rd_op (ov_bi rfl (sl_len r106 Try.underlying38 _)) ?_
      refine rd_op (ov_bin rfl rfl i_gtr) ?_
      refine rd_op (ov_move rfl) ?_
      refine rd_cut (d := 32) (v := vb ((decide (40 < (((ix x0 x8_).Cond).length : Int))) || (decide (x2 = 0)))) ?_ ?_
      · intro S Q r
        simp only [ac47_G2, List.cons_append, List.nil_append, List.append_assoc]
        cases hb107 : (decide (40 < (((ix x0 x8_).Cond).length : Int)))
        · intro k
          have hb107' := hb107
          try simp only [Bool.or_eq_true, Bool.or_eq_false_iff, Bool.and_eq_true, Bool.and_eq_false_imp, decide_eq_true_eq, decide_eq_false_iff_not, Bool.not_eq_true', Bool.not_eq_false', Bool.not_eq_true, Bool.not_eq_false, Bool.not_true, Bool.not_false, ne_eq] at hb107'
          refine rd_yes rfl rfl (ov_move rfl) ?_
          refine rd_yes rfl rfl (ov_bin rfl rfl i_eql) ?_
          refine rd_op (v := vb (decide (x2 = 0))) (ov_pick rfl rfl rfl rfl) ?_
          exact rd_weak (sub_cons rfl (sub_skip rfl (sub_skip rfl (sub_skip rfl (sub_refl _))))) k
        · intro k
          refine rd_skip rfl rfl ?_
          refine rd_skip rfl rfl ?_
          refine rd_op (v := vb true) (ov_pick rfl rfl rfl rfl) ?_
          exact rd_weak (sub_cons rfl (sub_skip rfl (sub_skip rfl (sub_skip rfl (sub_refl _))))) k
      refine rd_nil ?_
      refine pn_seq ?_
      refine rc_cond rfl (fun hc108 => ?_) (fun hc108 => ?_)
      · replace hres := (ite_t hc108).symm.trans hres
        have hc108' := hc108
        try simp only [Bool.or_eq_true, Bool.or_eq_false_iff, Bool.and_eq_true, Bool.and_eq_false_imp, decide_eq_true_eq, decide_eq_false_iff_not, Bool.not_eq_true', Bool.not_eq_false', Bool.not_eq_true, Bool.not_eq_false, Bool.not_true, Bool.not_false, ne_eq] at hc108'
        refine rc_seq ?_
        refine rc_region ?_
        refine rd_op (ov_move rfl) ?_
        refine rd_op (ov_bin rfl rfl i_add) ?_
        refine rd_op (ov_move rfl) ?_
        refine rd_nil ?_
        refine pn_seq ?_
        subst hres
        exact rc_retV (.tmp rfl .nil) (deep_closed rfl) rfl
      · replace hres := (ite_f hc108).symm.trans hres
        have hc108' := hc108
        try simp only [Bool.or_eq_true, Bool.or_eq_false_iff, Bool.and_eq_true, Bool.and_eq_false_imp, decide_eq_true_eq, decide_eq_false_iff_not, Bool.not_eq_true', Bool.not_eq_false', Bool.not_eq_true, Bool.not_eq_false, Bool.not_true, Bool.not_false, ne_eq] at hc108'
        refine rc_skip ?_
        refine pn_seq ?_
        refine rc_seq ?_
        refine rc_region ?_
        refine rd_op (ov_move rfl) ?_
        refine rd_op (ov_move rfl) ?_
        refine rd_op (ov_move rfl) ?_
        obtain ⟨v109, e109, r109⟩ := sl_idx (i := x8_) r0 (by omega) (by omega)
        refine rd_op (ov_iaddr rfl rfl e109) ?_
        obtain ⟨v110, e110, r110⟩ := api_ControlNode.g_Then r109
        refine rd_op (ov_faddr rfl e110) ?_
        refine rd_op (ov_load rfl (TR.cnt (tSl api_ControlNode.t) r110) (TR.agg (tSl api_ControlNode.t) r110)) ?_
        refine rd_op (ov_move rfl) ?_
        refine rd_op (ov_move rfl) ?_
        refine rd_op (ov_bin rfl rfl i_sub) ?_
        refine rd_op (ov_move rfl) ?_
        refine rd_op (ov_bin rfl rfl i_sub) ?_
        obtain ⟨y111, hw111, hres⟩ := let_ex hres
        have f111 := ihR (z0 := (ix x0 x8_).Then) (z1 := (wr (x1 - (wr (x7_ + 1))))) (z2 := (wr (x2 - 1))) r110  (by (have hk := csl_ix (l := x0) (by omega) (by omega); omega))
        rw [hw111] at f111
        refine rd_call (cv_fn rfl rfl (clL_cons (TR.clo (tSl api_ControlNode.t) r110) (clL_cons rfl (clL_cons rfl clL_nil))) f111) ?_
        refine rd_op (ov_bin rfl rfl i_add) ?_
        refine rd_op (ov_move rfl) ?_
        refine rd_nil ?_
        refine pn_seq ?_
        refine rc_seq ?_
        refine rc_region ?_
        refine rd_op (ov_move rfl) ?_
        refine rd_op (ov_move rfl) ?_
        refine rd_op (ov_bin rfl rfl i_leq) ?_
        refine rd_nil ?_
        refine pn_seq ?_
        refine rc_cond rfl (fun hc112 => ?_) (fun hc112 => ?_)
        · replace hres := (ite_t hc112).symm.trans hres
          have hc112' := hc112
          try simp only [Bool.or_eq_true, Bool.or_eq_false_iff, Bool.and_eq_true, Bool.and_eq_false_imp, decide_eq_true_eq, decide_eq_false_iff_not, Bool.not_eq_true', Bool.not_eq_false', Bool.not_eq_true, Bool.not_eq_false, Bool.not_true, Bool.not_false, ne_eq] at hc112'
          refine rc_region ?_
          refine rd_op (ov_move rfl) ?_
          refine rd_op (ov_move rfl) ?_
          refine rd_op (ov_move rfl) ?_
          obtain ⟨v113, e113, r113⟩ := sl_idx (i := x8_) r0 (by omega) (by omega)
          refine rd_op (ov_iaddr rfl rfl e113) ?_
          obtain ⟨v114, e114, r114⟩ := api_ControlNode.g_Else r113
          refine rd_op (ov_faddr rfl e114) ?_
          refine rd_op (ov_load rfl (TR.cnt (tSl api_ControlNode.t) r114) (TR.agg (tSl api_ControlNode.t) r114)) ?_
          refine rd_op (ov_move rfl) ?_
          refine rd_op (ov_move rfl) ?_
          refine rd_op (ov_bin rfl rfl i_sub) ?_
          refine rd_op (ov_move rfl) ?_
          refine rd_op (ov_bin rfl rfl i_sub) ?_
          obtain ⟨y115, hw115, hres⟩ := let_ex hres
          have f115 := ihR (z0 := (ix x0 x8_).Else) (z1 := (wr (x1 - (wr ((wr (x7_ + 1)) + y111))))) (z2 := (wr (x2 - 1))) r114  (by (have hk := csl_ix (l := x0) (by omega) (by omega); omega))
          rw [hw115] at f115
          refine rd_call (cv_fn rfl rfl (clL_cons (TR.clo (tSl api_ControlNode.t) r114) (clL_cons rfl (clL_cons rfl clL_nil))) f115) ?_
          refine rd_op (ov_bin rfl rfl i_add) ?_
          refine rd_op (ov_move rfl) ?_
          refine rd_nil ?_
          refine pn_blk ?_
          refine pn_seq ?_
          refine rc_region ?_
          refine rd_op (ov_move rfl) ?_
          refine rd_op (ov_bin rfl rfl i_add) ?_
          refine rd_op (ov_move rfl) ?_
          refine rd_nil ?_
          refine pn_again ?_
          have hbd := sl_bound r0
          have hinc : wr (x8_ + 1) = x8_ + 1 := wr_of (by omega) (by omega)
          rw [hinc]
          refine rc_weak ?_ (ih (wr ((wr ((wr (x7_ + 1)) + y111)) + y115)) (x8_ + 1)  (by omega) (by omega) hres)
          exact ((sub_cons rfl (sub_cons rfl (sub_cons rfl (sub_cons rfl (sub_cons rfl (sub_nil _)))))))
        · replace hres := (ite_f hc112).symm.trans hres
          have hc112' := hc112
          try simp only [Bool.or_eq_true, Bool.or_eq_false_iff, Bool.and_eq_true, Bool.and_eq_false_imp, decide_eq_true_eq, decide_eq_false_iff_not, Bool.not_eq_true', Bool.not_eq_false', Bool.not_eq_true, Bool.not_eq_false, Bool.not_true, Bool.not_false, ne_eq] at hc112'
          refine rc_skip ?_
          refine pn_blk ?_
          refine pn_seq ?_
          refine rc_region ?_
          refine rd_op (ov_move rfl) ?_
          refine rd_op (ov_bin rfl rfl i_add) ?_
          refine rd_op (ov_move rfl) ?_
          refine rd_nil ?_
          refine pn_again ?_
          have hbd := sl_bound r0
          have hinc : wr (x8_ + 1) = x8_ + 1 := wr_of (by omega) (by omega)
          rw [hinc]
          refine rc_weak ?_ (ih (wr ((wr (x7_ + 1)) + y111)) (x8_ + 1)  (by omega) (by omega) hres)
          exact ((sub_cons rfl (sub_cons rfl (sub_cons rfl (sub_cons rfl (sub_cons rfl (sub_nil _)))))))
    · replace hres := (ite_f hc104).symm.trans hres
      have hc104' := hc104
      try simp only [Bool.or_eq_true, Bool.or_eq_false_iff, Bool.and_eq_true, Bool.and_eq_false_imp, decide_eq_true_eq, decide_eq_false_iff_not, Bool.not_eq_true', Bool.not_eq_false', Bool.not_eq_true, Bool.not_eq_false, Bool.not_true, Bool.not_false, ne_eq] at hc104'
      refine rc_exit ?_
      refine px_seq ?_
      refine px_again ?_
      exact px_weak ((sub_cons rfl (sub_nil _))) (hK0 x7_ hres)

theorem f47_okB {rec_ : (List api_ControlNode) → Int → Int → Int} {mu_ : Nat} {x0 : List api_ControlNode} {x1 : Int} {x2 : Int} {v0 : PV} (r0 : (tSl api_ControlNode.t).R x0 v0) (hmu : mu_ = csl x0) (ihR : ∀ {z0 : List api_ControlNode} {z1 : Int} {z2 : Int} {zv0 : PV} (zr0 : (tSl api_ControlNode.t).R z0 zv0), csl z0 < mu_ → FnR Try.prog 47 [zv0, vi z1, vi z2] (vi (rec_ z0 z1 z2))) : FnR Try.prog 47 [v0, vi x1, vi x2] (vi (law20_size_B rec_ x0 x1 x2)) := by
  obtain ⟨res, hres⟩ : ∃ res, law20_size_B rec_ x0 x1 x2 = res := ⟨_, rfl⟩
  suffices H : RC Try.prog ac47 [] (QR Try.prog [(6, none)] (RF47 res)) (argE 0 [v0, vi x1, vi x2]) ⟨0, []⟩ by
    obtain ⟨r, h1, h2⟩ := fnE text47 (by simp) H
    rw [hres]
    have h2 : r = vi res := h2
    rw [← h2]; exact h1
  unfold law20_size_B at hres
  unfold ac47
  refine rc_seq ?_
  refine rc_region ?_
  refine rd_op (v := vi 0) (ov_move rfl) ?_
  refine rd_nil ?_
  refine pn_seq ?_
  refine rc_seq ?_
  refine rc_region ?_
  refine rd_op (v := vi 0) (ov_move rfl) ?_
  refine rd_nil ?_
  refine pn_seq ?_
  refine rc_seq ?_
  refine rc_seq ?_
  refine rc_region ?_
  refine rd_op (v := vi 0) (ov_move rfl) ?_
  refine rd_nil ?_
  refine pn_seq ?_
  refine rc_block ?_
  refine rc_weak ?_ (law20_size_L1_ok (x0 := x0) (x1 := x1) (x2 := x2) (rec_ := rec_) (mu_ := mu_) (v0 := v0)  (r0 := r0) (ihR := ihR) (hmu := hmu) ?_ (Int.toNat ((x0.length : Int) - 0)) 0 0 rfl (by omega) hres)
  · exact ((sub_cons rfl (sub_cons rfl (sub_cons rfl (sub_cons rfl (sub_cons rfl (sub_nil _)))))))
  · intro x7_116 hres
    refine px_blk ?_
    refine pn_seq ?_
    refine rc_seq ?_
    refine rc_region ?_
    refine rd_op (ov_move rfl) ?_
    refine rd_op (ov_move rfl) ?_
    refine rd_nil ?_
    refine pn_seq ?_
    subst hres
    exact rc_retV (.tmp rfl .nil) (deep_closed rfl) rfl
theorem f47_okR : ∀ (n_ : Nat) {x0 : List api_ControlNode} {x1 : Int} {x2 : Int} {v0 : PV} (r0 : (tSl api_ControlNode.t).R x0 v0), csl x0 < n_ → FnR Try.prog 47 [v0, vi x1, vi x2] (vi (law20_size_R n_ x0 x1 x2)) := by
  intro n_
  induction n_ with
  | zero => intros; rename_i hlt; exact absurd hlt (Nat.not_lt_zero _)
  | succ n_ ihn =>
    intro x0 x1 x2 v0 r0 hlt
    have e_ : law20_size_R (n_ + 1) x0 x1 x2 = law20_size_B (law20_size_R n_) x0 x1 x2 := by rw [law20_size_R]
    rw [e_]
    exact f47_okB r0 rfl (fun {z0} {z1} {z2} {zv0} zr0 hz => ihn zr0 (by omega))
theorem f47_ok {x0 : List api_ControlNode} {x1 : Int} {x2 : Int} {v0 : PV} (r0 : (tSl api_ControlNode.t).R x0 v0) : FnR Try.prog 47 [v0, vi x1, vi x2] (vi (law20_size x0 x1 x2)) := f47_okR _ r0 (Nat.lt_succ_self _)

/-- patchbay/patchbaylaw20.Small -/
def RF14 (res : Bool) (r : PV) : Prop := r = vb res
theorem f14_ok {x0 : List api_ControlNode} {x1 : Int} {v0 : PV} (r0 : (tSl api_ControlNode.t).R x0 v0) : FnR Try.prog 14 [v0, vi x1] (vb (law20_Small x0 x1)) := by
  obtain ⟨res, hres⟩ : ∃ res, law20_Small x0 x1 = res := ⟨_, rfl⟩
  suffices H : RC Try.prog ac14 [] (QR Try.prog [(4, none)] (RF14 res)) (argE 0 [v0, vi x1]) ⟨0, []⟩ by
    obtain ⟨r, h1, h2⟩ := fnE text14 (by simp) H
    rw [hres]
    have h2 : r = vb res := h2
    rw [← h2]; exact h1
  unfold law20_Small at hres
  unfold ac14
  refine rc_seq ?_
  refine rc_region ?_
  refine rd_op (v := vb false) (ov_move rfl) ?_
  refine rd_nil ?_
  refine pn_seq ?_
  refine rc_seq ?_
  refine rc_region ?_
  refine rd_op (ov_move rfl) ?_
  refine rd_op (ov_move rfl) ?_
  obtain ⟨y101, hw101, hres⟩ := let_ex hres
  have f101 := f47_ok (x1 := x1) (x2 := 12) r0 
  rw [hw101] at f101
  refine rd_call (cv_fn rfl rfl (clL_cons (TR.clo (tSl api_ControlNode.t) r0) (clL_cons rfl (clL_cons rfl clL_nil))) f101) ?_
  refine rd_op (ov_move rfl) ?_
  refine rd_op (ov_bin rfl rfl i_leq) ?_
  refine rd_op (ov_move rfl) ?_
  refine rd_nil ?_
  refine pn_seq ?_
  subst hres
  exact rc_retV (.tmp rfl .nil) (deep_closed rfl) rfl

theorem f15_ok : FnR Try.prog 15 [] (vb law20_works) := run15

/-- (*patchbay/patchbaylaw20.walk).answer -/
def RF74 (i0_ w0_ : Nat) (R_ : List Ent) (res : Bool × law20_walk) (r : PV) (h : Heap) : Prop := ∃ uF0_answers : PV, ∃ aF0_1 : PV, ∃ esF0_1 : List PV, ∃ aF0_3 : PV, ∃ esF0_3 : List PV, Mem h (⟨.op i0_ w0_ 0, 66, 4, [.agg [uF0_answers, vi res.2.next, aF0_1, aF0_3]]⟩ :: ⟨aF0_1, 3, 1, esF0_1⟩ :: ⟨aF0_3, 3, 1, esF0_3⟩ :: R_) ∧ ((tSl tB).R res.2.answers uF0_answers) ∧ (All2 tI.R res.2.tables esF0_1) ∧ (isL aF0_1 = true) ∧ (res.2.tables.length ≤ 4611686018427387904) ∧ (Wri aF0_1 esF0_1) ∧ (All2 tI.R res.2.conds esF0_3) ∧ (isL aF0_3 = true) ∧ (res.2.conds.length ≤ 4611686018427387904) ∧ (Wri aF0_3 esF0_3) ∧ r = vb res.1
theorem f74_ok {x0 : law20_walk} {u0__answers : PV} {a0__1 : PV} {es0__1 : List PV} {a0__3 : PV} {es0__3 : List PV} {R_ : List Ent} {h_ : Heap} {i0_ w0_ : Nat} (ru0__answers : (tSl tB).R x0.answers u0__answers) (qs0__1 : All2 tI.R x0.tables es0__1) (ne0__1 : isL a0__1 = true) (hl0__1 : x0.tables.length ≤ 4611686018427387904) (wi0__2 : Wri a0__1 es0__1) (qs0__3 : All2 tI.R x0.conds es0__3) (ne0__3 : isL a0__3 = true) (hl0__3 : x0.conds.length ≤ 4611686018427387904) (wi0__4 : Wri a0__3 es0__3) (M_ : Mem h_ (⟨.op i0_ w0_ 0, 66, 4, [.agg [u0__answers, vi x0.next, a0__1, a0__3]]⟩ :: ⟨a0__1, 3, 1, es0__1⟩ :: ⟨a0__3, 3, 1, es0__3⟩ :: R_)) (hw : 0 ≤ x0.next ∧ x0.next ≤ 100000) : ∃ r h2_, FnX Try.prog 74 [.op i0_ w0_ 0] h_ r h2_ ∧ RF74 i0_ w0_ R_ (m2_law20_walk__answer x0) r h2_ := by
  obtain ⟨res, hres⟩ : ∃ res, m2_law20_walk__answer x0 = res := ⟨_, rfl⟩
  suffices H : RC Try.prog ac74 [] (retPost Try.prog [(2, none)] (RF74 i0_ w0_ R_ res)) (argE 0 [.op i0_ w0_ 0]) h_ by
    rw [hres]
    exact fnX text74 (by simp) H
  unfold m2_law20_walk__answer at hres
  unfold ac74
  refine rc_seq ?_
  refine rc_region ?_
  refine rd_op (v := vb false) (ov_move rfl) ?_
  refine rd_nil ?_
  refine pn_seq ?_
  refine rc_seq ?_
  refine rc_region ?_
  refine rd_op (ov_move rfl) ?_
  refine rd_op (ov_nilCheck rfl rfl) ?_
  refine rd_op (ov_faddrO rfl) ?_
  refine rd_op (ov_loadf (k := 0) M_ rfl rfl (mk1 (TR.agg (tSl tB) ru0__answers))) ?_
  refine rd_op (ov_bi rfl (sl_len ru0__answers Try.underlying50 _)) ?_
  refine rd_op (ov_bin rfl rfl i_gtr) ?_
  refine rd_op (ov_move rfl) ?_
  refine rd_cut (d := 27) (v := vb ((decide (0 < (x0.answers.length : Int))) && (ix x0.answers (Int.tmod x0.next (x0.answers.length : Int))))) ?_ ?_
  · intro S Q r
    simp only [ac74_G1, List.cons_append, List.nil_append, List.append_assoc]
    cases hb101 : (decide (0 < (x0.answers.length : Int)))
    · intro k
      refine rd_skip rfl rfl ?_
      refine rd_skip rfl rfl ?_
      refine rd_skip rfl rfl ?_
      refine rd_skip rfl rfl ?_
      refine rd_skip rfl rfl ?_
      refine rd_skip rfl rfl ?_
      refine rd_skip rfl rfl ?_
      refine rd_skip rfl rfl ?_
      refine rd_skip rfl rfl ?_
      refine rd_skip rfl rfl ?_
      refine rd_skip rfl rfl ?_
      refine rd_skip rfl rfl ?_
      refine rd_skip rfl rfl ?_
      refine rd_skip rfl rfl ?_
      refine rd_skip rfl rfl ?_
      refine rd_skip rfl rfl ?_
      refine rd_op (v := vb false) (ov_pick rfl rfl rfl rfl) ?_
      exact rd_weak (sub_cons rfl (sub_skip rfl (sub_skip rfl (sub_skip rfl (sub_skip rfl (sub_skip rfl (sub_skip rfl (sub_skip rfl (sub_skip rfl (sub_skip rfl (sub_skip rfl (sub_skip rfl (sub_skip rfl (sub_skip rfl (sub_skip rfl (sub_skip rfl (sub_skip rfl (sub_skip rfl (sub_refl _))))))))))))))))))) k
    · intro k
      have hb101' := hb101
      try simp only [Bool.or_eq_true, Bool.or_eq_false_iff, Bool.and_eq_true, Bool.and_eq_false_imp, decide_eq_true_eq, decide_eq_false_iff_not, Bool.not_eq_true', Bool.not_eq_false', Bool.not_eq_true, Bool.not_eq_false, Bool.not_true, Bool.not_false, ne_eq] at hb101'
      refine rd_yes rfl rfl (ov_move rfl) ?_
      refine rd_yes rfl rfl (ov_nilCheck rfl rfl) ?_
      refine rd_yes rfl rfl (ov_faddrO rfl) ?_
      refine rd_yes rfl rfl (ov_loadf (k := 0) M_ rfl rfl (mk1 (TR.agg (tSl tB) ru0__answers))) ?_
      refine rd_yes rfl rfl (ov_move rfl) ?_
      refine rd_yes rfl rfl (ov_nilCheck rfl rfl) ?_
      refine rd_yes rfl rfl (ov_faddrO rfl) ?_
      refine rd_yes rfl rfl (ov_loadf (k := 0) M_ rfl rfl rfl) ?_
      refine rd_yes rfl rfl (ov_move rfl) ?_
      refine rd_yes rfl rfl (ov_nilCheck rfl rfl) ?_
      refine rd_yes rfl rfl (ov_faddrO rfl) ?_
      refine rd_yes rfl rfl (ov_loadf (k := 0) M_ rfl rfl (mk1 (TR.agg (tSl tB) ru0__answers))) ?_
      refine rd_yes rfl rfl (ov_bi rfl (sl_len ru0__answers Try.underlying50 _)) ?_
      refine rd_yes rfl rfl (ov_bin rfl rfl (i_rem (by omega))) ?_
      refine rd_yes rfl rfl (ov_iaddr rfl rfl (slB ru0__answers (by first | omega | (have hk := tm_bd hw.1 (n := x0.answers.length) (by omega); omega)) (by first | omega | (have hk := tm_bd hw.1 (n := x0.answers.length) (by omega); omega)))) ?_
      refine rd_yes rfl rfl (ov_load rfl rfl rfl) ?_
      refine rd_op (v := vb (ix x0.answers (Int.tmod x0.next (x0.answers.length : Int)))) (ov_pick rfl rfl rfl rfl) ?_
      exact rd_weak (sub_cons rfl (sub_skip rfl (sub_skip rfl (sub_skip rfl (sub_skip rfl (sub_skip rfl (sub_skip rfl (sub_skip rfl (sub_skip rfl (sub_skip rfl (sub_skip rfl (sub_skip rfl (sub_skip rfl (sub_skip rfl (sub_skip rfl (sub_skip rfl (sub_skip rfl (sub_skip rfl (sub_refl _))))))))))))))))))) k
  refine rd_op (ov_move rfl) ?_
  refine rd_nil ?_
  refine pn_seq ?_
  refine rc_seq ?_
  refine rc_region ?_
  refine rd_op (ov_move rfl) ?_
  refine rd_op (ov_nilCheck rfl rfl) ?_
  refine rd_op (ov_faddrO rfl) ?_
  refine rd_op (ov_loadf (k := 0) M_ rfl rfl rfl) ?_
  refine rd_op (ov_bin rfl rfl i_add) ?_
  refine rd_op (ov_nilCheck rfl rfl) ?_
  refine rd_op (ov_faddrO rfl) ?_
  refine rd_storeF (k := 0) (v := vi (wr (x0.next + 1))) M_ rfl rfl rfl rfl rfl (by first | decide | (simp only [List.length_cons, List.length_nil]; omega) | simp) (fun h102 M102 => ?_)
  replace M102 : Mem h102 (⟨.op i0_ w0_ 0, 66, 4, [.agg [u0__answers, vi (wr (x0.next + 1)), a0__1, a0__3]]⟩ :: ⟨a0__1, 3, 1, es0__1⟩ :: ⟨a0__3, 3, 1, es0__3⟩ :: R_) := M102
  refine rd_nil ?_
  refine pn_seq ?_
  refine rc_seq ?_
  refine rc_region ?_
  refine rd_op (ov_move rfl) ?_
  refine rd_op (ov_move rfl) ?_
  refine rd_nil ?_
  refine pn_seq ?_
  have MZ103 : Mem h102 (⟨.op i0_ w0_ 0, 66, 4, [.agg [u0__answers, vi (wr (x0.next + 1)), a0__1, a0__3]]⟩ :: ⟨a0__1, 3, 1, es0__1⟩ :: ⟨a0__3, 3, 1, es0__3⟩ :: R_) := (Mem.front (k := 2) (Mem.front (k := 2) (Mem.front (k := 2) M102 rfl) rfl) rfl)
  subst hres
  exact rc_retX (.tmp rfl .nil) ⟨u0__answers, a0__1, es0__1, a0__3, es0__3, Mem.sub MZ103 (.cons_cons _ (.cons_cons _ (.cons_cons _ (List.Sublist.refl R_)))), ru0__answers, qs0__1, ne0__1, hl0__1, wi0__2, qs0__3, ne0__3, hl0__3, wi0__4, rfl⟩

/-- (*patchbay/patchbaylaw20.walk).apply -/
def RF40 (i0_ w0_ : Nat) (R_ : List Ent) (res : Bool × law20_walk) (r : PV) (h : Heap) : Prop := ∃ uF0_answers : PV, ∃ aF0_1 : PV, ∃ esF0_1 : List PV, ∃ aF0_3 : PV, ∃ esF0_3 : List PV, Mem h (⟨.op i0_ w0_ 0, 66, 4, [.agg [uF0_answers, vi res.2.next, aF0_1, aF0_3]]⟩ :: ⟨aF0_1, 3, 1, esF0_1⟩ :: ⟨aF0_3, 3, 1, esF0_3⟩ :: R_) ∧ ((tSl tB).R res.2.answers uF0_answers) ∧ (All2 tI.R res.2.tables esF0_1) ∧ (isL aF0_1 = true) ∧ (res.2.tables.length ≤ 4611686018427387904) ∧ (Wri aF0_1 esF0_1) ∧ (All2 tI.R res.2.conds esF0_3) ∧ (isL aF0_3 = true) ∧ (res.2.conds.length ≤ 4611686018427387904) ∧ (Wri aF0_3 esF0_3) ∧ r = vb res.1
theorem f40_ok {x0 : law20_walk} {x1 : Int} {u0__answers : PV} {a0__1 : PV} {es0__1 : List PV} {a0__3 : PV} {es0__3 : List PV} {R_ : List Ent} {h_ : Heap} {i0_ w0_ : Nat} (ru0__answers : (tSl tB).R x0.answers u0__answers) (qs0__1 : All2 tI.R x0.tables es0__1) (ne0__1 : isL a0__1 = true) (hl0__1 : x0.tables.length ≤ 4611686018427387904) (wi0__2 : Wri a0__1 es0__1) (qs0__3 : All2 tI.R x0.conds es0__3) (ne0__3 : isL a0__3 = true) (hl0__3 : x0.conds.length ≤ 4611686018427387904) (wi0__4 : Wri a0__3 es0__3) (M_ : Mem h_ (⟨.op i0_ w0_ 0, 66, 4, [.agg [u0__answers, vi x0.next, a0__1, a0__3]]⟩ :: ⟨a0__1, 3, 1, es0__1⟩ :: ⟨a0__3, 3, 1, es0__3⟩ :: R_)) (hw : 0 ≤ x0.next ∧ x0.next ≤ 100000 ∧ x0.tables.length ≤ 100000 ∧ x0.conds.length ≤ 100000) : ∃ r h2_, FnX Try.prog 40 [.op i0_ w0_ 0, vi x1] h_ r h2_ ∧ RF40 i0_ w0_ R_ (m2_law20_walk__apply x0 x1) r h2_ := by
  obtain ⟨res, hres⟩ : ∃ res, m2_law20_walk__apply x0 x1 = res := ⟨_, rfl⟩
  suffices H : RC Try.prog ac40 [] (retPost Try.prog [(4, none)] (RF40 i0_ w0_ R_ res)) (argE 0 [.op i0_ w0_ 0, vi x1]) h_ by
    rw [hres]
    exact fnX text40 (by simp) H
  unfold m2_law20_walk__apply at hres
  unfold ac40
  refine rc_seq ?_
  refine rc_region ?_
  refine rd_op (v := vb false) (ov_move rfl) ?_
  refine rd_nil ?_
  refine pn_seq ?_
  refine rc_seq ?_
  refine rc_region ?_
  refine rd_op (ov_move rfl) ?_
  refine rd_op (ov_move rfl) ?_
  refine rd_op (ov_nilCheck rfl rfl) ?_
  refine rd_op (ov_faddrO rfl) ?_
  refine rd_op (ov_loadf (k := 0) M_ rfl rfl (mk1 (mem_one (k := 1) M_ rfl ne0__1).2)) ?_
  refine rd_op (ov_move rfl) ?_
  refine rd_op (v := .fs true [vi x1]) (ov_bslice rfl (all_cons rfl all_nil)) ?_
  have r101 : (tSl tI).R ([x1] : List Int) (.fs true [vi x1]) := sl_fs ⟨rfl, trivial⟩ (by simp)
  obtain ⟨nw102, sr102, ar102⟩ := src_of (t := tI) (h := h_) r101
  have f102 : fits (es0__1.length + nw102.length) 8 = true := by rw [All2.length_eq qs0__1, All2.length_eq ar102]; (try simp only [List.length_cons, List.length_nil]); exact fits_of (by first | omega | (simp only [List.length_append, List.length_cons, List.length_nil] at *; omega)) (by first | omega | (simp only [List.length_append, List.length_cons, List.length_nil] at *; omega))
  refine rd_appW (k := 1) (es := es0__1) (news := nw102) M_ rfl rfl rfl ne0__1 wi0__2 sr102 f102 (fun a102 h102 n102 wr102 M102 => ?_)
  have q102 : All2 tI.R (x0.tables ++ ([x1] : List Int)) (es0__1 ++ nw102) := All2.app qs0__1 ar102
  have hl102 : (x0.tables ++ ([x1] : List Int)).length ≤ 4611686018427387904 := by rw [← All2.length_eq q102, List.length_append]; exact fits_len f102
  refine rd_op (ov_nilCheck rfl rfl) ?_
  refine rd_op (ov_faddrO rfl) ?_
  refine rd_storeF (k := 0) (v := a102) M102 rfl rfl rfl (mem_one (k := 1) M102 rfl n102).1 rfl (by first | decide | (simp only [List.length_cons, List.length_nil]; omega) | simp) (fun h103 M103 => ?_)
  replace M103 : Mem h103 (⟨.op i0_ w0_ 0, 66, 4, [.agg [u0__answers, vi x0.next, a102, a0__3]]⟩ :: ⟨a102, 3, 1, (es0__1 ++ nw102)⟩ :: ⟨a0__3, 3, 1, es0__3⟩ :: R_) := M103
  refine rd_nil ?_
  refine pn_seq ?_
  refine rc_seq ?_
  refine rc_region ?_
  refine rd_op (ov_move rfl) ?_
  refine rd_op (ov_move rfl) ?_
  refine rd_op (ov_nilCheck rfl rfl) ?_
  refine rd_op (ov_faddrO rfl) ?_
  refine rd_op (ov_loadf (k := 0) M103 rfl rfl (mk1 (mem_one (k := 2) M103 rfl ne0__3).2)) ?_
  refine rd_op (v := .fs true [vi (-1)]) (ov_bslice rfl (all_cons rfl all_nil)) ?_
  have r104 : (tSl tI).R ([(-1)] : List Int) (.fs true [vi (-1)]) := sl_fs ⟨rfl, trivial⟩ (by simp)
  obtain ⟨nw105, sr105, ar105⟩ := src_of (t := tI) (h := h103) r104
  have f105 : fits (es0__3.length + nw105.length) 8 = true := by rw [All2.length_eq qs0__3, All2.length_eq ar105]; (try simp only [List.length_cons, List.length_nil]); exact fits_of (by first | omega | (simp only [List.length_append, List.length_cons, List.length_nil] at *; omega)) (by first | omega | (simp only [List.length_append, List.length_cons, List.length_nil] at *; omega))
  refine rd_appW (k := 2) (es := es0__3) (news := nw105) M103 rfl rfl rfl ne0__3 wi0__4 sr105 f105 (fun a105 h105 n105 wr105 M105 => ?_)
  have q105 : All2 tI.R (x0.conds ++ ([(-1)] : List Int)) (es0__3 ++ nw105) := All2.app qs0__3 ar105
  have hl105 : (x0.conds ++ ([(-1)] : List Int)).length ≤ 4611686018427387904 := by rw [← All2.length_eq q105, List.length_append]; exact fits_len f105
  refine rd_op (ov_nilCheck rfl rfl) ?_
  refine rd_op (ov_faddrO rfl) ?_
  refine rd_storeF (k := 0) (v := a105) M105 rfl rfl rfl (mem_one (k := 2) M105 rfl n105).1 rfl (by first | decide | (simp only [List.length_cons, List.length_nil]; omega) | simp) (fun h106 M106 => ?_)
  replace M106 : Mem h106 (⟨.op i0_ w0_ 0, 66, 4, [.agg [u0__answers, vi x0.next, a102, a105]]⟩ :: ⟨a102, 3, 1, (es0__1 ++ nw102)⟩ :: ⟨a105, 3, 1, (es0__3 ++ nw105)⟩ :: R_) := M106
  refine rd_nil ?_
  refine pn_seq ?_
  refine rc_seq ?_
  refine rc_regionS ?_
  refine rs_step ?_
  refine rd_op (ov_move rfl) ?_
  refine rs_back ?_
  have M107 : Mem h106 (⟨.op i0_ w0_ 0, 66, 4, [.agg [u0__answers, vi x0.next, a102, a105]]⟩ :: ⟨a102, 3, 1, (es0__1 ++ nw102)⟩ :: ⟨a105, 3, 1, (es0__3 ++ nw105)⟩ :: R_) := (Mem.front (k := 2) (Mem.front (k := 2) (Mem.front (k := 2) M106 rfl) rfl) rfl)
  obtain ⟨y107, hw107, hres⟩ := let_ex hres
  obtain ⟨vr107, h108, hX107, hZ107⟩ := f74_ok (x0 := ({ answers := x0.answers, next := x0.next, tables := (x0.tables ++ ([x1] : List Int)), conds := (x0.conds ++ ([(-1)] : List Int)) } : law20_walk)) ru0__answers q102 n102 hl102 wr102 q105 n105 hl105 wr105 M107 (by exact ⟨hw.1, hw.2.1⟩)
  rw [hw107] at hZ107
  obtain ⟨u107_0_answers, a107_0_1, es107_0_1, a107_0_3, es107_0_3, M108, ru107_0_answers, qs107_0_1, ne107_0_1, hl107_0_1, wi107_0_2, qs107_0_3, ne107_0_3, hl107_0_3, wi107_0_4, hr107⟩ := hZ107
  replace hr107 := hr107.symm; subst hr107
  refine rs_callXc rfl rfl hX107 ?_
  refine rs_step ?_
  refine rd_op (ov_move rfl) ?_
  refine rs_back ?_
  refine rs_nil ?_
  refine pn_seq ?_
  have MZ109 : Mem h108 (⟨.op i0_ w0_ 0, 66, 4, [.agg [u107_0_answers, vi y107.2.next, a107_0_1, a107_0_3]]⟩ :: ⟨a107_0_1, 3, 1, es107_0_1⟩ :: ⟨a107_0_3, 3, 1, es107_0_3⟩ :: R_) := (Mem.front (k := 2) (Mem.front (k := 2) (Mem.front (k := 2) M108 rfl) rfl) rfl)
  subst hres
  exact rc_retX (.tmp rfl .nil) ⟨u107_0_answers, a107_0_1, es107_0_1, a107_0_3, es107_0_3, Mem.sub MZ109 (.cons_cons _ (.cons_cons _ (.cons_cons _ (List.Sublist.refl R_)))), ru107_0_answers, qs107_0_1, ne107_0_1, hl107_0_1, wi107_0_2, qs107_0_3, ne107_0_3, hl107_0_3, wi107_0_4, rfl⟩

/-- (*patchbay/patchbaylaw20.walk).test -/
def RF41 (i0_ w0_ : Nat) (R_ : List Ent) (res : Bool × law20_walk) (r : PV) (h : Heap) : Prop := ∃ uF0_answers : PV, ∃ aF0_1 : PV, ∃ esF0_1 : List PV, ∃ aF0_3 : PV, ∃ esF0_3 : List PV, Mem h (⟨.op i0_ w0_ 0, 66, 4, [.agg [uF0_answers, vi res.2.next, aF0_1, aF0_3]]⟩ :: ⟨aF0_1, 3, 1, esF0_1⟩ :: ⟨aF0_3, 3, 1, esF0_3⟩ :: R_) ∧ ((tSl tB).R res.2.answers uF0_answers) ∧ (All2 tI.R res.2.tables esF0_1) ∧ (isL aF0_1 = true) ∧ (res.2.tables.length ≤ 4611686018427387904) ∧ (Wri aF0_1 esF0_1) ∧ (All2 tI.R res.2.conds esF0_3) ∧ (isL aF0_3 = true) ∧ (res.2.conds.length ≤ 4611686018427387904) ∧ (Wri aF0_3 esF0_3) ∧ r = vb res.1
theorem f41_ok {x0 : law20_walk} {x1 : List api_ExprNode} {v1 : PV} {u0__answers : PV} {a0__1 : PV} {es0__1 : List PV} {a0__3 : PV} {es0__3 : List PV} {R_ : List Ent} {h_ : Heap} {i0_ w0_ : Nat} (r1 : (tSl api_ExprNode.t).R x1 v1) (ru0__answers : (tSl tB).R x0.answers u0__answers) (qs0__1 : All2 tI.R x0.tables es0__1) (ne0__1 : isL a0__1 = true) (hl0__1 : x0.tables.length ≤ 4611686018427387904) (wi0__2 : Wri a0__1 es0__1) (qs0__3 : All2 tI.R x0.conds es0__3) (ne0__3 : isL a0__3 = true) (hl0__3 : x0.conds.length ≤ 4611686018427387904) (wi0__4 : Wri a0__3 es0__3) (M_ : Mem h_ (⟨.op i0_ w0_ 0, 66, 4, [.agg [u0__answers, vi x0.next, a0__1, a0__3]]⟩ :: ⟨a0__1, 3, 1, es0__1⟩ :: ⟨a0__3, 3, 1, es0__3⟩ :: R_)) (hw : 0 ≤ x0.next ∧ x0.next ≤ 100000 ∧ x0.tables.length ≤ 100000 ∧ x0.conds.length ≤ 100000) : ∃ r h2_, FnX Try.prog 41 [.op i0_ w0_ 0, v1] h_ r h2_ ∧ RF41 i0_ w0_ R_ (m2_law20_walk__test x0 x1) r h2_ := by
  obtain ⟨res, hres⟩ : ∃ res, m2_law20_walk__test x0 x1 = res := ⟨_, rfl⟩
  suffices H : RC Try.prog ac41 [] (retPost Try.prog [(4, none)] (RF41 i0_ w0_ R_ res)) (argE 0 [.op i0_ w0_ 0, v1]) h_ by
    rw [hres]
    exact fnX text41 (by simp) H
  unfold m2_law20_walk__test at hres
  unfold ac41
  refine rc_seq ?_
  refine rc_region ?_
  refine rd_op (v := vb false) (ov_move rfl) ?_
  refine rd_nil ?_
  refine pn_seq ?_
  refine rc_seq ?_
  refine rc_region ?_
  refine rd_op (ov_move rfl) ?_
  refine rd_op (ov_move rfl) ?_
  refine rd_op (ov_nilCheck rfl rfl) ?_
  refine rd_op (ov_faddrO rfl) ?_
  refine rd_op (ov_loadf (k := 0) M_ rfl rfl (mk1 (mem_one (k := 2) M_ rfl ne0__3).2)) ?_
  refine rd_op (ov_move rfl) ?_
  refine rd_op (ov_bi rfl (sl_len r1 Try.underlying38 _)) ?_
  refine rd_op (v := .fs true [vi (x1.length : Int)]) (ov_bslice rfl (all_cons rfl all_nil)) ?_
  have r101 : (tSl tI).R ([(x1.length : Int)] : List Int) (.fs true [vi (x1.length : Int)]) := sl_fs ⟨rfl, trivial⟩ (by simp)
  obtain ⟨nw102, sr102, ar102⟩ := src_of (t := tI) (h := h_) r101
  have f102 : fits (es0__3.length + nw102.length) 8 = true := by rw [All2.length_eq qs0__3, All2.length_eq ar102]; (try simp only [List.length_cons, List.length_nil]); exact fits_of (by first | omega | (simp only [List.length_append, List.length_cons, List.length_nil] at *; omega)) (by first | omega | (simp only [List.length_append, List.length_cons, List.length_nil] at *; omega))
  refine rd_appW (k := 2) (es := es0__3) (news := nw102) M_ rfl rfl rfl ne0__3 wi0__4 sr102 f102 (fun a102 h102 n102 wr102 M102 => ?_)
  have q102 : All2 tI.R (x0.conds ++ ([(x1.length : Int)] : List Int)) (es0__3 ++ nw102) := All2.app qs0__3 ar102
  have hl102 : (x0.conds ++ ([(x1.length : Int)] : List Int)).length ≤ 4611686018427387904 := by rw [← All2.length_eq q102, List.length_append]; exact fits_len f102
  refine rd_op (ov_nilCheck rfl rfl) ?_
  refine rd_op (ov_faddrO rfl) ?_
  refine rd_storeF (k := 0) (v := a102) M102 rfl rfl rfl (mem_one (k := 2) M102 rfl n102).1 rfl (by first | decide | (simp only [List.length_cons, List.length_nil]; omega) | simp) (fun h103 M103 => ?_)
  replace M103 : Mem h103 (⟨.op i0_ w0_ 0, 66, 4, [.agg [u0__answers, vi x0.next, a0__1, a102]]⟩ :: ⟨a0__1, 3, 1, es0__1⟩ :: ⟨a102, 3, 1, (es0__3 ++ nw102)⟩ :: R_) := M103
  refine rd_nil ?_
  refine pn_seq ?_
  refine rc_seq ?_
  refine rc_regionS ?_
  refine rs_step ?_
  refine rd_op (ov_move rfl) ?_
  refine rs_back ?_
  have M104 : Mem h103 (⟨.op i0_ w0_ 0, 66, 4, [.agg [u0__answers, vi x0.next, a0__1, a102]]⟩ :: ⟨a0__1, 3, 1, es0__1⟩ :: ⟨a102, 3, 1, (es0__3 ++ nw102)⟩ :: R_) := (Mem.front (k := 2) (Mem.front (k := 2) (Mem.front (k := 2) M103 rfl) rfl) rfl)
  obtain ⟨y104, hw104, hres⟩ := let_ex hres
  obtain ⟨vr104, h105, hX104, hZ104⟩ := f74_ok (x0 := ({ answers := x0.answers, next := x0.next, tables := x0.tables, conds := (x0.conds ++ ([(x1.length : Int)] : List Int)) } : law20_walk)) ru0__answers qs0__1 ne0__1 hl0__1 wi0__2 q102 n102 hl102 wr102 M104 (by exact ⟨hw.1, hw.2.1⟩)
  rw [hw104] at hZ104
  obtain ⟨u104_0_answers, a104_0_1, es104_0_1, a104_0_3, es104_0_3, M105, ru104_0_answers, qs104_0_1, ne104_0_1, hl104_0_1, wi104_0_2, qs104_0_3, ne104_0_3, hl104_0_3, wi104_0_4, hr104⟩ := hZ104
  replace hr104 := hr104.symm; subst hr104
  refine rs_callXc rfl rfl hX104 ?_
  refine rs_step ?_
  refine rd_op (ov_move rfl) ?_
  refine rs_back ?_
  refine rs_nil ?_
  refine pn_seq ?_
  have MZ106 : Mem h105 (⟨.op i0_ w0_ 0, 66, 4, [.agg [u104_0_answers, vi y104.2.next, a104_0_1, a104_0_3]]⟩ :: ⟨a104_0_1, 3, 1, es104_0_1⟩ :: ⟨a104_0_3, 3, 1, es104_0_3⟩ :: R_) := (Mem.front (k := 2) (Mem.front (k := 2) (Mem.front (k := 2) M105 rfl) rfl) rfl)
  subst hres
  exact rc_retX (.tmp rfl .nil) ⟨u104_0_answers, a104_0_1, es104_0_1, a104_0_3, es104_0_3, Mem.sub MZ106 (.cons_cons _ (.cons_cons _ (.cons_cons _ (List.Sublist.refl R_)))), ru104_0_answers, qs104_0_1, ne104_0_1, hl104_0_1, wi104_0_2, qs104_0_3, ne104_0_3, hl104_0_3, wi104_0_4, rfl⟩

/-- patchbay/control.Walk$1 -/
def RF71 (res : Bool) (r : PV) : Prop := r = vb res
theorem f71_ok {x0 : Int} : FnR Try.prog 71 [vi x0] (vb (control_Walk_1 x0)) := by
  obtain ⟨res, hres⟩ : ∃ res, control_Walk_1 x0 = res := ⟨_, rfl⟩
  suffices H : RC Try.prog ac71 [] (QR Try.prog [(2, none)] (RF71 res)) (argE 0 [vi x0]) ⟨0, []⟩ by
    obtain ⟨r, h1, h2⟩ := fnE text71 (by simp) H
    rw [hres]
    have h2 : r = vb res := h2
    rw [← h2]; exact h1
  unfold control_Walk_1 at hres
  unfold ac71
  refine rc_seq ?_
  refine rc_region ?_
  refine rd_op (v := vb false) (ov_move rfl) ?_
  refine rd_nil ?_
  refine pn_seq ?_
  refine rc_seq ?_
  refine rc_region ?_
  refine rd_op (v := vb false) (ov_move rfl) ?_
  refine rd_nil ?_
  refine pn_seq ?_
  subst hres
  exact rc_retV (.tmp rfl .nil) (deep_closed rfl) rfl

/-- patchbay/control.Walk$2 -/
def RF72 (res : Bool) (r : PV) : Prop := r = vb res
theorem f72_ok {x0 : List api_ExprNode} {v0 : PV} (r0 : (tSl api_ExprNode.t).R x0 v0) : FnR Try.prog 72 [v0] (vb (control_Walk_2 x0)) := by
  obtain ⟨res, hres⟩ : ∃ res, control_Walk_2 x0 = res := ⟨_, rfl⟩
  suffices H : RC Try.prog ac72 [] (QR Try.prog [(2, none)] (RF72 res)) (argE 0 [v0]) ⟨0, []⟩ by
    obtain ⟨r, h1, h2⟩ := fnE text72 (by simp) H
    rw [hres]
    have h2 : r = vb res := h2
    rw [← h2]; exact h1
  unfold control_Walk_2 at hres
  unfold ac72
  refine rc_seq ?_
  refine rc_region ?_
  refine rd_op (v := vb false) (ov_move rfl) ?_
  refine rd_nil ?_
  refine pn_seq ?_
  refine rc_seq ?_
  refine rc_region ?_
  refine rd_op (v := vb false) (ov_move rfl) ?_
  refine rd_nil ?_
  refine pn_seq ?_
  subst hres
  exact rc_retV (.tmp rfl .nil) (deep_closed rfl) rfl

theorem wme_mono {i w : Nat} : ∀ k s L, WME i w (k + 1) s L → WME i w k s L := fun k s L h => ⟨h.1.mono, h.2⟩
theorem appv_w (i w : Nat) : APPV 40 [.op i w 0] [] awk (WME i w) := fun k t s L R h hM M => by
  obtain ⟨hb, u, at_, est, ac, esc, rfl, q1, q2, q3, q4, q5, q6, q7, q8, q9⟩ := hM
  obtain ⟨r, h2, X, u2, at2, est2, ac2, esc2, M2, p1, p2, p3, p4, p5, p6, p7, p8, p9, rfl⟩ := f40_ok (x0 := s) (x1 := t) q1 q2 q3 q4 q5 q6 q7 q8 q9 M hb.now
  exact ⟨h2, _, X, ⟨wb_apply hb t, u2, at2, est2, ac2, esc2, rfl, p1, p2, p3, p4, p5, p6, p7, p8, p9⟩, M2⟩
theorem tstv_w (i w : Nat) : TSTV 41 [.op i w 0] [] twk (WME i w) := fun k l vl s L R h hl rl hM M => by
  obtain ⟨hb, u, at_, est, ac, esc, rfl, q1, q2, q3, q4, q5, q6, q7, q8, q9⟩ := hM
  obtain ⟨r, h2, X, u2, at2, est2, ac2, esc2, M2, p1, p2, p3, p4, p5, p6, p7, p8, p9, rfl⟩ := f41_ok (x0 := s) (x1 := l) rl q1 q2 q3 q4 q5 q6 q7 q8 q9 M hb.now
  exact ⟨h2, _, X, ⟨wb_test hb l, u2, at2, est2, ac2, esc2, rfl, p1, p2, p3, p4, p5, p6, p7, p8, p9⟩, M2⟩
def RF39001 (i_ w_ : Nat) (R_ : List Ent) (res : law20_walk) (r : PV) (h : Heap) : Prop := ∃ uF0_answers : PV, ∃ aF0_1 : PV, ∃ esF0_1 : List PV, ∃ aF0_3 : PV, ∃ esF0_3 : List PV, Mem h (⟨.op i_ w_ 0, 66, 4, [.agg [uF0_answers, vi res.next, aF0_1, aF0_3]]⟩ :: ⟨aF0_1, 3, 1, esF0_1⟩ :: ⟨aF0_3, 3, 1, esF0_3⟩ :: R_) ∧ ((tSl tB).R res.answers uF0_answers) ∧ (All2 tI.R res.tables esF0_1) ∧ (isL aF0_1 = true) ∧ (res.tables.length ≤ 4611686018427387904) ∧ (Wri aF0_1 esF0_1) ∧ (All2 tI.R res.conds esF0_3) ∧ (isL aF0_3 = true) ∧ (res.conds.length ≤ 4611686018427387904) ∧ (Wri aF0_3 esF0_3) ∧ r = .tup []
theorem f39001_ok {x0 : List api_ControlNode} {x1 : law20_walk} {v0 : PV} {u1__answers : PV} {a1__1 : PV} {es1__1 : List PV} {a1__3 : PV} {es1__3 : List PV} {R_ : List Ent} {h_ : Heap} {i1_ w1_ : Nat} (r0 : (tSl api_ControlNode.t).R x0 v0) (ru1__answers : (tSl tB).R x1.answers u1__answers) (qs1__1 : All2 tI.R x1.tables es1__1) (ne1__1 : isL a1__1 = true) (hl1__1 : x1.tables.length ≤ 4611686018427387904) (wi1__1 : Wri a1__1 es1__1) (qs1__3 : All2 tI.R x1.conds es1__3) (ne1__3 : isL a1__3 = true) (hl1__3 : x1.conds.length ≤ 4611686018427387904) (wi1__3 : Wri a1__3 es1__3) (M_ : Mem h_ (⟨.op i1_ w1_ 0, 66, 4, [.agg [u1__answers, vi x1.next, a1__1, a1__3]]⟩ :: ⟨a1__1, 3, 1, es1__1⟩ :: ⟨a1__3, 3, 1, es1__3⟩ :: R_)) (hg : GL x0) (hw : WB (csl x0) x1) : ∃ r h2_, FnX Try.prog 39 [v0, .fn (.func 40) [.op i1_ w1_ 0] [], .fn (.func 41) [.op i1_ w1_ 0] []] h_ r h2_ ∧ RF39001 i1_ w1_ R_ (wkAT x0 x1) r h2_ := by
  obtain ⟨h2, L2, X, ⟨hb, u, at_, est, ac, esc, rfl, q1, q2, q3, q4, q5, q6, q7, q8, q9⟩, M2⟩ := f39_walk wme_mono (.inl rfl) (.inl rfl) (appv_w _ _) (tstv_w _ _) (c := x0) (L := [⟨.op i1_ w1_ 0, 66, 4, [.agg [u1__answers, vi x1.next, a1__1, a1__3]]⟩, ⟨a1__1, 3, 1, es1__1⟩, ⟨a1__3, 3, 1, es1__3⟩]) (k := 0) hg r0 ⟨hw, _, _, _, _, _, rfl, ru1__answers, qs1__1, ne1__1, hl1__1, wi1__1, qs1__3, ne1__3, hl1__3, wi1__3⟩ M_
  exact ⟨_, h2, X, u, at_, est, ac, esc, M2, q1, q2, q3, q4, q5, q6, q7, q8, q9, rfl⟩

def RF39002 (i_ w_ : Nat) (R_ : List Ent) (res : law20_walk) (r : PV) (h : Heap) : Prop := ∃ uF0_answers : PV, ∃ aF0_1 : PV, ∃ esF0_1 : List PV, ∃ aF0_3 : PV, ∃ esF0_3 : List PV, Mem h (⟨.op i_ w_ 0, 66, 4, [.agg [uF0_answers, vi res.next, aF0_1, aF0_3]]⟩ :: ⟨aF0_1, 3, 1, esF0_1⟩ :: ⟨aF0_3, 3, 1, esF0_3⟩ :: R_) ∧ ((tSl tB).R res.answers uF0_answers) ∧ (All2 tI.R res.tables esF0_1) ∧ (isL aF0_1 = true) ∧ (res.tables.length ≤ 4611686018427387904) ∧ (Wri aF0_1 esF0_1) ∧ (All2 tI.R res.conds esF0_3) ∧ (isL aF0_3 = true) ∧ (res.conds.length ≤ 4611686018427387904) ∧ (Wri aF0_3 esF0_3) ∧ r = .tup []
theorem f39002_ok {x0 : List api_ControlNode} {x1 : law20_walk} {v0 : PV} {u1__answers : PV} {a1__1 : PV} {es1__1 : List PV} {a1__3 : PV} {es1__3 : List PV} {R_ : List Ent} {h_ : Heap} {i1_ w1_ : Nat} (r0 : (tSl api_ControlNode.t).R x0 v0) (ru1__answers : (tSl tB).R x1.answers u1__answers) (qs1__1 : All2 tI.R x1.tables es1__1) (ne1__1 : isL a1__1 = true) (hl1__1 : x1.tables.length ≤ 4611686018427387904) (wi1__1 : Wri a1__1 es1__1) (qs1__3 : All2 tI.R x1.conds es1__3) (ne1__3 : isL a1__3 = true) (hl1__3 : x1.conds.length ≤ 4611686018427387904) (wi1__3 : Wri a1__3 es1__3) (M_ : Mem h_ (⟨.op i1_ w1_ 0, 66, 4, [.agg [u1__answers, vi x1.next, a1__1, a1__3]]⟩ :: ⟨a1__1, 3, 1, es1__1⟩ :: ⟨a1__3, 3, 1, es1__3⟩ :: R_)) (hg : GL x0) (hw : WB (csl x0) x1) : ∃ r h2_, FnX Try.prog 39 [v0, .fn (.func 40) [.op i1_ w1_ 0] [], .sc .nilFunc] h_ r h2_ ∧ RF39002 i1_ w1_ R_ (wkAN x0 x1) r h2_ := by
  obtain ⟨h2, L2, X, ⟨hb, u, at_, est, ac, esc, rfl, q1, q2, q3, q4, q5, q6, q7, q8, q9⟩, M2⟩ := f39_walk wme_mono (.inl rfl) (.inr ⟨rfl, rfl, rfl, rfl⟩) (appv_w _ _) (tstv_nil wme_mono) (c := x0) (L := [⟨.op i1_ w1_ 0, 66, 4, [.agg [u1__answers, vi x1.next, a1__1, a1__3]]⟩, ⟨a1__1, 3, 1, es1__1⟩, ⟨a1__3, 3, 1, es1__3⟩]) (k := 0) hg r0 ⟨hw, _, _, _, _, _, rfl, ru1__answers, qs1__1, ne1__1, hl1__1, wi1__1, qs1__3, ne1__3, hl1__3, wi1__3⟩ M_
  exact ⟨_, h2, X, u, at_, est, ac, esc, M2, q1, q2, q3, q4, q5, q6, q7, q8, q9, rfl⟩

def RF39003 (i_ w_ : Nat) (R_ : List Ent) (res : law20_walk) (r : PV) (h : Heap) : Prop := ∃ uF0_answers : PV, ∃ aF0_1 : PV, ∃ esF0_1 : List PV, ∃ aF0_3 : PV, ∃ esF0_3 : List PV, Mem h (⟨.op i_ w_ 0, 66, 4, [.agg [uF0_answers, vi res.next, aF0_1, aF0_3]]⟩ :: ⟨aF0_1, 3, 1, esF0_1⟩ :: ⟨aF0_3, 3, 1, esF0_3⟩ :: R_) ∧ ((tSl tB).R res.answers uF0_answers) ∧ (All2 tI.R res.tables esF0_1) ∧ (isL aF0_1 = true) ∧ (res.tables.length ≤ 4611686018427387904) ∧ (Wri aF0_1 esF0_1) ∧ (All2 tI.R res.conds esF0_3) ∧ (isL aF0_3 = true) ∧ (res.conds.length ≤ 4611686018427387904) ∧ (Wri aF0_3 esF0_3) ∧ r = .tup []
theorem f39003_ok {x0 : List api_ControlNode} {x1 : law20_walk} {v0 : PV} {u1__answers : PV} {a1__1 : PV} {es1__1 : List PV} {a1__3 : PV} {es1__3 : List PV} {R_ : List Ent} {h_ : Heap} {i1_ w1_ : Nat} (r0 : (tSl api_ControlNode.t).R x0 v0) (ru1__answers : (tSl tB).R x1.answers u1__answers) (qs1__1 : All2 tI.R x1.tables es1__1) (ne1__1 : isL a1__1 = true) (hl1__1 : x1.tables.length ≤ 4611686018427387904) (wi1__1 : Wri a1__1 es1__1) (qs1__3 : All2 tI.R x1.conds es1__3) (ne1__3 : isL a1__3 = true) (hl1__3 : x1.conds.length ≤ 4611686018427387904) (wi1__3 : Wri a1__3 es1__3) (M_ : Mem h_ (⟨.op i1_ w1_ 0, 66, 4, [.agg [u1__answers, vi x1.next, a1__1, a1__3]]⟩ :: ⟨a1__1, 3, 1, es1__1⟩ :: ⟨a1__3, 3, 1, es1__3⟩ :: R_)) (hg : GL x0) (hw : WB (csl x0) x1) : ∃ r h2_, FnX Try.prog 39 [v0, .sc .nilFunc, .fn (.func 41) [.op i1_ w1_ 0] []] h_ r h2_ ∧ RF39003 i1_ w1_ R_ (wkNT x0 x1) r h2_ := by
  obtain ⟨h2, L2, X, ⟨hb, u, at_, est, ac, esc, rfl, q1, q2, q3, q4, q5, q6, q7, q8, q9⟩, M2⟩ := f39_walk wme_mono (.inr ⟨rfl, rfl, rfl, rfl⟩) (.inl rfl) (appv_nil wme_mono) (tstv_w _ _) (c := x0) (L := [⟨.op i1_ w1_ 0, 66, 4, [.agg [u1__answers, vi x1.next, a1__1, a1__3]]⟩, ⟨a1__1, 3, 1, es1__1⟩, ⟨a1__3, 3, 1, es1__3⟩]) (k := 0) hg r0 ⟨hw, _, _, _, _, _, rfl, ru1__answers, qs1__1, ne1__1, hl1__1, wi1__1, qs1__3, ne1__3, hl1__3, wi1__3⟩ M_
  exact ⟨_, h2, X, u, at_, est, ac, esc, M2, q1, q2, q3, q4, q5, q6, q7, q8, q9, rfl⟩

def RF39004 (R_ : List Ent) (res : Unit) (r : PV) (h : Heap) : Prop := Mem h R_ ∧ r = .tup []
theorem f39004_ok {x0 : List api_ControlNode} {v0 : PV} {R_ : List Ent} {h_ : Heap} (r0 : (tSl api_ControlNode.t).R x0 v0) (M_ : Mem h_ R_) (hg : GL x0) : ∃ r h2_, FnX Try.prog 39 [v0, .sc .nilFunc, .sc .nilFunc] h_ r h2_ ∧ RF39004 R_ (wkNN x0) r h2_ := by
  obtain ⟨h2, L2, X, rfl, M2⟩ := f39_walk (σ := Unit) (ME := fun _ _ L => L = []) (s := ()) (fun _ _ _ h => h) (.inr ⟨rfl, rfl, rfl, rfl⟩) (.inr ⟨rfl, rfl, rfl, rfl⟩) (appv_nil fun _ _ _ h => h) (tstv_nil fun _ _ _ h => h) (k := 0) hg r0 rfl M_
  exact ⟨_, h2, X, M2, rfl⟩

def RF42 (i_ w_ : Nat) (R_ : List Ent) (res : law20_walk) (r : PV) (h : Heap) : Prop := ∃ uF0_answers : PV, ∃ aF0_1 : PV, ∃ esF0_1 : List PV, ∃ aF0_3 : PV, ∃ esF0_3 : List PV, Mem h (⟨.op i_ w_ 0, 66, 4, [.agg [uF0_answers, vi res.next, aF0_1, aF0_3]]⟩ :: ⟨aF0_1, 3, 1, esF0_1⟩ :: ⟨aF0_3, 3, 1, esF0_3⟩ :: R_) ∧ ((tSl tB).R res.answers uF0_answers) ∧ (All2 tI.R res.tables esF0_1) ∧ (isL aF0_1 = true) ∧ (res.tables.length ≤ 4611686018427387904) ∧ (Wri aF0_1 esF0_1) ∧ (All2 tI.R res.conds esF0_3) ∧ (isL aF0_3 = true) ∧ (res.conds.length ≤ 4611686018427387904) ∧ (Wri aF0_3 esF0_3) ∧ r = .tup []
theorem f42_ok {x0 : law20_walk} {x1 : List api_ControlNode} {v1 : PV} {u0__answers : PV} {a0__1 : PV} {es0__1 : List PV} {a0__3 : PV} {es0__3 : List PV} {R_ : List Ent} {h_ : Heap} {i0_ w0_ : Nat} (r1 : (tSl api_ControlNode.t).R x1 v1) (ru0__answers : (tSl tB).R x0.answers u0__answers) (qs0__1 : All2 tI.R x0.tables es0__1) (ne0__1 : isL a0__1 = true) (hl0__1 : x0.tables.length ≤ 4611686018427387904) (wi0__1 : Wri a0__1 es0__1) (qs0__3 : All2 tI.R x0.conds es0__3) (ne0__3 : isL a0__3 = true) (hl0__3 : x0.conds.length ≤ 4611686018427387904) (wi0__3 : Wri a0__3 es0__3) (M_ : Mem h_ (⟨.op i0_ w0_ 0, 66, 4, [.agg [u0__answers, vi x0.next, a0__1, a0__3]]⟩ :: ⟨a0__1, 3, 1, es0__1⟩ :: ⟨a0__3, 3, 1, es0__3⟩ :: R_)) (hg : GL x1) (hw : WB (csl x1) x0) : ∃ r h2_, FnX Try.prog 42 [.op i0_ w0_ 0, v1] h_ r h2_ ∧ RF42 i0_ w0_ R_ (m2_law20_walk__execute x0 x1) r h2_ := by
  obtain ⟨h2, L2, X, ⟨hb, u, at_, est, ac, esc, rfl, q1, q2, q3, q4, q5, q6, q7, q8, q9⟩, M2⟩ := f42_run wme_mono (appv_w _ _) (tstv_w _ _) _ x1 (Nat.lt_succ_self _) hg 0 v1 x0 [⟨.op i0_ w0_ 0, 66, 4, [.agg [u0__answers, vi x0.next, a0__1, a0__3]]⟩, ⟨a0__1, 3, 1, es0__1⟩, ⟨a0__3, 3, 1, es0__3⟩] R_ h_ r1 ⟨hw, _, _, _, _, _, rfl, ru0__answers, qs0__1, ne0__1, hl0__1, wi0__1, qs0__3, ne0__3, hl0__3, wi0__3⟩ M_
  exact ⟨_, h2, X, u, at_, est, ac, esc, M2, q1, q2, q3, q4, q5, q6, q7, q8, q9, rfl⟩

/-- patchbay/patchbayref02.EqualInts -/
def RF24 (res : Bool) (r : PV) : Prop := r = vb res
theorem ref02_EqualInts_L1_ok {S : List Fr} {res : Bool} {x0 : List Int} {x1 : List Int} {v0 : PV} {v1 : PV} (r0 : (tSl tI).R x0 v0) (r1 : (tSl tI).R x1 v1) (hc101 : (!decide ((x0.length : Int) = (x1.length : Int))) = false) {K0 : Unit → Bool}
    (hK0 : K0 () = res → PX Try.prog 0 S (QR Try.prog [(4, none)] (RF24 res)) [] ⟨0, []⟩) :
    ∀ (m : Nat) (x5_ : Int) (hm1 : m = Int.toNat ((x0.length : Int) - x5_)) (hlo1 : 0 ≤ x5_), ref02_EqualInts_L1 x0 x1 K0 m x5_ = res → RC Try.prog (.loop ac24_L1) S (QR Try.prog [(4, none)] (RF24 res)) [(5, vi x5_), (1, v1), (0, v0)] ⟨0, []⟩ := by
  have hc101' := hc101
  try simp only [Bool.or_eq_true, Bool.or_eq_false_iff, Bool.and_eq_true, Bool.and_eq_false_imp, decide_eq_true_eq, decide_eq_false_iff_not, Bool.not_eq_true', Bool.not_eq_false', Bool.not_eq_true, Bool.not_eq_false, Bool.not_true, Bool.not_false, ne_eq] at hc101'
  intro m
  induction m with
  | zero =>
    intro x5_ hm1 hlo1 hres
    rw [ref02_EqualInts_L1] at hres
    refine rc_loop ?_
    unfold ac24_L1
    refine rc_seq ?_
    refine rc_seq ?_
    refine rc_region ?_
    refine rd_op (ov_move rfl) ?_
    refine rd_op (ov_move rfl) ?_
    refine rd_op (ov_bi rfl (sl_len r0 Try.underlying29 _)) ?_
    refine rd_op (ov_bin rfl rfl i_lss) ?_
    refine rd_nil ?_
    refine pn_seq ?_
    refine rc_cond rfl (fun hc102 => ?_) (fun hc102 => ?_)
    · exfalso
      try simp only [Bool.or_eq_true, Bool.or_eq_false_iff, Bool.and_eq_true, Bool.and_eq_false_imp, decide_eq_true_eq, decide_eq_false_iff_not, Bool.not_eq_true', Bool.not_eq_false', Bool.not_eq_true, Bool.not_eq_false, Bool.not_true, Bool.not_false, ne_eq] at hc102
      omega
    · have hend := hres
      have hc102' := hc102
      try simp only [Bool.or_eq_true, Bool.or_eq_false_iff, Bool.and_eq_true, Bool.and_eq_false_imp, decide_eq_true_eq, decide_eq_false_iff_not, Bool.not_eq_true', Bool.not_eq_false', Bool.not_eq_true, Bool.not_eq_false, Bool.not_true, Bool.not_false, ne_eq] at hc102'
      refine rc_exit ?_
      refine px_seq ?_
      refine px_again ?_
      exact px_weak ((sub_nil _)) (hK0  hres)
  | succ m ih =>
    intro x5_ hm1 hlo1 hres
    rw [ref02_EqualInts_L1] at hres
    refine rc_loop ?_
    unfold ac24_L1
    refine rc_seq ?_
    refine rc_seq ?_
    refine rc_region ?_
    refine rd_op (ov_move rfl) ?_
    refine rd_op (ov_move rfl) ?_
    refine rd_op (ov_bi rfl (sl_len r0 Try.underlying29 _)) ?_
    refine rd_op (ov_bin rfl rfl i_lss) ?_
    refine rd_nil ?_
    refine pn_seq ?_
    refine rc_cond rfl (fun hc103 => ?_) (fun hc103 => ?_)
    · have hgo := hres
      have hc103' := hc103
      try simp only [Bool.or_eq_true, Bool.or_eq_false_iff, Bool.and_eq_true, Bool.and_eq_false_imp, decide_eq_true_eq, decide_eq_false_iff_not, Bool.not_eq_true', Bool.not_eq_false', Bool.not_eq_true, Bool.not_eq_false, Bool.not_true, Bool.not_false, ne_eq] at hc103'
      refine rc_skip ?_
      refine pn_seq ?_
      refine rc_seq ?_
      refine rc_block ?_
      refine rc_seq ?_
      refine rc_region ?_
      refine rd_op (ov_move rfl) ?_
      refine rd_op (ov_move rfl) ?_
      refine rd_op (ov_iaddr rfl rfl (slI r0 (by omega) (by omega))) ?_
      refine rd_op (ov_load rfl rfl rfl) ?_
      refine rd_op (ov_move rfl) ?_
      refine rd_op (ov_move rfl) ?_
      refine rd_op (ov_iaddr rfl rfl (slI r1 (by omega) (by omega))) ?_
      refine rd_op (ov_load rfl rfl rfl) ?_
      refine rd_op (ov_bin rfl rfl i_neq) ?_
      refine rd_nil ?_
      refine pn_seq ?_
      refine rc_cond rfl (fun hc104 => ?_) (fun hc104 => ?_)
      · replace hres := (ite_t hc104).symm.trans hres
        have hc104' := hc104
        try simp only [Bool.or_eq_true, Bool.or_eq_false_iff, Bool.and_eq_true, Bool.and_eq_false_imp, decide_eq_true_eq, decide_eq_false_iff_not, Bool.not_eq_true', Bool.not_eq_false', Bool.not_eq_true, Bool.not_eq_false, Bool.not_true, Bool.not_false, ne_eq] at hc104'
        refine rc_seq ?_
        refine rc_region ?_
        refine rd_op (v := vb false) (ov_move rfl) ?_
        refine rd_nil ?_
        refine pn_seq ?_
        subst hres
        exact rc_retV (.tmp rfl .nil) (deep_closed rfl) rfl
      · replace hres := (ite_f hc104).symm.trans hres
        have hc104' := hc104
        try simp only [Bool.or_eq_true, Bool.or_eq_false_iff, Bool.and_eq_true, Bool.and_eq_false_imp, decide_eq_true_eq, decide_eq_false_iff_not, Bool.not_eq_true', Bool.not_eq_false', Bool.not_eq_true, Bool.not_eq_false, Bool.not_true, Bool.not_false, ne_eq] at hc104'
        refine rc_skip ?_
        refine pn_blk ?_
        refine pn_seq ?_
        refine rc_region ?_
        refine rd_op (ov_move rfl) ?_
        refine rd_op (ov_bin rfl rfl i_add) ?_
        refine rd_op (ov_move rfl) ?_
        refine rd_nil ?_
        refine pn_again ?_
        have hbd := sl_bound r0
        have hinc : wr (x5_ + 1) = x5_ + 1 := wr_of (by omega) (by omega)
        rw [hinc]
        refine rc_weak ?_ (ih (x5_ + 1)  (by omega) (by omega) hres)
        exact ((sub_cons rfl (sub_cons rfl (sub_cons rfl (sub_nil _)))))
    · exfalso
      try simp only [Bool.or_eq_true, Bool.or_eq_false_iff, Bool.and_eq_true, Bool.and_eq_false_imp, decide_eq_true_eq, decide_eq_false_iff_not, Bool.not_eq_true', Bool.not_eq_false', Bool.not_eq_true, Bool.not_eq_false, Bool.not_true, Bool.not_false, ne_eq] at hc103
      omega

theorem f24_ok {x0 : List Int} {x1 : List Int} {v0 : PV} {v1 : PV} (r0 : (tSl tI).R x0 v0) (r1 : (tSl tI).R x1 v1) : FnR Try.prog 24 [v0, v1] (vb (ref02_EqualInts x0 x1)) := by
  obtain ⟨res, hres⟩ : ∃ res, ref02_EqualInts x0 x1 = res := ⟨_, rfl⟩
  suffices H : RC Try.prog ac24 [] (QR Try.prog [(4, none)] (RF24 res)) (argE 0 [v0, v1]) ⟨0, []⟩ by
    obtain ⟨r, h1, h2⟩ := fnE text24 (by simp) H
    rw [hres]
    have h2 : r = vb res := h2
    rw [← h2]; exact h1
  unfold ref02_EqualInts at hres
  unfold ac24
  refine rc_seq ?_
  refine rc_region ?_
  refine rd_op (v := vb false) (ov_move rfl) ?_
  refine rd_nil ?_
  refine pn_seq ?_
  refine rc_seq ?_
  refine rc_seq ?_
  refine rc_region ?_
  refine rd_op (ov_move rfl) ?_
  refine rd_op (ov_bi rfl (sl_len r0 Try.underlying29 _)) ?_
  refine rd_op (ov_move rfl) ?_
  refine rd_op (ov_bi rfl (sl_len r1 Try.underlying29 _)) ?_
  refine rd_op (ov_bin rfl rfl i_neq) ?_
  refine rd_nil ?_
  refine pn_seq ?_
  refine rc_cond rfl (fun hc101 => ?_) (fun hc101 => ?_)
  · replace hres := (ite_t hc101).symm.trans hres
    have hc101' := hc101
    try simp only [Bool.or_eq_true, Bool.or_eq_false_iff, Bool.and_eq_true, Bool.and_eq_false_imp, decide_eq_true_eq, decide_eq_false_iff_not, Bool.not_eq_true', Bool.not_eq_false', Bool.not_eq_true, Bool.not_eq_false, Bool.not_true, Bool.not_false, ne_eq] at hc101'
    refine rc_seq ?_
    refine rc_region ?_
    refine rd_op (v := vb false) (ov_move rfl) ?_
    refine rd_nil ?_
    refine pn_seq ?_
    subst hres
    exact rc_retV (.tmp rfl .nil) (deep_closed rfl) rfl
  · replace hres := (ite_f hc101).symm.trans hres
    have hc101' := hc101
    try simp only [Bool.or_eq_true, Bool.or_eq_false_iff, Bool.and_eq_true, Bool.and_eq_false_imp, decide_eq_true_eq, decide_eq_false_iff_not, Bool.not_eq_true', Bool.not_eq_false', Bool.not_eq_true, Bool.not_eq_false, Bool.not_true, Bool.not_false, ne_eq] at hc101'
    refine rc_skip ?_
    refine pn_seq ?_
    refine rc_seq ?_
    refine rc_seq ?_
    refine rc_region ?_
    refine rd_op (v := vi 0) (ov_move rfl) ?_
    refine rd_nil ?_
    refine pn_seq ?_
    refine rc_block ?_
    refine rc_weak ?_ (ref02_EqualInts_L1_ok (x0 := x0) (x1 := x1) (v0 := v0) (v1 := v1)  (r0 := r0) (r1 := r1) (hc101 := hc101) ?_ (Int.toNat ((x0.length : Int) - 0)) 0 rfl (by omega) hres)
    · exact ((sub_cons rfl (sub_cons rfl (sub_cons rfl (sub_nil _)))))
    · intro  hres
      refine px_blk ?_
      refine pn_seq ?_
      refine rc_seq ?_
      refine rc_region ?_
      refine rd_op (v := vb true) (ov_move rfl) ?_
      refine rd_nil ?_
      refine pn_seq ?_
      subst hres
      exact rc_retV (.tmp rfl .nil) (deep_closed rfl) rfl

/-- patchbay/patchbaylaw20.ControlWalks -/
def RF10 (res : Bool) (r : PV) : Prop := r = vb res
theorem f10_ok {x0 : List api_ControlNode} {x1 : List Bool} {v0 : PV} {v1 : PV} (r0 : (tSl api_ControlNode.t).R x0 v0) (r1 : (tSl tB).R x1 v1) : FnR Try.prog 10 [v0, v1] (vb (law20_ControlWalks x0 x1)) := by
  obtain ⟨res, hres⟩ : ∃ res, law20_ControlWalks x0 x1 = res := ⟨_, rfl⟩
  suffices H : RC Try.prog ac10 [] (QR Try.prog [(4, none)] (RF10 res)) (argE 0 [v0, v1]) ⟨0, []⟩ by
    obtain ⟨r, h1, h2⟩ := fnE text10 (by simp) H
    rw [hres]
    have h2 : r = vb res := h2
    rw [← h2]; exact h1
  unfold law20_ControlWalks at hres
  unfold ac10
  refine rc_seq ?_
  refine rc_region ?_
  refine rd_op (v := vb false) (ov_move rfl) ?_
  refine rd_nil ?_
  refine pn_seq ?_
  refine rc_seq ?_
  refine rc_seq ?_
  refine rc_region ?_
  refine rd_op (ov_move rfl) ?_
  obtain ⟨y101, hw101, hres⟩ := let_ex hres
  have f101 := f14_ok (x1 := 60) r0 
  rw [hw101] at f101
  refine rd_call (cv_fn rfl rfl (clL_cons (TR.clo (tSl api_ControlNode.t) r0) (clL_cons rfl clL_nil)) f101) ?_
  refine rd_op (ov_not rfl) ?_
  refine rd_op (ov_move rfl) ?_
  refine rd_cut (d := 14) (v := vb ((!y101) || (decide (20 < (x1.length : Int))))) ?_ ?_
  · intro S Q r
    simp only [ac10_G1, List.cons_append, List.nil_append, List.append_assoc]
    cases hb102 : (!y101)
    · intro k
      have hb102' := hb102
      try simp only [Bool.or_eq_true, Bool.or_eq_false_iff, Bool.and_eq_true, Bool.and_eq_false_imp, decide_eq_true_eq, decide_eq_false_iff_not, Bool.not_eq_true', Bool.not_eq_false', Bool.not_eq_true, Bool.not_eq_false, Bool.not_true, Bool.not_false, ne_eq] at hb102'
      refine rd_yes rfl rfl (ov_move rfl) ?_
      refine rd_yes rfl rfl (ov_bi rfl (sl_len r1 Try.underlying50 _)) ?_
      refine rd_yes rfl rfl (ov_bin rfl rfl i_gtr) ?_
      refine rd_op (v := vb (decide (20 < (x1.length : Int)))) (ov_pick rfl rfl rfl rfl) ?_
      exact rd_weak (sub_cons rfl (sub_skip rfl (sub_skip rfl (sub_skip rfl (sub_skip rfl (sub_refl _)))))) k
    · intro k
      refine rd_skip rfl rfl ?_
      refine rd_skip rfl rfl ?_
      refine rd_skip rfl rfl ?_
      refine rd_op (v := vb true) (ov_pick rfl rfl rfl rfl) ?_
      exact rd_weak (sub_cons rfl (sub_skip rfl (sub_skip rfl (sub_skip rfl (sub_skip rfl (sub_refl _)))))) k
  refine rd_nil ?_
  refine pn_seq ?_
  refine rc_cond rfl (fun hc103 => ?_) (fun hc103 => ?_)
  · replace hres := (ite_t hc103).symm.trans hres
    have hc103' := hc103
    try simp only [Bool.or_eq_true, Bool.or_eq_false_iff, Bool.and_eq_true, Bool.and_eq_false_imp, decide_eq_true_eq, decide_eq_false_iff_not, Bool.not_eq_true', Bool.not_eq_false', Bool.not_eq_true, Bool.not_eq_false, Bool.not_true, Bool.not_false, ne_eq] at hc103'
    refine rc_seq ?_
    refine rc_region ?_
    obtain ⟨y104, hw104, hres⟩ := let_ex hres
    have f104 := f15_ok   
    rw [hw104] at f104
    refine rd_call (cv_fn rfl rfl clL_nil f104) ?_
    refine rd_op (ov_move rfl) ?_
    refine rd_nil ?_
    refine pn_seq ?_
    subst hres
    exact rc_retV (.tmp rfl .nil) (deep_closed rfl) rfl
  · replace hres := (ite_f hc103).symm.trans hres
    have hc103' := hc103
    try simp only [Bool.or_eq_true, Bool.or_eq_false_iff, Bool.and_eq_true, Bool.and_eq_false_imp, decide_eq_true_eq, decide_eq_false_iff_not, Bool.not_eq_true', Bool.not_eq_false', Bool.not_eq_true, Bool.not_eq_false, Bool.not_true, Bool.not_false, ne_eq] at hc103'
    refine rc_skip ?_
    refine pn_seq ?_
    refine rc_seq ?_
    refine rc_region ?_
    refine rd_op (ov_move rfl) ?_
    refine rd_op (v := .agg [v1, vi 0, nilS, nilS]) (ov_build (cs := [v1, vi 0, nilS, nilS]) rfl (by simp only [buildV, cells_one (TR.cnt (tSl tB) r1) (TR.agg (tSl tB) r1)]; rfl)) ?_
    refine rd_boxO (x := .agg [v1, vi 0, nilS, nilS]) (Mem.nil ⟨0, []⟩) rfl rfl (fun i105 w105 h105 M105 => ?_)
    refine rd_op (ov_move rfl) ?_
    refine rd_op (v := .agg [v1, vi 0, nilS, nilS]) (ov_build (cs := [v1, vi 0, nilS, nilS]) rfl (by simp only [buildV, cells_one (TR.cnt (tSl tB) r1) (TR.agg (tSl tB) r1)]; rfl)) ?_
    refine rd_boxO (x := .agg [v1, vi 0, nilS, nilS]) M105 rfl rfl (fun i107 w107 h107 M107 => ?_)
    refine rd_op (ov_move rfl) ?_
    refine rd_op (ov_move rfl) ?_
    refine rd_nil ?_
    refine pn_seq ?_
    refine rc_seq ?_
    refine rc_regionS ?_
    refine rs_step ?_
    refine rd_op (ov_move rfl) ?_
    refine rs_back ?_
    refine rs_step ?_
    refine rd_op (ov_move rfl) ?_
    refine rs_back ?_
    refine rs_step ?_
    refine rd_op (v := .fn (.func 40) [.op i105 w105 0] []) (ov_mkFunc rfl rfl) ?_
    refine rs_back ?_
    refine rs_step ?_
    refine rd_op (ov_move rfl) ?_
    refine rs_back ?_
    refine rs_step ?_
    refine rd_op (v := .fn (.func 41) [.op i105 w105 0] []) (ov_mkFunc rfl rfl) ?_
    refine rs_back ?_
    have M110 := mem_acc (sz := 1) (es := []) M107 3 (.inl ⟨none, rfl, rfl⟩) (by simp)
    have M112 := mem_acc (sz := 1) (es := []) M110 3 (.inl ⟨none, rfl, rfl⟩) (by simp)
    have M109 : Mem h107 [⟨.op i105 w105 0, 66, 4, [.agg [v1, vi 0, nilS, nilS]]⟩, ⟨nilS, 3, 1, ([] : List PV)⟩, ⟨nilS, 3, 1, ([] : List PV)⟩, ⟨.op i107 w107 0, 66, 4, [.agg [v1, vi 0, nilS, nilS]]⟩] := (Mem.front (k := 3) (Mem.front (k := 1) (Mem.front (k := 0) M112 rfl) rfl) rfl)
    obtain ⟨y109, hw109, hres⟩ := let_ex hres
    obtain ⟨vr109, h114, hX109, hZ109⟩ := f39001_ok (x0 := x0) (x1 := ({ answers := x1, next := 0, tables := ([] : List Int), conds := ([] : List Int) } : law20_walk)) r0 r1 (show All2 tI.R ([] : List Int) [] from trivial) rfl (by first | decide | simp) (.inl rfl) (show All2 tI.R ([] : List Int) [] from trivial) rfl (by first | decide | simp) (.inl rfl) M109 (by first | exact small_gl (by assumption) (by first | assumption | (obtain ⟨h_, _⟩ := ‹_ ∧ ¬ _›; exact h_)) (by omega) | exact wb0 (by assumption) (by first | assumption | (obtain ⟨h_, _⟩ := ‹_ ∧ ¬ _›; exact h_)) (by omega) | (have hk := small_csl (by assumption) (by first | assumption | (obtain ⟨h_, _⟩ := ‹_ ∧ ¬ _›; exact h_)) (by omega); omega)) (by first | exact small_gl (by assumption) (by first | assumption | (obtain ⟨h_, _⟩ := ‹_ ∧ ¬ _›; exact h_)) (by omega) | exact wb0 (by assumption) (by first | assumption | (obtain ⟨h_, _⟩ := ‹_ ∧ ¬ _›; exact h_)) (by omega) | (have hk := small_csl (by assumption) (by first | assumption | (obtain ⟨h_, _⟩ := ‹_ ∧ ¬ _›; exact h_)) (by omega); omega))
    rw [hw109] at hZ109
    obtain ⟨u109_0_answers, a109_0_1, es109_0_1, a109_0_3, es109_0_3, M114, ru109_0_answers, qs109_0_1, ne109_0_1, hl109_0_1, wi109_0_2, qs109_0_3, ne109_0_3, hl109_0_3, wi109_0_4, hr109⟩ := hZ109
    replace hr109 := hr109.symm; subst hr109
    refine rs_callXc rfl rfl hX109 ?_
    refine rs_nil ?_
    refine pn_seq ?_
    refine rc_seq ?_
    refine rc_regionS ?_
    refine rs_step ?_
    refine rd_op (ov_move rfl) ?_
    refine rs_back ?_
    refine rs_step ?_
    refine rd_op (ov_move rfl) ?_
    refine rs_back ?_
    have M116 := mem_acc (sz := 1) (es := []) M114 3 (.inl ⟨none, rfl, rfl⟩) (by simp)
    have M118 := mem_acc (sz := 1) (es := []) M116 3 (.inl ⟨none, rfl, rfl⟩) (by simp)
    have M115 : Mem h114 [⟨.op i107 w107 0, 66, 4, [.agg [v1, vi 0, nilS, nilS]]⟩, ⟨nilS, 3, 1, ([] : List PV)⟩, ⟨nilS, 3, 1, ([] : List PV)⟩, ⟨.op i105 w105 0, 66, 4, [.agg [u109_0_answers, vi y109.next, a109_0_1, a109_0_3]]⟩, ⟨a109_0_1, 3, 1, es109_0_1⟩, ⟨a109_0_3, 3, 1, es109_0_3⟩] := (Mem.front (k := 5) (Mem.front (k := 1) (Mem.front (k := 0) M118 rfl) rfl) rfl)
    obtain ⟨y115, hw115, hres⟩ := let_ex hres
    obtain ⟨vr115, h120, hX115, hZ115⟩ := f42_ok (x0 := ({ answers := x1, next := 0, tables := ([] : List Int), conds := ([] : List Int) } : law20_walk)) (x1 := x0) r0 r1 (show All2 tI.R ([] : List Int) [] from trivial) rfl (by first | decide | simp) (.inl rfl) (show All2 tI.R ([] : List Int) [] from trivial) rfl (by first | decide | simp) (.inl rfl) M115 (by first | exact small_gl (by assumption) (by first | assumption | (obtain ⟨h_, _⟩ := ‹_ ∧ ¬ _›; exact h_)) (by omega) | exact wb0 (by assumption) (by first | assumption | (obtain ⟨h_, _⟩ := ‹_ ∧ ¬ _›; exact h_)) (by omega) | (have hk := small_csl (by assumption) (by first | assumption | (obtain ⟨h_, _⟩ := ‹_ ∧ ¬ _›; exact h_)) (by omega); omega)) (by first | exact small_gl (by assumption) (by first | assumption | (obtain ⟨h_, _⟩ := ‹_ ∧ ¬ _›; exact h_)) (by omega) | exact wb0 (by assumption) (by first | assumption | (obtain ⟨h_, _⟩ := ‹_ ∧ ¬ _›; exact h_)) (by omega) | (have hk := small_csl (by assumption) (by first | assumption | (obtain ⟨h_, _⟩ := ‹_ ∧ ¬ _›; exact h_)) (by omega); omega))
    rw [hw115] at hZ115
    obtain ⟨u115_0_answers, a115_0_1, es115_0_1, a115_0_3, es115_0_3, M120, ru115_0_answers, qs115_0_1, ne115_0_1, hl115_0_1, wi115_0_2, qs115_0_3, ne115_0_3, hl115_0_3, wi115_0_4, hr115⟩ := hZ115
    replace hr115 := hr115.symm; subst hr115
    refine rs_callXc rfl rfl hX115 ?_
    refine rs_nil ?_
    refine pn_seq ?_
    refine rc_seq ?_
    refine rc_region ?_
    refine rd_op (ov_move rfl) ?_
    refine rd_op (ov_nilCheck rfl rfl) ?_
    refine rd_op (ov_faddrO rfl) ?_
    refine rd_op (ov_loadf (k := 3) M120 rfl rfl (mk1 (mem_one (k := 4) M120 rfl ne109_0_1).2)) ?_
    refine rd_op (ov_move rfl) ?_
    refine rd_op (ov_nilCheck rfl rfl) ?_
    refine rd_op (ov_faddrO rfl) ?_
    refine rd_op (ov_loadf (k := 0) M120 rfl rfl (mk1 (mem_one (k := 1) M120 rfl ne115_0_1).2)) ?_
    obtain ⟨v122, d122, r122⟩ := own_sl (P := Try.prog) (k := 4) (t := tI) M120 rfl ne109_0_1 qs109_0_1 (Nat.le_trans hl109_0_1 (by decide))
    obtain ⟨v123, d123, r123⟩ := own_sl (P := Try.prog) (k := 1) (t := tI) M120 rfl ne115_0_1 qs115_0_1 (Nat.le_trans hl115_0_1 (by decide))
    obtain ⟨y121, hw121, hres⟩ := let_ex hres
    have f121 := f24_ok  r122 r123 
    rw [hw121] at f121
    refine rd_call (cv_lend rfl rfl (dl_cons d122 (dl_cons d123 dl_nil)) f121 rfl) ?_
    refine rd_op (ov_move rfl) ?_
    refine rd_cut (d := 50) (v := vb (y121 && (ref02_EqualInts y109.conds y115.conds))) ?_ ?_
    · intro S Q r
      simp only [ac10_G2, List.cons_append, List.nil_append, List.append_assoc]
      cases hb124 : y121
      · intro k
        refine rd_skip rfl rfl ?_
        refine rd_skip rfl rfl ?_
        refine rd_skip rfl rfl ?_
        refine rd_skip rfl rfl ?_
        refine rd_skip rfl rfl ?_
        refine rd_skip rfl rfl ?_
        refine rd_skip rfl rfl ?_
        refine rd_skip rfl rfl ?_
        refine rd_skip rfl rfl ?_
        refine rd_op (v := vb false) (ov_pick rfl rfl rfl rfl) ?_
        exact rd_weak (sub_cons rfl (sub_skip rfl (sub_skip rfl (sub_skip rfl (sub_skip rfl (sub_skip rfl (sub_skip rfl (sub_skip rfl (sub_skip rfl (sub_skip rfl (sub_skip rfl (sub_refl _)))))))))))) k
      · intro k
        have hb124' := hb124
        try simp only [Bool.or_eq_true, Bool.or_eq_false_iff, Bool.and_eq_true, Bool.and_eq_false_imp, decide_eq_true_eq, decide_eq_false_iff_not, Bool.not_eq_true', Bool.not_eq_false', Bool.not_eq_true, Bool.not_eq_false, Bool.not_true, Bool.not_false, ne_eq] at hb124'
        refine rd_yes rfl rfl (ov_move rfl) ?_
        refine rd_yes rfl rfl (ov_nilCheck rfl rfl) ?_
        refine rd_yes rfl rfl (ov_faddrO rfl) ?_
        refine rd_yes rfl rfl (ov_loadf (k := 3) M120 rfl rfl (mk1 (mem_one (k := 5) M120 rfl ne109_0_3).2)) ?_
        refine rd_yes rfl rfl (ov_move rfl) ?_
        refine rd_yes rfl rfl (ov_nilCheck rfl rfl) ?_
        refine rd_yes rfl rfl (ov_faddrO rfl) ?_
        refine rd_yes rfl rfl (ov_loadf (k := 0) M120 rfl rfl (mk1 (mem_one (k := 2) M120 rfl ne115_0_3).2)) ?_
        obtain ⟨v126, d126, r126⟩ := own_sl (P := Try.prog) (k := 5) (t := tI) M120 rfl ne109_0_3 qs109_0_3 (Nat.le_trans hl109_0_3 (by decide))
        obtain ⟨v127, d127, r127⟩ := own_sl (P := Try.prog) (k := 2) (t := tI) M120 rfl ne115_0_3 qs115_0_3 (Nat.le_trans hl115_0_3 (by decide))
        have f125 := f24_ok  r126 r127 
        refine rd_ycall rfl rfl (cv_lend rfl rfl (dl_cons d126 (dl_cons d127 dl_nil)) f125 rfl) ?_
        refine rd_op (v := vb (ref02_EqualInts y109.conds y115.conds)) (ov_pick rfl rfl rfl rfl) ?_
        exact rd_weak (sub_cons rfl (sub_skip rfl (sub_skip rfl (sub_skip rfl (sub_skip rfl (sub_skip rfl (sub_skip rfl (sub_skip rfl (sub_skip rfl (sub_skip rfl (sub_skip rfl (sub_refl _)))))))))))) k
    refine rd_op (ov_move rfl) ?_
    refine rd_cut (d := 53) (v := vb ((y121 && (ref02_EqualInts y109.conds y115.conds)) && (law20_works))) ?_ ?_
    · intro S Q r
      simp only [ac10_G3, List.cons_append, List.nil_append, List.append_assoc]
      cases hb128 : (y121 && (ref02_EqualInts y109.conds y115.conds))
      · intro k
        refine rd_skip rfl rfl ?_
        refine rd_op (v := vb false) (ov_pick rfl rfl rfl rfl) ?_
        exact rd_weak (sub_cons rfl (sub_skip rfl (sub_skip rfl (sub_refl _)))) k
      · intro k
        have hb128' := hb128
        try simp only [Bool.or_eq_true, Bool.or_eq_false_iff, Bool.and_eq_true, Bool.and_eq_false_imp, decide_eq_true_eq, decide_eq_false_iff_not, Bool.not_eq_true', Bool.not_eq_false', Bool.not_eq_true, Bool.not_eq_false, Bool.not_true, Bool.not_false, ne_eq] at hb128'
        have f129 := f15_ok   
        refine rd_ycall rfl rfl (cv_fn rfl rfl clL_nil f129) ?_
        refine rd_op (v := vb (law20_works)) (ov_pick rfl rfl rfl rfl) ?_
        exact rd_weak (sub_cons rfl (sub_skip rfl (sub_skip rfl (sub_refl _)))) k
    refine rd_op (ov_move rfl) ?_
    refine rd_nil ?_
    refine pn_seq ?_
    subst hres
    exact rc_retV (.tmp rfl .nil) (deep_closed rfl) rfl

end Go.Proofs.Ytkgnjpoafilicaa
