/-
  The code of each function does what its plain program says.
-/
import Derived.Test.YtkgnjpoafilicaaKDef
import Derived.Test.YtkgnjpoafilicaaL11Text
import Derived.Test.YtkgnjpoafilicaaPbC
import Derived.Test.YtkgnjpoafilicaaKVisWkWl
import Derived.Test.YtkgnjpoafilicaaKSzPureQRsPw
import Derived.Test.YtkgnjpoafilicaaKSzPureQRsPw
import Derived.Test.YtkgnjpoafilicaaKSzPureQRsPw
import Derived.Test.YtkgnjpoafilicaaKSzPureQRsPw
import Derived.Test.YtkgnjpoafilicaaL11Run
set_option linter.unusedVariables false
set_option linter.unusedSimpArgs false
set_option maxRecDepth 100000
namespace Go.Proofs.Ytkgnjpoafilicaa
open Go Go.Pb Go.RowKit
/-- patchbay/patchbaylaw20.size -/
def RF47 (res : Int) (r : PV) : Prop := r = vi res
theorem law20_size_L1_ok {S : List Fr} {res : Int} {x0 : List api_ControlNode} {x1 : Int} {x2 : Int} {rec_ : (List api_ControlNode) → Int → Int → Int} {mu_ : Nat} {v0 : PV} (r0 : (tSl api_ControlNode.t).R x0 v0) (ihR : ∀ {z0 : List api_ControlNode} {z1 : Int} {z2 : Int} {zv0 : PV} (zr0 : (tSl api_ControlNode.t).R z0 zv0), csl z0 < mu_ → FnR Try.prog 47 [zv0, vi z1, vi z2] (vi (rec_ z0 z1 z2))) (hmu : mu_ = csl x0) {K0 : Int → Int}
    (hK0 : ∀ (x7_ : Int), K0 x7_ = res → PX Try.prog 0 S (QR Try.prog [(6, none)] (RF47 res)) [(7, vi x7_)] ⟨0, []⟩) :
    ∀ (m : Nat) (x7_ : Int) (x8_ : Int) (hm1 : m = Int.toNat ((x0.length : Int) - x8_)) (hlo1 : 0 ≤ x8_), law20_size_L1 x0 x1 x2 rec_ K0 m x7_ x8_ = res → RC Try.prog (.loop ac47_L1) S (QR Try.prog [(6, none)] (RF47 res)) [(8, vi x8_), (7, vi x7_), (2, vi x2), (1, vi x1), (0, v0)] ⟨0, []⟩ := by
  intro m
  induction m with
  | zero =>
    intro x7_ x8_ hm1 hlo1 hres
    rw [law20_size_L1] at hres
    refine rc_loop ?_
    unfold ac47_L1
    refine rc_seq ?_
    refine rc_seq ?_
    refine rc_region ?_
    refine rd_op (ov_move rfl) ?_
    refine rd_op (ov_move rfl) ?_
    refine rd_op (ov_bi rfl (sl_len r0 Try.underlying28 _)) ?_
    refine rd_op (ov_bin rfl rfl i_lss) ?_
    refine rd_op (ov_move rfl) ?_
    refine rd_cut (d := 17) (v := vb ((decide (x8_ < (x0.length : Int))) && (decide (x7_ ≤ x1)))) ?_ ?_
    · intro S Q r
      simp only [ac47_G1, List.cons_append, List.nil_append, List.append_assoc]
      cases hb101 : (decide (x8_ < (x0.length : Int)))
      · intro k
        refine rd_skip rfl rfl ?_
        refine rd_skip rfl rfl ?_
        refine rd_skip rfl rfl ?_
        refine rd_op (v := vb false) (ov_pick rfl rfl rfl rfl) ?_
        exact rd_weak (sub_cons rfl (sub_skip rfl (sub_skip rfl (sub_skip rfl (sub_skip rfl (sub_refl _)))))) k
      · intro k
        have hb101' := hb101
        try simp only [Bool.or_eq_true, Bool.or_eq_false_iff, Bool.and_eq_true, Bool.and_eq_false_imp, decide_eq_true_eq, decide_eq_false_iff_not, Bool.not_eq_true', Bool.not_eq_false', Bool.not_eq_true, Bool.not_eq_false, Bool.not_true, Bool.not_false, ne_eq] at hb101'
        refine rd_yes rfl rfl (ov_move rfl) ?_
        refine rd_yes rfl rfl (ov_move rfl) ?_
        refine rd_yes rfl rfl (ov_bin rfl rfl i_leq) ?_
        refine rd_op (v := vb (decide (x7_ ≤ x1))) (ov_pick rfl rfl rfl rfl) ?_
        exact rd_weak (sub_cons rfl (sub_skip rfl (sub_skip rfl (sub_skip rfl (sub_skip rfl (sub_refl _)))))) k
    refine rd_nil ?_
    refine pn_seq ?_
    refine rc_cond rfl (fun hc102 => ?_) (fun hc102 => ?_)
    · exfalso
      try simp only [Bool.or_eq_true, Bool.or_eq_false_iff, Bool.and_eq_true, Bool.and_eq_false_imp, decide_eq_true_eq, decide_eq_false_iff_not, Bool.not_eq_true', Bool.not_eq_false', Bool.not_eq_true, Bool.not_eq_false, Bool.not_true, Bool.not_false, ne_eq] at hc102
      omega
    · have hend := hres
      have hc102' := hc102
      try simp only [Bool.or_eq_true, Bool.or_eq_false_iff, Bool.and_eq_true, Bool.and_eq_false_imp, decide_eq_true_eq, decide_eq_false_iff_not, Bool.not_eq_true', Bool.not_eq_false', Bool.not_eq_true, Bool.not_eq_false, Bool.not_true, Bool.not_false, ne_eq] at hc102'
      refine rc_exit ?_
      refine px_seq ?_
      refine px_again ?_
      exact px_weak ((sub_cons rfl (sub_nil _))) (hK0 x7_ hres)
  | succ m ih =>
    intro x7_ x8_ hm1 hlo1 hres
    rw [law20_size_L1] at hres
    refine rc_loop ?_
    unfold ac47_L1
    refine rc_seq ?_
    refine rc_seq ?_
    refine rc_region ?_
    refine rd_op (ov_move rfl) ?_
    refine rd_op (ov_move rfl) ?_
    refine rd_op (ov_bi rfl (sl_len r0 Try.underlying28 _)) ?_
    refine rd_op (ov_bin rfl rfl i_lss) ?_
    refine rd_op (ov_move rfl) ?_
    refine rd_cut (d := 17) (v := vb ((decide (x8_ < (x0.length : Int))) && (decide (x7_ ≤ x1)))) ?_ ?_
    · intro S Q r
      simp only [ac47_G1, List.cons_append, List.nil_append, List.append_assoc]
      cases hb103 : (decide (x8_ < (x0.length : Int)))
      · intro k
        refine rd_skip rfl rfl ?_
        refine rd_skip rfl rfl ?_
        refine rd_skip rfl rfl ?_
        refine rd_op (v := vb false) (ov_pick rfl rfl rfl rfl) ?_
        exact rd_weak (sub_cons rfl (sub_skip rfl (sub_skip rfl (sub_skip rfl (sub_skip rfl (sub_refl _)))))) k
      · intro k
        have hb103' := hb103
        try simp only [Bool.or_eq_true, Bool.or_eq_false_iff, Bool.and_eq_true, Bool.and_eq_false_imp, decide_eq_true_eq, decide_eq_false_iff_not, Bool.not_eq_true', Bool.not_eq_false', Bool.not_eq_true, Bool.not_eq_false, Bool.not_true, Bool.not_false, ne_eq] at hb103'
        refine rd_yes rfl rfl (ov_move rfl) ?_
        refine rd_yes rfl rfl (ov_move rfl) ?_
        refine rd_yes rfl rfl (ov_bin rfl rfl i_leq) ?_
        refine rd_op (v := vb (decide (x7_ ≤ x1))) (ov_pick rfl rfl rfl rfl) ?_
        exact rd_weak (sub_cons rfl (sub_skip rfl (sub_skip rfl (sub_skip rfl (sub_skip rfl (sub_refl _)))))) k
    refine rd_nil ?_
    refine pn_seq ?_
    refine rc_cond rfl (fun hc104 => ?_) (fun hc104 => ?_)
    · replace hres := (ite_t hc104).symm.trans hres
      have hc104' := hc104
      try simp only [Bool.or_eq_true, Bool.or_eq_false_iff, Bool.and_eq_true, Bool.and_eq_false_imp, decide_eq_true_eq, decide_eq_false_iff_not, Bool.not_eq_true', Bool.not_eq_false', Bool.not_eq_true, Bool.not_eq_false, Bool.not_true, Bool.not_false, ne_eq] at hc104'
      refine rc_skip ?_
      refine pn_seq ?_
      refine rc_seq ?_
      refine rc_block ?_
      refine rc_seq ?_
      refine rc_region ?_
      refine rd_op (ov_move rfl) ?_
      refine rd_op (ov_bin rfl rfl i_add) ?_
      refine rd_op (ov_move rfl) ?_
      refine rd_nil ?_
      refine pn_seq ?_
      refine rc_seq ?_
      refine rc_seq ?_
      refine rc_region ?_
      refine rd_op (ov_move rfl) ?_
      refine rd_op (ov_move rfl) ?_
      obtain ⟨v105, e105, r105⟩ := sl_idx (i := x8_) r0 (by omega) (by omega)
      refine rd_op (ov_iaddr rfl rfl e105) ?_
      obtain ⟨v106, e106, r106⟩ := api_ControlNode.g_Cond r105
      refine rd_op (ov_faddr rfl e106) ?_
      refine rd_op (ov_load rfl (TR.cnt (tSl api_ExprNode.t) r106) (TR.agg (tSl api_ExprNode.t) r106)) ?_
      refine rd_op (ov_bi rfl (sl_len r106 Try.underlying38 _)) ?_
      refine rd_op (ov_bin rfl rfl i_gtr) ?_
      refine rd_op (ov_move rfl) ?_
      refine rd_cut (d := 32) (v := vb ((decide (40 < (((ix x0 x8_).Cond).length : Int))) || (decide (x2 = 0)))) ?_ ?_
      · intro S Q r
        simp only [ac47_G2, List.cons_append, List.nil_append, List.append_assoc]
        cases hb107 : (decide (40 < (((ix x0 x8_).Cond).length : Int)))
        · intro k
          have hb107' := hb107
          try simp only [Bool.or_eq_true, Bool.or_eq_false_iff, Bool.and_eq_true, Bool.and_eq_false_imp, decide_eq_true_eq, decide_eq_false_iff_not, Bool.not_eq_true', Bool.not_eq_false', Bool.not_eq_true, Bool.not_eq_false, Bool.not_true, Bool.not_false, ne_eq] at hb107'
          refine rd_yes rfl rfl (ov_move rfl) ?_
          refine rd_yes rfl rfl (ov_bin rfl rfl i_eql) ?_
          refine rd_op (v := vb (decide (x2 = 0))) (ov_pick rfl rfl rfl rfl) ?_
          exact rd_weak (sub_cons rfl (sub_skip rfl (sub_skip rfl (sub_skip rfl (sub_refl _))))) k
        · intro k
          refine rd_skip rfl rfl ?_
          refine rd_skip rfl rfl ?_
          refine rd_op (v := vb true) (ov_pick rfl rfl rfl rfl) ?_
          exact rd_weak (sub_cons rfl (sub_skip rfl (sub_skip rfl (sub_skip rfl (sub_refl _))))) k
      refine rd_nil ?_
      refine pn_seq ?_
      refine rc_cond rfl (fun hc108 => ?_) (fun hc108 => ?_)
      · replace hres := (ite_t hc108).symm.trans hres
        have hc108' := hc108
        try simp only [Bool.or_eq_true, Bool.or_eq_false_iff, Bool.and_eq_true, Bool.and_eq_false_imp, decide_eq_true_eq, decide_eq_false_iff_not, Bool.not_eq_true', Bool.not_eq_false', Bool.not_eq_true, Bool.not_eq_false, Bool.not_true, Bool.not_false, ne_eq] at hc108'
        refine rc_seq ?_
        refine rc_region ?_
        refine rd_op (ov_move rfl) ?_
        refine rd_op (ov_bin rfl rfl i_add) ?_
        refine rd_op (ov_move rfl) ?_
        refine rd_nil ?_
        refine pn_seq ?_
        subst hres
        exact rc_retV (.tmp rfl .nil) (deep_closed rfl) rfl
      · replace hres := (ite_f hc108).symm.trans hres
        have hc108' := hc108
        try simp only [Bool.or_eq_true, Bool.or_eq_false_iff, Bool.and_eq_true, Bool.and_eq_false_imp, decide_eq_true_eq, decide_eq_false_iff_not, Bool.not_eq_true', Bool.not_eq_false', Bool.not_eq_true, Bool.not_eq_false, Bool.not_true, Bool.not_false, ne_eq] at hc108'
        refine rc_skip ?_
        refine pn_seq ?_
        refine rc_seq ?_
        refine rc_region ?_
        refine rd_op (ov_move rfl) ?_
        refine rd_op (ov_move rfl) ?_
        refine rd_op (ov_move rfl) ?_
        obtain ⟨v109, e109, r109⟩ := sl_idx (i := x8_) r0 (by omega) (by omega)
        refine rd_op (ov_iaddr rfl rfl e109) ?_
        obtain ⟨v110, e110, r110⟩ := api_ControlNode.g_Then r109
        refine rd_op (ov_faddr rfl e110) ?_
        refine rd_op (ov_load rfl (TR.cnt (tSl api_ControlNode.t) r110) (TR.agg (tSl api_ControlNode.t) r110)) ?_
        refine rd_op (ov_move rfl) ?_
        refine rd_op (ov_move rfl) ?_
        refine rd_op (ov_bin rfl rfl i_sub) ?_
        refine rd_op (ov_move rfl) ?_
        refine rd_op (ov_bin rfl rfl i_sub) ?_
        obtain ⟨y111, hw111, hres⟩ := let_ex hres
        have f111 := ihR (z0 := (ix x0 x8_).Then) (z1 := (wr (x1 - (wr (x7_ + 1))))) (z2 := (wr (x2 - 1))) r110  (by (have hk := csl_ix (l := x0) (by omega) (by omega); omega))
        rw [hw111] at f111
        refine rd_call (cv_fn rfl rfl (clL_cons (TR.clo (tSl api_ControlNode.t) r110) (clL_cons rfl (clL_cons rfl clL_nil))) f111) ?_
        refine rd_op (ov_bin rfl rfl i_add) ?_
        refine rd_op (ov_move rfl) ?_
        refine rd_nil ?_
        refine pn_seq ?_
        refine rc_seq ?_
        refine rc_region ?_
        refine rd_op (ov_move rfl) ?_
        refine rd_op (ov_move rfl) ?_
        refine rd_op (ov_bin rfl rfl i_leq) ?_
        refine rd_nil ?_
        refine pn_seq ?_
        refine rc_cond rfl (fun hc112 => ?_) (fun hc112 => ?_)
        · replace hres := (ite_t hc112).symm.trans hres
          have hc112' := hc112
          try simp only [Bool.or_eq_true, Bool.or_eq_false_iff, Bool.and_eq_true, Bool.and_eq_false_imp, decide_eq_true_eq, decide_eq_false_iff_not, Bool.not_eq_true', Bool.not_eq_false', Bool.not_eq_true, Bool.not_eq_false, Bool.not_true, Bool.not_false, ne_eq] at hc112'
          refine rc_region ?_
          refine rd_op (ov_move rfl) ?_
          refine rd_op (ov_move rfl) ?_
          refine rd_op (ov_move rfl) ?_
          obtain ⟨v113, e113, r113⟩ := sl_idx (i := x8_) r0 (by omega) (by omega)
          refine rd_op (ov_iaddr rfl rfl e113) ?_
          obtain ⟨v114, e114, r114⟩ := api_ControlNode.g_Else r113
          refine rd_op (ov_faddr rfl e114) ?_
          refine rd_op (ov_load rfl (TR.cnt (tSl api_ControlNode.t) r114) (TR.agg (tSl api_ControlNode.t) r114)) ?_
          refine rd_op (ov_move rfl) ?_
          refine rd_op (ov_move rfl) ?_
          refine rd_op (ov_bin rfl rfl i_sub) ?_
          refine rd_op (ov_move rfl) ?_
          refine rd_op (ov_bin rfl rfl i_sub) ?_
          obtain ⟨y115, hw115, hres⟩ := let_ex hres
          have f115 := ihR (z0 := (ix x0 x8_).Else) (z1 := (wr (x1 - (wr ((wr (x7_ + 1)) + y111))))) (z2 := (wr (x2 - 1))) r114  (by (have hk := csl_ix (l := x0) (by omega) (by omega); omega))
          rw [hw115] at f115
          refine rd_call (cv_fn rfl rfl (clL_cons (TR.clo (tSl api_ControlNode.t) r114) (clL_cons rfl (clL_cons rfl clL_nil))) f115) ?_
          refine rd_op (ov_bin rfl rfl i_add) ?_
          refine rd_op (ov_move rfl) ?_
          refine rd_nil ?_
          refine pn_blk ?_
          refine pn_seq ?_
          refine rc_region ?_
          refine rd_op (ov_move rfl) ?_
          refine rd_op (ov_bin rfl rfl i_add) ?_
          refine rd_op (ov_move rfl) ?_
          refine rd_nil ?_
          refine pn_again ?_
          have hbd := sl_bound r0
          have hinc : wr (x8_ + 1) = x8_ + 1 := wr_of (by omega) (by omega)
          rw [hinc]
          refine rc_weak ?_ (ih (wr ((wr ((wr (x7_ + 1)) + y111)) + y115)) (x8_ + 1)  (by omega) (by omega) hres)
          exact ((sub_cons rfl (sub_cons rfl (sub_cons rfl (sub_cons rfl (sub_cons rfl (sub_nil _)))))))
        · replace hres := (ite_f hc112).symm.trans hres
          have hc112' := hc112
          try simp only [Bool.or_eq_true, Bool.or_eq_false_iff, Bool.and_eq_true, Bool.and_eq_false_imp, decide_eq_true_eq, decide_eq_false_iff_not, Bool.not_eq_true', Bool.not_eq_false', Bool.not_eq_true, Bool.not_eq_false, Bool.not_true, Bool.not_false, ne_eq] at hc112'
          refine rc_skip ?_
          refine pn_blk ?_
          refine pn_seq ?_
          refine rc_region ?_
          refine rd_op (ov_move rfl) ?_
          refine rd_op (ov_bin rfl rfl i_add) ?_
          refine rd_op (ov_move rfl) ?_
          refine rd_nil ?_
          refine pn_again ?_
          have hbd := sl_bound r0
          have hinc : wr (x8_ + 1) = x8_ + 1 := wr_of (by omega) (by omega)
          rw [hinc]
          refine rc_weak ?_ (ih (wr ((wr (x7_ + 1)) + y111)) (x8_ + 1)  (by omega) (by omega) hres)
          exact ((sub_cons rfl (sub_cons rfl (sub_cons rfl (sub_cons rfl (sub_cons rfl (sub_nil _)))))))
    · replace hres := (ite_f hc104).symm.trans hres
      have hc104' := hc104
      try simp only [Bool.or_eq_true, Bool.or_eq_false_iff, Bool.and_eq_true, Bool.and_eq_false_imp, decide_eq_true_eq, decide_eq_false_iff_not, Bool.not_eq_true', Bool.not_eq_false', Bool.not_eq_true, Bool.not_eq_false, Bool.not_true, Bool.not_false, ne_eq] at hc104'
      refine rc_exit ?_
      refine px_seq ?_
      refine px_again ?_
      exact px_weak ((sub_cons rfl (sub_nil _))) (hK0 x7_ hres)

theorem f47_okB {rec_ : (List api_ControlNode) → Int → Int → Int} {mu_ : Nat} {x0 : List api_ControlNode} {x1 : Int} {x2 : Int} {v0 : PV} (r0 : (tSl api_ControlNode.t).R x0 v0) (hmu : mu_ = csl x0) (ihR : ∀ {z0 : List api_ControlNode} {z1 : Int} {z2 : Int} {zv0 : PV} (zr0 : (tSl api_ControlNode.t).R z0 zv0), csl z0 < mu_ → FnR Try.prog 47 [zv0, vi z1, vi z2] (vi (rec_ z0 z1 z2))) : FnR Try.prog 47 [v0, vi x1, vi x2] (vi (law20_size_B rec_ x0 x1 x2)) := by
  obtain ⟨res, hres⟩ : ∃ res, law20_size_B rec_ x0 x1 x2 = res := ⟨_, rfl⟩
  suffices H : RC Try.prog ac47 [] (QR Try.prog [(6, none)] (RF47 res)) (argE 0 [v0, vi x1, vi x2]) ⟨0, []⟩ by
    obtain ⟨r, h1, h2⟩ := fnE text47 (by simp) H
    rw [hres]
    have h2 : r = vi res := h2
    rw [← h2]; exact h1
  unfold law20_size_B at hres
  unfold ac47
  refine rc_seq ?_
  refine rc_region ?_
  refine rd_op (v := vi 0) (ov_move rfl) ?_
  refine rd_nil ?_
  refine pn_seq ?_
  refine rc_seq ?_
  refine rc_region ?_
  refine rd_op (v := vi 0) (ov_move rfl) ?_
  refine rd_nil ?_
  refine pn_seq ?_
  refine rc_seq ?_
  refine rc_seq ?_
  refine rc_region ?_
  refine rd_op (v := vi 0) (ov_move rfl) ?_
  refine rd_nil ?_
  refine pn_seq ?_
  refine rc_block ?_
  refine rc_weak ?_ (law20_size_L1_ok (x0 := x0) (x1 := x1) (x2 := x2) (rec_ := rec_) (mu_ := mu_) (v0 := v0)  (r0 := r0) (ihR := ihR) (hmu := hmu) ?_ (Int.toNat ((x0.length : Int) - 0)) 0 0 rfl (by omega) hres)
  · exact ((sub_cons rfl (sub_cons rfl (sub_cons rfl (sub_cons rfl (sub_cons rfl (sub_nil _)))))))
  · intro x7_116 hres
    refine px_blk ?_
    refine pn_seq ?_
    refine rc_seq ?_
    refine rc_region ?_
    refine rd_op (ov_move rfl) ?_
    refine rd_op (ov_move rfl) ?_
    refine rd_nil ?_
    refine pn_seq ?_
    subst hres
    exact rc_retV (.tmp rfl .nil) (deep_closed rfl) rfl
theorem f47_okR : ∀ (n_ : Nat) {x0 : List api_ControlNode} {x1 : Int} {x2 : Int} {v0 : PV} (r0 : (tSl api_ControlNode.t).R x0 v0), csl x0 < n_ → FnR Try.prog 47 [v0, vi x1, vi x2] (vi (law20_size_R n_ x0 x1 x2)) := by
  intro n_
  induction n_ with
  | zero => intros; rename_i hlt; exact absurd hlt (Nat.not_lt_zero _)
  | succ n_ ihn =>
    intro x0 x1 x2 v0 r0 hlt
    have e_ : law20_size_R (n_ + 1) x0 x1 x2 = law20_size_B (law20_size_R n_) x0 x1 x2 := by rw [law20_size_R]
    rw [e_]
    exact f47_okB r0 rfl (fun {z0} {z1} {z2} {zv0} zr0 hz => ihn zr0 (by omega))
theorem f47_ok {x0 : List api_ControlNode} {x1 : Int} {x2 : Int} {v0 : PV} (r0 : (tSl api_ControlNode.t).R x0 v0) : FnR Try.prog 47 [v0, vi x1, vi x2] (vi (law20_size x0 x1 x2)) := f47_okR _ r0 (Nat.lt_succ_self _)

/-- patchbay/patchbaylaw20.Small -/
def RF14 (res : Bool) (r : PV) : Prop := r = vb res
theorem f14_ok {x0 : List api_ControlNode} {x1 : Int} {v0 : PV} (r0 : (tSl api_ControlNode.t).R x0 v0) : FnR Try.prog 14 [v0, vi x1] (vb (law20_Small x0 x1)) := by
  obtain ⟨res, hres⟩ : ∃ res, law20_Small x0 x1 = res := ⟨_, rfl⟩
  suffices H : RC Try.prog ac14 [] (QR Try.prog [(4, none)] (RF14 res)) (argE 0 [v0, vi x1]) ⟨0, []⟩ by
    obtain ⟨r, h1, h2⟩ := fnE text14 (by simp) H
    rw [hres]
    have h2 : r = vb res := h2
    rw [← h2]; exact h1
  unfold law20_Small at hres
  unfold ac14
  refine rc_seq ?_
  refine rc_region ?_
  refine rd_op (v := vb false) (ov_move rfl) ?_
  refine rd_nil ?_
  refine pn_seq ?_
  refine rc_seq ?_
  refine rc_region ?_
  refine rd_op (ov_move rfl) ?_
  refine rd_op (ov_move rfl) ?_
  obtain ⟨y101, hw101, hres⟩ := let_ex hres
  have f101 := f47_ok (x1 := x1) (x2 := 12) r0 
  rw [hw101] at f101
  refine rd_call (cv_fn rfl rfl (clL_cons (TR.clo (tSl api_ControlNode.t) r0) (clL_cons rfl (clL_cons rfl clL_nil))) f101) ?_
  refine rd_op (ov_move rfl) ?_
  refine rd_op (ov_bin rfl rfl i_leq) ?_
  refine rd_op (ov_move rfl) ?_
  refine rd_nil ?_
  refine pn_seq ?_
  subst hres
  exact rc_retV (.tmp rfl .nil) (deep_closed rfl) rfl

theorem f15_ok : FnR Try.prog 15 [] (vb law20_works) := run15

/-- (*patchbay/patchbaylaw20.walk).answer -/
def RF74 (i0_ w0_ : Nat) (R_ : List Ent) (res : Bool × law20_walk) (r : PV) (h : Heap) : Prop := ∃ uF0_answers : PV, ∃ aF0_1 : PV, ∃ esF0_1 : List PV, ∃ aF0_3 : PV, ∃ esF0_3 : List PV, Mem h (⟨.op i0_ w0_ 0, 66, 4, [.agg [uF0_answers, vi res.2.next, aF0_1, aF0_3]]⟩ :: ⟨aF0_1, 3, 1, esF0_1⟩ :: ⟨aF0_3, 3, 1, esF0_3⟩ :: R_) ∧ ((tSl tB).R res.2.answers uF0_answers) ∧ (All2 tI.R res.2.tables esF0_1) ∧ (isL aF0_1 = true) ∧ (res.2.tables.length ≤ 4611686018427387904) ∧ (Wri aF0_1 esF0_1) ∧ (All2 tI.R res.2.conds esF0_3) ∧ (isL aF0_3 = true) ∧ (res.2.conds.length ≤ 4611686018427387904) ∧ (Wri aF0_3 esF0_3) ∧ r = vb res.1
theorem f74_ok {x0 : law20_walk} {u0__answers : PV} {a0__1 : PV} {es0__1 : List PV} {a0__3 : PV} {es0__3 : List PV} {R_ : List Ent} {h_ : Heap} {i0_ w0_ : Nat} (ru0__answers : (tSl tB).R x0.answers u0__answers) (qs0__1 : All2 tI.R x0.tables es0__1) (ne0__1 : isL a0__1 = true) (hl0__1 : x0.tables.length ≤ 4611686018427387904) (wi0__2 : Wri a0__1 es0__1) (qs0__3 : All2 tI.R x0.conds es0__3) (ne0__3 : isL a0__3 = true) (hl0__3 : x0.conds.length ≤ 4611686018427387904) (wi0__4 : Wri a0__3 es0__3) (M_ : Mem h_ (⟨.op i0_ w0_ 0, 66, 4, [.agg [u0__answers, vi x0.next, a0__1, a0__3]]⟩ :: ⟨a0__1, 3, 1, es0__1⟩ :: ⟨a0__3, 3, 1, es0__3⟩ :: R_)) (hw : 0 ≤ x0.next ∧ x0.next ≤ 100000) : ∃ r h2_, FnX Try.prog 74 [.op i0_ w0_ 0] h_ r h2_ ∧ RF74 i0_ w0_ R_ (m2_law20_walk__answer x0) r h2_ := by
  obtain ⟨res, hres⟩ : ∃ res, m2_law20_walk__answer x0 = res := ⟨_, rfl⟩
  suffices H : RC Try.prog ac74 [] (retPost Try.prog [(2, none)] (RF74 i0_ w0_ R_ res)) (argE 0 [.op i0_ w0_ 0]) h_ by
    rw [hres]
    exact fnX text74 (by simp) H
  unfold m2_law20_walk__answer at hres
  unfold ac74
  refine rc_seq ?_
  refine rc_region ?_
  refine rd_op (v := vb false) (ov_move rfl) ?_
  refine rd_nil ?_
  refine pn_seq ?_
  refine rc_seq ?_
  refine rc_region ?_
  refine rd_op (ov_move rfl) ?_
  refine rd_op (ov_nilCheck rfl rfl) ?_
  refine rd_op (ov_faddrO rfl) ?_
  refine rd_op (ov_loadf (k := 0) M_ rfl rfl (mk1 (TR.agg (tSl tB) ru0__answers))) ?_
  refine rd_op (ov_bi rfl (sl_len ru0__answers Try.underlying50 _)) ?_
  refine rd_op (ov_bin rfl rfl i_gtr) ?_
  refine rd_op (ov_move rfl) ?_
  refine rd_cut (d := 27) (v := vb ((decide (0 < (x0.answers.length : Int))) && (ix x0.answers (Int.tmod x0.next (x0.answers.length : Int))))) ?_ ?_
  · intro S Q r
    simp only [ac74_G1, List.cons_append, List.nil_append, List.append_assoc]
    cases hb101 : (decide (0 < (x0.answers.length : Int)))
    · intro k
      refine rd_skip rfl rfl ?_
      refine rd_skip rfl rfl ?_
      refine rd_skip rfl rfl ?_
      refine rd_skip rfl rfl ?_
      refine rd_skip rfl rfl ?_
      refine rd_skip rfl rfl ?_
      refine rd_skip rfl rfl ?_
      refine rd_skip rfl rfl ?_
      refine rd_skip rfl rfl ?_
      refine rd_skip rfl rfl ?_
      refine rd_skip rfl rfl ?_
      refine rd_skip rfl rfl ?_
      refine rd_skip rfl rfl ?_
      refine rd_skip rfl rfl ?_
      refine rd_skip rfl rfl ?_
      refine rd_skip rfl rfl ?_
      refine rd_op (v := vb false) (ov_pick rfl rfl rfl rfl) ?_
      exact rd_weak (sub_cons rfl (sub_skip rfl (sub_skip rfl (sub_skip rfl (sub_skip rfl (sub_skip rfl (sub_skip rfl (sub_skip rfl (sub_skip rfl (sub_skip rfl (sub_skip rfl (sub_skip rfl (sub_skip rfl (sub_skip rfl (sub_skip rfl (sub_skip rfl (sub_skip rfl (sub_skip rfl (sub_refl _))))))))))))))))))) k
    · intro k
      have hb101' := hb101
      try simp only [Bool.or_eq_true, Bool.or_eq_false_iff, Bool.and_eq_true, Bool.and_eq_false_imp, decide_eq_true_eq, decide_eq_false_iff_not, Bool.not_eq_true', Bool.not_eq_false', Bool.not_eq_true, Bool.not_eq_false, Bool.not_true, Bool.not_false, ne_eq] at hb101'
      refine rd_yes rfl rfl (ov_move rfl) ?_
      refine rd_yes rfl rfl (ov_nilCheck rfl rfl) ?_
      refine rd_yes rfl rfl (ov_faddrO rfl) ?_
      refine rd_yes rfl rfl (ov_loadf (k := 0) M_ rfl rfl (mk1 (TR.agg (tSl tB) ru0__answers))) ?_
      refine rd_yes rfl rfl (ov_move rfl) ?_
      refine rd_yes rfl rfl (ov_nilCheck rfl rfl) ?_
      refine rd_yes rfl rfl (ov_faddrO rfl) ?_
      refine rd_yes rfl rfl (ov_loadf (k := 0) M_ rfl rfl rfl) ?_
      refine rd_yes rfl rfl (ov_move rfl) ?_
      refine rd_yes rfl rfl (ov_nilCheck rfl rfl) ?_
      refine rd_yes rfl rfl (ov_faddrO rfl) ?_
      refine rd_yes rfl rfl (ov_loadf (k := 0) M_ rfl rfl (mk1 (TR.agg (tSl tB) ru0__answers))) ?_
      refine rd_yes rfl rfl (ov_bi rfl (sl_len ru0__answers Try.underlying50 _)) ?_
      refine rd_yes rfl rfl (ov_bin rfl rfl (i_rem (by omega))) ?_
      refine rd_yes rfl rfl (ov_iaddr rfl rfl (slB ru0__answers (by first | omega | (have hk := tm_bd hw.1 (n := x0.answers.length) (by omega); omega)) (by first | omega | (have hk := tm_bd hw.1 (n := x0.answers.length) (by omega); omega)))) ?_
      refine rd_yes rfl rfl (ov_load rfl rfl rfl) ?_
      refine rd_op (v := vb (ix x0.answers (Int.tmod x0.next (x0.answers.length : Int)))) (ov_pick rfl rfl rfl rfl) ?_
      exact rd_weak (sub_cons rfl (sub_skip rfl (sub_skip rfl (sub_skip rfl (sub_skip rfl (sub_skip rfl (sub_skip rfl (sub_skip rfl (sub_skip rfl (sub_skip rfl (sub_skip rfl (sub_skip rfl (sub_skip rfl (sub_skip rfl (sub_skip rfl (sub_skip rfl (sub_skip rfl (sub_skip rfl (sub_refl _))))))))))))))))))) k
  refine rd_op (ov_move rfl) ?_
  refine rd_nil ?_
  refine pn_seq ?_
  refine rc_seq ?_
  refine rc_region ?_
  refine rd_op (ov_move rfl) ?_
  refine rd_op (ov_nilCheck rfl rfl) ?_
  refine rd_op (ov_faddrO rfl) ?_
  refine rd_op (ov_loadf (k := 0) M_ rfl rfl rfl) ?_
  refine rd_op (ov_bin rfl rfl i_add) ?_
  refine rd_op (ov_nilCheck rfl rfl) ?_
  refine rd_op (ov_faddrO rfl) ?_
  refine rd_storeF (k := 0) (v := vi (wr (x0.next + 1))) M_ rfl rfl rfl rfl rfl (by first | decide | (simp only [List.length_cons, List.length_nil]; omega) | simp) (fun h102 M102 => ?_)
  replace M102 : Mem h102 (⟨.op i0_ w0_ 0, 66, 4, [.agg [u0__answers, vi (wr (x0.next + 1)), a0__1, a0__3]]⟩ :: ⟨a0__1, 3, 1, es0__1⟩ :: ⟨a0__3, 3, 1, es0__3⟩ :: R_) := M102
  refine rd_nil ?_
  refine pn_seq ?_
  refine rc_seq ?_
  refine rc_region ?_
  refine rd_op (ov_move rfl) ?_
  refine rd_op (ov_move rfl) ?_
  refine rd_nil ?_
  refine pn_seq ?_
  have MZ103 : Mem h102 (⟨.op i0_ w0_ 0, 66, 4, [.agg [u0__answers, vi (wr (x0.next + 1)), a0__1, a0__3]]⟩ :: ⟨a0__1, 3, 1, es0__1⟩ :: ⟨a0__3, 3, 1, es0__3⟩ :: R_) := (Mem.front (k := 2) (Mem.front (k := 2) (Mem.front (k := 2) M102 rfl) rfl) rfl)
  subst hres
  exact rc_retX (.tmp rfl .nil) ⟨u0__answers, a0__1, es0__1, a0__3, es0__3, Mem.sub MZ103 (.cons_cons _ (.cons_cons _ (.cons_cons _ (List.Sublist.refl R_)))), ru0__answers, qs0__1, ne0__1, hl0__1, wi0__2, qs0__3, ne0__3, hl0__3, wi0__4, rfl⟩

/-- (*patchbay/patchbaylaw20.walk).apply -/
def RF40 (i0_ w0_ : Nat) (R_ : List Ent) (res : Bool × law20_walk) (r : PV) (h : Heap) : Prop := ∃ uF0_answers : PV, ∃ aF0_1 : PV, ∃ esF0_1 : List PV, ∃ aF0_3 : PV, ∃ esF0_3 : List PV, Mem h (⟨.op i0_ w0_ 0, 66, 4, [.agg [uF0_answers, vi res.2.next, aF0_1, aF0_3]]⟩ :: ⟨aF0_1, 3, 1, esF0_1⟩ :: ⟨aF0_3, 3, 1, esF0_3⟩ :: R_) ∧ ((tSl tB).R res.2.answers uF0_answers) ∧ (All2 tI.R res.2.tables esF0_1) ∧ (isL aF0_1 = true) ∧ (res.2.tables.length ≤ 4611686018427387904) ∧ (Wri aF0_1 esF0_1) ∧ (All2 tI.R res.2.conds esF0_3) ∧ (isL aF0_3 = true) ∧ (res.2.conds.length ≤ 4611686018427387904) ∧ (Wri aF0_3 esF0_3) ∧ r = vb res.1
theorem f40_ok {x0 : law20_walk} {x1 : Int} {u0__answers : PV} {a0__1 : PV} {es0__1 : List PV} {a0__3 : PV} {es0__3 : List PV} {R_ : List Ent} {h_ : Heap} {i0_ w0_ : Nat} (ru0__answers : (tSl tB).R x0.answers u0__answers) (qs0__1 : All2 tI.R x0.tables es0__1) (ne0__1 : isL a0__1 = true) (hl0__1 : x0.tables.length ≤ 4611686018427387904) (wi0__2 : Wri a0__1 es0__1) (qs0__3 : All2 tI.R x0.conds es0__3) (ne0__3 : isL a0__3 = true) (hl0__3 : x0.conds.length ≤ 4611686018427387904) (wi0__4 : Wri a0__3 es0__3) (M_ : Mem h_ (⟨.op i0_ w0_ 0, 66, 4, [.agg [u0__answers, vi x0.next, a0__1, a0__3]]⟩ :: ⟨a0__1, 3, 1, es0__1⟩ :: ⟨a0__3, 3, 1, es0__3⟩ :: R_)) (hw : 0 ≤ x0.next ∧ x0.next ≤ 100000 ∧ x0.tables.length ≤ 100000 ∧ x0.conds.length ≤ 100000) : ∃ r h2_, FnX Try.prog 40 [.op i0_ w0_ 0, vi x1] h_ r h2_ ∧ RF40 i0_ w0_ R_ (m2_law20_walk__apply x0 x1) r h2_ := by
  obtain ⟨res, hres⟩ : ∃ res, m2_law20_walk__apply x0 x1 = res := ⟨_, rfl⟩
  suffices H : RC Try.prog ac40 [] (retPost Try.prog [(4, none)] (RF40 i0_ w0_ R_ res)) (argE 0 [.op i0_ w0_ 0, vi x1]) h_ by
    rw [hres]
    exact fnX text40 (by simp) H
  unfold m2_law20_walk__apply at hres
  unfold ac40
  refine rc_seq ?_
  refine rc_region ?_
  refine rd_op (v := vb false) (ov_move rfl) ?_
  refine rd_nil ?_
  refine pn_seq ?_
  refine rc_seq ?_
  refine rc_region ?_
  refine rd_op (ov_move rfl) ?_
  refine rd_op (ov_move rfl) ?_
  refine rd_op (ov_nilCheck rfl rfl) ?_
  refine rd_op (ov_faddrO rfl) ?_
  refine rd_op (ov_loadf (k := 0) M_ rfl rfl (mk1 (mem_one (k := 1) M_ rfl ne0__1).2)) ?_
  refine rd_op (ov_move rfl) ?_
  refine rd_op (v := .fs true [vi x1]) (ov_bslice rfl (all_cons rfl all_nil)) ?_
  have r101 : (tSl tI).R ([x1] : List Int) (.fs true [vi x1]) := sl_fs ⟨rfl, trivial⟩ (by simp)
  obtain ⟨nw102, sr102, ar102⟩ := src_of (t := tI) (h := h_) r101
  have f102 : fits (es0__1.length + nw102.length) 8 = true := by rw [All2.length_eq qs0__1, All2.length_eq ar102]; (try simp only [List.length_cons, List.length_nil]); exact fits_of (by first | omega | (simp only [List.length_append, List.length_cons, List.length_nil] at *; omega)) (by first | omega | (simp only [List.length_append, List.length_cons, List.length_nil] at *; omega))
  refine rd_appW (k := 1) (es := es0__1) (news := nw102) M_ rfl rfl rfl ne0__1 wi0__2 sr102 f102 (fun a102 h102 n102 wr102 M102 => ?_)
  have q102 : All2 tI.R (x0.tables ++ ([x1] : List Int)) (es0__1 ++ nw102) := All2.app qs0__1 ar102
  have hl102 : (x0.tables ++ ([x1] : List Int)).length ≤ 4611686018427387904 := by rw [← All2.length_eq q102, List.length_append]; exact fits_len f102
  refine rd_op (ov_nilCheck rfl rfl) ?_
  refine rd_op (ov_faddrO rfl) ?_
  refine rd_storeF (k := 0) (v := a102) M102 rfl rfl rfl (mem_one (k := 1) M102 rfl n102).1 rfl (by first | decide | (simp only [List.length_cons, List.length_nil]; omega) | simp) (fun h103 M103 => ?_)
  replace M103 : Mem h103 (⟨.op i0_ w0_ 0, 66, 4, [.agg [u0__answers, vi x0.next, a102, a0__3]]⟩ :: ⟨a102, 3, 1, (es0__1 ++ nw102)⟩ :: ⟨a0__3, 3, 1, es0__3⟩ :: R_) := M103
  refine rd_nil ?_
  refine pn_seq ?_
  refine rc_seq ?_
  refine rc_region ?_
  refine rd_op (ov_move rfl) ?_
  refine rd_op (ov_move rfl) ?_
  refine rd_op (ov_nilCheck rfl rfl) ?_
  refine rd_op (ov_faddrO rfl) ?_
  refine rd_op (ov_loadf (k := 0) M103 rfl rfl (mk1 (mem_one (k := 2) M103 rfl ne0__3).2)) ?_
  refine rd_op (v := .fs true [vi (-1)]) (ov_bslice rfl (all_cons rfl all_nil)) ?_
  have r104 : (tSl tI).R ([(-1)] : List Int) (.fs true [vi (-1)]) := sl_fs ⟨rfl, trivial⟩ (by simp)
  obtain ⟨nw105, sr105, ar105⟩ := src_of (t := tI) (h := h103) r104
  have f105 : fits (es0__3.length + nw105.length) 8 = true := by rw [All2.length_eq qs0__3, All2.length_eq ar105]; (try simp only [List.length_cons, List.length_nil]); exact fits_of (by first | omega | (simp only [List.length_append, List.length_cons, List.length_nil] at *; omega)) (by first | omega | (simp only [List.length_append, List.length_cons, List.length_nil] at *; omega))
  refine rd_appW (k := 2) (es := es0__3) (news := nw105) M103 rfl rfl rfl ne0__3 wi0__4 sr105 f105 (fun a105 h105 n105 wr105 M105 => ?_)
  have q105 : All2 tI.R (x0.conds ++ ([(-1)] : List Int)) (es0__3 ++ nw105) := All2.app qs0__3 ar105
  have hl105 : (x0.conds ++ ([(-1)] : List Int)).length ≤ 4611686018427387904 := by rw [← All2.length_eq q105, List.length_append]; exact fits_len f105
  refine rd_op (ov_nilCheck rfl rfl) ?_
  refine rd_op (ov_faddrO rfl) ?_
  refine rd_storeF (k := 0) (v := a105) M105 rfl rfl rfl (mem_one (k := 2) M105 rfl n105).1 rfl (by first | decide | (simp only [List.length_cons, List.length_nil]; omega) | simp) (fun h106 M106 => ?_)
  replace M106 : Mem h106 (⟨.op i0_ w0_ 0, 66, 4, [.agg [u0__answers, vi x0.next, a102, a105]]⟩ :: ⟨a102, 3, 1, (es0__1 ++ nw102)⟩ :: ⟨a105, 3, 1, (es0__3 ++ nw105)⟩ :: R_) := M106
  refine rd_nil ?_
  refine pn_seq ?_
  refine rc_seq ?_
  refine rc_regionS ?_
  refine rs_step ?_
  refine rd_op (ov_move rfl) ?_
  refine rs_back ?_
  have M107 : Mem h106 (⟨.op i0_ w0_ 0, 66, 4, [.agg [u0__answers, vi x0.next, a102, a105]]⟩ :: ⟨a102, 3, 1, (es0__1 ++ nw102)⟩ :: ⟨a105, 3, 1, (es0__3 ++ nw105)⟩ :: R_) := (Mem.front (k := 2) (Mem.front (k := 2) (Mem.front (k := 2) M106 rfl) rfl) rfl)
  obtain ⟨y107, hw107, hres⟩ := let_ex hres
  obtain ⟨vr107, h108, hX107, hZ107⟩ := f74_ok (x0 := ({ answers := x0.answers, next := x0.next, tables := (x0.tables ++ ([x1] : List Int)), conds := (x0.conds ++ ([(-1)] : List Int)) } : law20_walk)) ru0__answers q102 n102 hl102 wr102 q105 n105 hl105 wr105 M107 (by exact ⟨hw.1, hw.2.1⟩)
  rw [hw107] at hZ107
  obtain ⟨u107_0_answers, a107_0_1, es107_0_1, a107_0_3, es107_0_3, M108, ru107_0_answers, qs107_0_1, ne107_0_1, hl107_0_1, wi107_0_2, qs107_0_3, ne107_0_3, hl107_0_3, wi107_0_4, hr107⟩ := hZ107
  replace hr107 := hr107.symm; subst hr107
  refine rs_callXc rfl rfl hX107 ?_
  refine rs_step ?_
  refine rd_op (ov_move rfl) ?_
  refine rs_back ?_
  refine rs_nil ?_
  refine pn_seq ?_
  have MZ109 : Mem h108 (⟨.op i0_ w0_ 0, 66, 4, [.agg [u107_0_answers, vi y107.2.next, a107_0_1, a107_0_3]]⟩ :: ⟨a107_0_1, 3, 1, es107_0_1⟩ :: ⟨a107_0_3, 3, 1, es107_0_3⟩ :: R_) := (Mem.front (k := 2) (Mem.front (k := 2) (Mem.front (k := 2) M108 rfl) rfl) rfl)
  subst hres
  exact rc_retX (.tmp rfl .nil) ⟨u107_0_answers, a107_0_1, es107_0_1, a107_0_3, es107_0_3, Mem.sub MZ109 (.cons_cons _ (.cons_cons _ (.cons_cons _ (List.Sublist.refl R_)))), ru107_0_answers, qs107_0_1, ne107_0_1, hl107_0_1, wi107_0_2, qs107_0_3, ne107_0_3, hl107_0_3, wi107_0_4, rfl⟩

/-- (*patchbay/patchbaylaw20.walk).test -/
def RF41 (i0_ w0_ : Nat) (R_ : List Ent) (res : Bool × law20_walk) (r : PV) (h : Heap) : Prop := ∃ uF0_answers : PV, ∃ aF0_1 : PV, ∃ esF0_1 : List PV, ∃ aF0_3 : PV, ∃ esF0_3 : List PV, Mem h (⟨.op i0_ w0_ 0, 66, 4, [.agg [uF0_answers, vi res.2.next, aF0_1, aF0_3]]⟩ :: ⟨aF0_1, 3, 1, esF0_1⟩ :: ⟨aF0_3, 3, 1, esF0_3⟩ :: R_) ∧ ((tSl tB).R res.2.answers uF0_answers) ∧ (All2 tI.R res.2.tables esF0_1) ∧ (isL aF0_1 = true) ∧ (res.2.tables.length ≤ 4611686018427387904) ∧ (Wri aF0_1 esF0_1) ∧ (All2 tI.R res.2.conds esF0_3) ∧ (isL aF0_3 = true) ∧ (res.2.conds.length ≤ 4611686018427387904) ∧ (Wri aF0_3 esF0_3) ∧ r = vb res.1
theorem f41_ok {x0 : law20_walk} {x1 : List api_ExprNode} {v1 : PV} {u0__answers : PV} {a0__1 : PV} {es0__1 : List PV} {a0__3 : PV} {es0__3 : List PV} {R_ : List Ent} {h_ : Heap} {i0_ w0_ : Nat} (r1 : (tSl api_ExprNode.t).R x1 v1) (ru0__answers : (tSl tB).R x0.answers u0__answers) (qs0__1 : All2 tI.R x0.tables es0__1) (ne0__1 : isL a0__1 = true) (hl0__1 : x0.tables.length ≤ 4611686018427387904) (wi0__2 : Wri a0__1 es0__1) (qs0__3 : All2 tI.R x0.conds es0__3) (ne0__3 : isL a0__3 = true) (hl0__3 : x0.conds.length ≤ 4611686018427387904) (wi0__4 : Wri a0__3 es0__3) (M_ : Mem h_ (⟨.op i0_ w0_ 0, 66, 4, [.agg [u0__answers, vi x0.next, a0__1, a0__3]]⟩ :: ⟨a0__1, 3, 1, es0__1⟩ :: ⟨a0__3, 3, 1, es0__3⟩ :: R_)) (hw : 0 ≤ x0.next ∧ x0.next ≤ 100000 ∧ x0.tables.length ≤ 100000 ∧ x0.conds.length ≤ 100000) : ∃ r h2_, FnX Try.prog 41 [.op i0_ w0_ 0, v1] h_ r h2_ ∧ RF41 i0_ w0_ R_ (m2_law20_walk__test x0 x1) r h2_ := by
  obtain ⟨res, hres⟩ : ∃ res, m2_law20_walk__test x0 x1 = res := ⟨_, rfl⟩
  suffices H : RC Try.prog ac41 [] (retPost Try.prog [(4, none)] (RF41 i0_ w0_ R_ res)) (argE 0 [.op i0_ w0_ 0, v1]) h_ by
    rw [hres]
    exact fnX text41 (by simp) H
  unfold m2_law20_walk__test at hres
  unfold ac41
  refine rc_seq ?_
  refine rc_region ?_
  refine rd_op (v := vb false) (ov_move rfl) ?_
  refine rd_nil ?_
  refine pn_seq ?_
  refine rc_seq ?_
  refine rc_region ?_
  refine rd_op (ov_move rfl) ?_
  refine rd_op (ov_move rfl) ?_
  refine rd_op (ov_nilCheck rfl rfl) ?_
  refine rd_op (ov_faddrO rfl) ?_
  refine rd_op (ov_loadf (k := 0) M_ rfl rfl (mk1 (mem_one (k := 2) M_ rfl ne0__3).2)) ?_
  refine rd_op (ov_move rfl) ?_
  refine rd_op (ov_bi rfl (sl_len r1 Try.underlying38 _)) ?_
  refine rd_op (v := .fs true [vi (x1.length : Int)]) (ov_bslice rfl (all_cons rfl all_nil)) ?_
  have r101 : (tSl tI).R ([(x1.length : Int)] : List Int) (.fs true [vi (x1.length : Int)]) := sl_fs ⟨rfl, trivial⟩ (by simp)
  obtain ⟨nw102, sr102, ar102⟩ := src_of (t := tI) (h := h_) r101
  have f102 : fits (es0__3.length + nw102.length) 8 = true := by rw [All2.length_eq qs0__3, All2.length_eq ar102]; (try simp only [List.length_cons, List.length_nil]); exact fits_of (by first | omega | (simp only [List.length_append, List.length_cons, List.length_nil] at *; omega)) (by first | omega | (simp only [List.length_append, List.length_cons, List.length_nil] at *; omega))
  refine rd_appW (k := 2) (es := es0__3) (news := nw102) M_ rfl rfl rfl ne0__3 wi0__4 sr102 f102 (fun a102 h102 n102 wr102 M102 => ?_)
  have q102 : All2 tI.R (x0.conds ++ ([(x1.length : Int)] : List Int)) (es0__3 ++ nw102) := All2.app qs0__3 ar102
  have hl102 : (x0.conds ++ ([(x1.length : Int)] : List Int)).length ≤ 4611686018427387904 := by rw [← All2.length_eq q102, List.length_append]; exact fits_len f102
  refine rd_op (ov_nilCheck rfl rfl) ?_
  refine rd_op (ov_faddrO rfl) ?_
  refine rd_storeF (k := 0) (v := a102) M102 rfl rfl rfl (mem_one (k := 2) M102 rfl n102).1 rfl (by first | decide | (simp only [List.length_cons, List.length_nil]; omega) | simp) (fun h103 M103 => ?_)
  replace M103 : Mem h103 (⟨.op i0_ w0_ 0, 66, 4, [.agg [u0__answers, vi x0.next, a0__1, a102]]⟩ :: ⟨a0__1, 3, 1, es0__1⟩ :: ⟨a102, 3, 1, (es0__3 ++ nw102)⟩ :: R_) := M103
  refine rd_nil ?_
  refine pn_seq ?_
  refine rc_seq ?_
  refine rc_regionS ?_
  refine rs_step ?_
  refine rd_op (ov_move rfl) ?_
  refine rs_back ?_
  have M104 : Mem h103 (⟨.op i0_ w0_ 0, 66, 4, [.agg [u0__answers, vi x0.next, a0__1, a102]]⟩ :: ⟨a0__1, 3, 1, es0__1⟩ :: ⟨a102, 3, 1, (es0__3 ++ nw102)⟩ :: R_) := (Mem.front (k := 2) (Mem.front (k := 2) (Mem.front (k := 2) M103 rfl) rfl) rfl)
  obtain ⟨y104, hw104, hres⟩ := let_ex hres
  obtain ⟨vr104, h105, hX104, hZ104⟩ := f74_ok (x0 := ({ answers := x0.answers, next := x0.next, tables := x0.tables, conds := (x0.conds ++ ([(x1.length : Int)] : List Int)) } : law20_walk)) ru0__answers qs0__1 ne0__1 hl0__1 wi0__2 q102 n102 hl102 wr102 M104 (by exact ⟨hw.1, hw.2.1⟩)
  rw [hw104] at hZ104
  obtain ⟨u104_0_answers, a104_0_1, es104_0_1, a104_0_3, es104_0_3, M105, ru104_0_answers, qs104_0_1, ne104_0_1, hl104_0_1, wi104_0_2, qs104_0_3, ne104_0_3, hl104_0_3, wi104_0_4, hr104⟩ := hZ104
  replace hr104 := hr104.symm; subst hr104
  refine rs_callXc rfl rfl hX104 ?_
  refine rs_step ?_
  refine rd_op (ov_move rfl) ?_
  refine rs_back ?_
  refine rs_nil ?_
  refine pn_seq ?_
  have MZ106 : Mem h105 (⟨.op i0_ w0_ 0, 66, 4, [.agg [u104_0_answers, vi y104.2.next, a104_0_1, a104_0_3]]⟩ :: ⟨a104_0_1, 3, 1, es104_0_1⟩ :: ⟨a104_0_3, 3, 1, es104_0_3⟩ :: R_) := (Mem.front (k := 2) (Mem.front (k := 2) (Mem.front (k := 2) M105 rfl) rfl) rfl)
  subst hres
  exact rc_retX (.tmp rfl .nil) ⟨u104_0_answers, a104_0_1, es104_0_1, a104_0_3, es104_0_3, Mem.sub MZ106 (.cons_cons _ (.cons_cons _ (.cons_cons _ (List.Sublist.refl R_)))), ru104_0_answers, qs104_0_1, ne104_0_1, hl104_0_1, wi104_0_2, qs104_0_3, ne104_0_3, hl104_0_3, wi104_0_4, rfl⟩

/-- patchbay/control.Walk$1 -/
def RF71 (res : Bool) (r : PV) : Prop := r = vb res
theorem f71_ok {x0 : Int} : FnR Try.prog 71 [vi x0] (vb (control_Walk_1 x0)) := by
  obtain ⟨res, hres⟩ : ∃ res, control_Walk_1 x0 = res := ⟨_, rfl⟩
  suffices H : RC Try.prog ac71 [] (QR Try.prog [(2, none)] (RF71 res)) (argE 0 [vi x0]) ⟨0, []⟩ by
    obtain ⟨r, h1, h2⟩ := fnE text71 (by simp) H
    rw [hres]
    have h2 : r = vb res := h2
    rw [← h2]; exact h1
  unfold control_Walk_1 at hres
  unfold ac71
  refine rc_seq ?_
  refine rc_region ?_
  refine rd_op (v := vb false) (ov_move rfl) ?_
  refine rd_nil ?_
  refine pn_seq ?_
  refine rc_seq ?_
  refine rc_region ?_
  refine rd_op (v := vb false) (ov_move rfl) ?_
  refine rd_nil ?_
  refine pn_seq ?_
  subst hres
  exact rc_retV (.tmp rfl .nil) (deep_closed rfl) rfl

/-- patchbay/control.Walk$2 -/
def RF72 (res : Bool) (r : PV) : Prop := r = vb res
theorem f72_ok {x0 : List api_ExprNode} {v0 : PV} (r0 : (tSl api_ExprNode.t).R x0 v0) : FnR Try.prog 72 [v0] (vb (control_Walk_2 x0)) := by
  obtain ⟨res, hres⟩ : ∃ res, control_Walk_2 x0 = res := ⟨_, rfl⟩
  suffices H : RC Try.prog ac72 [] (QR Try.prog [(2, none)] (RF72 res)) (argE 0 [v0]) ⟨0, []⟩ by
    obtain ⟨r, h1, h2⟩ := fnE text72 (by simp) H
    rw [hres]
    have h2 : r = vb res := h2
    rw [← h2]; exact h1
  unfold control_Walk_2 at hres
  unfold ac72
  refine rc_seq ?_
  refine rc_region ?_
  refine rd_op (v := vb false) (ov_move rfl) ?_
  refine rd_nil ?_
  refine pn_seq ?_
  refine rc_seq ?_
  refine rc_region ?_
  refine rd_op (v := vb false) (ov_move rfl) ?_
  refine rd_nil ?_
  refine pn_seq ?_
  subst hres
  exact rc_retV (.tmp rfl .nil) (deep_closed rfl) rfl

theorem wme_mono {i w : Nat} : ∀ k s L, WME i w (k + 1) s L → WME i w k s L := fun k s L h => ⟨h.1.mono, h.2⟩
theorem appv_w (i w : Nat) : APPV 40 [.op i w 0] [] awk (WME i w) := fun k t s L R h hM M => by
  obtain ⟨hb, u, at_, est, ac, esc, rfl, q1, q2, q3, q4, q5, q6, q7, q8, q9⟩ := hM
  obtain ⟨r, h2, X, u2, at2, est2, ac2, esc2, M2, p1, p2, p3, p4, p5, p6, p7, p8, p9, rfl⟩ := f40_ok (x0 := s) (x1 := t) q1 q2 q3 q4 q5 q6 q7 q8 q9 M hb.now
  exact ⟨h2, _, X, ⟨wb_apply hb t, u2, at2, est2, ac2, esc2, rfl, p1, p2, p3, p4, p5, p6, p7, p8, p9⟩, M2⟩
theorem tstv_w (i w : Nat) : TSTV 41 [.op i w 0] [] twk (WME i w) := fun k l vl s L R h hl rl hM M => by
  obtain ⟨hb, u, at_, est, ac, esc, rfl, q1, q2, q3, q4, q5, q6, q7, q8, q9⟩ := hM
  obtain ⟨r, h2, X, u2, at2, est2, ac2, esc2, M2, p1, p2, p3, p4, p5, p6, p7, p8, p9, rfl⟩ := f41_ok (x0 := s) (x1 := l) rl q1 q2 q3 q4 q5 q6 q7 q8 q9 M hb.now
  exact ⟨h2, _, X, ⟨wb_test hb l, u2, at2, est2, ac2, esc2, rfl, p1, p2, p3, p4, p5, p6, p7, p8, p9⟩, M2⟩
def RF39001 (i_ w_ : Nat) (R_ : List Ent) (res : law20_walk) (r : PV) (h : Heap) : Prop := ∃ uF0_answers : PV, ∃ aF0_1 : PV, ∃ esF0_1 : List PV, ∃ aF0_3 : PV, ∃ esF0_3 : List PV, Mem h (⟨.op i_ w_ 0, 66, 4, [.agg [uF0_answers, vi res.next, aF0_1, aF0_3]]⟩ :: ⟨aF0_1, 3, 1, esF0_1⟩ :: ⟨aF0_3, 3, 1, esF0_3⟩ :: R_) ∧ ((tSl tB).R res.answers uF0_answers) ∧ (All2 tI.R res.tables esF0_1) ∧ (isL aF0_1 = true) ∧ (res.tables.length ≤ 4611686018427387904) ∧ (Wri aF0_1 esF0_1) ∧ (All2 tI.R res.conds esF0_3) ∧ (isL aF0_3 = true) ∧ (res.conds.length ≤ 4611686018427387904) ∧ (Wri aF0_3 esF0_3) ∧ r = .tup []
theorem f39001_ok {x0 : List api_ControlNode} {x1 : law20_walk} {v0 : PV} {u1__answers : PV} {a1__1 : PV} {es1__1 : List PV} {a1__3 : PV} {es1__3 : List PV} {R_ : List Ent} {h_ : Heap} {i1_ w1_ : Nat} (r0 : (tSl api_ControlNode.t).R x0 v0) (ru1__answers : (tSl tB).R x1.answers u1__answers) (qs1__1 : All2 tI.R x1.tables es1__1) (ne1__1 : isL a1__1 = true) (hl1__1 : x1.tables.length ≤ 4611686018427387904) (wi1__1 : Wri a1__1 es1__1) (qs1__3 : All2 tI.R x1.conds es1__3) (ne1__3 : isL a1__3 = true) (hl1__3 : x1.conds.length ≤ 4611686018427387904) (wi1__3 : Wri a1__3 es1__3) (M_ : Mem h_ (⟨.op i1_ w1_ 0, 66, 4, [.agg [u1__answers, vi x1.next, a1__1, a1__3]]⟩ :: ⟨a1__1, 3, 1, es1__1⟩ :: ⟨a1__3, 3, 1, es1__3⟩ :: R_)) (hg : GL x0) (hw : WB (csl x0) x1) : ∃ r h2_, FnX Try.prog 39 [v0, .fn (.func 40) [.op i1_ w1_ 0] [], .fn (.func 41) [.op i1_ w1_ 0] []] h_ r h2_ ∧ RF39001 i1_ w1_ R_ (wkAT x0 x1) r h2_ := by
  obtain ⟨h2, L2, X, ⟨hb, u, at_, est, ac, esc, rfl, q1, q2, q3, q4, q5, q6, q7, q8, q9⟩, M2⟩ := f39_walk wme_mono (.inl rfl) (.inl rfl) (appv_w _ _) (tstv_w _ _) (c := x0) (L := [⟨.op i1_ w1_ 0, 66, 4, [.agg [u1__answers, vi x1.next, a1__1, a1__3]]⟩, ⟨a1__1, 3, 1, es1__1⟩, ⟨a1__3, 3, 1, es1__3⟩]) (k := 0) hg r0 ⟨hw, _, _, _, _, _, rfl, ru1__answers, qs1__1, ne1__1, hl1__1, wi1__1, qs1__3, ne1__3, hl1__3, wi1__3⟩ M_
  exact ⟨_, h2, X, u, at_, est, ac, esc, M2, q1, q2, q3, q4, q5, q6, q7, q8, q9, rfl⟩

def RF39002 (i_ w_ : Nat) (R_ : List Ent) (res : law20_walk) (r : PV) (h : Heap) : Prop := ∃ uF0_answers : PV, ∃ aF0_1 : PV, ∃ esF0_1 : List PV, ∃ aF0_3 : PV, ∃ esF0_3 : List PV, Mem h (⟨.op i_ w_ 0, 66, 4, [.agg [uF0_answers, vi res.next, aF0_1, aF0_3]]⟩ :: ⟨aF0_1, 3, 1, esF0_1⟩ :: ⟨aF0_3, 3, 1, esF0_3⟩ :: R_) ∧ ((tSl tB).R res.answers uF0_answers) ∧ (All2 tI.R res.tables esF0_1) ∧ (isL aF0_1 = true) ∧ (res.tables.length ≤ 4611686018427387904) ∧ (Wri aF0_1 esF0_1) ∧ (All2 tI.R res.conds esF0_3) ∧ (isL aF0_3 = true) ∧ (res.conds.length ≤ 4611686018427387904) ∧ (Wri aF0_3 esF0_3) ∧ r = .tup []
theorem f39002_ok {x0 : List api_ControlNode} {x1 : law20_walk} {v0 : PV} {u1__answers : PV} {a1__1 : PV} {es1__1 : List PV} {a1__3 : PV} {es1__3 : List PV} {R_ : List Ent} {h_ : Heap} {i1_ w1_ : Nat} (r0 : (tSl api_ControlNode.t).R x0 v0) (ru1__answers : (tSl tB).R x1.answers u1__answers) (qs1__1 : All2 tI.R x1.tables es1__1) (ne1__1 : isL a1__1 = true) (hl1__1 : x1.tables.length ≤ 4611686018427387904) (wi1__1 : Wri a1__1 es1__1) (qs1__3 : All2 tI.R x1.conds es1__3) (ne1__3 : isL a1__3 = true) (hl1__3 : x1.conds.length ≤ 4611686018427387904) (wi1__3 : Wri a1__3 es1__3) (M_ : Mem h_ (⟨.op i1_ w1_ 0, 66, 4, [.agg [u1__answers, vi x1.next, a1__1, a1__3]]⟩ :: ⟨a1__1, 3, 1, es1__1⟩ :: ⟨a1__3, 3, 1, es1__3⟩ :: R_)) (hg : GL x0) (hw : WB (csl x0) x1) : ∃ r h2_, FnX Try.prog 39 [v0, .fn (.func 40) [.op i1_ w1_ 0] [], .sc .nilFunc] h_ r h2_ ∧ RF39002 i1_ w1_ R_ (wkAN x0 x1) r h2_ := by
  obtain ⟨h2, L2, X, ⟨hb, u, at_, est, ac, esc, rfl, q1, q2, q3, q4, q5, q6, q7, q8, q9⟩, M2⟩ := f39_walk wme_mono (.inl rfl) (.inr ⟨rfl, rfl, rfl, rfl⟩) (appv_w _ _) (tstv_nil wme_mono) (c := x0) (L := [⟨.op i1_ w1_ 0, 66, 4, [.agg [u1__answers, vi x1.next, a1__1, a1__3]]⟩, ⟨a1__1, 3, 1, es1__1⟩, ⟨a1__3, 3, 1, es1__3⟩]) (k := 0) hg r0 ⟨hw, _, _, _, _, _, rfl, ru1__answers, qs1__1, ne1__1, hl1__1, wi1__1, qs1__3, ne1__3, hl1__3, wi1__3⟩ M_
  exact ⟨_, h2, X, u, at_, est, ac, esc, M2, q1, q2, q3, q4, q5, q6, q7, q8, q9, rfl⟩

def RF39003 (i_ w_ : Nat) (R_ : List Ent) (res : law20_walk) (r : PV) (h : Heap) : Prop := ∃ uF0_answers : PV, ∃ aF0_1 : PV, ∃ esF0_1 : List PV, ∃ aF0_3 : PV, ∃ esF0_3 : List PV, Mem h (⟨.op i_ w_ 0, 66, 4, [.agg [uF0_answers, vi res.next, aF0_1, aF0_3]]⟩ :: ⟨aF0_1, 3, 1, esF0_1⟩ :: ⟨aF0_3, 3, 1, esF0_3⟩ :: R_) ∧ ((tSl tB).R res.answers uF0_answers) ∧ (All2 tI.R res.tables esF0_1) ∧ (isL aF0_1 = true) ∧ (res.tables.length ≤ 4611686018427387904) ∧ (Wri aF0_1 esF0_1) ∧ (All2 tI.R res.conds esF0_3) ∧ (isL aF0_3 = true) ∧ (res.conds.length ≤ 4611686018427387904) ∧ (Wri aF0_3 esF0_3) ∧ r = .tup []
theorem f39003_ok {x0 : List api_ControlNode} {x1 : law20_walk} {v0 : PV} {u1__answers : PV} {a1__1 : PV} {es1__1 : List PV} {a1__3 : PV} {es1__3 : List PV} {R_ : List Ent} {h_ : Heap} {i1_ w1_ : Nat} (r0 : (tSl api_ControlNode.t).R x0 v0) (ru1__answers : (tSl tB).R x1.answers u1__answers) (qs1__1 : All2 tI.R x1.tables es1__1) (ne1__1 : isL a1__1 = true) (hl1__1 : x1.tables.length ≤ 4611686018427387904) (wi1__1 : Wri a1__1 es1__1) (qs1__3 : All2 tI.R x1.conds es1__3) (ne1__3 : isL a1__3 = true) (hl1__3 : x1.conds.length ≤ 4611686018427387904) (wi1__3 : Wri a1__3 es1__3) (M_ : Mem h_ (⟨.op i1_ w1_ 0, 66, 4, [.agg [u1__answers, vi x1.next, a1__1, a1__3]]⟩ :: ⟨a1__1, 3, 1, es1__1⟩ :: ⟨a1__3, 3, 1, es1__3⟩ :: R_)) (hg : GL x0) (hw : WB (csl x0) x1) : ∃ r h2_, FnX Try.prog 39 [v0, .sc .nilFunc, .fn (.func 41) [.op i1_ w1_ 0] []] h_ r h2_ ∧ RF39003 i1_ w1_ R_ (wkNT x0 x1) r h2_ := by
  obtain ⟨h2, L2, X, ⟨hb, u, at_, est, ac, esc, rfl, q1, q2, q3, q4, q5, q6, q7, q8, q9⟩, M2⟩ := f39_walk wme_mono (.inr ⟨rfl, rfl, rfl, rfl⟩) (.inl rfl) (appv_nil wme_mono) (tstv_w _ _) (c := x0) (L := [⟨.op i1_ w1_ 0, 66, 4, [.agg [u1__answers, vi x1.next, a1__1, a1__3]]⟩, ⟨a1__1, 3, 1, es1__1⟩, ⟨a1__3, 3, 1, es1__3⟩]) (k := 0) hg r0 ⟨hw, _, _, _, _, _, rfl, ru1__answers, qs1__1, ne1__1, hl1__1, wi1__1, qs1__3, ne1__3, hl1__3, wi1__3⟩ M_
  exact ⟨_, h2, X, u, at_, est, ac, esc, M2, q1, q2, q3, q4, q5, q6, q7, q8, q9, rfl⟩

def RF39004 (R_ : List Ent) (res : Unit) (r : PV) (h : Heap) : Prop := Mem h R_ ∧ r = .tup []
theorem f39004_ok {x0 : List api_ControlNode} {v0 : PV} {R_ : List Ent} {h_ : Heap} (r0 : (tSl api_ControlNode.t).R x0 v0) (M_ : Mem h_ R_) (hg : GL x0) : ∃ r h2_, FnX Try.prog 39 [v0, .sc .nilFunc, .sc .nilFunc] h_ r h2_ ∧ RF39004 R_ (wkNN x0) r h2_ := by
  obtain ⟨h2, L2, X, rfl, M2⟩ := f39_walk (σ := Unit) (ME := fun _ _ L => L = []) (s := ()) (fun _ _ _ h => h) (.inr ⟨rfl, rfl, rfl, rfl⟩) (.inr ⟨rfl, rfl, rfl, rfl⟩) (appv_nil fun _ _ _ h => h) (tstv_nil fun _ _ _ h => h) (k := 0) hg r0 rfl M_
  exact ⟨_, h2, X, M2, rfl⟩

/-- patchbay/control.applies -/
def RF51 (res : Bool) (r : PV) : Prop := r = vb res
theorem f51_ok {x0 : api_ControlNode} {v0 : PV} (r0 : api_ControlNode.t.R x0 v0) : FnR Try.prog 51 [v0] (vb (control_applies x0)) := by
  obtain ⟨res, hres⟩ : ∃ res, control_applies x0 = res := ⟨_, rfl⟩
  suffices H : RC Try.prog ac51 [] (QR Try.prog [(2, none)] (RF51 res)) (argE 0 [v0]) ⟨0, []⟩ by
    obtain ⟨r, h1, h2⟩ := fnE text51 (by simp) H
    rw [hres]
    have h2 : r = vb res := h2
    rw [← h2]; exact h1
  unfold control_applies at hres
  unfold ac51
  refine rc_seq ?_
  refine rc_region ?_
  refine rd_op (ov_box rfl (TR.cnt api_ControlNode.t r0)) ?_
  refine rd_op (v := vb false) (ov_move rfl) ?_
  refine rd_nil ?_
  refine pn_seq ?_
  refine rc_seq ?_
  refine rc_region ?_
  refine rd_op (ov_faddr rfl (api_ControlNode.g_Kind r0)) ?_
  refine rd_op (ov_load rfl rfl rfl) ?_
  refine rd_op (ov_bin rfl rfl i_eql) ?_
  refine rd_op (ov_move rfl) ?_
  refine rd_cut (d := 10) (v := vb ((decide (x0.Kind = 1)) || (decide (x0.Kind = 3)))) ?_ ?_
  · intro S Q r
    simp only [ac51_G1, List.cons_append, List.nil_append, List.append_assoc]
    cases hb101 : (decide (x0.Kind = 1))
    · intro k
      have hb101' := hb101
      try simp only [Bool.or_eq_true, Bool.or_eq_false_iff, Bool.and_eq_true, Bool.and_eq_false_imp, decide_eq_true_eq, decide_eq_false_iff_not, Bool.not_eq_true', Bool.not_eq_false', Bool.not_eq_true, Bool.not_eq_false, Bool.not_true, Bool.not_false, ne_eq] at hb101'
      refine rd_yes rfl rfl (ov_faddr rfl (api_ControlNode.g_Kind r0)) ?_
      refine rd_yes rfl rfl (ov_load rfl rfl rfl) ?_
      refine rd_yes rfl rfl (ov_bin rfl rfl i_eql) ?_
      refine rd_op (v := vb (decide (x0.Kind = 3))) (ov_pick rfl rfl rfl rfl) ?_
      exact rd_weak (sub_cons rfl (sub_skip rfl (sub_skip rfl (sub_skip rfl (sub_skip rfl (sub_refl _)))))) k
    · intro k
      refine rd_skip rfl rfl ?_
      refine rd_skip rfl rfl ?_
      refine rd_skip rfl rfl ?_
      refine rd_op (v := vb true) (ov_pick rfl rfl rfl rfl) ?_
      exact rd_weak (sub_cons rfl (sub_skip rfl (sub_skip rfl (sub_skip rfl (sub_skip rfl (sub_refl _)))))) k
  refine rd_op (ov_move rfl) ?_
  refine rd_nil ?_
  refine pn_seq ?_
  subst hres
  exact rc_retV (.tmp rfl .nil) (deep_closed rfl) rfl

/-- patchbay/control.Tables$1 -/
def RF57 (i1_ w1_ : Nat) (R_ : List Ent) (res : Bool × (List Int)) (r : PV) (h : Heap) : Prop := ∃ aF0_0 : PV, ∃ esF0_0 : List PV, Mem h (⟨.op i1_ w1_ 0, 29, 1, [aF0_0]⟩ :: ⟨aF0_0, 3, 1, esF0_0⟩ :: R_) ∧ (All2 tI.R res.2 esF0_0) ∧ (isL aF0_0 = true) ∧ (res.2.length ≤ 4611686018427387904) ∧ (Wri aF0_0 esF0_0) ∧ r = vb res.1
theorem f57_ok {x0 : api_ControlNode} {c0 : List Int} {v0 : PV} {a1__0 : PV} {es1__0 : List PV} {R_ : List Ent} {h_ : Heap} {i1_ w1_ : Nat} (r0 : api_ControlNode.t.R x0 v0) (qs1__0 : All2 tI.R c0 es1__0) (ne1__0 : isL a1__0 = true) (hl1__0 : c0.length ≤ 4611686018427387904) (wi1__1 : Wri a1__0 es1__0) (M_ : Mem h_ (⟨.op i1_ w1_ 0, 29, 1, [a1__0]⟩ :: ⟨a1__0, 3, 1, es1__0⟩ :: R_)) (hb : c0.length ≤ 1000000) : ∃ r h2_, FnX Try.prog 57 [v0, .op i1_ w1_ 0] h_ r h2_ ∧ RF57 i1_ w1_ R_ (control_Tables_1 x0 c0) r h2_ := by
  obtain ⟨res, hres⟩ : ∃ res, control_Tables_1 x0 c0 = res := ⟨_, rfl⟩
  suffices H : RC Try.prog ac57 [] (retPost Try.prog [(3, none)] (RF57 i1_ w1_ R_ res)) (argE 0 [v0, .op i1_ w1_ 0]) h_ by
    rw [hres]
    exact fnX text57 (by simp) H
  unfold control_Tables_1 at hres
  unfold ac57
  refine rc_seq ?_
  refine rc_region ?_
  refine rd_op (ov_box rfl (TR.cnt api_ControlNode.t r0)) ?_
  refine rd_op (v := vb false) (ov_move rfl) ?_
  refine rd_nil ?_
  refine pn_seq ?_
  refine rc_seq ?_
  refine rc_seq ?_
  refine rc_region ?_
  refine rd_op (ov_load rfl (TR.cnt api_ControlNode.t r0) (TR.agg api_ControlNode.t r0)) ?_
  obtain ⟨y103, hw103, hres⟩ := let_ex hres
  have f103 := f51_ok  r0 
  rw [hw103] at f103
  refine rd_call (cv_fn rfl rfl (clL_cons (TR.clo api_ControlNode.t r0) clL_nil) f103) ?_
  refine rd_nil ?_
  refine pn_seq ?_
  refine rc_cond rfl (fun hc104 => ?_) (fun hc104 => ?_)
  · replace hres := (ite_t hc104).symm.trans hres
    have hc104' := hc104
    try simp only [Bool.or_eq_true, Bool.or_eq_false_iff, Bool.and_eq_true, Bool.and_eq_false_imp, decide_eq_true_eq, decide_eq_false_iff_not, Bool.not_eq_true', Bool.not_eq_false', Bool.not_eq_true, Bool.not_eq_false, Bool.not_true, Bool.not_false, ne_eq] at hc104'
    refine rc_region ?_
    refine rd_op (ov_load0 (k := 0) M_ rfl rfl (mem_one (k := 1) M_ rfl ne1__0).2) ?_
    refine rd_op (ov_faddr rfl (api_ControlNode.g_Table r0)) ?_
    refine rd_op (ov_load rfl rfl rfl) ?_
    refine rd_op (v := .fs true [vi x0.Table]) (ov_bslice rfl (all_cons rfl all_nil)) ?_
    have r105 : (tSl tI).R ([x0.Table] : List Int) (.fs true [vi x0.Table]) := sl_fs ⟨rfl, trivial⟩ (by simp)
    obtain ⟨nw106, sr106, ar106⟩ := src_of (t := tI) (h := h_) r105
    have f106 : fits (es1__0.length + nw106.length) 8 = true := by rw [All2.length_eq qs1__0, All2.length_eq ar106]; (try simp only [List.length_cons, List.length_nil]); exact fits_of (by first | omega | (simp only [List.length_append, List.length_cons, List.length_nil] at *; omega)) (by first | omega | (simp only [List.length_append, List.length_cons, List.length_nil] at *; omega))
    refine rd_appW (k := 1) (es := es1__0) (news := nw106) M_ rfl rfl rfl ne1__0 wi1__1 sr106 f106 (fun a106 h106 n106 wr106 M106 => ?_)
    have q106 : All2 tI.R (c0 ++ ([x0.Table] : List Int)) (es1__0 ++ nw106) := All2.app qs1__0 ar106
    have hl106 : (c0 ++ ([x0.Table] : List Int)).length ≤ 4611686018427387904 := by rw [← All2.length_eq q106, List.length_append]; exact fits_len f106
    refine rd_storeO (k := 0) (v := a106) M106 rfl rfl rfl (mem_cnt1 (k := 1) M106 rfl n106) (fun h107 M107 => ?_)
    replace M107 : Mem h107 (⟨.op i1_ w1_ 0, 29, 1, [a106]⟩ :: ⟨a106, 3, 1, (es1__0 ++ nw106)⟩ :: R_) := M107
    refine rd_nil ?_
    refine pn_seq ?_
    refine rc_seq ?_
    refine rc_region ?_
    refine rd_op (v := vb true) (ov_move rfl) ?_
    refine rd_nil ?_
    refine pn_seq ?_
    have MZ108 : Mem h107 (⟨.op i1_ w1_ 0, 29, 1, [a106]⟩ :: ⟨a106, 3, 1, (es1__0 ++ nw106)⟩ :: R_) := (Mem.front (k := 1) (Mem.front (k := 1) M107 rfl) rfl)
    subst hres
    exact rc_retX (.tmp rfl .nil) ⟨a106, (es1__0 ++ nw106), Mem.sub MZ108 (.cons_cons _ (.cons_cons _ (List.Sublist.refl R_))), q106, n106, hl106, wr106, rfl⟩
  · replace hres := (ite_f hc104).symm.trans hres
    have hc104' := hc104
    try simp only [Bool.or_eq_true, Bool.or_eq_false_iff, Bool.and_eq_true, Bool.and_eq_false_imp, decide_eq_true_eq, decide_eq_false_iff_not, Bool.not_eq_true', Bool.not_eq_false', Bool.not_eq_true, Bool.not_eq_false, Bool.not_true, Bool.not_false, ne_eq] at hc104'
    refine rc_skip ?_
    refine pn_seq ?_
    refine rc_seq ?_
    refine rc_region ?_
    refine rd_op (v := vb true) (ov_move rfl) ?_
    refine rd_nil ?_
    refine pn_seq ?_
    have MZ109 : Mem h_ (⟨.op i1_ w1_ 0, 29, 1, [a1__0]⟩ :: ⟨a1__0, 3, 1, es1__0⟩ :: R_) := (Mem.front (k := 1) (Mem.front (k := 1) M_ rfl) rfl)
    subst hres
    exact rc_retX (.tmp rfl .nil) ⟨a1__0, es1__0, Mem.sub MZ109 (.cons_cons _ (.cons_cons _ (List.Sublist.refl R_))), qs1__0, ne1__0, hl1__0, wi1__1, rfl⟩
def ME57 (i1_ w1_ : Nat) (k_ : Nat) (s_ : (List Int)) (L_ : List Ent) : Prop := (∃ aV0_0 : PV, ∃ esV0_0 : List PV, L_ = (⟨.op i1_ w1_ 0, 29, 1, [aV0_0]⟩ :: ⟨aV0_0, 3, 1, esV0_0⟩ :: []) ∧ (All2 tI.R s_ esV0_0) ∧ (isL aV0_0 = true) ∧ (s_.length ≤ 4611686018427387904) ∧ (Wri aV0_0 esV0_0)) ∧ (s_.length + k_ ≤ 1000000)
theorem mono57 (i1_ w1_ : Nat) : ∀ k_ s_ L_, ME57 i1_ w1_ (k_ + 1) s_ L_ → ME57 i1_ w1_ k_ s_ L_ := fun k_ s_ L_ h_ => ⟨h_.1, by have hi_ := h_.2; omega⟩
theorem hv57 {i1_ w1_ : Nat} : VIS Try.prog 57 [.op i1_ w1_ 0] (fun a_ s_ => control_Tables_1 a_ s_) (ME57 i1_ w1_) (fun _ => True) := by
  intro k_ a_ va_ s_ L_ R_ h_ hg_ ra_ hE_ M_
  obtain ⟨⟨aV0_0, esV0_0, hL_, qsV0_0, neV0_0, hlV0_0, wiV0_1⟩, hi_⟩ := hE_
  subst hL_
  obtain ⟨r_, h2_, hX_, hZ_⟩ := f57_ok (x0 := a_) (c0 := s_) ra_  qsV0_0 neV0_0 hlV0_0 wiV0_1 M_ (by omega)
  obtain ⟨aV0_0n, esV0_0n, M2_, qsV0_0n, neV0_0n, hlV0_0n, wiV0_1n, hr_⟩ := hZ_
  subst hr_
  exact ⟨h2_, _, hX_, ⟨⟨aV0_0n, esV0_0n, rfl, qsV0_0n, neV0_0n, hlV0_0n, wiV0_1n⟩, by (have hk := tables_step a_ s_; show (control_Tables_1 a_ s_).2.length + k_ ≤ 1000000; omega)⟩, M2_⟩

/-- patchbay/control.Tables -/
def RF25 (res : (List Int)) (r : PV) : Prop := (tSl tI).R res r
theorem f25_ok {x0 : List api_ControlNode} {v0 : PV} (r0 : (tSl api_ControlNode.t).R x0 v0) (hs : csl x0 ≤ 1000) : ∃ r, FnR Try.prog 25 [v0] r ∧ (tSl tI).R (control_Tables x0) r := by
  obtain ⟨res, hres⟩ : ∃ res, control_Tables x0 = res := ⟨_, rfl⟩
  suffices H : RC Try.prog ac25 [] (QR Try.prog [(2, none)] (RF25 res)) (argE 0 [v0]) ⟨0, []⟩ by
    rw [hres]
    exact fnE text25 (by simp) H
  unfold control_Tables at hres
  unfold ac25
  refine rc_seq ?_
  refine rc_region ?_
  refine rd_op (v := nilS) (ov_move rfl) ?_
  refine rd_nil ?_
  refine pn_seq ?_
  refine rc_seq ?_
  refine rc_region ?_
  refine rd_allocO (x := nilS) (Mem.nil ⟨0, []⟩) rfl rfl (fun i101 w101 h101 M101 => ?_)
  refine rd_nil ?_
  refine pn_seq ?_
  refine rc_seq ?_
  refine rc_regionS ?_
  refine rs_step ?_
  refine rd_op (ov_move rfl) ?_
  refine rs_back ?_
  refine rs_step ?_
  refine rd_op (v := .fn (.func 57) [] [.op i101 w101 0]) (ov_mkFunc rfl rfl) ?_
  refine rs_back ?_
  have M104 := mem_acc (sz := 1) (es := []) M101 3 (.inl ⟨none, rfl, rfl⟩) (by simp)
  have M103 : Mem h101 [⟨.op i101 w101 0, 29, 1, [nilS]⟩, ⟨nilS, 3, 1, ([] : List PV)⟩] := (Mem.front (k := 1) (Mem.front (k := 0) M104 rfl) rfl)
  obtain ⟨y103, hw103, hres⟩ := let_ex hres
  obtain ⟨h103, L103, hX103, hE103, M103v⟩ : ∃ h2 L2, FnX Try.prog 48 [v0, .fn (.func 57) [] [.op i101 w101 0]] h101 (vb y103.1) h2 ∧ ME57 i101 w101 0 y103.2 L2 ∧ Mem h2 (L2 ++ []) := by
    rw [← hw103]
    exact f48_pre (mono57 i101 w101) (hv57  ) _ _ (Nat.lt_succ_self _) (by exact fun _ _ => trivial) 0 _ ([] : List Int) [⟨.op i101 w101 0, 29, 1, [nilS]⟩, ⟨nilS, 3, 1, ([] : List PV)⟩] [] _ r0 (show ME57 i101 w101 (csl x0 + 0) ([] : List Int) [⟨.op i101 w101 0, 29, 1, [nilS]⟩, ⟨nilS, 3, 1, ([] : List PV)⟩] from ⟨⟨nilS, ([] : List PV), rfl, (show All2 tI.R ([] : List Int) [] from trivial), rfl, (by first | decide | simp), (.inl rfl)⟩, by (simp; omega)⟩) M103
  obtain ⟨⟨a103_0_0, es103_0_0, hL103, qs103_0_0, ne103_0_0, hl103_0_0, wi103_0_1⟩, hi103⟩ := hE103
  subst hL103
  replace M103v : Mem h103 [⟨.op i101 w101 0, 29, 1, [a103_0_0]⟩, ⟨a103_0_0, 3, 1, es103_0_0⟩] := M103v
  refine rs_callX rfl rfl hX103 ?_
  refine rs_nil ?_
  refine pn_seq ?_
  refine rc_seq ?_
  refine rc_region ?_
  refine rd_op (ov_load0 (k := 0) M103v rfl rfl (mem_one (k := 1) M103v rfl ne103_0_0).2) ?_
  refine rd_op (ov_move rfl) ?_
  refine rd_nil ?_
  refine pn_seq ?_
  obtain ⟨v106, d106, r106⟩ := own_sl (P := Try.prog) (k := 1) (t := tI) M103v rfl ne103_0_0 qs103_0_0 (Nat.le_trans hl103_0_0 (by decide))
  subst hres
  exact rc_retV (.tmp rfl .nil) d106 r106

/-- patchbay/control.Count$1 -/
def RF56 (i1_ w1_ : Nat) (R_ : List Ent) (res : Bool × Int) (r : PV) (h : Heap) : Prop := Mem h (⟨.op i1_ w1_ 0, 3, 1, [vi res.2]⟩ :: R_) ∧ r = vb res.1
theorem f56_ok {x0 : api_ControlNode} {c0 : Int} {v0 : PV} {R_ : List Ent} {h_ : Heap} {i1_ w1_ : Nat} (r0 : api_ControlNode.t.R x0 v0) (M_ : Mem h_ (⟨.op i1_ w1_ 0, 3, 1, [vi c0]⟩ :: R_)) : ∃ r h2_, FnX Try.prog 56 [v0, .op i1_ w1_ 0] h_ r h2_ ∧ RF56 i1_ w1_ R_ (control_Count_1 x0 c0) r h2_ := by
  obtain ⟨res, hres⟩ : ∃ res, control_Count_1 x0 c0 = res := ⟨_, rfl⟩
  suffices H : RC Try.prog ac56 [] (retPost Try.prog [(3, none)] (RF56 i1_ w1_ R_ res)) (argE 0 [v0, .op i1_ w1_ 0]) h_ by
    rw [hres]
    exact fnX text56 (by simp) H
  unfold control_Count_1 at hres
  unfold ac56
  refine rc_seq ?_
  refine rc_region ?_
  refine rd_op (ov_box rfl (TR.cnt api_ControlNode.t r0)) ?_
  refine rd_op (v := vb false) (ov_move rfl) ?_
  refine rd_nil ?_
  refine pn_seq ?_
  refine rc_seq ?_
  refine rc_region ?_
  refine rd_op (ov_load0 (k := 0) M_ rfl rfl rfl) ?_
  refine rd_op (ov_bin rfl rfl i_add) ?_
  refine rd_storeO (k := 0) (v := vi (wr (c0 + 1))) M_ rfl rfl rfl rfl (fun h102 M102 => ?_)
  replace M102 : Mem h102 (⟨.op i1_ w1_ 0, 3, 1, [vi (wr (c0 + 1))]⟩ :: R_) := M102
  refine rd_nil ?_
  refine pn_seq ?_
  refine rc_seq ?_
  refine rc_region ?_
  refine rd_op (v := vb true) (ov_move rfl) ?_
  refine rd_nil ?_
  refine pn_seq ?_
  have MZ103 : Mem h102 (⟨.op i1_ w1_ 0, 3, 1, [vi (wr (c0 + 1))]⟩ :: R_) := (Mem.front (k := 0) M102 rfl)
  subst hres
  exact rc_retX (.tmp rfl .nil) ⟨Mem.sub MZ103 (.cons_cons _ (List.Sublist.refl R_)), rfl⟩
def ME56 (i1_ w1_ : Nat) (k_ : Nat) (s_ : Int) (L_ : List Ent) : Prop := (L_ = (⟨.op i1_ w1_ 0, 3, 1, [vi s_]⟩ :: [])) ∧ (True)
theorem mono56 (i1_ w1_ : Nat) : ∀ k_ s_ L_, ME56 i1_ w1_ (k_ + 1) s_ L_ → ME56 i1_ w1_ k_ s_ L_ := fun k_ s_ L_ h_ => ⟨h_.1, by have hi_ := h_.2; trivial⟩
theorem hv56 {i1_ w1_ : Nat} : VIS Try.prog 56 [.op i1_ w1_ 0] (fun a_ s_ => control_Count_1 a_ s_) (ME56 i1_ w1_) (fun _ => True) := by
  intro k_ a_ va_ s_ L_ R_ h_ hg_ ra_ hE_ M_
  obtain ⟨hL_, hi_⟩ := hE_
  subst hL_
  obtain ⟨r_, h2_, hX_, hZ_⟩ := f56_ok (x0 := a_) (c0 := s_) ra_   M_ 
  obtain ⟨M2_, hr_⟩ := hZ_
  subst hr_
  exact ⟨h2_, _, hX_, ⟨rfl, by trivial⟩, M2_⟩

/-- patchbay/control.Count -/
def RF20 (res : Int) (r : PV) : Prop := r = vi res
theorem f20_ok {x0 : List api_ControlNode} {v0 : PV} (r0 : (tSl api_ControlNode.t).R x0 v0) : FnR Try.prog 20 [v0] (vi (control_Count x0)) := by
  obtain ⟨res, hres⟩ : ∃ res, control_Count x0 = res := ⟨_, rfl⟩
  suffices H : RC Try.prog ac20 [] (QR Try.prog [(2, none)] (RF20 res)) (argE 0 [v0]) ⟨0, []⟩ by
    obtain ⟨r, h1, h2⟩ := fnE text20 (by simp) H
    rw [hres]
    have h2 : r = vi res := h2
    rw [← h2]; exact h1
  unfold control_Count at hres
  unfold ac20
  refine rc_seq ?_
  refine rc_region ?_
  refine rd_op (v := vi 0) (ov_move rfl) ?_
  refine rd_nil ?_
  refine pn_seq ?_
  refine rc_seq ?_
  refine rc_region ?_
  refine rd_allocO (x := vi 0) (Mem.nil ⟨0, []⟩) rfl rfl (fun i101 w101 h101 M101 => ?_)
  refine rd_storeO (k := 0) (v := vi 0) M101 rfl rfl rfl rfl (fun h103 M103 => ?_)
  replace M103 : Mem h103 [⟨.op i101 w101 0, 3, 1, [vi 0]⟩] := M103
  refine rd_nil ?_
  refine pn_seq ?_
  refine rc_seq ?_
  refine rc_regionS ?_
  refine rs_step ?_
  refine rd_op (ov_move rfl) ?_
  refine rs_back ?_
  refine rs_step ?_
  refine rd_op (v := .fn (.func 56) [] [.op i101 w101 0]) (ov_mkFunc rfl rfl) ?_
  refine rs_back ?_
  have M104 : Mem h103 [⟨.op i101 w101 0, 3, 1, [vi 0]⟩] := (Mem.front (k := 0) M103 rfl)
  obtain ⟨y104, hw104, hres⟩ := let_ex hres
  obtain ⟨h104, L104, hX104, hE104, M104v⟩ : ∃ h2 L2, FnX Try.prog 48 [v0, .fn (.func 56) [] [.op i101 w101 0]] h103 (vb y104.1) h2 ∧ ME56 i101 w101 0 y104.2 L2 ∧ Mem h2 (L2 ++ []) := by
    rw [← hw104]
    exact f48_pre (mono56 i101 w101) (hv56  ) _ _ (Nat.lt_succ_self _) (by exact fun _ _ => trivial) 0 _ 0 [⟨.op i101 w101 0, 3, 1, [vi 0]⟩] [] _ r0 (show ME56 i101 w101 (csl x0 + 0) 0 [⟨.op i101 w101 0, 3, 1, [vi 0]⟩] from ⟨rfl, by trivial⟩) M104
  obtain ⟨hL104, hi104⟩ := hE104
  subst hL104
  replace M104v : Mem h104 [⟨.op i101 w101 0, 3, 1, [vi y104.2]⟩] := M104v
  refine rs_callX rfl rfl hX104 ?_
  refine rs_nil ?_
  refine pn_seq ?_
  refine rc_seq ?_
  refine rc_region ?_
  refine rd_op (ov_load0 (k := 0) M104v rfl rfl rfl) ?_
  refine rd_op (ov_move rfl) ?_
  refine rd_nil ?_
  refine pn_seq ?_
  subst hres
  exact rc_retV (.tmp rfl .nil) (deep_closed rfl) rfl

/-- patchbay/control.cloneAll -/
def RF78 (res : (List api_ControlNode)) (r : PV) : Prop := (tSl api_ControlNode.t).R res r
theorem control_cloneAll_H_L1_ok {S : List Fr} {res : (List api_ControlNode)} {x0 : List api_ControlNode} {rec55_ : api_ControlNode → api_ControlNode} {v0 : PV} (r0 : (tSl api_ControlNode.t).R x0 v0) (hg : GL x0) (ih55_ : ∀ {z0 : api_ControlNode} {zv0 : PV} (zr0 : api_ControlNode.t.R z0 zv0), GN z0 → csn z0 ≤ csl x0 → ∃ r, FnR Try.prog 55 [zv0] r ∧ api_ControlNode.t.R (rec55_ z0) r) {K0 : (List api_ControlNode) → (List api_ControlNode)}
    (hK0 : ∀ (zE102 : List api_ControlNode) (esE102 : List PV) (aE102 : PV) (qE102 : All2 api_ControlNode.t.R zE102 esE102) (nE102 : isL aE102 = true) (wrE102 : Wri aE102 esE102) (hlE102 : zE102.length ≤ 4611686018427387904) (h : Heap) (M0 : Mem h [⟨aE102, 40, 5, esE102⟩]), K0 zE102 = res → PX Try.prog 0 S (QR Try.prog [(2, none)] (RF78 res)) [(3, aE102)] h) :
    ∀ (m : Nat) (x8_ : Int) (zE102 : List api_ControlNode) (esE102 : List PV) (aE102 : PV) (qE102 : All2 api_ControlNode.t.R zE102 esE102) (nE102 : isL aE102 = true) (wrE102 : Wri aE102 esE102) (hlE102 : zE102.length ≤ 4611686018427387904) (hm1 : m = Int.toNat ((x0.length : Int) - x8_)) (hlo1 : 0 ≤ x8_) (iv1_0 : (zE102.length : Int) ≤ x8_) (h : Heap) (M0 : Mem h [⟨aE102, 40, 5, esE102⟩]), control_cloneAll_H_L1 x0 rec55_ K0 m x8_ zE102 = res → RC Try.prog (.loop ac78_L1) S (QR Try.prog [(2, none)] (RF78 res)) [(8, vi x8_), (7, vi (x0.length : Int)), (6, v0), (3, aE102)] h := by
  intro m
  induction m with
  | zero =>
    intro x8_ zE102 esE102 aE102 qE102 nE102 wrE102 hlE102 hm1 hlo1 iv1_0 h M0 hres
    rw [control_cloneAll_H_L1] at hres
    refine rc_loop ?_
    unfold ac78_L1
    refine rc_seq ?_
    refine rc_region ?_
    refine rd_op (ov_bin rfl rfl i_lss) ?_
    refine rd_nil ?_
    refine pn_seq ?_
    refine rc_seq ?_
    refine rc_cond rfl (fun hc103 => ?_) (fun hc103 => ?_)
    · exfalso
      try simp only [Bool.or_eq_true, Bool.or_eq_false_iff, Bool.and_eq_true, Bool.and_eq_false_imp, decide_eq_true_eq, decide_eq_false_iff_not, Bool.not_eq_true', Bool.not_eq_false', Bool.not_eq_true, Bool.not_eq_false, Bool.not_true, Bool.not_false, ne_eq] at hc103
      omega
    · have hend := hres
      have hc103' := hc103
      try simp only [Bool.or_eq_true, Bool.or_eq_false_iff, Bool.and_eq_true, Bool.and_eq_false_imp, decide_eq_true_eq, decide_eq_false_iff_not, Bool.not_eq_true', Bool.not_eq_false', Bool.not_eq_true, Bool.not_eq_false, Bool.not_true, Bool.not_false, ne_eq] at hc103'
      refine rc_exit ?_
      refine px_seq ?_
      refine px_again ?_
      exact px_weak ((sub_cons rfl (sub_nil _))) (hK0 zE102 esE102 aE102 qE102 nE102 wrE102 hlE102 _ (Mem.sub M0 (.cons_cons _ .slnil)) hres)
  | succ m ih =>
    intro x8_ zE102 esE102 aE102 qE102 nE102 wrE102 hlE102 hm1 hlo1 iv1_0 h M0 hres
    rw [control_cloneAll_H_L1] at hres
    refine rc_loop ?_
    unfold ac78_L1
    refine rc_seq ?_
    refine rc_region ?_
    refine rd_op (ov_bin rfl rfl i_lss) ?_
    refine rd_nil ?_
    refine pn_seq ?_
    refine rc_seq ?_
    refine rc_cond rfl (fun hc104 => ?_) (fun hc104 => ?_)
    · have hgo := hres
      have hc104' := hc104
      try simp only [Bool.or_eq_true, Bool.or_eq_false_iff, Bool.and_eq_true, Bool.and_eq_false_imp, decide_eq_true_eq, decide_eq_false_iff_not, Bool.not_eq_true', Bool.not_eq_false', Bool.not_eq_true, Bool.not_eq_false, Bool.not_true, Bool.not_false, ne_eq] at hc104'
      refine rc_skip ?_
      refine pn_seq ?_
      refine rc_seq ?_
      refine rc_block ?_
      refine rc_seq ?_
      refine rc_region ?_
      obtain ⟨v105, e105, r105⟩ := sl_idx (i := x8_) r0 (by omega) (by omega)
      refine rd_op (ov_iaddr rfl rfl e105) ?_
      refine rd_op (ov_load rfl (TR.cnt api_ControlNode.t r105) (TR.agg api_ControlNode.t r105)) ?_
      refine rd_allocO (x := .agg [vi 0, vi 0, nilS, nilS, nilS]) M0 rfl rfl (fun i106 w106 h106 M106 => ?_)
      refine rd_storeO (k := 0) (v := v105) M106 rfl rfl rfl (TR.cnt api_ControlNode.t r105) (fun h108 M108 => ?_)
      replace M108 : Mem h108 [⟨.op i106 w106 0, 40, 5, [v105]⟩, ⟨aE102, 40, 5, esE102⟩] := M108
      refine rd_nil ?_
      refine pn_seq ?_
      refine rc_region ?_
      refine rd_op (ov_move rfl) ?_
      refine rd_op (ov_load0 (k := 0) M108 rfl rfl (TR.agg api_ControlNode.t r105)) ?_
      obtain ⟨y109, hw109, hres⟩ := let_ex hres
      obtain ⟨v110, f109, r110⟩ := ih55_ (z0 := (ix x0 x8_)) r105 (by exact hg.at (by omega) (by omega)) (by exact csl_mem (ix_mem (by omega) (by omega)))
      rw [hw109] at r110
      refine rd_call (cv_fn rfl rfl (clL_cons (TR.clo api_ControlNode.t r105) clL_nil) f109) ?_
      refine rd_op (v := .fs true [v110]) (ov_bslice rfl (all_cons (TR.cnt api_ControlNode.t r110) all_nil)) ?_
      have r111 : (tSl api_ControlNode.t).R ([y109] : List api_ControlNode) (.fs true [v110]) := sl_fs ⟨r110, trivial⟩ (by simp)
      obtain ⟨nw112, sr112, ar112⟩ := src_of (t := api_ControlNode.t) (h := h108) r111
      have f112 : fits (esE102.length + nw112.length) 88 = true := by rw [All2.length_eq qE102, All2.length_eq ar112]; (try simp only [List.length_cons, List.length_nil]); exact fits_of (by (have hk := hg.len; first | omega | (simp only [List.length_append, List.length_cons, List.length_nil]; omega))) (by (have hk := hg.len; first | omega | (simp only [List.length_append, List.length_cons, List.length_nil]; omega)))
      refine rd_appW (k := 1) (es := esE102) (news := nw112) M108 rfl rfl rfl nE102 wrE102 sr112 f112 (fun a112 h112 n112 wr112 M112 => ?_)
      have q112 : All2 api_ControlNode.t.R (zE102 ++ ([y109] : List api_ControlNode)) (esE102 ++ nw112) := All2.app qE102 ar112
      have hl112 : (zE102 ++ ([y109] : List api_ControlNode)).length ≤ 4611686018427387904 := by rw [← All2.length_eq q112, List.length_append]; exact fits_len f112
      refine rd_op (ov_move rfl) ?_
      refine rd_nil ?_
      refine pn_blk ?_
      refine pn_seq ?_
      refine rc_region ?_
      refine rd_op (ov_bin rfl rfl i_add) ?_
      refine rd_op (ov_move rfl) ?_
      refine rd_nil ?_
      refine pn_again ?_
      have hbd := sl_bound r0
      have hinc : wr (x8_ + 1) = x8_ + 1 := wr_of (by omega) (by omega)
      rw [hinc]
      refine rc_weak ?_ (ih (x8_ + 1) (zE102 ++ ([y109] : List api_ControlNode)) (esE102 ++ nw112) a112 q112 n112 wr112 hl112 (by omega) (by omega) (by (simp only [List.length_append, List.length_cons, List.length_nil]; omega)) _ (Mem.sub M112 (.cons _ (.cons_cons _ .slnil))) hres)
      exact ((sub_cons rfl (sub_cons rfl (sub_cons rfl (sub_cons rfl (sub_nil _))))))
    · exfalso
      try simp only [Bool.or_eq_true, Bool.or_eq_false_iff, Bool.and_eq_true, Bool.and_eq_false_imp, decide_eq_true_eq, decide_eq_false_iff_not, Bool.not_eq_true', Bool.not_eq_false', Bool.not_eq_true, Bool.not_eq_false, Bool.not_true, Bool.not_false, ne_eq] at hc104
      omega

theorem f78_okH {rec55_ : api_ControlNode → api_ControlNode} {x0 : List api_ControlNode} {v0 : PV} (r0 : (tSl api_ControlNode.t).R x0 v0) (hg : GL x0) (ih55_ : ∀ {z0 : api_ControlNode} {zv0 : PV} (zr0 : api_ControlNode.t.R z0 zv0), GN z0 → csn z0 ≤ csl x0 → ∃ r, FnR Try.prog 55 [zv0] r ∧ api_ControlNode.t.R (rec55_ z0) r) : ∃ r, FnR Try.prog 78 [v0] r ∧ (tSl api_ControlNode.t).R (control_cloneAll_H rec55_ x0) r := by
  obtain ⟨res, hres⟩ : ∃ res, control_cloneAll_H rec55_ x0 = res := ⟨_, rfl⟩
  suffices H : RC Try.prog ac78 [] (QR Try.prog [(2, none)] (RF78 res)) (argE 0 [v0]) ⟨0, []⟩ by
    rw [hres]
    exact fnE text78 (by simp) H
  unfold control_cloneAll_H at hres
  unfold ac78
  refine rc_seq ?_
  refine rc_region ?_
  refine rd_op (v := nilS) (ov_move rfl) ?_
  refine rd_nil ?_
  refine pn_seq ?_
  refine rc_seq ?_
  refine rc_region ?_
  refine rd_op (v := nilS) (ov_move rfl) ?_
  refine rd_nil ?_
  refine pn_seq ?_
  refine rc_seq ?_
  refine rc_seq ?_
  refine rc_region ?_
  refine rd_op (ov_move rfl) ?_
  refine rd_op (ov_bi rfl (sl_len r0 Try.underlying28 _)) ?_
  refine rd_op (v := vi 0) (ov_move rfl) ?_
  refine rd_nil ?_
  refine pn_seq ?_
  refine rc_block ?_
  have M101 := mem_acc (sz := 5) (es := []) (Mem.nil ⟨0, []⟩) 40 (.inl ⟨none, rfl, rfl⟩) (by simp)
  refine rc_weak ?_ (control_cloneAll_H_L1_ok (x0 := x0) (rec55_ := rec55_) (v0 := v0)  (r0 := r0) (hg := hg) (ih55_ := ih55_) ?_ (Int.toNat ((x0.length : Int) - 0)) 0 ([] : List api_ControlNode) ([] : List PV) nilS (show All2 api_ControlNode.t.R ([] : List api_ControlNode) [] from trivial) rfl (.inl rfl) (by first | decide | simp) rfl (by omega) (by simp) _ (Mem.sub M101 (.cons_cons _ .slnil)) hres)
  · exact ((sub_cons rfl (sub_cons rfl (sub_cons rfl (sub_cons rfl (sub_nil _))))))
  · intro zE102_113 es113E102 a113E102 q113E102 n113E102 wr113E102 hl113E102 h113 M113 hres
    refine px_blk ?_
    refine pn_seq ?_
    refine rc_seq ?_
    refine rc_region ?_
    refine rd_op (ov_move rfl) ?_
    refine rd_op (ov_move rfl) ?_
    refine rd_nil ?_
    refine pn_seq ?_
    obtain ⟨v114, d114, r114⟩ := own_sl (P := Try.prog) (k := 0) (t := api_ControlNode.t) M113 rfl n113E102 q113E102 (Nat.le_trans hl113E102 (by decide))
    subst hres
    exact rc_retV (.tmp rfl .nil) d114 r114

/-- patchbay/control.clone -/
def RF55 (res : api_ControlNode) (r : PV) : Prop := api_ControlNode.t.R res r
theorem f55_okH {rec78_ : (List api_ControlNode) → (List api_ControlNode)} {x0 : api_ControlNode} {v0 : PV} (r0 : api_ControlNode.t.R x0 v0) (hg : GN x0) (ih78_ : ∀ {z0 : List api_ControlNode} {zv0 : PV} (zr0 : (tSl api_ControlNode.t).R z0 zv0), GL z0 → csl z0 < csn x0 → ∃ r, FnR Try.prog 78 [zv0] r ∧ (tSl api_ControlNode.t).R (rec78_ z0) r) : ∃ r, FnR Try.prog 55 [v0] r ∧ api_ControlNode.t.R (control_clone_H rec78_ x0) r := by
  obtain ⟨res, hres⟩ : ∃ res, control_clone_H rec78_ x0 = res := ⟨_, rfl⟩
  suffices H : RC Try.prog ac55 [] (QR Try.prog [(2, some (5, true))] (RF55 res)) (argE 0 [v0]) ⟨0, []⟩ by
    rw [hres]
    exact fnE text55 (by simp) H
  unfold control_clone_H at hres
  unfold ac55
  refine rc_seq ?_
  refine rc_region ?_
  refine rd_boxO (x := v0) (Mem.nil ⟨0, []⟩) rfl (TR.cnt api_ControlNode.t r0) (fun i101 w101 h101 M101 => ?_)
  refine rd_allocO (x := .agg [vi 0, vi 0, nilS, nilS, nilS]) M101 rfl rfl (fun i103 w103 h103 M103 => ?_)
  refine rd_nil ?_
  refine pn_seq ?_
  refine rc_seq ?_
  refine rc_region ?_
  refine rd_op (ov_faddrO rfl) ?_
  obtain ⟨v105, e105, r105⟩ := api_ControlNode.g_Cond r0
  refine rd_op (ov_loadf (k := 1) M103 rfl rfl e105) ?_
  have M106 := mem_acc (sz := 3) (es := []) M103 106 (.inl ⟨none, rfl, rfl⟩) (by simp)
  obtain ⟨nw108, sr108, ar108⟩ := src_of (t := api_ExprNode.t) (h := h103) r105
  have f108 : fits (([] : List PV).length + nw108.length) 24 = true := by rw [All2.length_eq (show All2 api_ExprNode.t.R ([] : List api_ExprNode) [] from trivial), All2.length_eq ar108]; (try simp only [List.length_cons, List.length_nil]); exact fits_of (by (have hk := hg.cond; first | omega | (simp only [List.length_append, List.length_cons, List.length_nil] at *; omega))) (by (have hk := hg.cond; first | omega | (simp only [List.length_append, List.length_cons, List.length_nil] at *; omega)))
  refine rd_appW (k := 0) (es := ([] : List PV)) (news := nw108) M106 rfl rfl rfl rfl (.inl rfl) sr108 f108 (fun a108 h108 n108 wr108 M108 => ?_)
  have q108 : All2 api_ExprNode.t.R x0.Cond (([] : List PV) ++ nw108) := All2.app (show All2 api_ExprNode.t.R ([] : List api_ExprNode) [] from trivial) ar108
  have hl108 : x0.Cond.length ≤ 4611686018427387904 := by rw [← All2.length_eq q108, List.length_append]; exact fits_len f108
  refine rd_op (ov_faddrO rfl) ?_
  obtain ⟨v110_c2, v110_c3, v110_c4, e110, r110_c2, r110_c3, r110_c4⟩ := api_ControlNode.op_of r0
  subst e110
  refine rd_storeF (k := 2) (v := a108) M108 rfl rfl rfl (mem_one (k := 0) M108 rfl n108).1 rfl (by first | decide | (simp only [List.length_cons, List.length_nil]; omega) | simp) (fun h109 M109 => ?_)
  replace M109 : Mem h109 [⟨a108, 106, 3, (([] : List PV) ++ nw108)⟩, ⟨.op i103 w103 0, 40, 5, [.agg [vi 0, vi 0, nilS, nilS, nilS]]⟩, ⟨.op i101 w101 0, 40, 5, [.agg [vi x0.Kind, vi x0.Table, a108, v110_c3, v110_c4]]⟩] := M109
  refine rd_nil ?_
  refine pn_seq ?_
  refine rc_seq ?_
  refine rc_region ?_
  refine rd_op (ov_faddrO rfl) ?_
  refine rd_op (ov_loadf (k := 2) M109 rfl rfl (mk1 (TR.agg (tSl api_ControlNode.t) r110_c3))) ?_
  obtain ⟨y111, hw111, hres⟩ := let_ex hres
  obtain ⟨v112, f111, r112⟩ := ih78_ (z0 := x0.Then) r110_c3 (by first | exact hg.thn | exact hg.els) (by (rw [csn_eq]; omega))
  rw [hw111] at r112
  refine rd_call (cv_fn rfl rfl (clL_cons (TR.clo (tSl api_ControlNode.t) r110_c3) clL_nil) f111) ?_
  refine rd_op (ov_faddrO rfl) ?_
  refine rd_op (ov_loadf (k := 2) M109 rfl rfl (mk1 (TR.agg (tSl api_ControlNode.t) r110_c4))) ?_
  obtain ⟨y113, hw113, hres⟩ := let_ex hres
  obtain ⟨v114, f113, r114⟩ := ih78_ (z0 := x0.Else) r110_c4 (by first | exact hg.thn | exact hg.els) (by (rw [csn_eq]; omega))
  rw [hw113] at r114
  refine rd_call (cv_fn rfl rfl (clL_cons (TR.clo (tSl api_ControlNode.t) r110_c4) clL_nil) f113) ?_
  refine rd_op (ov_faddrO rfl) ?_
  refine rd_storeF (k := 2) (v := v112) M109 rfl rfl rfl (cells_one (TR.cnt (tSl api_ControlNode.t) r112) (TR.agg (tSl api_ControlNode.t) r112)) rfl (by first | decide | (simp only [List.length_cons, List.length_nil]; omega) | simp) (fun h115 M115 => ?_)
  replace M115 : Mem h115 [⟨a108, 106, 3, (([] : List PV) ++ nw108)⟩, ⟨.op i103 w103 0, 40, 5, [.agg [vi 0, vi 0, nilS, nilS, nilS]]⟩, ⟨.op i101 w101 0, 40, 5, [.agg [vi x0.Kind, vi x0.Table, a108, v112, v110_c4]]⟩] := M115
  refine rd_op (ov_faddrO rfl) ?_
  refine rd_storeF (k := 2) (v := v114) M115 rfl rfl rfl (cells_one (TR.cnt (tSl api_ControlNode.t) r114) (TR.agg (tSl api_ControlNode.t) r114)) rfl (by first | decide | (simp only [List.length_cons, List.length_nil]; omega) | simp) (fun h116 M116 => ?_)
  replace M116 : Mem h116 [⟨a108, 106, 3, (([] : List PV) ++ nw108)⟩, ⟨.op i103 w103 0, 40, 5, [.agg [vi 0, vi 0, nilS, nilS, nilS]]⟩, ⟨.op i101 w101 0, 40, 5, [.agg [vi x0.Kind, vi x0.Table, a108, v112, v114]]⟩] := M116
  refine rd_nil ?_
  refine pn_seq ?_
  refine rc_seq ?_
  refine rc_regionS ?_
  refine rs_step ?_
  refine rd_op (ov_load0 (k := 2) M116 rfl rfl rfl) ?_
  refine rs_back ?_
  refine rs_freeze (k := 0) (E' := fun v117 => [(15, .agg [vi x0.Kind, vi x0.Table, v117, v112, v114]), (14, .op i101 w101 (0 + 4)), (13, .op i101 w101 (0 + 3)), (12, v114), (11, v110_c4), (10, .op i101 w101 (0 + 4)), (9, v112), (8, v110_c3), (7, .op i101 w101 (0 + 3)), (6, .op i101 w101 (0 + 2)), (5, v117), (4, v105), (3, .op i101 w101 (0 + 2)), (2, .op i103 w103 0), (1, .op i101 w101 0), (0, .agg [vi x0.Kind, vi x0.Table, v110_c2, v110_c3, v110_c4])]) M116 rfl n108 (fun v117 => (frz_cons rfl (.agg (.cons (.same _) (.cons (.same _) (.cons .turn (.cons (.same _) (.cons (.same _) .nil)))))) (frz_keep rfl (frz_keep rfl (frz_keep rfl (frz_keep rfl (frz_keep rfl (frz_keep rfl (frz_keep rfl (frz_keep rfl (frz_keep rfl (frz_turn rfl (frz_keep rfl (frz_keep rfl (frz_keep rfl (frz_keep rfl (frz_keep rfl frz_nil))))))))))))))))) (fun v117 h117 b117 M117 => ?_)
  have r117 : (tSl api_ExprNode.t).R x0.Cond v117 := ⟨⟨_, b117, q108⟩, Nat.le_trans hl108 (by decide)⟩
  replace M117 : Mem h117 [⟨.op i103 w103 0, 40, 5, [.agg [vi 0, vi 0, nilS, nilS, nilS]]⟩] := M117.sub (.cons_cons _ (.cons _ .slnil))
  refine rs_step ?_
  refine rd_storeO (k := 0) (v := .agg [vi x0.Kind, vi x0.Table, v117, v112, v114]) M117 rfl rfl rfl rfl (fun h118 M118 => ?_)
  replace M118 : Mem h118 [⟨.op i103 w103 0, 40, 5, [.agg [vi x0.Kind, vi x0.Table, v117, v112, v114]]⟩] := M118
  refine rs_back ?_
  refine rs_nil ?_
  refine pn_seq ?_
  subst hres
  exact rc_retV (.cell rfl (load_whole (k := 0) M118 rfl rfl) .nil) (deep_closed (TR.clo api_ControlNode.t (show api_ControlNode.t.R ({ Kind := x0.Kind, Table := x0.Table, Cond := x0.Cond, Then := y111, Else := y113 } : api_ControlNode) (.agg [vi x0.Kind, vi x0.Table, v117, v112, v114]) from ⟨v117, v112, v114, rfl, r117, (api_ControlNode.sl_of r112), (api_ControlNode.sl_of r114)⟩))) (show api_ControlNode.t.R ({ Kind := x0.Kind, Table := x0.Table, Cond := x0.Cond, Then := y111, Else := y113 } : api_ControlNode) (.agg [vi x0.Kind, vi x0.Table, v117, v112, v114]) from ⟨v117, v112, v114, rfl, r117, (api_ControlNode.sl_of r112), (api_ControlNode.sl_of r114)⟩)
theorem f55_id : ∀ (n : Nat), (∀ (x : api_ControlNode) (v : PV), csn x < n → GN x → api_ControlNode.t.R x v → ∃ r, FnR Try.prog 55 [v] r ∧ api_ControlNode.t.R (control_clone x) r) ∧ (∀ (l : List api_ControlNode) (v : PV), csl l < n → GL l → (tSl api_ControlNode.t).R l v → ∃ r, FnR Try.prog 78 [v] r ∧ (tSl api_ControlNode.t).R (control_cloneAll l) r) := by
  intro n
  induction n with
  | zero => exact ⟨fun x v h => absurd h (Nat.not_lt_zero _), fun x v h => absurd h (Nat.not_lt_zero _)⟩
  | succ n ih =>
    have h1 : ∀ (x : api_ControlNode) (v : PV), csn x < n + 1 → GN x → api_ControlNode.t.R x v → ∃ r, FnR Try.prog 55 [v] r ∧ api_ControlNode.t.R (control_clone x) r := fun x v hx hg r => by
      have := f55_okH (rec78_ := control_cloneAll) r hg (fun {z0 zv0} zr0 hg0 hz => ih.2 z0 zv0 (by omega) hg0 zr0)
      rw [clone_id] at this
      exact this
    refine ⟨h1, fun l v hl hg r => ?_⟩
    have := f78_okH (rec55_ := control_clone) r hg (fun {z0 zv0} zr0 hg0 hz => h1 z0 zv0 (by omega) hg0 zr0)
    rw [cloneAll_id] at this
    exact this
theorem f55_ok {x0 : api_ControlNode} {v0 : PV} (r0 : api_ControlNode.t.R x0 v0) (hg : GN x0) : ∃ r, FnR Try.prog 55 [v0] r ∧ api_ControlNode.t.R (control_clone x0) r := (f55_id _).1 x0 v0 (Nat.lt_succ_self _) hg r0

/-- patchbay/control.Node$1 -/
def RF54 (i1_ w1_ i3_ w3_ : Nat) (R_ : List Ent) (res : Bool × Int × api_ControlNode) (r : PV) (h : Heap) : Prop := ∃ uF1 : PV, Mem h (⟨.op i1_ w1_ 0, 3, 1, [vi res.2.1]⟩ :: ⟨.op i3_ w3_ 0, 40, 5, [uF1]⟩ :: R_) ∧ (api_ControlNode.t.R res.2.2 uF1) ∧ r = vb res.1
theorem f54_ok {x0 : api_ControlNode} {c0 : Int} {c1 : Int} {c2 : api_ControlNode} {v0 : PV} {u3_ : PV} {R_ : List Ent} {h_ : Heap} {i1_ w1_ i3_ w3_ : Nat} (r0 : api_ControlNode.t.R x0 v0) (ru3_ : api_ControlNode.t.R c2 u3_) (M_ : Mem h_ (⟨.op i1_ w1_ 0, 3, 1, [vi c0]⟩ :: ⟨.op i3_ w3_ 0, 40, 5, [u3_]⟩ :: R_)) (hg : GN x0) : ∃ r h2_, FnX Try.prog 54 [v0, .op i1_ w1_ 0, .fp (vi c1), .op i3_ w3_ 0] h_ r h2_ ∧ RF54 i1_ w1_ i3_ w3_ R_ (control_Node_1 x0 c0 c1 c2) r h2_ := by
  obtain ⟨res, hres⟩ : ∃ res, control_Node_1 x0 c0 c1 c2 = res := ⟨_, rfl⟩
  suffices H : RC Try.prog ac54 [] (retPost Try.prog [(5, none)] (RF54 i1_ w1_ i3_ w3_ R_ res)) (argE 0 [v0, .op i1_ w1_ 0, .fp (vi c1), .op i3_ w3_ 0]) h_ by
    rw [hres]
    exact fnX text54 (by simp) H
  unfold control_Node_1 at hres
  unfold ac54
  refine rc_seq ?_
  refine rc_region ?_
  refine rd_op (ov_box rfl (TR.cnt api_ControlNode.t r0)) ?_
  refine rd_op (v := vb false) (ov_move rfl) ?_
  refine rd_nil ?_
  refine pn_seq ?_
  refine rc_seq ?_
  refine rc_seq ?_
  refine rc_region ?_
  refine rd_op (ov_load0 (k := 0) M_ rfl rfl rfl) ?_
  refine rd_op (ov_load rfl rfl rfl) ?_
  refine rd_op (ov_bin rfl rfl i_eql) ?_
  refine rd_nil ?_
  refine pn_seq ?_
  refine rc_cond rfl (fun hc103 => ?_) (fun hc103 => ?_)
  · replace hres := (ite_t hc103).symm.trans hres
    have hc103' := hc103
    try simp only [Bool.or_eq_true, Bool.or_eq_false_iff, Bool.and_eq_true, Bool.and_eq_false_imp, decide_eq_true_eq, decide_eq_false_iff_not, Bool.not_eq_true', Bool.not_eq_false', Bool.not_eq_true, Bool.not_eq_false, Bool.not_true, Bool.not_false, ne_eq] at hc103'
    refine rc_seq ?_
    refine rc_region ?_
    refine rd_op (ov_load rfl (TR.cnt api_ControlNode.t r0) (TR.agg api_ControlNode.t r0)) ?_
    obtain ⟨y104, hw104, hres⟩ := let_ex hres
    obtain ⟨v105, f104, r105⟩ := f55_ok  r0 (by first | assumption | omega)
    rw [hw104] at r105
    refine rd_call (cv_fn rfl rfl (clL_cons (TR.clo api_ControlNode.t r0) clL_nil) f104) ?_
    refine rd_storeO (k := 1) (v := v105) M_ rfl rfl rfl (TR.cnt api_ControlNode.t r105) (fun h106 M106 => ?_)
    replace M106 : Mem h106 (⟨.op i1_ w1_ 0, 3, 1, [vi c0]⟩ :: ⟨.op i3_ w3_ 0, 40, 5, [v105]⟩ :: R_) := M106
    refine rd_nil ?_
    refine pn_seq ?_
    refine rc_seq ?_
    refine rc_region ?_
    refine rd_op (v := vb false) (ov_move rfl) ?_
    refine rd_nil ?_
    refine pn_seq ?_
    have MZ107 : Mem h106 (⟨.op i1_ w1_ 0, 3, 1, [vi c0]⟩ :: ⟨.op i3_ w3_ 0, 40, 5, [v105]⟩ :: R_) := (Mem.front (k := 1) (Mem.front (k := 1) M106 rfl) rfl)
    subst hres
    exact rc_retX (.tmp rfl .nil) ⟨v105, Mem.sub MZ107 (.cons_cons _ (.cons_cons _ (List.Sublist.refl R_))), r105, rfl⟩
  · replace hres := (ite_f hc103).symm.trans hres
    have hc103' := hc103
    try simp only [Bool.or_eq_true, Bool.or_eq_false_iff, Bool.and_eq_true, Bool.and_eq_false_imp, decide_eq_true_eq, decide_eq_false_iff_not, Bool.not_eq_true', Bool.not_eq_false', Bool.not_eq_true, Bool.not_eq_false, Bool.not_true, Bool.not_false, ne_eq] at hc103'
    refine rc_skip ?_
    refine pn_seq ?_
    refine rc_seq ?_
    refine rc_region ?_
    refine rd_op (ov_load0 (k := 0) M_ rfl rfl rfl) ?_
    refine rd_op (ov_bin rfl rfl i_add) ?_
    refine rd_storeO (k := 0) (v := vi (wr (c0 + 1))) M_ rfl rfl rfl rfl (fun h108 M108 => ?_)
    replace M108 : Mem h108 (⟨.op i1_ w1_ 0, 3, 1, [vi (wr (c0 + 1))]⟩ :: ⟨.op i3_ w3_ 0, 40, 5, [u3_]⟩ :: R_) := M108
    refine rd_nil ?_
    refine pn_seq ?_
    refine rc_seq ?_
    refine rc_region ?_
    refine rd_op (v := vb true) (ov_move rfl) ?_
    refine rd_nil ?_
    refine pn_seq ?_
    have MZ109 : Mem h108 (⟨.op i1_ w1_ 0, 3, 1, [vi (wr (c0 + 1))]⟩ :: ⟨.op i3_ w3_ 0, 40, 5, [u3_]⟩ :: R_) := (Mem.front (k := 1) (Mem.front (k := 1) M108 rfl) rfl)
    subst hres
    exact rc_retX (.tmp rfl .nil) ⟨u3_, Mem.sub MZ109 (.cons_cons _ (.cons_cons _ (List.Sublist.refl R_))), ru3_, rfl⟩
def ME54 (i1_ w1_ i3_ w3_ : Nat) (k_ : Nat) (s_ : Int × api_ControlNode) (L_ : List Ent) : Prop := (∃ uV1 : PV, L_ = (⟨.op i1_ w1_ 0, 3, 1, [vi s_.1]⟩ :: ⟨.op i3_ w3_ 0, 40, 5, [uV1]⟩ :: []) ∧ (api_ControlNode.t.R s_.2 uV1)) ∧ (True)
theorem mono54 (i1_ w1_ i3_ w3_ : Nat) : ∀ k_ s_ L_, ME54 i1_ w1_ i3_ w3_ (k_ + 1) s_ L_ → ME54 i1_ w1_ i3_ w3_ k_ s_ L_ := fun k_ s_ L_ h_ => ⟨h_.1, by have hi_ := h_.2; trivial⟩
theorem hv54 {c1 : Int} {i1_ w1_ i3_ w3_ : Nat} : VIS Try.prog 54 [.op i1_ w1_ 0, .fp (vi c1), .op i3_ w3_ 0] (fun a_ s_ => control_Node_1 a_ s_.1 c1 s_.2) (ME54 i1_ w1_ i3_ w3_) (GN) := by
  intro k_ a_ va_ s_ L_ R_ h_ hg_ ra_ hE_ M_
  obtain ⟨⟨uV1, hL_, ruV1⟩, hi_⟩ := hE_
  subst hL_
  obtain ⟨r_, h2_, hX_, hZ_⟩ := f54_ok (x0 := a_) (c0 := s_.1) (c1 := c1) (c2 := s_.2) ra_  ruV1 M_ (by exact hg_)
  obtain ⟨uV1n, M2_, ruV1n, hr_⟩ := hZ_
  subst hr_
  exact ⟨h2_, _, hX_, ⟨⟨uV1n, rfl, ruV1n⟩, by trivial⟩, M2_⟩

/-- patchbay/control.Node -/
def RF18 (res : api_ControlNode × Bool) (r : PV) : Prop := ∃ c0, r = .tup [c0, vb res.2] ∧ api_ControlNode.t.R res.1 c0
theorem f18_ok {x0 : List api_ControlNode} {x1 : Int} {v0 : PV} (r0 : (tSl api_ControlNode.t).R x0 v0) (hg : GL x0) : ∃ c0, FnR Try.prog 18 [v0, vi x1] (.tup [c0, vb ((control_Node x0 x1).2)]) ∧ api_ControlNode.t.R (control_Node x0 x1).1 c0 := by
  obtain ⟨res, hres⟩ : ∃ res, control_Node x0 x1 = res := ⟨_, rfl⟩
  suffices H : RC Try.prog ac18 [] (QR Try.prog [(4, some (5, true)), (5, none)] (RF18 res)) (argE 0 [v0, vi x1]) ⟨0, []⟩ by
    rw [hres]
    obtain ⟨r, h1, c0, rfl, qc0⟩ := fnE text18 (by simp) H
    exact ⟨c0, h1, qc0⟩
  unfold control_Node at hres
  unfold ac18
  refine rc_seq ?_
  refine rc_region ?_
  refine rd_op (ov_box rfl rfl) ?_
  refine rd_allocO (x := .agg [vi 0, vi 0, nilS, nilS, nilS]) (Mem.nil ⟨0, []⟩) rfl rfl (fun i101 w101 h101 M101 => ?_)
  refine rd_op (v := vb false) (ov_move rfl) ?_
  refine rd_nil ?_
  refine pn_seq ?_
  refine rc_seq ?_
  refine rc_region ?_
  refine rd_allocO (x := .agg [vi 0, vi 0, nilS, nilS, nilS]) M101 rfl rfl (fun i103 w103 h103 M103 => ?_)
  refine rd_nil ?_
  refine pn_seq ?_
  refine rc_seq ?_
  refine rc_region ?_
  refine rd_allocO (x := vi 0) M103 rfl rfl (fun i105 w105 h105 M105 => ?_)
  refine rd_storeO (k := 0) (v := vi 0) M105 rfl rfl rfl rfl (fun h107 M107 => ?_)
  replace M107 : Mem h107 [⟨.op i105 w105 0, 3, 1, [vi 0]⟩, ⟨.op i103 w103 0, 40, 5, [.agg [vi 0, vi 0, nilS, nilS, nilS]]⟩, ⟨.op i101 w101 0, 40, 5, [.agg [vi 0, vi 0, nilS, nilS, nilS]]⟩] := M107
  refine rd_nil ?_
  refine pn_seq ?_
  refine rc_seq ?_
  refine rc_regionS ?_
  refine rs_step ?_
  refine rd_op (ov_move rfl) ?_
  refine rs_back ?_
  refine rs_step ?_
  refine rd_op (v := .fn (.func 54) [] [.op i105 w105 0, .fp (vi x1), .op i103 w103 0]) (ov_mkFunc rfl rfl) ?_
  refine rs_back ?_
  have M108 : Mem h107 [⟨.op i105 w105 0, 3, 1, [vi 0]⟩, ⟨.op i103 w103 0, 40, 5, [.agg [vi 0, vi 0, nilS, nilS, nilS]]⟩, ⟨.op i101 w101 0, 40, 5, [.agg [vi 0, vi 0, nilS, nilS, nilS]]⟩] := (Mem.front (k := 1) (Mem.front (k := 1) M107 rfl) rfl)
  obtain ⟨y108, hw108, hres⟩ := let_ex hres
  obtain ⟨h108, L108, hX108, hE108, M108v⟩ : ∃ h2 L2, FnX Try.prog 48 [v0, .fn (.func 54) [] [.op i105 w105 0, .fp (vi x1), .op i103 w103 0]] h107 (vb y108.1) h2 ∧ ME54 i105 w105 i103 w103 0 y108.2 L2 ∧ Mem h2 (L2 ++ [⟨.op i101 w101 0, 40, 5, [.agg [vi 0, vi 0, nilS, nilS, nilS]]⟩]) := by
    rw [← hw108]
    exact f48_pre (mono54 i105 w105 i103 w103) (hv54 (c1 := x1) ) _ _ (Nat.lt_succ_self _) (by exact hg.nodes) 0 _ (0, ({ Kind := 0, Table := 0, Cond := ([] : List api_ExprNode), Then := ([] : List api_ControlNode), Else := ([] : List api_ControlNode) } : api_ControlNode)) [⟨.op i105 w105 0, 3, 1, [vi 0]⟩, ⟨.op i103 w103 0, 40, 5, [.agg [vi 0, vi 0, nilS, nilS, nilS]]⟩] [⟨.op i101 w101 0, 40, 5, [.agg [vi 0, vi 0, nilS, nilS, nilS]]⟩] _ r0 (show ME54 i105 w105 i103 w103 (csl x0 + 0) (0, ({ Kind := 0, Table := 0, Cond := ([] : List api_ExprNode), Then := ([] : List api_ControlNode), Else := ([] : List api_ControlNode) } : api_ControlNode)) [⟨.op i105 w105 0, 3, 1, [vi 0]⟩, ⟨.op i103 w103 0, 40, 5, [.agg [vi 0, vi 0, nilS, nilS, nilS]]⟩] from ⟨⟨(.agg [vi 0, vi 0, nilS, nilS, nilS]), rfl, (show api_ControlNode.t.R ({ Kind := 0, Table := 0, Cond := ([] : List api_ExprNode), Then := ([] : List api_ControlNode), Else := ([] : List api_ControlNode) } : api_ControlNode) (.agg [vi 0, vi 0, nilS, nilS, nilS]) from ⟨nilS, nilS, nilS, rfl, sl_nil, (api_ControlNode.sl_of sl_nil), (api_ControlNode.sl_of sl_nil)⟩)⟩, by trivial⟩) M108
  obtain ⟨⟨u108_1, hL108, ru108_1⟩, hi108⟩ := hE108
  subst hL108
  replace M108v : Mem h108 [⟨.op i105 w105 0, 3, 1, [vi y108.2.1]⟩, ⟨.op i103 w103 0, 40, 5, [u108_1]⟩, ⟨.op i101 w101 0, 40, 5, [.agg [vi 0, vi 0, nilS, nilS, nilS]]⟩] := M108v
  refine rs_callX rfl rfl hX108 ?_
  refine rs_step ?_
  refine rd_op (ov_move rfl) ?_
  refine rs_back ?_
  refine rs_nil ?_
  refine pn_seq ?_
  refine rc_seq ?_
  refine rc_region ?_
  refine rd_op (ov_load0 (k := 1) M108v rfl rfl (TR.agg api_ControlNode.t ru108_1)) ?_
  refine rd_op (ov_move rfl) ?_
  refine rd_op (ov_not rfl) ?_
  refine rd_storeO (k := 2) (v := u108_1) M108v rfl rfl rfl (TR.cnt api_ControlNode.t ru108_1) (fun h109 M109 => ?_)
  replace M109 : Mem h109 [⟨.op i105 w105 0, 3, 1, [vi y108.2.1]⟩, ⟨.op i103 w103 0, 40, 5, [u108_1]⟩, ⟨.op i101 w101 0, 40, 5, [u108_1]⟩] := M109
  refine rd_op (ov_move rfl) ?_
  refine rd_nil ?_
  refine pn_seq ?_
  subst hres
  exact rc_retV (.cell rfl (load_whole (k := 2) M109 rfl (TR.agg api_ControlNode.t ru108_1)) (.tmp rfl .nil)) (deep_closed (show closed (.tup _) = true from (clL_cons (TR.clo api_ControlNode.t ru108_1) (clL_cons rfl clL_nil)))) ⟨u108_1, rfl, ru108_1⟩

/-- patchbay/patchbaylaw20.ControlOrder -/
def RF11 (res : Bool) (r : PV) : Prop := r = vb res
theorem law20_ControlOrder_L1_ok {S : List Fr} {res : Bool} {x0 : List api_ControlNode} {x1 : List Bool} {y101 : Bool} {y107 : law20_walk} {y113 : (List Int)} {v0 : PV} {u107_0_answers : PV} {a107_0_1 : PV} {es107_0_1 : List PV} {a107_0_3 : PV} {es107_0_3 : List PV} {v114 : PV} {i105 : Nat} {w105 : Nat} (hw101 : law20_Small x0 60 = y101) (hc103 : ((!y101) || (decide (20 < (x1.length : Int)))) = false) (hw107 : wkAT x0 ({ answers := x1, next := 0, tables := ([] : List Int), conds := ([] : List Int) } : law20_walk) = y107) (ru107_0_answers : (tSl tB).R y107.answers u107_0_answers) (qs107_0_1 : All2 tI.R y107.tables es107_0_1) (ne107_0_1 : isL a107_0_1 = true) (hl107_0_1 : y107.tables.length ≤ 4611686018427387904) (wi107_0_2 : Wri a107_0_1 es107_0_1) (ne107_0_3 : isL a107_0_3 = true) (hl107_0_3 : y107.conds.length ≤ 4611686018427387904) (wi107_0_4 : Wri a107_0_3 es107_0_3) (hw113 : control_Tables x0 = y113) (r114 : (tSl tI).R y113 v114) (ek113 : (y113.length : Int) ≤ 9223372036854775807) {K0 : Int → Bool}
    (hK0 : ∀ (x7_ : Int) (h : Heap) (M0 : Mem h [⟨.op i105 w105 0, 66, 4, [.agg [u107_0_answers, vi y107.next, a107_0_1, a107_0_3]]⟩, ⟨a107_0_1, 3, 1, es107_0_1⟩, ⟨a107_0_3, 3, 1, es107_0_3⟩]), K0 x7_ = res → PX Try.prog 0 S (QR Try.prog [(4, none)] (RF11 res)) [(0, v0), (5, .op i105 w105 0), (6, v114), (7, vi x7_)] h) :
    ∀ (m : Nat) (x7_ : Int) (x8_ : Int) (hm1 : m = Int.toNat ((y113.length : Int) - x8_)) (hlo1 : 0 ≤ x8_) (iv1_0 : 0 ≤ x7_) (h : Heap) (M0 : Mem h [⟨.op i105 w105 0, 66, 4, [.agg [u107_0_answers, vi y107.next, a107_0_1, a107_0_3]]⟩, ⟨a107_0_1, 3, 1, es107_0_1⟩, ⟨a107_0_3, 3, 1, es107_0_3⟩]), law20_ControlOrder_L1 y107 y113 K0 m x7_ x8_ = res → RC Try.prog (.loop ac11_L1) S (QR Try.prog [(4, none)] (RF11 res)) [(8, vi x8_), (7, vi x7_), (6, v114), (5, .op i105 w105 0), (0, v0)] h := by
  have hc103' := hc103
  try simp only [Bool.or_eq_true, Bool.or_eq_false_iff, Bool.and_eq_true, Bool.and_eq_false_imp, decide_eq_true_eq, decide_eq_false_iff_not, Bool.not_eq_true', Bool.not_eq_false', Bool.not_eq_true, Bool.not_eq_false, Bool.not_true, Bool.not_false, ne_eq] at hc103'
  intro m
  induction m with
  | zero =>
    intro x7_ x8_ hm1 hlo1 iv1_0 h M0 hres
    rw [law20_ControlOrder_L1] at hres
    refine rc_loop ?_
    unfold ac11_L1
    refine rc_seq ?_
    refine rc_seq ?_
    refine rc_region ?_
    refine rd_op (ov_move rfl) ?_
    refine rd_op (ov_move rfl) ?_
    refine rd_op (ov_bi rfl (sl_len r114 Try.underlying29 _)) ?_
    refine rd_op (ov_bin rfl rfl i_lss) ?_
    refine rd_op (ov_move rfl) ?_
    refine rd_cut (d := 53) (v := vb ((decide (x8_ < (y113.length : Int))) && (decide (x7_ < (y107.tables.length : Int))))) ?_ ?_
    · intro S Q r
      simp only [ac11_G2, List.cons_append, List.nil_append, List.append_assoc]
      cases hb115 : (decide (x8_ < (y113.length : Int)))
      · intro k
        refine rd_skip rfl rfl ?_
        refine rd_skip rfl rfl ?_
        refine rd_skip rfl rfl ?_
        refine rd_skip rfl rfl ?_
        refine rd_skip rfl rfl ?_
        refine rd_skip rfl rfl ?_
        refine rd_skip rfl rfl ?_
        refine rd_op (v := vb false) (ov_pick rfl rfl rfl rfl) ?_
        exact rd_weak (sub_cons rfl (sub_skip rfl (sub_skip rfl (sub_skip rfl (sub_skip rfl (sub_skip rfl (sub_skip rfl (sub_skip rfl (sub_skip rfl (sub_refl _)))))))))) k
      · intro k
        have hb115' := hb115
        try simp only [Bool.or_eq_true, Bool.or_eq_false_iff, Bool.and_eq_true, Bool.and_eq_false_imp, decide_eq_true_eq, decide_eq_false_iff_not, Bool.not_eq_true', Bool.not_eq_false', Bool.not_eq_true, Bool.not_eq_false, Bool.not_true, Bool.not_false, ne_eq] at hb115'
        refine rd_yes rfl rfl (ov_move rfl) ?_
        refine rd_yes rfl rfl (ov_move rfl) ?_
        refine rd_yes rfl rfl (ov_nilCheck rfl rfl) ?_
        refine rd_yes rfl rfl (ov_faddrO rfl) ?_
        refine rd_yes rfl rfl (ov_loadf (k := 0) M0 rfl rfl (mk1 (mem_one (k := 1) M0 rfl ne107_0_1).2)) ?_
        refine rd_yes rfl rfl (ov_bi rfl (own_len (k := 1) M0 rfl Try.underlying29 ne107_0_1 qs107_0_1 _)) ?_
        refine rd_yes rfl rfl (ov_bin rfl rfl i_lss) ?_
        refine rd_op (v := vb (decide (x7_ < (y107.tables.length : Int)))) (ov_pick rfl rfl rfl rfl) ?_
        exact rd_weak (sub_cons rfl (sub_skip rfl (sub_skip rfl (sub_skip rfl (sub_skip rfl (sub_skip rfl (sub_skip rfl (sub_skip rfl (sub_skip rfl (sub_refl _)))))))))) k
    refine rd_nil ?_
    refine pn_seq ?_
    refine rc_cond rfl (fun hc116 => ?_) (fun hc116 => ?_)
    · exfalso
      try simp only [Bool.or_eq_true, Bool.or_eq_false_iff, Bool.and_eq_true, Bool.and_eq_false_imp, decide_eq_true_eq, decide_eq_false_iff_not, Bool.not_eq_true', Bool.not_eq_false', Bool.not_eq_true, Bool.not_eq_false, Bool.not_true, Bool.not_false, ne_eq] at hc116
      omega
    · have hend := hres
      have hc116' := hc116
      try simp only [Bool.or_eq_true, Bool.or_eq_false_iff, Bool.and_eq_true, Bool.and_eq_false_imp, decide_eq_true_eq, decide_eq_false_iff_not, Bool.not_eq_true', Bool.not_eq_false', Bool.not_eq_true, Bool.not_eq_false, Bool.not_true, Bool.not_false, ne_eq] at hc116'
      refine rc_exit ?_
      refine px_seq ?_
      refine px_again ?_
      exact px_weak ((sub_cons rfl (sub_cons rfl (sub_cons rfl (sub_cons rfl (sub_nil _)))))) (hK0 x7_ _ (Mem.sub M0 (.cons_cons _ (.cons_cons _ (.cons_cons _ .slnil)))) hres)
  | succ m ih =>
    intro x7_ x8_ hm1 hlo1 iv1_0 h M0 hres
    rw [law20_ControlOrder_L1] at hres
    refine rc_loop ?_
    unfold ac11_L1
    refine rc_seq ?_
    refine rc_seq ?_
    refine rc_region ?_
    refine rd_op (ov_move rfl) ?_
    refine rd_op (ov_move rfl) ?_
    refine rd_op (ov_bi rfl (sl_len r114 Try.underlying29 _)) ?_
    refine rd_op (ov_bin rfl rfl i_lss) ?_
    refine rd_op (ov_move rfl) ?_
    refine rd_cut (d := 53) (v := vb ((decide (x8_ < (y113.length : Int))) && (decide (x7_ < (y107.tables.length : Int))))) ?_ ?_
    · intro S Q r
      simp only [ac11_G2, List.cons_append, List.nil_append, List.append_assoc]
      cases hb117 : (decide (x8_ < (y113.length : Int)))
      · intro k
        refine rd_skip rfl rfl ?_
        refine rd_skip rfl rfl ?_
        refine rd_skip rfl rfl ?_
        refine rd_skip rfl rfl ?_
        refine rd_skip rfl rfl ?_
        refine rd_skip rfl rfl ?_
        refine rd_skip rfl rfl ?_
        refine rd_op (v := vb false) (ov_pick rfl rfl rfl rfl) ?_
        exact rd_weak (sub_cons rfl (sub_skip rfl (sub_skip rfl (sub_skip rfl (sub_skip rfl (sub_skip rfl (sub_skip rfl (sub_skip rfl (sub_skip rfl (sub_refl _)))))))))) k
      · intro k
        have hb117' := hb117
        try simp only [Bool.or_eq_true, Bool.or_eq_false_iff, Bool.and_eq_true, Bool.and_eq_false_imp, decide_eq_true_eq, decide_eq_false_iff_not, Bool.not_eq_true', Bool.not_eq_false', Bool.not_eq_true, Bool.not_eq_false, Bool.not_true, Bool.not_false, ne_eq] at hb117'
        refine rd_yes rfl rfl (ov_move rfl) ?_
        refine rd_yes rfl rfl (ov_move rfl) ?_
        refine rd_yes rfl rfl (ov_nilCheck rfl rfl) ?_
        refine rd_yes rfl rfl (ov_faddrO rfl) ?_
        refine rd_yes rfl rfl (ov_loadf (k := 0) M0 rfl rfl (mk1 (mem_one (k := 1) M0 rfl ne107_0_1).2)) ?_
        refine rd_yes rfl rfl (ov_bi rfl (own_len (k := 1) M0 rfl Try.underlying29 ne107_0_1 qs107_0_1 _)) ?_
        refine rd_yes rfl rfl (ov_bin rfl rfl i_lss) ?_
        refine rd_op (v := vb (decide (x7_ < (y107.tables.length : Int)))) (ov_pick rfl rfl rfl rfl) ?_
        exact rd_weak (sub_cons rfl (sub_skip rfl (sub_skip rfl (sub_skip rfl (sub_skip rfl (sub_skip rfl (sub_skip rfl (sub_skip rfl (sub_skip rfl (sub_refl _)))))))))) k
    refine rd_nil ?_
    refine pn_seq ?_
    refine rc_cond rfl (fun hc118 => ?_) (fun hc118 => ?_)
    · replace hres := (ite_t hc118).symm.trans hres
      have hc118' := hc118
      try simp only [Bool.or_eq_true, Bool.or_eq_false_iff, Bool.and_eq_true, Bool.and_eq_false_imp, decide_eq_true_eq, decide_eq_false_iff_not, Bool.not_eq_true', Bool.not_eq_false', Bool.not_eq_true, Bool.not_eq_false, Bool.not_true, Bool.not_false, ne_eq] at hc118'
      refine rc_skip ?_
      refine pn_seq ?_
      refine rc_seq ?_
      refine rc_block ?_
      refine rc_seq ?_
      refine rc_region ?_
      refine rd_op (ov_move rfl) ?_
      refine rd_op (ov_move rfl) ?_
      refine rd_op (ov_iaddr rfl rfl (slI r114 (by omega) (by omega))) ?_
      refine rd_op (ov_load rfl rfl rfl) ?_
      refine rd_op (ov_move rfl) ?_
      refine rd_op (ov_nilCheck rfl rfl) ?_
      refine rd_op (ov_faddrO rfl) ?_
      refine rd_op (ov_loadf (k := 0) M0 rfl rfl (mk1 (mem_one (k := 1) M0 rfl ne107_0_1).2)) ?_
      refine rd_op (ov_move rfl) ?_
      obtain ⟨i119, w119, m119, ha119⟩ := wri_os (i := x7_) wi107_0_2 qs107_0_1 (by omega) (by omega)
      subst ha119
      have hn119 : y107.tables.length = m119 := by rw [mem_osn M0 (k := 1) rfl, All2.length_eq qs107_0_1]
      have h0_120 : 0 ≤ x7_ := (by omega)
      have h1_120 : x7_ < (y107.tables.length : Int) := (by omega)
      refine rd_op (ov_iaddr rfl rfl (n_idx 1 h0_120 (by omega))) ?_
      obtain ⟨v121, e121, r121⟩ := elem_at (i := x7_) qs107_0_1 h0_120 h1_120
      have r121 : v121 = vi (ix y107.tables x7_) := r121; subst r121
      refine rd_op (ov_elem (k := 1) M0 rfl rfl e121 rfl) ?_
      refine rd_op (ov_bin rfl rfl i_eql) ?_
      refine rd_nil ?_
      refine pn_seq ?_
      refine rc_cond rfl (fun hc122 => ?_) (fun hc122 => ?_)
      · replace hres := (ite_t hc122).symm.trans hres
        have hc122' := hc122
        try simp only [Bool.or_eq_true, Bool.or_eq_false_iff, Bool.and_eq_true, Bool.and_eq_false_imp, decide_eq_true_eq, decide_eq_false_iff_not, Bool.not_eq_true', Bool.not_eq_false', Bool.not_eq_true, Bool.not_eq_false, Bool.not_true, Bool.not_false, ne_eq] at hc122'
        refine rc_region ?_
        refine rd_op (ov_move rfl) ?_
        refine rd_op (ov_bin rfl rfl i_add) ?_
        refine rd_op (ov_move rfl) ?_
        refine rd_nil ?_
        refine pn_blk ?_
        refine pn_seq ?_
        refine rc_region ?_
        refine rd_op (ov_move rfl) ?_
        refine rd_op (ov_bin rfl rfl i_add) ?_
        refine rd_op (ov_move rfl) ?_
        refine rd_nil ?_
        refine pn_again ?_
        have hbd := sl_bound r114
        have hinc : wr (x8_ + 1) = x8_ + 1 := wr_of (by omega) (by omega)
        rw [hinc]
        refine rc_weak ?_ (ih (wr (x7_ + 1)) (x8_ + 1)  (by omega) (by omega) (by first | omega | (rw [wr_of (by omega) (by omega)]; omega)) _ (Mem.sub M0 (.cons_cons _ (.cons_cons _ (.cons_cons _ .slnil)))) hres)
        exact ((sub_cons rfl (sub_cons rfl (sub_cons rfl (sub_cons rfl (sub_cons rfl (sub_nil _)))))))
      · replace hres := (ite_f hc122).symm.trans hres
        have hc122' := hc122
        try simp only [Bool.or_eq_true, Bool.or_eq_false_iff, Bool.and_eq_true, Bool.and_eq_false_imp, decide_eq_true_eq, decide_eq_false_iff_not, Bool.not_eq_true', Bool.not_eq_false', Bool.not_eq_true, Bool.not_eq_false, Bool.not_true, Bool.not_false, ne_eq] at hc122'
        refine rc_skip ?_
        refine pn_blk ?_
        refine pn_seq ?_
        refine rc_region ?_
        refine rd_op (ov_move rfl) ?_
        refine rd_op (ov_bin rfl rfl i_add) ?_
        refine rd_op (ov_move rfl) ?_
        refine rd_nil ?_
        refine pn_again ?_
        have hbd := sl_bound r114
        have hinc : wr (x8_ + 1) = x8_ + 1 := wr_of (by omega) (by omega)
        rw [hinc]
        refine rc_weak ?_ (ih x7_ (x8_ + 1)  (by omega) (by omega) (by first | omega | (rw [wr_of (by omega) (by omega)]; omega)) _ (Mem.sub M0 (.cons_cons _ (.cons_cons _ (.cons_cons _ .slnil)))) hres)
        exact ((sub_cons rfl (sub_cons rfl (sub_cons rfl (sub_cons rfl (sub_cons rfl (sub_nil _)))))))
    · replace hres := (ite_f hc118).symm.trans hres
      have hc118' := hc118
      try simp only [Bool.or_eq_true, Bool.or_eq_false_iff, Bool.and_eq_true, Bool.and_eq_false_imp, decide_eq_true_eq, decide_eq_false_iff_not, Bool.not_eq_true', Bool.not_eq_false', Bool.not_eq_true, Bool.not_eq_false, Bool.not_true, Bool.not_false, ne_eq] at hc118'
      refine rc_exit ?_
      refine px_seq ?_
      refine px_again ?_
      exact px_weak ((sub_cons rfl (sub_cons rfl (sub_cons rfl (sub_cons rfl (sub_nil _)))))) (hK0 x7_ _ (Mem.sub M0 (.cons_cons _ (.cons_cons _ (.cons_cons _ .slnil)))) hres)

theorem law20_ControlOrder_L2_ok {S : List Fr} {res : Bool} {x0 : List api_ControlNode} {x1 : List Bool} {y101 : Bool} {y107 : law20_walk} {y113 : (List Int)} {x7_123 : Int} {y124 : Int} {v0 : PV} {u107_0_answers : PV} {a107_0_1 : PV} {es107_0_1 : List PV} {a107_0_3 : PV} {es107_0_3 : List PV} {v114 : PV} {i105 : Nat} {w105 : Nat} (r0 : (tSl api_ControlNode.t).R x0 v0) (hw101 : law20_Small x0 60 = y101) (hc103 : ((!y101) || (decide (20 < (x1.length : Int)))) = false) (hw107 : wkAT x0 ({ answers := x1, next := 0, tables := ([] : List Int), conds := ([] : List Int) } : law20_walk) = y107) (ru107_0_answers : (tSl tB).R y107.answers u107_0_answers) (ne107_0_1 : isL a107_0_1 = true) (hl107_0_1 : y107.tables.length ≤ 4611686018427387904) (wi107_0_2 : Wri a107_0_1 es107_0_1) (ne107_0_3 : isL a107_0_3 = true) (hl107_0_3 : y107.conds.length ≤ 4611686018427387904) (wi107_0_4 : Wri a107_0_3 es107_0_3) (hw113 : control_Tables x0 = y113) (r114 : (tSl tI).R y113 v114) (ek113 : (y113.length : Int) ≤ 9223372036854775807) (hw124 : control_Count x0 = y124) (ek124 : y124 ≤ 9223372036854775807) {K2 : Int → Bool}
    (hK2 : ∀ (x10_ : Int) (h : Heap) (M0 : Mem h [⟨.op i105 w105 0, 66, 4, [.agg [u107_0_answers, vi y107.next, a107_0_1, a107_0_3]]⟩, ⟨a107_0_1, 3, 1, es107_0_1⟩, ⟨a107_0_3, 3, 1, es107_0_3⟩]), K2 x10_ = res → PX Try.prog 2 S (QR Try.prog [(4, none)] (RF11 res)) [(0, v0), (5, .op i105 w105 0), (6, v114), (7, vi x7_123), (9, vi y124), (10, vi x10_)] h) :
    ∀ (m : Nat) (x10_ : Int) (x11_ : Int) (hm2 : m = Int.toNat (y124 - x11_)) (hlo2 : 0 ≤ x11_) (iv2_0 : 0 ≤ x10_) (h : Heap) (M0 : Mem h [⟨.op i105 w105 0, 66, 4, [.agg [u107_0_answers, vi y107.next, a107_0_1, a107_0_3]]⟩, ⟨a107_0_1, 3, 1, es107_0_1⟩, ⟨a107_0_3, 3, 1, es107_0_3⟩]), law20_ControlOrder_L2 x0 y113 y124 K2 m x10_ x11_ = res → RC Try.prog (.loop ac11_L2) S (QR Try.prog [(4, none)] (RF11 res)) [(11, vi x11_), (10, vi x10_), (9, vi y124), (7, vi x7_123), (6, v114), (5, .op i105 w105 0), (0, v0)] h := by
  have hc103' := hc103
  try simp only [Bool.or_eq_true, Bool.or_eq_false_iff, Bool.and_eq_true, Bool.and_eq_false_imp, decide_eq_true_eq, decide_eq_false_iff_not, Bool.not_eq_true', Bool.not_eq_false', Bool.not_eq_true, Bool.not_eq_false, Bool.not_true, Bool.not_false, ne_eq] at hc103'
  intro m
  induction m with
  | zero =>
    intro x10_ x11_ hm2 hlo2 iv2_0 h M0 hres
    rw [law20_ControlOrder_L2] at hres
    refine rc_loop ?_
    unfold ac11_L2
    refine rc_seq ?_
    refine rc_seq ?_
    refine rc_region ?_
    refine rd_op (ov_move rfl) ?_
    refine rd_op (ov_move rfl) ?_
    refine rd_op (ov_bin rfl rfl i_lss) ?_
    refine rd_nil ?_
    refine pn_seq ?_
    refine rc_cond rfl (fun hc125 => ?_) (fun hc125 => ?_)
    · exfalso
      try simp only [Bool.or_eq_true, Bool.or_eq_false_iff, Bool.and_eq_true, Bool.and_eq_false_imp, decide_eq_true_eq, decide_eq_false_iff_not, Bool.not_eq_true', Bool.not_eq_false', Bool.not_eq_true, Bool.not_eq_false, Bool.not_true, Bool.not_false, ne_eq] at hc125
      omega
    · have hend := hres
      have hc125' := hc125
      try simp only [Bool.or_eq_true, Bool.or_eq_false_iff, Bool.and_eq_true, Bool.and_eq_false_imp, decide_eq_true_eq, decide_eq_false_iff_not, Bool.not_eq_true', Bool.not_eq_false', Bool.not_eq_true, Bool.not_eq_false, Bool.not_true, Bool.not_false, ne_eq] at hc125'
      refine rc_exit ?_
      refine px_seq ?_
      refine px_again ?_
      exact px_weak ((sub_cons rfl (sub_cons rfl (sub_cons rfl (sub_cons rfl (sub_cons rfl (sub_cons rfl (sub_nil _)))))))) (hK2 x10_ _ (Mem.sub M0 (.cons_cons _ (.cons_cons _ (.cons_cons _ .slnil)))) hres)
  | succ m ih =>
    intro x10_ x11_ hm2 hlo2 iv2_0 h M0 hres
    rw [law20_ControlOrder_L2] at hres
    refine rc_loop ?_
    unfold ac11_L2
    refine rc_seq ?_
    refine rc_seq ?_
    refine rc_region ?_
    refine rd_op (ov_move rfl) ?_
    refine rd_op (ov_move rfl) ?_
    refine rd_op (ov_bin rfl rfl i_lss) ?_
    refine rd_nil ?_
    refine pn_seq ?_
    refine rc_cond rfl (fun hc126 => ?_) (fun hc126 => ?_)
    · have hgo := hres
      have hc126' := hc126
      try simp only [Bool.or_eq_true, Bool.or_eq_false_iff, Bool.and_eq_true, Bool.and_eq_false_imp, decide_eq_true_eq, decide_eq_false_iff_not, Bool.not_eq_true', Bool.not_eq_false', Bool.not_eq_true, Bool.not_eq_false, Bool.not_true, Bool.not_false, ne_eq] at hc126'
      refine rc_skip ?_
      refine pn_seq ?_
      refine rc_seq ?_
      refine rc_block ?_
      refine rc_seq ?_
      refine rc_region ?_
      refine rd_op (ov_move rfl) ?_
      refine rd_op (ov_move rfl) ?_
      obtain ⟨y127, hw127, hres⟩ := let_ex hres
      obtain ⟨v128, f127, r128⟩ := f18_ok (x1 := x11_) r0 (by first | exact small_gl (by assumption) (by first | assumption | (obtain ⟨h_, _⟩ := ‹_ ∧ ¬ _›; exact h_)) (by omega) | exact wb0 (by assumption) (by first | assumption | (obtain ⟨h_, _⟩ := ‹_ ∧ ¬ _›; exact h_)) (by omega) | (have hk := small_csl (by assumption) (by first | assumption | (obtain ⟨h_, _⟩ := ‹_ ∧ ¬ _›; exact h_)) (by omega); omega))
      rw [hw127] at f127 r128
      refine rd_call (cv_fn rfl rfl (clL_cons (TR.clo (tSl api_ControlNode.t) r0) (clL_cons rfl clL_nil)) f127) ?_
      refine rd_op (ov_move rfl) ?_
      refine rd_op (ov_extract rfl rfl) ?_
      refine rd_op (ov_extract rfl rfl) ?_
      refine rd_allocO (x := .agg [vi 0, vi 0, nilS, nilS, nilS]) M0 rfl rfl (fun i129 w129 h129 M129 => ?_)
      refine rd_storeO (k := 0) (v := v128) M129 rfl rfl rfl (TR.cnt api_ControlNode.t r128) (fun h131 M131 => ?_)
      replace M131 : Mem h131 [⟨.op i129 w129 0, 40, 5, [v128]⟩, ⟨.op i105 w105 0, 66, 4, [.agg [u107_0_answers, vi y107.next, a107_0_1, a107_0_3]]⟩, ⟨a107_0_1, 3, 1, es107_0_1⟩, ⟨a107_0_3, 3, 1, es107_0_3⟩] := M131
      refine rd_op (ov_move rfl) ?_
      refine rd_nil ?_
      refine pn_seq ?_
      refine rc_seq ?_
      refine rc_seq ?_
      refine rc_region ?_
      refine rd_op (ov_move rfl) ?_
      refine rd_op (ov_not rfl) ?_
      refine rd_nil ?_
      refine pn_seq ?_
      refine rc_cond rfl (fun hc132 => ?_) (fun hc132 => ?_)
      · replace hres := (ite_t hc132).symm.trans hres
        have hc132' := hc132
        try simp only [Bool.or_eq_true, Bool.or_eq_false_iff, Bool.and_eq_true, Bool.and_eq_false_imp, decide_eq_true_eq, decide_eq_false_iff_not, Bool.not_eq_true', Bool.not_eq_false', Bool.not_eq_true, Bool.not_eq_false, Bool.not_true, Bool.not_false, ne_eq] at hc132'
        refine rc_seq ?_
        refine rc_region ?_
        refine rd_op (v := vb false) (ov_move rfl) ?_
        refine rd_nil ?_
        refine pn_seq ?_
        subst hres
        exact rc_retV (.tmp rfl .nil) (deep_closed rfl) rfl
      · replace hres := (ite_f hc132).symm.trans hres
        have hc132' := hc132
        try simp only [Bool.or_eq_true, Bool.or_eq_false_iff, Bool.and_eq_true, Bool.and_eq_false_imp, decide_eq_true_eq, decide_eq_false_iff_not, Bool.not_eq_true', Bool.not_eq_false', Bool.not_eq_true, Bool.not_eq_false, Bool.not_true, Bool.not_false, ne_eq] at hc132'
        refine rc_skip ?_
        refine pn_seq ?_
        refine rc_seq ?_
        refine rc_seq ?_
        refine rc_region ?_
        refine rd_op (ov_faddrO rfl) ?_
        refine rd_op (ov_loadf (k := 0) M131 rfl rfl (api_ControlNode.g_Kind r128)) ?_
        refine rd_op (ov_bin rfl rfl i_eql) ?_
        refine rd_op (ov_move rfl) ?_
        refine rd_cut (d := 92) (v := vb ((decide (y127.1.Kind = 1)) || (decide (y127.1.Kind = 3)))) ?_ ?_
        · intro S Q r
          simp only [ac11_G3, List.cons_append, List.nil_append, List.append_assoc]
          cases hb133 : (decide (y127.1.Kind = 1))
          · intro k
            have hb133' := hb133
            try simp only [Bool.or_eq_true, Bool.or_eq_false_iff, Bool.and_eq_true, Bool.and_eq_false_imp, decide_eq_true_eq, decide_eq_false_iff_not, Bool.not_eq_true', Bool.not_eq_false', Bool.not_eq_true, Bool.not_eq_false, Bool.not_true, Bool.not_false, ne_eq] at hb133'
            refine rd_yes rfl rfl (ov_faddrO rfl) ?_
            refine rd_yes rfl rfl (ov_loadf (k := 0) M131 rfl rfl (api_ControlNode.g_Kind r128)) ?_
            refine rd_yes rfl rfl (ov_bin rfl rfl i_eql) ?_
            refine rd_op (v := vb (decide (y127.1.Kind = 3))) (ov_pick rfl rfl rfl rfl) ?_
            exact rd_weak (sub_cons rfl (sub_skip rfl (sub_skip rfl (sub_skip rfl (sub_skip rfl (sub_refl _)))))) k
          · intro k
            refine rd_skip rfl rfl ?_
            refine rd_skip rfl rfl ?_
            refine rd_skip rfl rfl ?_
            refine rd_op (v := vb true) (ov_pick rfl rfl rfl rfl) ?_
            exact rd_weak (sub_cons rfl (sub_skip rfl (sub_skip rfl (sub_skip rfl (sub_skip rfl (sub_refl _)))))) k
        refine rd_nil ?_
        refine pn_seq ?_
        obtain ⟨k137, hk137, hres⟩ := let_ex hres
        refine rc_join (F := fun b S Q => ∀ (x10_137 : Int) (ji10_137 : 0 ≤ x10_137) (hj137 : Heap) (Mj137 : Mem hj137 [⟨.op i129 w129 0, 40, 5, [v128]⟩, ⟨.op i105 w105 0, 66, 4, [.agg [u107_0_answers, vi y107.next, a107_0_1, a107_0_3]]⟩, ⟨a107_0_1, 3, 1, es107_0_1⟩, ⟨a107_0_3, 3, 1, es107_0_3⟩]), k137 x10_137 = res → RC Try.prog b S Q [(12, .op i129 w129 0), (11, vi x11_), (10, vi x10_137), (9, vi y124), (7, vi x7_123), (6, v114), (5, .op i105 w105 0), (0, v0)] hj137) ?_ ?_
        · intro x10_137 ji10_137 hj137 Mj137 hres
          rw [← hk137] at hres
          refine rc_seq ?_
          refine rc_region ?_
          refine rd_op (ov_faddrO rfl) ?_
          obtain ⟨v138, e138, r138⟩ := api_ControlNode.g_Then r128
          refine rd_op (ov_loadf (k := 0) Mj137 rfl rfl e138) ?_
          obtain ⟨y139, hw139, hres⟩ := let_ex hres
          have f139 := f20_ok  r138 
          rw [hw139] at f139
          have ek139 : y139 ≤ 9223372036854775807 := cnt_le hw139
          refine rd_call (cv_fn rfl rfl (clL_cons (TR.clo (tSl api_ControlNode.t) r138) clL_nil) f139) ?_
          refine rd_op (ov_faddrO rfl) ?_
          obtain ⟨v140, e140, r140⟩ := api_ControlNode.g_Else r128
          refine rd_op (ov_loadf (k := 0) Mj137 rfl rfl e140) ?_
          obtain ⟨y141, hw141, hres⟩ := let_ex hres
          have f141 := f20_ok  r140 
          rw [hw141] at f141
          have ek141 : y141 ≤ 9223372036854775807 := cnt_le hw141
          refine rd_call (cv_fn rfl rfl (clL_cons (TR.clo (tSl api_ControlNode.t) r140) clL_nil) f141) ?_
          refine rd_op (ov_bin rfl rfl i_add) ?_
          refine rd_op (ov_move rfl) ?_
          refine rd_nil ?_
          refine pn_seq ?_
          refine rc_seq ?_
          refine rc_seq ?_
          refine rc_region ?_
          refine rd_op (ov_move rfl) ?_
          refine rd_op (ov_move rfl) ?_
          refine rd_op (ov_bin rfl rfl i_add) ?_
          refine rd_op (ov_move rfl) ?_
          refine rd_op (ov_bin rfl rfl i_geq) ?_
          refine rd_nil ?_
          refine pn_seq ?_
          refine rc_cond rfl (fun hc142 => ?_) (fun hc142 => ?_)
          · replace hres := (ite_t hc142).symm.trans hres
            have hc142' := hc142
            try simp only [Bool.or_eq_true, Bool.or_eq_false_iff, Bool.and_eq_true, Bool.and_eq_false_imp, decide_eq_true_eq, decide_eq_false_iff_not, Bool.not_eq_true', Bool.not_eq_false', Bool.not_eq_true, Bool.not_eq_false, Bool.not_true, Bool.not_false, ne_eq] at hc142'
            refine rc_seq ?_
            refine rc_region ?_
            refine rd_op (v := vb false) (ov_move rfl) ?_
            refine rd_nil ?_
            refine pn_seq ?_
            subst hres
            exact rc_retV (.tmp rfl .nil) (deep_closed rfl) rfl
          · replace hres := (ite_f hc142).symm.trans hres
            have hc142' := hc142
            try simp only [Bool.or_eq_true, Bool.or_eq_false_iff, Bool.and_eq_true, Bool.and_eq_false_imp, decide_eq_true_eq, decide_eq_false_iff_not, Bool.not_eq_true', Bool.not_eq_false', Bool.not_eq_true, Bool.not_eq_false, Bool.not_true, Bool.not_false, ne_eq] at hc142'
            refine rc_skip ?_
            refine pn_seq ?_
            refine rc_seq ?_
            refine rc_region ?_
            refine rd_op (ov_faddrO rfl) ?_
            obtain ⟨v143, e143, r143⟩ := api_ControlNode.g_Then r128
            refine rd_op (ov_loadf (k := 0) Mj137 rfl rfl e143) ?_
            refine rd_op (ov_bi rfl (sl_len r143 Try.underlying28 _)) ?_
            refine rd_op (ov_bin rfl rfl i_gtr) ?_
            refine rd_nil ?_
            refine pn_seq ?_
            refine rc_cond rfl (fun hc144 => ?_) (fun hc144 => ?_)
            · replace hres := (ite_t hc144).symm.trans hres
              have hc144' := hc144
              try simp only [Bool.or_eq_true, Bool.or_eq_false_iff, Bool.and_eq_true, Bool.and_eq_false_imp, decide_eq_true_eq, decide_eq_false_iff_not, Bool.not_eq_true', Bool.not_eq_false', Bool.not_eq_true, Bool.not_eq_false, Bool.not_true, Bool.not_false, ne_eq] at hc144'
              refine rc_seq ?_
              refine rc_region ?_
              refine rd_op (ov_move rfl) ?_
              refine rd_op (ov_move rfl) ?_
              refine rd_op (ov_bin rfl rfl i_add) ?_
              obtain ⟨y145, hw145, hres⟩ := let_ex hres
              obtain ⟨v146, f145, r146⟩ := f18_ok (x1 := (wr (x11_ + 1))) r0 (by first | exact small_gl (by assumption) (by first | assumption | (obtain ⟨h_, _⟩ := ‹_ ∧ ¬ _›; exact h_)) (by omega) | exact wb0 (by assumption) (by first | assumption | (obtain ⟨h_, _⟩ := ‹_ ∧ ¬ _›; exact h_)) (by omega) | (have hk := small_csl (by assumption) (by first | assumption | (obtain ⟨h_, _⟩ := ‹_ ∧ ¬ _›; exact h_)) (by omega); omega))
              rw [hw145] at f145 r146
              refine rd_call (cv_fn rfl rfl (clL_cons (TR.clo (tSl api_ControlNode.t) r0) (clL_cons rfl clL_nil)) f145) ?_
              refine rd_op (ov_move rfl) ?_
              refine rd_op (ov_extract rfl rfl) ?_
              refine rd_op (ov_extract rfl rfl) ?_
              refine rd_allocO (x := .agg [vi 0, vi 0, nilS, nilS, nilS]) Mj137 rfl rfl (fun i147 w147 h147 M147 => ?_)
              refine rd_storeO (k := 0) (v := v146) M147 rfl rfl rfl (TR.cnt api_ControlNode.t r146) (fun h149 M149 => ?_)
              replace M149 : Mem h149 [⟨.op i147 w147 0, 40, 5, [v146]⟩, ⟨.op i129 w129 0, 40, 5, [v128]⟩, ⟨.op i105 w105 0, 66, 4, [.agg [u107_0_answers, vi y107.next, a107_0_1, a107_0_3]]⟩, ⟨a107_0_1, 3, 1, es107_0_1⟩, ⟨a107_0_3, 3, 1, es107_0_3⟩] := M149
              refine rd_op (ov_move rfl) ?_
              refine rd_nil ?_
              refine pn_seq ?_
              refine rc_seq ?_
              refine rc_region ?_
              refine rd_op (ov_move rfl) ?_
              refine rd_op (ov_not rfl) ?_
              refine rd_op (ov_move rfl) ?_
              refine rd_cut (d := 142) (v := vb ((!y145.2) || (!decide (y145.1.Kind = ((ix y127.1.Then 0).Kind))))) ?_ ?_
              · intro S Q r
                simp only [ac11_G5, List.cons_append, List.nil_append, List.append_assoc]
                cases hb150 : (!y145.2)
                · intro k
                  have hb150' := hb150
                  try simp only [Bool.or_eq_true, Bool.or_eq_false_iff, Bool.and_eq_true, Bool.and_eq_false_imp, decide_eq_true_eq, decide_eq_false_iff_not, Bool.not_eq_true', Bool.not_eq_false', Bool.not_eq_true, Bool.not_eq_false, Bool.not_true, Bool.not_false, ne_eq] at hb150'
                  refine rd_yes rfl rfl (ov_faddrO rfl) ?_
                  refine rd_yes rfl rfl (ov_loadf (k := 0) M149 rfl rfl (api_ControlNode.g_Kind r146)) ?_
                  refine rd_yes rfl rfl (ov_faddrO rfl) ?_
                  obtain ⟨v151, e151, r151⟩ := api_ControlNode.g_Then r128
                  refine rd_yes rfl rfl (ov_loadf (k := 1) M149 rfl rfl e151) ?_
                  obtain ⟨v152, e152, r152⟩ := sl_idx (i := 0) r151 (by omega) (by omega)
                  refine rd_yes rfl rfl (ov_iaddr rfl rfl e152) ?_
                  refine rd_yes rfl rfl (ov_faddr rfl (api_ControlNode.g_Kind r152)) ?_
                  refine rd_yes rfl rfl (ov_load rfl rfl rfl) ?_
                  refine rd_yes rfl rfl (ov_bin rfl rfl i_neq) ?_
                  refine rd_op (v := vb (!decide (y145.1.Kind = ((ix y127.1.Then 0).Kind)))) (ov_pick rfl rfl rfl rfl) ?_
                  exact rd_weak (sub_cons rfl (sub_skip rfl (sub_skip rfl (sub_skip rfl (sub_skip rfl (sub_skip rfl (sub_skip rfl (sub_skip rfl (sub_skip rfl (sub_skip rfl (sub_refl _))))))))))) k
                · intro k
                  refine rd_skip rfl rfl ?_
                  refine rd_skip rfl rfl ?_
                  refine rd_skip rfl rfl ?_
                  refine rd_skip rfl rfl ?_
                  refine rd_skip rfl rfl ?_
                  refine rd_skip rfl rfl ?_
                  refine rd_skip rfl rfl ?_
                  refine rd_skip rfl rfl ?_
                  refine rd_op (v := vb true) (ov_pick rfl rfl rfl rfl) ?_
                  exact rd_weak (sub_cons rfl (sub_skip rfl (sub_skip rfl (sub_skip rfl (sub_skip rfl (sub_skip rfl (sub_skip rfl (sub_skip rfl (sub_skip rfl (sub_skip rfl (sub_refl _))))))))))) k
              refine rd_op (ov_move rfl) ?_
              refine rd_cut (d := 152) (v := vb (((!y145.2) || (!decide (y145.1.Kind = ((ix y127.1.Then 0).Kind)))) || (!decide (y145.1.Table = ((ix y127.1.Then 0).Table))))) ?_ ?_
              · intro S Q r
                simp only [ac11_G6, List.cons_append, List.nil_append, List.append_assoc]
                cases hb153 : ((!y145.2) || (!decide (y145.1.Kind = ((ix y127.1.Then 0).Kind))))
                · intro k
                  have hb153' := hb153
                  try simp only [Bool.or_eq_true, Bool.or_eq_false_iff, Bool.and_eq_true, Bool.and_eq_false_imp, decide_eq_true_eq, decide_eq_false_iff_not, Bool.not_eq_true', Bool.not_eq_false', Bool.not_eq_true, Bool.not_eq_false, Bool.not_true, Bool.not_false, ne_eq] at hb153'
                  refine rd_yes rfl rfl (ov_faddrO rfl) ?_
                  refine rd_yes rfl rfl (ov_loadf (k := 0) M149 rfl rfl (api_ControlNode.g_Table r146)) ?_
                  refine rd_yes rfl rfl (ov_faddrO rfl) ?_
                  obtain ⟨v154, e154, r154⟩ := api_ControlNode.g_Then r128
                  refine rd_yes rfl rfl (ov_loadf (k := 1) M149 rfl rfl e154) ?_
                  obtain ⟨v155, e155, r155⟩ := sl_idx (i := 0) r154 (by omega) (by omega)
                  refine rd_yes rfl rfl (ov_iaddr rfl rfl e155) ?_
                  refine rd_yes rfl rfl (ov_faddr rfl (api_ControlNode.g_Table r155)) ?_
                  refine rd_yes rfl rfl (ov_load rfl rfl rfl) ?_
                  refine rd_yes rfl rfl (ov_bin rfl rfl i_neq) ?_
                  refine rd_op (v := vb (!decide (y145.1.Table = ((ix y127.1.Then 0).Table)))) (ov_pick rfl rfl rfl rfl) ?_
                  exact rd_weak (sub_cons rfl (sub_skip rfl (sub_skip rfl (sub_skip rfl (sub_skip rfl (sub_skip rfl (sub_skip rfl (sub_skip rfl (sub_skip rfl (sub_skip rfl (sub_refl _))))))))))) k
                · intro k
                  refine rd_skip rfl rfl ?_
                  refine rd_skip rfl rfl ?_
                  refine rd_skip rfl rfl ?_
                  refine rd_skip rfl rfl ?_
                  refine rd_skip rfl rfl ?_
                  refine rd_skip rfl rfl ?_
                  refine rd_skip rfl rfl ?_
                  refine rd_skip rfl rfl ?_
                  refine rd_op (v := vb true) (ov_pick rfl rfl rfl rfl) ?_
                  exact rd_weak (sub_cons rfl (sub_skip rfl (sub_skip rfl (sub_skip rfl (sub_skip rfl (sub_skip rfl (sub_skip rfl (sub_skip rfl (sub_skip rfl (sub_skip rfl (sub_refl _))))))))))) k
              refine rd_nil ?_
              refine pn_seq ?_
              refine rc_cond rfl (fun hc156 => ?_) (fun hc156 => ?_)
              · replace hres := (ite_t hc156).symm.trans hres
                have hc156' := hc156
                try simp only [Bool.or_eq_true, Bool.or_eq_false_iff, Bool.and_eq_true, Bool.and_eq_false_imp, decide_eq_true_eq, decide_eq_false_iff_not, Bool.not_eq_true', Bool.not_eq_false', Bool.not_eq_true, Bool.not_eq_false, Bool.not_true, Bool.not_false, ne_eq] at hc156'
                refine rc_seq ?_
                refine rc_region ?_
                refine rd_op (v := vb false) (ov_move rfl) ?_
                refine rd_nil ?_
                refine pn_seq ?_
                subst hres
                exact rc_retV (.tmp rfl .nil) (deep_closed rfl) rfl
              · replace hres := (ite_f hc156).symm.trans hres
                have hc156' := hc156
                try simp only [Bool.or_eq_true, Bool.or_eq_false_iff, Bool.and_eq_true, Bool.and_eq_false_imp, decide_eq_true_eq, decide_eq_false_iff_not, Bool.not_eq_true', Bool.not_eq_false', Bool.not_eq_true, Bool.not_eq_false, Bool.not_true, Bool.not_false, ne_eq] at hc156'
                refine rc_skip ?_
                refine pn_blk ?_
                refine pn_seq ?_
                refine rc_region ?_
                refine rd_op (ov_move rfl) ?_
                refine rd_op (ov_bin rfl rfl i_add) ?_
                refine rd_op (ov_move rfl) ?_
                refine rd_nil ?_
                refine pn_again ?_
                have hinc : wr (x11_ + 1) = x11_ + 1 := wr_of (by omega) (by omega)
                rw [hinc]
                refine rc_weak ?_ (ih x10_137 (x11_ + 1)  (by omega) (by omega) (by first | omega | (rw [wr_of (by omega) (by omega)]; omega)) _ (Mem.sub M149 (.cons _ (.cons _ (.cons_cons _ (.cons_cons _ (.cons_cons _ .slnil)))))) hres)
                exact ((sub_cons rfl (sub_cons rfl (sub_cons rfl (sub_cons rfl (sub_cons rfl (sub_cons rfl (sub_cons rfl (sub_nil _)))))))))
            · replace hres := (ite_f hc144).symm.trans hres
              have hc144' := hc144
              try simp only [Bool.or_eq_true, Bool.or_eq_false_iff, Bool.and_eq_true, Bool.and_eq_false_imp, decide_eq_true_eq, decide_eq_false_iff_not, Bool.not_eq_true', Bool.not_eq_false', Bool.not_eq_true, Bool.not_eq_false, Bool.not_true, Bool.not_false, ne_eq] at hc144'
              refine rc_skip ?_
              refine pn_blk ?_
              refine pn_seq ?_
              refine rc_region ?_
              refine rd_op (ov_move rfl) ?_
              refine rd_op (ov_bin rfl rfl i_add) ?_
              refine rd_op (ov_move rfl) ?_
              refine rd_nil ?_
              refine pn_again ?_
              have hinc : wr (x11_ + 1) = x11_ + 1 := wr_of (by omega) (by omega)
              rw [hinc]
              refine rc_weak ?_ (ih x10_137 (x11_ + 1)  (by omega) (by omega) (by first | omega | (rw [wr_of (by omega) (by omega)]; omega)) _ (Mem.sub Mj137 (.cons _ (.cons_cons _ (.cons_cons _ (.cons_cons _ .slnil))))) hres)
              exact ((sub_cons rfl (sub_cons rfl (sub_cons rfl (sub_cons rfl (sub_cons rfl (sub_cons rfl (sub_cons rfl (sub_nil _)))))))))
        · intro J
          refine rc_cond rfl (fun hc157 => ?_) (fun hc157 => ?_)
          · replace hres := (ite_t hc157).symm.trans hres
            have hc157' := hc157
            try simp only [Bool.or_eq_true, Bool.or_eq_false_iff, Bool.and_eq_true, Bool.and_eq_false_imp, decide_eq_true_eq, decide_eq_false_iff_not, Bool.not_eq_true', Bool.not_eq_false', Bool.not_eq_true, Bool.not_eq_false, Bool.not_true, Bool.not_false, ne_eq] at hc157'
            refine rc_seq ?_
            refine rc_seq ?_
            refine rc_region ?_
            refine rd_op (ov_move rfl) ?_
            refine rd_op (ov_move rfl) ?_
            refine rd_op (ov_bi rfl (sl_len r114 Try.underlying29 _)) ?_
            refine rd_op (ov_bin rfl rfl i_geq) ?_
            refine rd_op (ov_move rfl) ?_
            refine rd_cut (d := 105) (v := vb ((decide ((y113.length : Int) ≤ x10_)) || (!decide ((ix y113 x10_) = y127.1.Table)))) ?_ ?_
            · intro S Q r
              simp only [ac11_G4, List.cons_append, List.nil_append, List.append_assoc]
              cases hb158 : (decide ((y113.length : Int) ≤ x10_))
              · intro k
                have hb158' := hb158
                try simp only [Bool.or_eq_true, Bool.or_eq_false_iff, Bool.and_eq_true, Bool.and_eq_false_imp, decide_eq_true_eq, decide_eq_false_iff_not, Bool.not_eq_true', Bool.not_eq_false', Bool.not_eq_true, Bool.not_eq_false, Bool.not_true, Bool.not_false, ne_eq] at hb158'
                refine rd_yes rfl rfl (ov_move rfl) ?_
                refine rd_yes rfl rfl (ov_move rfl) ?_
                refine rd_yes rfl rfl (ov_iaddr rfl rfl (slI r114 (by omega) (by omega))) ?_
                refine rd_yes rfl rfl (ov_load rfl rfl rfl) ?_
                refine rd_yes rfl rfl (ov_faddrO rfl) ?_
                refine rd_yes rfl rfl (ov_loadf (k := 0) M131 rfl rfl (api_ControlNode.g_Table r128)) ?_
                refine rd_yes rfl rfl (ov_bin rfl rfl i_neq) ?_
                refine rd_op (v := vb (!decide ((ix y113 x10_) = y127.1.Table))) (ov_pick rfl rfl rfl rfl) ?_
                exact rd_weak (sub_cons rfl (sub_skip rfl (sub_skip rfl (sub_skip rfl (sub_skip rfl (sub_skip rfl (sub_skip rfl (sub_skip rfl (sub_skip rfl (sub_refl _)))))))))) k
              · intro k
                refine rd_skip rfl rfl ?_
                refine rd_skip rfl rfl ?_
                refine rd_skip rfl rfl ?_
                refine rd_skip rfl rfl ?_
                refine rd_skip rfl rfl ?_
                refine rd_skip rfl rfl ?_
                refine rd_skip rfl rfl ?_
                refine rd_op (v := vb true) (ov_pick rfl rfl rfl rfl) ?_
                exact rd_weak (sub_cons rfl (sub_skip rfl (sub_skip rfl (sub_skip rfl (sub_skip rfl (sub_skip rfl (sub_skip rfl (sub_skip rfl (sub_skip rfl (sub_refl _)))))))))) k
            refine rd_nil ?_
            refine pn_seq ?_
            refine rc_cond rfl (fun hc159 => ?_) (fun hc159 => ?_)
            · replace hres := (ite_t hc159).symm.trans hres
              have hc159' := hc159
              try simp only [Bool.or_eq_true, Bool.or_eq_false_iff, Bool.and_eq_true, Bool.and_eq_false_imp, decide_eq_true_eq, decide_eq_false_iff_not, Bool.not_eq_true', Bool.not_eq_false', Bool.not_eq_true, Bool.not_eq_false, Bool.not_true, Bool.not_false, ne_eq] at hc159'
              refine rc_seq ?_
              refine rc_region ?_
              refine rd_op (v := vb false) (ov_move rfl) ?_
              refine rd_nil ?_
              refine pn_seq ?_
              subst hres
              exact rc_retV (.tmp rfl .nil) (deep_closed rfl) rfl
            · replace hres := (ite_f hc159).symm.trans hres
              have hc159' := hc159
              try simp only [Bool.or_eq_true, Bool.or_eq_false_iff, Bool.and_eq_true, Bool.and_eq_false_imp, decide_eq_true_eq, decide_eq_false_iff_not, Bool.not_eq_true', Bool.not_eq_false', Bool.not_eq_true, Bool.not_eq_false, Bool.not_true, Bool.not_false, ne_eq] at hc159'
              refine rc_skip ?_
              refine pn_seq ?_
              refine rc_region ?_
              refine rd_op (ov_move rfl) ?_
              refine rd_op (ov_bin rfl rfl i_add) ?_
              refine rd_op (ov_move rfl) ?_
              refine rd_nil ?_
              refine pn_seq (rc_weak ((sub_cons rfl (sub_cons rfl (sub_cons rfl (sub_cons rfl (sub_cons rfl (sub_cons rfl (sub_cons rfl (sub_cons rfl (sub_nil _)))))))))) (J _ (by first | omega | (rw [wr_of (by omega) (by omega)]; omega)) _ (Mem.sub M131 (.cons_cons _ (.cons_cons _ (.cons_cons _ (.cons_cons _ .slnil))))) hres))
          · replace hres := (ite_f hc157).symm.trans hres
            have hc157' := hc157
            try simp only [Bool.or_eq_true, Bool.or_eq_false_iff, Bool.and_eq_true, Bool.and_eq_false_imp, decide_eq_true_eq, decide_eq_false_iff_not, Bool.not_eq_true', Bool.not_eq_false', Bool.not_eq_true, Bool.not_eq_false, Bool.not_true, Bool.not_false, ne_eq] at hc157'
            refine rc_skip ?_
            refine pn_seq (rc_weak ((sub_cons rfl (sub_cons rfl (sub_cons rfl (sub_cons rfl (sub_cons rfl (sub_cons rfl (sub_cons rfl (sub_cons rfl (sub_nil _)))))))))) (J _ (by first | omega | (rw [wr_of (by omega) (by omega)]; omega)) _ (Mem.sub M131 (.cons_cons _ (.cons_cons _ (.cons_cons _ (.cons_cons _ .slnil))))) hres))
    · exfalso
      try simp only [Bool.or_eq_true, Bool.or_eq_false_iff, Bool.and_eq_true, Bool.and_eq_false_imp, decide_eq_true_eq, decide_eq_false_iff_not, Bool.not_eq_true', Bool.not_eq_false', Bool.not_eq_true, Bool.not_eq_false, Bool.not_true, Bool.not_false, ne_eq] at hc126
      omega

theorem f11_ok {x0 : List api_ControlNode} {x1 : List Bool} {v0 : PV} {v1 : PV} (r0 : (tSl api_ControlNode.t).R x0 v0) (r1 : (tSl tB).R x1 v1) : FnR Try.prog 11 [v0, v1] (vb (law20_ControlOrder x0 x1)) := by
  obtain ⟨res, hres⟩ : ∃ res, law20_ControlOrder x0 x1 = res := ⟨_, rfl⟩
  suffices H : RC Try.prog ac11 [] (QR Try.prog [(4, none)] (RF11 res)) (argE 0 [v0, v1]) ⟨0, []⟩ by
    obtain ⟨r, h1, h2⟩ := fnE text11 (by simp) H
    rw [hres]
    have h2 : r = vb res := h2
    rw [← h2]; exact h1
  unfold law20_ControlOrder at hres
  unfold ac11
  refine rc_seq ?_
  refine rc_region ?_
  refine rd_op (v := vb false) (ov_move rfl) ?_
  refine rd_nil ?_
  refine pn_seq ?_
  refine rc_seq ?_
  refine rc_seq ?_
  refine rc_region ?_
  refine rd_op (ov_move rfl) ?_
  obtain ⟨y101, hw101, hres⟩ := let_ex hres
  have f101 := f14_ok (x1 := 60) r0 
  rw [hw101] at f101
  refine rd_call (cv_fn rfl rfl (clL_cons (TR.clo (tSl api_ControlNode.t) r0) (clL_cons rfl clL_nil)) f101) ?_
  refine rd_op (ov_not rfl) ?_
  refine rd_op (ov_move rfl) ?_
  refine rd_cut (d := 28) (v := vb ((!y101) || (decide (20 < (x1.length : Int))))) ?_ ?_
  · intro S Q r
    simp only [ac11_G1, List.cons_append, List.nil_append, List.append_assoc]
    cases hb102 : (!y101)
    · intro k
      have hb102' := hb102
      try simp only [Bool.or_eq_true, Bool.or_eq_false_iff, Bool.and_eq_true, Bool.and_eq_false_imp, decide_eq_true_eq, decide_eq_false_iff_not, Bool.not_eq_true', Bool.not_eq_false', Bool.not_eq_true, Bool.not_eq_false, Bool.not_true, Bool.not_false, ne_eq] at hb102'
      refine rd_yes rfl rfl (ov_move rfl) ?_
      refine rd_yes rfl rfl (ov_bi rfl (sl_len r1 Try.underlying50 _)) ?_
      refine rd_yes rfl rfl (ov_bin rfl rfl i_gtr) ?_
      refine rd_op (v := vb (decide (20 < (x1.length : Int)))) (ov_pick rfl rfl rfl rfl) ?_
      exact rd_weak (sub_cons rfl (sub_skip rfl (sub_skip rfl (sub_skip rfl (sub_skip rfl (sub_refl _)))))) k
    · intro k
      refine rd_skip rfl rfl ?_
      refine rd_skip rfl rfl ?_
      refine rd_skip rfl rfl ?_
      refine rd_op (v := vb true) (ov_pick rfl rfl rfl rfl) ?_
      exact rd_weak (sub_cons rfl (sub_skip rfl (sub_skip rfl (sub_skip rfl (sub_skip rfl (sub_refl _)))))) k
  refine rd_nil ?_
  refine pn_seq ?_
  refine rc_cond rfl (fun hc103 => ?_) (fun hc103 => ?_)
  · replace hres := (ite_t hc103).symm.trans hres
    have hc103' := hc103
    try simp only [Bool.or_eq_true, Bool.or_eq_false_iff, Bool.and_eq_true, Bool.and_eq_false_imp, decide_eq_true_eq, decide_eq_false_iff_not, Bool.not_eq_true', Bool.not_eq_false', Bool.not_eq_true, Bool.not_eq_false, Bool.not_true, Bool.not_false, ne_eq] at hc103'
    refine rc_seq ?_
    refine rc_region ?_
    obtain ⟨y104, hw104, hres⟩ := let_ex hres
    have f104 := f15_ok   
    rw [hw104] at f104
    refine rd_call (cv_fn rfl rfl clL_nil f104) ?_
    refine rd_op (ov_move rfl) ?_
    refine rd_nil ?_
    refine pn_seq ?_
    subst hres
    exact rc_retV (.tmp rfl .nil) (deep_closed rfl) rfl
  · replace hres := (ite_f hc103).symm.trans hres
    have hc103' := hc103
    try simp only [Bool.or_eq_true, Bool.or_eq_false_iff, Bool.and_eq_true, Bool.and_eq_false_imp, decide_eq_true_eq, decide_eq_false_iff_not, Bool.not_eq_true', Bool.not_eq_false', Bool.not_eq_true, Bool.not_eq_false, Bool.not_true, Bool.not_false, ne_eq] at hc103'
    refine rc_skip ?_
    refine pn_seq ?_
    refine rc_seq ?_
    refine rc_region ?_
    refine rd_op (ov_move rfl) ?_
    refine rd_op (v := .agg [v1, vi 0, nilS, nilS]) (ov_build (cs := [v1, vi 0, nilS, nilS]) rfl (by simp only [buildV, cells_one (TR.cnt (tSl tB) r1) (TR.agg (tSl tB) r1)]; rfl)) ?_
    refine rd_boxO (x := .agg [v1, vi 0, nilS, nilS]) (Mem.nil ⟨0, []⟩) rfl rfl (fun i105 w105 h105 M105 => ?_)
    refine rd_op (ov_move rfl) ?_
    refine rd_nil ?_
    refine pn_seq ?_
    refine rc_seq ?_
    refine rc_regionS ?_
    refine rs_step ?_
    refine rd_op (ov_move rfl) ?_
    refine rs_back ?_
    refine rs_step ?_
    refine rd_op (ov_move rfl) ?_
    refine rs_back ?_
    refine rs_step ?_
    refine rd_op (v := .fn (.func 40) [.op i105 w105 0] []) (ov_mkFunc rfl rfl) ?_
    refine rs_back ?_
    refine rs_step ?_
    refine rd_op (ov_move rfl) ?_
    refine rs_back ?_
    refine rs_step ?_
    refine rd_op (v := .fn (.func 41) [.op i105 w105 0] []) (ov_mkFunc rfl rfl) ?_
    refine rs_back ?_
    have M108 := mem_acc (sz := 1) (es := []) M105 3 (.inl ⟨none, rfl, rfl⟩) (by simp)
    have M110 := mem_acc (sz := 1) (es := []) M108 3 (.inl ⟨none, rfl, rfl⟩) (by simp)
    have M107 : Mem h105 [⟨.op i105 w105 0, 66, 4, [.agg [v1, vi 0, nilS, nilS]]⟩, ⟨nilS, 3, 1, ([] : List PV)⟩, ⟨nilS, 3, 1, ([] : List PV)⟩] := (Mem.front (k := 2) (Mem.front (k := 1) (Mem.front (k := 0) M110 rfl) rfl) rfl)
    obtain ⟨y107, hw107, hres⟩ := let_ex hres
    obtain ⟨vr107, h112, hX107, hZ107⟩ := f39001_ok (x0 := x0) (x1 := ({ answers := x1, next := 0, tables := ([] : List Int), conds := ([] : List Int) } : law20_walk)) r0 r1 (show All2 tI.R ([] : List Int) [] from trivial) rfl (by first | decide | simp) (.inl rfl) (show All2 tI.R ([] : List Int) [] from trivial) rfl (by first | decide | simp) (.inl rfl) M107 (by first | exact small_gl (by assumption) (by first | assumption | (obtain ⟨h_, _⟩ := ‹_ ∧ ¬ _›; exact h_)) (by omega) | exact wb0 (by assumption) (by first | assumption | (obtain ⟨h_, _⟩ := ‹_ ∧ ¬ _›; exact h_)) (by omega) | (have hk := small_csl (by assumption) (by first | assumption | (obtain ⟨h_, _⟩ := ‹_ ∧ ¬ _›; exact h_)) (by omega); omega)) (by first | exact small_gl (by assumption) (by first | assumption | (obtain ⟨h_, _⟩ := ‹_ ∧ ¬ _›; exact h_)) (by omega) | exact wb0 (by assumption) (by first | assumption | (obtain ⟨h_, _⟩ := ‹_ ∧ ¬ _›; exact h_)) (by omega) | (have hk := small_csl (by assumption) (by first | assumption | (obtain ⟨h_, _⟩ := ‹_ ∧ ¬ _›; exact h_)) (by omega); omega))
    rw [hw107] at hZ107
    obtain ⟨u107_0_answers, a107_0_1, es107_0_1, a107_0_3, es107_0_3, M112, ru107_0_answers, qs107_0_1, ne107_0_1, hl107_0_1, wi107_0_2, qs107_0_3, ne107_0_3, hl107_0_3, wi107_0_4, hr107⟩ := hZ107
    replace hr107 := hr107.symm; subst hr107
    refine rs_callXc rfl rfl hX107 ?_
    refine rs_nil ?_
    refine pn_seq ?_
    refine rc_seq ?_
    refine rc_region ?_
    refine rd_op (ov_move rfl) ?_
    obtain ⟨y113, hw113, hres⟩ := let_ex hres
    obtain ⟨v114, f113, r114⟩ := f25_ok  r0 (by first | exact small_gl (by assumption) (by first | assumption | (obtain ⟨h_, _⟩ := ‹_ ∧ ¬ _›; exact h_)) (by omega) | exact wb0 (by assumption) (by first | assumption | (obtain ⟨h_, _⟩ := ‹_ ∧ ¬ _›; exact h_)) (by omega) | (have hk := small_csl (by assumption) (by first | assumption | (obtain ⟨h_, _⟩ := ‹_ ∧ ¬ _›; exact h_)) (by omega); omega))
    rw [hw113] at r114
    have ek113 : (y113.length : Int) ≤ 9223372036854775807 := sl_bound ‹(tSl tI).R y113 _›
    refine rd_call (cv_fn rfl rfl (clL_cons (TR.clo (tSl api_ControlNode.t) r0) clL_nil) f113) ?_
    refine rd_op (ov_move rfl) ?_
    refine rd_nil ?_
    refine pn_seq ?_
    refine rc_seq ?_
    refine rc_region ?_
    refine rd_op (v := vi 0) (ov_move rfl) ?_
    refine rd_nil ?_
    refine pn_seq ?_
    refine rc_seq ?_
    refine rc_seq ?_
    refine rc_region ?_
    refine rd_op (v := vi 0) (ov_move rfl) ?_
    refine rd_nil ?_
    refine pn_seq ?_
    refine rc_block ?_
    refine rc_weak ?_ (law20_ControlOrder_L1_ok (x0 := x0) (x1 := x1) (y101 := y101) (y107 := y107) (y113 := y113) (v0 := v0) (u107_0_answers := u107_0_answers) (a107_0_1 := a107_0_1) (es107_0_1 := es107_0_1) (a107_0_3 := a107_0_3) (es107_0_3 := es107_0_3) (v114 := v114) (i105 := i105) (w105 := w105) (hw101 := hw101) (hc103 := hc103) (hw107 := hw107) (ru107_0_answers := ru107_0_answers) (qs107_0_1 := qs107_0_1) (ne107_0_1 := ne107_0_1) (hl107_0_1 := hl107_0_1) (wi107_0_2 := wi107_0_2) (ne107_0_3 := ne107_0_3) (hl107_0_3 := hl107_0_3) (wi107_0_4 := wi107_0_4) (hw113 := hw113) (r114 := r114) (ek113 := ek113) ?_ (Int.toNat ((y113.length : Int) - 0)) 0 0 rfl (by omega) (by omega) _ (Mem.sub M112 (.cons_cons _ (.cons_cons _ (.cons_cons _ .slnil)))) hres)
    · exact ((sub_cons rfl (sub_cons rfl (sub_cons rfl (sub_cons rfl (sub_cons rfl (sub_nil _)))))))
    · intro x7_123 h123 M123 hres
      refine px_blk ?_
      refine pn_seq ?_
      refine rc_seq ?_
      refine rc_region ?_
      refine rd_op (ov_move rfl) ?_
      obtain ⟨y124, hw124, hres⟩ := let_ex hres
      have f124 := f20_ok  r0 
      rw [hw124] at f124
      have ek124 : y124 ≤ 9223372036854775807 := cnt_le hw124
      refine rd_call (cv_fn rfl rfl (clL_cons (TR.clo (tSl api_ControlNode.t) r0) clL_nil) f124) ?_
      refine rd_op (ov_move rfl) ?_
      refine rd_nil ?_
      refine pn_seq ?_
      refine rc_seq ?_
      refine rc_region ?_
      refine rd_op (v := vi 0) (ov_move rfl) ?_
      refine rd_nil ?_
      refine pn_seq ?_
      refine rc_seq ?_
      refine rc_seq ?_
      refine rc_region ?_
      refine rd_op (v := vi 0) (ov_move rfl) ?_
      refine rd_nil ?_
      refine pn_seq ?_
      refine rc_block ?_
      refine rc_weak ?_ (law20_ControlOrder_L2_ok (x0 := x0) (x1 := x1) (y101 := y101) (y107 := y107) (y113 := y113) (x7_123 := x7_123) (y124 := y124) (v0 := v0) (u107_0_answers := u107_0_answers) (a107_0_1 := a107_0_1) (es107_0_1 := es107_0_1) (a107_0_3 := a107_0_3) (es107_0_3 := es107_0_3) (v114 := v114) (i105 := i105) (w105 := w105) (r0 := r0) (hw101 := hw101) (hc103 := hc103) (hw107 := hw107) (ru107_0_answers := ru107_0_answers) (ne107_0_1 := ne107_0_1) (hl107_0_1 := hl107_0_1) (wi107_0_2 := wi107_0_2) (ne107_0_3 := ne107_0_3) (hl107_0_3 := hl107_0_3) (wi107_0_4 := wi107_0_4) (hw113 := hw113) (r114 := r114) (ek113 := ek113) (hw124 := hw124) (ek124 := ek124) ?_ (Int.toNat (y124 - 0)) 0 0 rfl (by omega) (by omega) _ (Mem.sub M123 (.cons_cons _ (.cons_cons _ (.cons_cons _ .slnil)))) hres)
      · exact ((sub_cons rfl (sub_cons rfl (sub_cons rfl (sub_cons rfl (sub_cons rfl (sub_cons rfl (sub_cons rfl (sub_nil _)))))))))
      · intro x10_160 h160 M160 hres
        refine px_blk ?_
        refine pn_seq ?_
        refine rc_seq ?_
        refine rc_region ?_
        refine rd_op (ov_move rfl) ?_
        refine rd_op (ov_move rfl) ?_
        obtain ⟨y161, hw161, hres⟩ := let_ex hres
        obtain ⟨v162, f161, r162⟩ := f18_ok (x1 := y124) r0 (by first | exact small_gl (by assumption) (by first | assumption | (obtain ⟨h_, _⟩ := ‹_ ∧ ¬ _›; exact h_)) (by omega) | exact wb0 (by assumption) (by first | assumption | (obtain ⟨h_, _⟩ := ‹_ ∧ ¬ _›; exact h_)) (by omega) | (have hk := small_csl (by assumption) (by first | assumption | (obtain ⟨h_, _⟩ := ‹_ ∧ ¬ _›; exact h_)) (by omega); omega))
        rw [hw161] at f161 r162
        refine rd_call (cv_fn rfl rfl (clL_cons (TR.clo (tSl api_ControlNode.t) r0) (clL_cons rfl clL_nil)) f161) ?_
        refine rd_op (ov_move rfl) ?_
        refine rd_op (ov_extract rfl rfl) ?_
        refine rd_op (ov_extract rfl rfl) ?_
        refine rd_allocO (x := .agg [vi 0, vi 0, nilS, nilS, nilS]) M160 rfl rfl (fun i163 w163 h163 M163 => ?_)
        refine rd_storeO (k := 0) (v := v162) M163 rfl rfl rfl (TR.cnt api_ControlNode.t r162) (fun h165 M165 => ?_)
        replace M165 : Mem h165 [⟨.op i163 w163 0, 40, 5, [v162]⟩, ⟨.op i105 w105 0, 66, 4, [.agg [u107_0_answers, vi y107.next, a107_0_1, a107_0_3]]⟩, ⟨a107_0_1, 3, 1, es107_0_1⟩, ⟨a107_0_3, 3, 1, es107_0_3⟩] := M165
        refine rd_op (ov_move rfl) ?_
        refine rd_nil ?_
        refine pn_seq ?_
        refine rc_seq ?_
        refine rc_region ?_
        refine rd_op (ov_move rfl) ?_
        obtain ⟨y166, hw166, hres⟩ := let_ex hres
        obtain ⟨v167, f166, r167⟩ := f18_ok (x1 := (-1)) r0 (by first | exact small_gl (by assumption) (by first | assumption | (obtain ⟨h_, _⟩ := ‹_ ∧ ¬ _›; exact h_)) (by omega) | exact wb0 (by assumption) (by first | assumption | (obtain ⟨h_, _⟩ := ‹_ ∧ ¬ _›; exact h_)) (by omega) | (have hk := small_csl (by assumption) (by first | assumption | (obtain ⟨h_, _⟩ := ‹_ ∧ ¬ _›; exact h_)) (by omega); omega))
        rw [hw166] at f166 r167
        refine rd_call (cv_fn rfl rfl (clL_cons (TR.clo (tSl api_ControlNode.t) r0) (clL_cons rfl clL_nil)) f166) ?_
        refine rd_op (ov_move rfl) ?_
        refine rd_op (ov_extract rfl rfl) ?_
        refine rd_op (ov_extract rfl rfl) ?_
        refine rd_allocO (x := .agg [vi 0, vi 0, nilS, nilS, nilS]) M165 rfl rfl (fun i168 w168 h168 M168 => ?_)
        refine rd_storeO (k := 0) (v := v167) M168 rfl rfl rfl (TR.cnt api_ControlNode.t r167) (fun h170 M170 => ?_)
        replace M170 : Mem h170 [⟨.op i168 w168 0, 40, 5, [v167]⟩, ⟨.op i163 w163 0, 40, 5, [v162]⟩, ⟨.op i105 w105 0, 66, 4, [.agg [u107_0_answers, vi y107.next, a107_0_1, a107_0_3]]⟩, ⟨a107_0_1, 3, 1, es107_0_1⟩, ⟨a107_0_3, 3, 1, es107_0_3⟩] := M170
        refine rd_op (ov_move rfl) ?_
        refine rd_nil ?_
        refine pn_seq ?_
        refine rc_seq ?_
        refine rc_region ?_
        refine rd_op (ov_move rfl) ?_
        refine rd_op (ov_move rfl) ?_
        refine rd_op (ov_nilCheck rfl rfl) ?_
        refine rd_op (ov_faddrO rfl) ?_
        refine rd_op (ov_loadf (k := 2) M170 rfl rfl (mk1 (mem_one (k := 3) M170 rfl ne107_0_1).2)) ?_
        refine rd_op (ov_bi rfl (own_len (k := 3) M170 rfl Try.underlying29 ne107_0_1 qs107_0_1 _)) ?_
        refine rd_op (ov_bin rfl rfl i_eql) ?_
        refine rd_op (ov_move rfl) ?_
        refine rd_cut (d := 176) (v := vb ((decide (x7_123 = (y107.tables.length : Int))) && (decide (x10_160 = (y113.length : Int))))) ?_ ?_
        · intro S Q r
          simp only [ac11_G7, List.cons_append, List.nil_append, List.append_assoc]
          cases hb171 : (decide (x7_123 = (y107.tables.length : Int)))
          · intro k
            refine rd_skip rfl rfl ?_
            refine rd_skip rfl rfl ?_
            refine rd_skip rfl rfl ?_
            refine rd_skip rfl rfl ?_
            refine rd_op (v := vb false) (ov_pick rfl rfl rfl rfl) ?_
            exact rd_weak (sub_cons rfl (sub_skip rfl (sub_skip rfl (sub_skip rfl (sub_skip rfl (sub_skip rfl (sub_refl _))))))) k
          · intro k
            have hb171' := hb171
            try simp only [Bool.or_eq_true, Bool.or_eq_false_iff, Bool.and_eq_true, Bool.and_eq_false_imp, decide_eq_true_eq, decide_eq_false_iff_not, Bool.not_eq_true', Bool.not_eq_false', Bool.not_eq_true, Bool.not_eq_false, Bool.not_true, Bool.not_false, ne_eq] at hb171'
            refine rd_yes rfl rfl (ov_move rfl) ?_
            refine rd_yes rfl rfl (ov_move rfl) ?_
            refine rd_yes rfl rfl (ov_bi rfl (sl_len r114 Try.underlying29 _)) ?_
            refine rd_yes rfl rfl (ov_bin rfl rfl i_eql) ?_
            refine rd_op (v := vb (decide (x10_160 = (y113.length : Int)))) (ov_pick rfl rfl rfl rfl) ?_
            exact rd_weak (sub_cons rfl (sub_skip rfl (sub_skip rfl (sub_skip rfl (sub_skip rfl (sub_skip rfl (sub_refl _))))))) k
        refine rd_op (ov_move rfl) ?_
        refine rd_cut (d := 180) (v := vb (((decide (x7_123 = (y107.tables.length : Int))) && (decide (x10_160 = (y113.length : Int)))) && (!y161.2))) ?_ ?_
        · intro S Q r
          simp only [ac11_G8, List.cons_append, List.nil_append, List.append_assoc]
          cases hb172 : ((decide (x7_123 = (y107.tables.length : Int))) && (decide (x10_160 = (y113.length : Int))))
          · intro k
            refine rd_skip rfl rfl ?_
            refine rd_skip rfl rfl ?_
            refine rd_op (v := vb false) (ov_pick rfl rfl rfl rfl) ?_
            exact rd_weak (sub_cons rfl (sub_skip rfl (sub_skip rfl (sub_skip rfl (sub_refl _))))) k
          · intro k
            have hb172' := hb172
            try simp only [Bool.or_eq_true, Bool.or_eq_false_iff, Bool.and_eq_true, Bool.and_eq_false_imp, decide_eq_true_eq, decide_eq_false_iff_not, Bool.not_eq_true', Bool.not_eq_false', Bool.not_eq_true, Bool.not_eq_false, Bool.not_true, Bool.not_false, ne_eq] at hb172'
            refine rd_yes rfl rfl (ov_move rfl) ?_
            refine rd_yes rfl rfl (ov_not rfl) ?_
            refine rd_op (v := vb (!y161.2)) (ov_pick rfl rfl rfl rfl) ?_
            exact rd_weak (sub_cons rfl (sub_skip rfl (sub_skip rfl (sub_skip rfl (sub_refl _))))) k
        refine rd_op (ov_move rfl) ?_
        refine rd_cut (d := 184) (v := vb ((((decide (x7_123 = (y107.tables.length : Int))) && (decide (x10_160 = (y113.length : Int)))) && (!y161.2)) && (!y166.2))) ?_ ?_
        · intro S Q r
          simp only [ac11_G9, List.cons_append, List.nil_append, List.append_assoc]
          cases hb173 : (((decide (x7_123 = (y107.tables.length : Int))) && (decide (x10_160 = (y113.length : Int)))) && (!y161.2))
          · intro k
            refine rd_skip rfl rfl ?_
            refine rd_skip rfl rfl ?_
            refine rd_op (v := vb false) (ov_pick rfl rfl rfl rfl) ?_
            exact rd_weak (sub_cons rfl (sub_skip rfl (sub_skip rfl (sub_skip rfl (sub_refl _))))) k
          · intro k
            have hb173' := hb173
            try simp only [Bool.or_eq_true, Bool.or_eq_false_iff, Bool.and_eq_true, Bool.and_eq_false_imp, decide_eq_true_eq, decide_eq_false_iff_not, Bool.not_eq_true', Bool.not_eq_false', Bool.not_eq_true, Bool.not_eq_false, Bool.not_true, Bool.not_false, ne_eq] at hb173'
            refine rd_yes rfl rfl (ov_move rfl) ?_
            refine rd_yes rfl rfl (ov_not rfl) ?_
            refine rd_op (v := vb (!y166.2)) (ov_pick rfl rfl rfl rfl) ?_
            exact rd_weak (sub_cons rfl (sub_skip rfl (sub_skip rfl (sub_skip rfl (sub_refl _))))) k
        refine rd_op (ov_move rfl) ?_
        refine rd_cut (d := 187) (v := vb (((((decide (x7_123 = (y107.tables.length : Int))) && (decide (x10_160 = (y113.length : Int)))) && (!y161.2)) && (!y166.2)) && (law20_works))) ?_ ?_
        · intro S Q r
          simp only [ac11_G10, List.cons_append, List.nil_append, List.append_assoc]
          cases hb174 : ((((decide (x7_123 = (y107.tables.length : Int))) && (decide (x10_160 = (y113.length : Int)))) && (!y161.2)) && (!y166.2))
          · intro k
            refine rd_skip rfl rfl ?_
            refine rd_op (v := vb false) (ov_pick rfl rfl rfl rfl) ?_
            exact rd_weak (sub_cons rfl (sub_skip rfl (sub_skip rfl (sub_refl _)))) k
          · intro k
            have hb174' := hb174
            try simp only [Bool.or_eq_true, Bool.or_eq_false_iff, Bool.and_eq_true, Bool.and_eq_false_imp, decide_eq_true_eq, decide_eq_false_iff_not, Bool.not_eq_true', Bool.not_eq_false', Bool.not_eq_true, Bool.not_eq_false, Bool.not_true, Bool.not_false, ne_eq] at hb174'
            have f175 := f15_ok   
            refine rd_ycall rfl rfl (cv_fn rfl rfl clL_nil f175) ?_
            refine rd_op (v := vb (law20_works)) (ov_pick rfl rfl rfl rfl) ?_
            exact rd_weak (sub_cons rfl (sub_skip rfl (sub_skip rfl (sub_refl _)))) k
        refine rd_op (ov_move rfl) ?_
        refine rd_nil ?_
        refine pn_seq ?_
        subst hres
        exact rc_retV (.tmp rfl .nil) (deep_closed rfl) rfl

end Go.Proofs.Ytkgnjpoafilicaa
