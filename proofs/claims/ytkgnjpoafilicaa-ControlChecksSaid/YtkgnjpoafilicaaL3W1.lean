/-
  The code of each function does what its plain program says.
-/
import Derived.Test.YtkgnjpoafilicaaL3W0
set_option linter.unusedVariables false
set_option linter.unusedSimpArgs false
set_option maxRecDepth 100000
namespace Go.Proofs.Ytkgnjpoafilicaa
open Go Go.Pb Go.RowKit
theorem f15_ok : FnR Try.prog 15 [] (vb law20_works) := run15

/-- patchbay/control.Count$1 -/
def RF56 (i1_ w1_ : Nat) (R_ : List Ent) (res : Bool × Int) (r : PV) (h : Heap) : Prop := Mem h (⟨.op i1_ w1_ 0, 3, 1, [vi res.2]⟩ :: R_) ∧ r = vb res.1
theorem f56_ok {x0 : api_ControlNode} {c0 : Int} {v0 : PV} {R_ : List Ent} {h_ : Heap} {i1_ w1_ : Nat} (r0 : api_ControlNode.t.R x0 v0) (M_ : Mem h_ (⟨.op i1_ w1_ 0, 3, 1, [vi c0]⟩ :: R_)) : ∃ r h2_, FnX Try.prog 56 [v0, .op i1_ w1_ 0] h_ r h2_ ∧ RF56 i1_ w1_ R_ (control_Count_1 x0 c0) r h2_ := by
  obtain ⟨res, hres⟩ : ∃ res, control_Count_1 x0 c0 = res := ⟨_, rfl⟩
  suffices H : RC Try.prog ac56 [] (retPost Try.prog [(3, none)] (RF56 i1_ w1_ R_ res)) (argE 0 [v0, .op i1_ w1_ 0]) h_ by
    rw [hres]
    exact fnX text56 (by simp) H
  unfold control_Count_1 at hres
  unfold ac56
  refine rc_seq ?_
  refine rc_region ?_
  refine rd_op (ov_box rfl (TR.cnt api_ControlNode.t r0)) ?_
  refine rd_op (v := vb false) (ov_move rfl) ?_
  refine rd_nil ?_
  refine pn_seq ?_
  refine rc_seq ?_
  refine rc_region ?_
  refine rd_op (ov_load0 (k := 0) M_ rfl rfl rfl) ?_
  refine rd_op (ov_bin rfl rfl i_add) ?_
  refine rd_storeO (k := 0) (v := vi (wr (c0 + 1))) M_ rfl rfl rfl rfl (fun h102 M102 => ?_)
  replace M102 : Mem h102 (⟨.op i1_ w1_ 0, 3, 1, [vi (wr (c0 + 1))]⟩ :: R_) := M102
  refine rd_nil ?_
  refine pn_seq ?_
  refine rc_seq ?_
  refine rc_region ?_
  refine rd_op (v := vb true) (ov_move rfl) ?_
  refine rd_nil ?_
  refine pn_seq ?_
  have MZ103 : Mem h102 (⟨.op i1_ w1_ 0, 3, 1, [vi (wr (c0 + 1))]⟩ :: R_) := (Mem.front (k := 0) M102 rfl)
  subst hres
  exact rc_retX (.tmp rfl .nil) ⟨Mem.sub MZ103 (.cons_cons _ (List.Sublist.refl R_)), rfl⟩
def ME56 (i1_ w1_ : Nat) (k_ : Nat) (s_ : Int) (L_ : List Ent) : Prop := (L_ = (⟨.op i1_ w1_ 0, 3, 1, [vi s_]⟩ :: [])) ∧ (True)
theorem mono56 (i1_ w1_ : Nat) : ∀ k_ s_ L_, ME56 i1_ w1_ (k_ + 1) s_ L_ → ME56 i1_ w1_ k_ s_ L_ := fun k_ s_ L_ h_ => ⟨h_.1, by have hi_ := h_.2; trivial⟩
theorem hv56 {i1_ w1_ : Nat} : VIS Try.prog 56 [.op i1_ w1_ 0] (fun a_ s_ => control_Count_1 a_ s_) (ME56 i1_ w1_) (fun _ => True) := by
  intro k_ a_ va_ s_ L_ R_ h_ hg_ ra_ hE_ M_
  obtain ⟨hL_, hi_⟩ := hE_
  subst hL_
  obtain ⟨r_, h2_, hX_, hZ_⟩ := f56_ok (x0 := a_) (c0 := s_) ra_   M_ 
  obtain ⟨M2_, hr_⟩ := hZ_
  subst hr_
  exact ⟨h2_, _, hX_, ⟨rfl, by trivial⟩, M2_⟩

/-- patchbay/control.Count -/
def RF20 (res : Int) (r : PV) : Prop := r = vi res
theorem f20_ok {x0 : List api_ControlNode} {v0 : PV} (r0 : (tSl api_ControlNode.t).R x0 v0) : FnR Try.prog 20 [v0] (vi (control_Count x0)) := by
  obtain ⟨res, hres⟩ : ∃ res, control_Count x0 = res := ⟨_, rfl⟩
  suffices H : RC Try.prog ac20 [] (QR Try.prog [(2, none)] (RF20 res)) (argE 0 [v0]) ⟨0, []⟩ by
    obtain ⟨r, h1, h2⟩ := fnE text20 (by simp) H
    rw [hres]
    have h2 : r = vi res := h2
    rw [← h2]; exact h1
  unfold control_Count at hres
  unfold ac20
  refine rc_seq ?_
  refine rc_region ?_
  refine rd_op (v := vi 0) (ov_move rfl) ?_
  refine rd_nil ?_
  refine pn_seq ?_
  refine rc_seq ?_
  refine rc_region ?_
  refine rd_allocO (x := vi 0) (Mem.nil ⟨0, []⟩) rfl rfl (fun i101 w101 h101 M101 => ?_)
  refine rd_storeO (k := 0) (v := vi 0) M101 rfl rfl rfl rfl (fun h103 M103 => ?_)
  replace M103 : Mem h103 [⟨.op i101 w101 0, 3, 1, [vi 0]⟩] := M103
  refine rd_nil ?_
  refine pn_seq ?_
  refine rc_seq ?_
  refine rc_regionS ?_
  refine rs_step ?_
  refine rd_op (ov_move rfl) ?_
  refine rs_back ?_
  refine rs_step ?_
  refine rd_op (v := .fn (.func 56) [] [.op i101 w101 0]) (ov_mkFunc rfl rfl) ?_
  refine rs_back ?_
  have M104 : Mem h103 [⟨.op i101 w101 0, 3, 1, [vi 0]⟩] := (Mem.front (k := 0) M103 rfl)
  obtain ⟨y104, hw104, hres⟩ := let_ex hres
  obtain ⟨h104, L104, hX104, hE104, M104v⟩ : ∃ h2 L2, FnX Try.prog 48 [v0, .fn (.func 56) [] [.op i101 w101 0]] h103 (vb y104.1) h2 ∧ ME56 i101 w101 0 y104.2 L2 ∧ Mem h2 (L2 ++ []) := by
    rw [← hw104]
    exact f48_pre (mono56 i101 w101) (hv56  ) _ _ (Nat.lt_succ_self _) (by exact fun _ _ => trivial) 0 _ 0 [⟨.op i101 w101 0, 3, 1, [vi 0]⟩] [] _ r0 (show ME56 i101 w101 (csl x0 + 0) 0 [⟨.op i101 w101 0, 3, 1, [vi 0]⟩] from ⟨rfl, by trivial⟩) M104
  obtain ⟨hL104, hi104⟩ := hE104
  subst hL104
  replace M104v : Mem h104 [⟨.op i101 w101 0, 3, 1, [vi y104.2]⟩] := M104v
  refine rs_callX rfl rfl hX104 ?_
  refine rs_nil ?_
  refine pn_seq ?_
  refine rc_seq ?_
  refine rc_region ?_
  refine rd_op (ov_load0 (k := 0) M104v rfl rfl rfl) ?_
  refine rd_op (ov_move rfl) ?_
  refine rd_nil ?_
  refine pn_seq ?_
  subst hres
  exact rc_retV (.tmp rfl .nil) (deep_closed rfl) rfl

/-- patchbay/control.Nesting -/
def RF22 (res : Int) (r : PV) : Prop := r = vi res
theorem control_Nesting_L1_ok {S : List Fr} {res : Int} {x0 : List api_ControlNode} {rec_ : (List api_ControlNode) → Int} {mu_ : Nat} {v0 : PV} (r0 : (tSl api_ControlNode.t).R x0 v0) (ihR : ∀ {z0 : List api_ControlNode} {zv0 : PV} (zr0 : (tSl api_ControlNode.t).R z0 zv0), csl z0 < mu_ → FnR Try.prog 22 [zv0] (vi (rec_ z0))) (hmu : mu_ = csl x0) (hc101 : (decide ((x0.length : Int) = 0)) = false) {K0 : Int → Int}
    (hK0 : ∀ (x3_ : Int) (h : Heap) (M0 : Mem h []), K0 x3_ = res → PX Try.prog 0 S (QR Try.prog [(2, none)] (RF22 res)) [(3, vi x3_)] h) :
    ∀ (m : Nat) (x3_ : Int) (x11_ : Int) (hm1 : m = Int.toNat ((x0.length : Int) - x11_)) (hlo1 : 0 ≤ x11_) (h : Heap) (M0 : Mem h []), control_Nesting_L1 x0 rec_ K0 m x3_ x11_ = res → RC Try.prog (.loop ac22_L1) S (QR Try.prog [(2, none)] (RF22 res)) [(11, vi x11_), (10, vi (x0.length : Int)), (9, v0), (3, vi x3_)] h := by
  have hc101' := hc101
  try simp only [Bool.or_eq_true, Bool.or_eq_false_iff, Bool.and_eq_true, Bool.and_eq_false_imp, decide_eq_true_eq, decide_eq_false_iff_not, Bool.not_eq_true', Bool.not_eq_false', Bool.not_eq_true, Bool.not_eq_false, Bool.not_true, Bool.not_false, ne_eq] at hc101'
  intro m
  induction m with
  | zero =>
    intro x3_ x11_ hm1 hlo1 h M0 hres
    rw [control_Nesting_L1] at hres
    refine rc_loop ?_
    unfold ac22_L1
    refine rc_seq ?_
    refine rc_region ?_
    refine rd_op (ov_bin rfl rfl i_lss) ?_
    refine rd_nil ?_
    refine pn_seq ?_
    refine rc_seq ?_
    refine rc_cond rfl (fun hc102 => ?_) (fun hc102 => ?_)
    · exfalso
      try simp only [Bool.or_eq_true, Bool.or_eq_false_iff, Bool.and_eq_true, Bool.and_eq_false_imp, decide_eq_true_eq, decide_eq_false_iff_not, Bool.not_eq_true', Bool.not_eq_false', Bool.not_eq_true, Bool.not_eq_false, Bool.not_true, Bool.not_false, ne_eq] at hc102
      omega
    · have hend := hres
      have hc102' := hc102
      try simp only [Bool.or_eq_true, Bool.or_eq_false_iff, Bool.and_eq_true, Bool.and_eq_false_imp, decide_eq_true_eq, decide_eq_false_iff_not, Bool.not_eq_true', Bool.not_eq_false', Bool.not_eq_true, Bool.not_eq_false, Bool.not_true, Bool.not_false, ne_eq] at hc102'
      refine rc_exit ?_
      refine px_seq ?_
      refine px_again ?_
      exact px_weak ((sub_cons rfl (sub_nil _))) (hK0 x3_ _ (Mem.sub M0 .slnil) hres)
  | succ m ih =>
    intro x3_ x11_ hm1 hlo1 h M0 hres
    rw [control_Nesting_L1] at hres
    refine rc_loop ?_
    unfold ac22_L1
    refine rc_seq ?_
    refine rc_region ?_
    refine rd_op (ov_bin rfl rfl i_lss) ?_
    refine rd_nil ?_
    refine pn_seq ?_
    refine rc_seq ?_
    refine rc_cond rfl (fun hc103 => ?_) (fun hc103 => ?_)
    · have hgo := hres
      have hc103' := hc103
      try simp only [Bool.or_eq_true, Bool.or_eq_false_iff, Bool.and_eq_true, Bool.and_eq_false_imp, decide_eq_true_eq, decide_eq_false_iff_not, Bool.not_eq_true', Bool.not_eq_false', Bool.not_eq_true, Bool.not_eq_false, Bool.not_true, Bool.not_false, ne_eq] at hc103'
      refine rc_skip ?_
      refine pn_seq ?_
      refine rc_seq ?_
      refine rc_block ?_
      refine rc_seq ?_
      refine rc_region ?_
      obtain ⟨v104, e104, r104⟩ := sl_idx (i := x11_) r0 (by omega) (by omega)
      refine rd_op (ov_iaddr rfl rfl e104) ?_
      refine rd_op (ov_load rfl (TR.cnt api_ControlNode.t r104) (TR.agg api_ControlNode.t r104)) ?_
      refine rd_allocO (x := .agg [vi 0, vi 0, nilS, nilS, nilS]) M0 rfl rfl (fun i105 w105 h105 M105 => ?_)
      refine rd_storeO (k := 0) (v := v104) M105 rfl rfl rfl (TR.cnt api_ControlNode.t r104) (fun h107 M107 => ?_)
      replace M107 : Mem h107 [⟨.op i105 w105 0, 40, 5, [v104]⟩] := M107
      refine rd_nil ?_
      refine pn_seq ?_
      refine rc_region ?_
      refine rd_op (ov_move rfl) ?_
      refine rd_op (ov_faddrO rfl) ?_
      obtain ⟨v108, e108, r108⟩ := api_ControlNode.g_Then r104
      refine rd_op (ov_loadf (k := 0) M107 rfl rfl e108) ?_
      obtain ⟨y109, hw109, hres⟩ := let_ex hres
      have f109 := ihR (z0 := (ix x0 x11_).Then) r108  (by (have hk := csl_ix (l := x0) (by omega) (by omega); omega))
      rw [hw109] at f109
      refine rd_call (cv_fn rfl rfl (clL_cons (TR.clo (tSl api_ControlNode.t) r108) clL_nil) f109) ?_
      refine rd_op (ov_faddrO rfl) ?_
      obtain ⟨v110, e110, r110⟩ := api_ControlNode.g_Else r104
      refine rd_op (ov_loadf (k := 0) M107 rfl rfl e110) ?_
      obtain ⟨y111, hw111, hres⟩ := let_ex hres
      have f111 := ihR (z0 := (ix x0 x11_).Else) r110  (by (have hk := csl_ix (l := x0) (by omega) (by omega); omega))
      rw [hw111] at f111
      refine rd_call (cv_fn rfl rfl (clL_cons (TR.clo (tSl api_ControlNode.t) r110) clL_nil) f111) ?_
      refine rd_op (ov_bi rfl (max_int3 _ _)) ?_
      refine rd_op (ov_move rfl) ?_
      refine rd_nil ?_
      refine pn_blk ?_
      refine pn_seq ?_
      refine rc_region ?_
      refine rd_op (ov_bin rfl rfl i_add) ?_
      refine rd_op (ov_move rfl) ?_
      refine rd_nil ?_
      refine pn_again ?_
      have hbd := sl_bound r0
      have hinc : wr (x11_ + 1) = x11_ + 1 := wr_of (by omega) (by omega)
      rw [hinc]
      refine rc_weak ?_ (ih (max (max x3_ y109) y111) (x11_ + 1)  (by omega) (by omega) _ (Mem.sub M107 (.cons _ .slnil)) hres)
      exact ((sub_cons rfl (sub_cons rfl (sub_cons rfl (sub_cons rfl (sub_nil _))))))
    · exfalso
      try simp only [Bool.or_eq_true, Bool.or_eq_false_iff, Bool.and_eq_true, Bool.and_eq_false_imp, decide_eq_true_eq, decide_eq_false_iff_not, Bool.not_eq_true', Bool.not_eq_false', Bool.not_eq_true, Bool.not_eq_false, Bool.not_true, Bool.not_false, ne_eq] at hc103
      omega

theorem f22_okB {rec_ : (List api_ControlNode) → Int} {mu_ : Nat} {x0 : List api_ControlNode} {v0 : PV} (r0 : (tSl api_ControlNode.t).R x0 v0) (hmu : mu_ = csl x0) (ihR : ∀ {z0 : List api_ControlNode} {zv0 : PV} (zr0 : (tSl api_ControlNode.t).R z0 zv0), csl z0 < mu_ → FnR Try.prog 22 [zv0] (vi (rec_ z0))) : FnR Try.prog 22 [v0] (vi (control_Nesting_B rec_ x0)) := by
  obtain ⟨res, hres⟩ : ∃ res, control_Nesting_B rec_ x0 = res := ⟨_, rfl⟩
  suffices H : RC Try.prog ac22 [] (QR Try.prog [(2, none)] (RF22 res)) (argE 0 [v0]) ⟨0, []⟩ by
    obtain ⟨r, h1, h2⟩ := fnE text22 (by simp) H
    rw [hres]
    have h2 : r = vi res := h2
    rw [← h2]; exact h1
  unfold control_Nesting_B at hres
  unfold ac22
  refine rc_seq ?_
  refine rc_region ?_
  refine rd_op (v := vi 0) (ov_move rfl) ?_
  refine rd_nil ?_
  refine pn_seq ?_
  refine rc_seq ?_
  refine rc_seq ?_
  refine rc_region ?_
  refine rd_op (ov_move rfl) ?_
  refine rd_op (ov_bi rfl (sl_len r0 Try.underlying28 _)) ?_
  refine rd_op (ov_bin rfl rfl i_eql) ?_
  refine rd_nil ?_
  refine pn_seq ?_
  refine rc_cond rfl (fun hc101 => ?_) (fun hc101 => ?_)
  · replace hres := (ite_t hc101).symm.trans hres
    have hc101' := hc101
    try simp only [Bool.or_eq_true, Bool.or_eq_false_iff, Bool.and_eq_true, Bool.and_eq_false_imp, decide_eq_true_eq, decide_eq_false_iff_not, Bool.not_eq_true', Bool.not_eq_false', Bool.not_eq_true, Bool.not_eq_false, Bool.not_true, Bool.not_false, ne_eq] at hc101'
    refine rc_seq ?_
    refine rc_region ?_
    refine rd_op (v := vi 0) (ov_move rfl) ?_
    refine rd_nil ?_
    refine pn_seq ?_
    subst hres
    exact rc_retV (.tmp rfl .nil) (deep_closed rfl) rfl
  · replace hres := (ite_f hc101).symm.trans hres
    have hc101' := hc101
    try simp only [Bool.or_eq_true, Bool.or_eq_false_iff, Bool.and_eq_true, Bool.and_eq_false_imp, decide_eq_true_eq, decide_eq_false_iff_not, Bool.not_eq_true', Bool.not_eq_false', Bool.not_eq_true, Bool.not_eq_false, Bool.not_true, Bool.not_false, ne_eq] at hc101'
    refine rc_skip ?_
    refine pn_seq ?_
    refine rc_seq ?_
    refine rc_region ?_
    refine rd_op (v := vi 0) (ov_move rfl) ?_
    refine rd_nil ?_
    refine pn_seq ?_
    refine rc_seq ?_
    refine rc_seq ?_
    refine rc_region ?_
    refine rd_op (ov_move rfl) ?_
    refine rd_op (ov_bi rfl (sl_len r0 Try.underlying28 _)) ?_
    refine rd_op (v := vi 0) (ov_move rfl) ?_
    refine rd_nil ?_
    refine pn_seq ?_
    refine rc_block ?_
    refine rc_weak ?_ (control_Nesting_L1_ok (x0 := x0) (rec_ := rec_) (mu_ := mu_) (v0 := v0)  (r0 := r0) (ihR := ihR) (hmu := hmu) (hc101 := hc101) ?_ (Int.toNat ((x0.length : Int) - 0)) 0 0 rfl (by omega) _ (Mem.sub (Mem.nil ⟨0, []⟩) .slnil) hres)
    · exact ((sub_cons rfl (sub_cons rfl (sub_cons rfl (sub_cons rfl (sub_nil _))))))
    · intro x3_112 h112 M112 hres
      refine px_blk ?_
      refine pn_seq ?_
      refine rc_seq ?_
      refine rc_region ?_
      refine rd_op (ov_move rfl) ?_
      refine rd_op (ov_bin rfl rfl i_add) ?_
      refine rd_op (ov_move rfl) ?_
      refine rd_nil ?_
      refine pn_seq ?_
      subst hres
      exact rc_retV (.tmp rfl .nil) (deep_closed rfl) rfl
theorem f22_okR : ∀ (n_ : Nat) {x0 : List api_ControlNode} {v0 : PV} (r0 : (tSl api_ControlNode.t).R x0 v0), csl x0 < n_ → FnR Try.prog 22 [v0] (vi (control_Nesting_R n_ x0)) := by
  intro n_
  induction n_ with
  | zero => intros; rename_i hlt; exact absurd hlt (Nat.not_lt_zero _)
  | succ n_ ihn =>
    intro x0 v0 r0 hlt
    have e_ : control_Nesting_R (n_ + 1) x0 = control_Nesting_B (control_Nesting_R n_) x0 := by rw [control_Nesting_R]
    rw [e_]
    exact f22_okB r0 rfl (fun {z0} {zv0} zr0 hz => ihn zr0 (by omega))
theorem f22_ok {x0 : List api_ControlNode} {v0 : PV} (r0 : (tSl api_ControlNode.t).R x0 v0) : FnR Try.prog 22 [v0] (vi (control_Nesting x0)) := f22_okR _ r0 (Nat.lt_succ_self _)

/-- patchbay/expr.arity -/
def RF86 (res : Int) (r : PV) : Prop := r = vi res
theorem f86_ok {x0 : Int} : FnR Try.prog 86 [vi x0] (vi (expr_arity x0)) := by
  obtain ⟨res, hres⟩ : ∃ res, expr_arity x0 = res := ⟨_, rfl⟩
  suffices H : RC Try.prog ac86 [] (QR Try.prog [(2, none)] (RF86 res)) (argE 0 [vi x0]) ⟨0, []⟩ by
    obtain ⟨r, h1, h2⟩ := fnE text86 (by simp) H
    rw [hres]
    have h2 : r = vi res := h2
    rw [← h2]; exact h1
  unfold expr_arity at hres
  unfold ac86
  refine rc_seq ?_
  refine rc_region ?_
  refine rd_op (v := vi 0) (ov_move rfl) ?_
  refine rd_nil ?_
  refine pn_seq ?_
  refine rc_seq ?_
  refine rc_seq ?_
  refine rc_region ?_
  refine rd_op (ov_move rfl) ?_
  refine rd_nil ?_
  refine pn_seq ?_
  refine rc_block ?_
  refine rc_seq ?_
  refine rc_seq ?_
  refine rc_region ?_
  refine rd_op (ov_bin rfl rfl i_eql) ?_
  refine rd_op (ov_move rfl) ?_
  refine rd_nil ?_
  refine pn_seq ?_
  obtain ⟨k104, hk104, hres⟩ := let_ex hres
  refine rc_join (F := fun b S Q => ∀ (x4_104 : Bool) (hj104 : Heap) (Mj104 : Mem hj104 []), k104 x4_104 = res → RC Try.prog b S Q [(4, vb x4_104), (3, vi x0)] hj104) ?_ ?_
  · intro x4_104 hj104 Mj104 hres
    rw [← hk104] at hres
    refine rc_cond rfl (fun hc105 => ?_) (fun hc105 => ?_)
    · replace hres := (ite_t hc105).symm.trans hres
      have hc105' := hc105
      try simp only [Bool.or_eq_true, Bool.or_eq_false_iff, Bool.and_eq_true, Bool.and_eq_false_imp, decide_eq_true_eq, decide_eq_false_iff_not, Bool.not_eq_true', Bool.not_eq_false', Bool.not_eq_true, Bool.not_eq_false, Bool.not_true, Bool.not_false, ne_eq] at hc105'
      refine rc_seq ?_
      refine rc_region ?_
      refine rd_op (v := vi 0) (ov_move rfl) ?_
      refine rd_nil ?_
      refine pn_seq ?_
      subst hres
      exact rc_retV (.tmp rfl .nil) (deep_closed rfl) rfl
    · replace hres := (ite_f hc105).symm.trans hres
      have hc105' := hc105
      try simp only [Bool.or_eq_true, Bool.or_eq_false_iff, Bool.and_eq_true, Bool.and_eq_false_imp, decide_eq_true_eq, decide_eq_false_iff_not, Bool.not_eq_true', Bool.not_eq_false', Bool.not_eq_true, Bool.not_eq_false, Bool.not_true, Bool.not_false, ne_eq] at hc105'
      refine rc_seq ?_
      refine rc_seq ?_
      refine rc_region ?_
      refine rd_op (ov_bin rfl rfl i_eql) ?_
      refine rd_op (ov_move rfl) ?_
      refine rd_nil ?_
      refine pn_seq ?_
      obtain ⟨k109, hk109, hres⟩ := let_ex hres
      refine rc_join (F := fun b S Q => ∀ (x9_109 : Bool) (hj109 : Heap) (Mj109 : Mem hj109 []), k109 x9_109 = res → RC Try.prog b S Q [(9, vb x9_109), (3, vi x0)] hj109) ?_ ?_
      · intro x9_109 hj109 Mj109 hres
        rw [← hk109] at hres
        refine rc_cond rfl (fun hc110 => ?_) (fun hc110 => ?_)
        · replace hres := (ite_t hc110).symm.trans hres
          have hc110' := hc110
          try simp only [Bool.or_eq_true, Bool.or_eq_false_iff, Bool.and_eq_true, Bool.and_eq_false_imp, decide_eq_true_eq, decide_eq_false_iff_not, Bool.not_eq_true', Bool.not_eq_false', Bool.not_eq_true, Bool.not_eq_false, Bool.not_true, Bool.not_false, ne_eq] at hc110'
          refine rc_seq ?_
          refine rc_region ?_
          refine rd_op (v := vi 1) (ov_move rfl) ?_
          refine rd_nil ?_
          refine pn_seq ?_
          subst hres
          exact rc_retV (.tmp rfl .nil) (deep_closed rfl) rfl
        · replace hres := (ite_f hc110).symm.trans hres
          have hc110' := hc110
          try simp only [Bool.or_eq_true, Bool.or_eq_false_iff, Bool.and_eq_true, Bool.and_eq_false_imp, decide_eq_true_eq, decide_eq_false_iff_not, Bool.not_eq_true', Bool.not_eq_false', Bool.not_eq_true, Bool.not_eq_false, Bool.not_true, Bool.not_false, ne_eq] at hc110'
          refine rc_seq ?_
          refine rc_seq ?_
          refine rc_region ?_
          refine rd_op (ov_bin rfl rfl i_eql) ?_
          refine rd_op (ov_move rfl) ?_
          refine rd_nil ?_
          refine pn_seq ?_
          obtain ⟨k118, hk118, hres⟩ := let_ex hres
          refine rc_join (F := fun b S Q => ∀ (x14_118 : Bool) (hj118 : Heap) (Mj118 : Mem hj118 []), k118 x14_118 = res → RC Try.prog b S Q [(14, vb x14_118), (3, vi x0)] hj118) ?_ ?_
          · intro x14_118 hj118 Mj118 hres
            rw [← hk118] at hres
            refine rc_cond rfl (fun hc119 => ?_) (fun hc119 => ?_)
            · replace hres := (ite_t hc119).symm.trans hres
              have hc119' := hc119
              try simp only [Bool.or_eq_true, Bool.or_eq_false_iff, Bool.and_eq_true, Bool.and_eq_false_imp, decide_eq_true_eq, decide_eq_false_iff_not, Bool.not_eq_true', Bool.not_eq_false', Bool.not_eq_true, Bool.not_eq_false, Bool.not_true, Bool.not_false, ne_eq] at hc119'
              refine rc_seq ?_
              refine rc_region ?_
              refine rd_op (v := vi 2) (ov_move rfl) ?_
              refine rd_nil ?_
              refine pn_seq ?_
              subst hres
              exact rc_retV (.tmp rfl .nil) (deep_closed rfl) rfl
            · replace hres := (ite_f hc119).symm.trans hres
              have hc119' := hc119
              try simp only [Bool.or_eq_true, Bool.or_eq_false_iff, Bool.and_eq_true, Bool.and_eq_false_imp, decide_eq_true_eq, decide_eq_false_iff_not, Bool.not_eq_true', Bool.not_eq_false', Bool.not_eq_true, Bool.not_eq_false, Bool.not_true, Bool.not_false, ne_eq] at hc119'
              refine rc_seq ?_
              refine rc_region ?_
              refine rd_op (ov_bin rfl rfl i_eql) ?_
              refine rd_op (ov_move rfl) ?_
              refine rd_nil ?_
              refine pn_seq ?_
              refine rc_cond rfl (fun hc120 => ?_) (fun hc120 => ?_)
              · replace hres := (ite_t hc120).symm.trans hres
                have hc120' := hc120
                try simp only [Bool.or_eq_true, Bool.or_eq_false_iff, Bool.and_eq_true, Bool.and_eq_false_imp, decide_eq_true_eq, decide_eq_false_iff_not, Bool.not_eq_true', Bool.not_eq_false', Bool.not_eq_true, Bool.not_eq_false, Bool.not_true, Bool.not_false, ne_eq] at hc120'
                refine rc_seq ?_
                refine rc_region ?_
                refine rd_op (v := vi 3) (ov_move rfl) ?_
                refine rd_nil ?_
                refine pn_seq ?_
                subst hres
                exact rc_retV (.tmp rfl .nil) (deep_closed rfl) rfl
              · replace hres := (ite_f hc120).symm.trans hres
                have hc120' := hc120
                try simp only [Bool.or_eq_true, Bool.or_eq_false_iff, Bool.and_eq_true, Bool.and_eq_false_imp, decide_eq_true_eq, decide_eq_false_iff_not, Bool.not_eq_true', Bool.not_eq_false', Bool.not_eq_true, Bool.not_eq_false, Bool.not_true, Bool.not_false, ne_eq] at hc120'
                refine rc_skip ?_
                refine pn_blk ?_
                refine pn_seq ?_
                refine rc_seq ?_
                refine rc_region ?_
                refine rd_op (v := vi (-1)) (ov_move rfl) ?_
                refine rd_nil ?_
                refine pn_seq ?_
                subst hres
                exact rc_retV (.tmp rfl .nil) (deep_closed rfl) rfl
          · intro J
            refine rc_cond rfl (fun hc121 => ?_) (fun hc121 => ?_)
            · replace hres := (ite_t hc121).symm.trans hres
              have hc121' := hc121
              try simp only [Bool.or_eq_true, Bool.or_eq_false_iff, Bool.and_eq_true, Bool.and_eq_false_imp, decide_eq_true_eq, decide_eq_false_iff_not, Bool.not_eq_true', Bool.not_eq_false', Bool.not_eq_true, Bool.not_eq_false, Bool.not_true, Bool.not_false, ne_eq] at hc121'
              refine rc_skip ?_
              refine pn_seq (rc_weak ((sub_cons rfl (sub_cons rfl (sub_nil _)))) (J _ _ (Mem.sub Mj109 .slnil) hres))
            · replace hres := (ite_f hc121).symm.trans hres
              have hc121' := hc121
              try simp only [Bool.or_eq_true, Bool.or_eq_false_iff, Bool.and_eq_true, Bool.and_eq_false_imp, decide_eq_true_eq, decide_eq_false_iff_not, Bool.not_eq_true', Bool.not_eq_false', Bool.not_eq_true, Bool.not_eq_false, Bool.not_true, Bool.not_false, ne_eq] at hc121'
              refine rc_seq ?_
              refine rc_region ?_
              refine rd_op (ov_bin rfl rfl i_eql) ?_
              refine rd_op (ov_move rfl) ?_
              refine rd_nil ?_
              refine pn_seq ?_
              refine rc_cond rfl (fun hc122 => ?_) (fun hc122 => ?_)
              · replace hres := (ite_t hc122).symm.trans hres
                have hc122' := hc122
                try simp only [Bool.or_eq_true, Bool.or_eq_false_iff, Bool.and_eq_true, Bool.and_eq_false_imp, decide_eq_true_eq, decide_eq_false_iff_not, Bool.not_eq_true', Bool.not_eq_false', Bool.not_eq_true, Bool.not_eq_false, Bool.not_true, Bool.not_false, ne_eq] at hc122'
                refine rc_skip ?_
                refine pn_seq (rc_weak ((sub_cons rfl (sub_cons rfl (sub_nil _)))) (J _ _ (Mem.sub Mj109 .slnil) hres))
              · replace hres := (ite_f hc122).symm.trans hres
                have hc122' := hc122
                try simp only [Bool.or_eq_true, Bool.or_eq_false_iff, Bool.and_eq_true, Bool.and_eq_false_imp, decide_eq_true_eq, decide_eq_false_iff_not, Bool.not_eq_true', Bool.not_eq_false', Bool.not_eq_true, Bool.not_eq_false, Bool.not_true, Bool.not_false, ne_eq] at hc122'
                refine rc_seq ?_
                refine rc_region ?_
                refine rd_op (ov_bin rfl rfl i_eql) ?_
                refine rd_op (ov_move rfl) ?_
                refine rd_nil ?_
                refine pn_seq ?_
                refine rc_cond rfl (fun hc123 => ?_) (fun hc123 => ?_)
                · replace hres := (ite_t hc123).symm.trans hres
                  have hc123' := hc123
                  try simp only [Bool.or_eq_true, Bool.or_eq_false_iff, Bool.and_eq_true, Bool.and_eq_false_imp, decide_eq_true_eq, decide_eq_false_iff_not, Bool.not_eq_true', Bool.not_eq_false', Bool.not_eq_true, Bool.not_eq_false, Bool.not_true, Bool.not_false, ne_eq] at hc123'
                  refine rc_skip ?_
                  refine pn_seq (rc_weak ((sub_cons rfl (sub_cons rfl (sub_nil _)))) (J _ _ (Mem.sub Mj109 .slnil) hres))
                · replace hres := (ite_f hc123).symm.trans hres
                  have hc123' := hc123
                  try simp only [Bool.or_eq_true, Bool.or_eq_false_iff, Bool.and_eq_true, Bool.and_eq_false_imp, decide_eq_true_eq, decide_eq_false_iff_not, Bool.not_eq_true', Bool.not_eq_false', Bool.not_eq_true, Bool.not_eq_false, Bool.not_true, Bool.not_false, ne_eq] at hc123'
                  refine rc_seq ?_
                  refine rc_region ?_
                  refine rd_op (ov_bin rfl rfl i_eql) ?_
                  refine rd_op (ov_move rfl) ?_
                  refine rd_nil ?_
                  refine pn_seq ?_
                  refine rc_cond rfl (fun hc124 => ?_) (fun hc124 => ?_)
                  · replace hres := (ite_t hc124).symm.trans hres
                    have hc124' := hc124
                    try simp only [Bool.or_eq_true, Bool.or_eq_false_iff, Bool.and_eq_true, Bool.and_eq_false_imp, decide_eq_true_eq, decide_eq_false_iff_not, Bool.not_eq_true', Bool.not_eq_false', Bool.not_eq_true, Bool.not_eq_false, Bool.not_true, Bool.not_false, ne_eq] at hc124'
                    refine rc_skip ?_
                    refine pn_seq (rc_weak ((sub_cons rfl (sub_cons rfl (sub_nil _)))) (J _ _ (Mem.sub Mj109 .slnil) hres))
                  · replace hres := (ite_f hc124).symm.trans hres
                    have hc124' := hc124
                    try simp only [Bool.or_eq_true, Bool.or_eq_false_iff, Bool.and_eq_true, Bool.and_eq_false_imp, decide_eq_true_eq, decide_eq_false_iff_not, Bool.not_eq_true', Bool.not_eq_false', Bool.not_eq_true, Bool.not_eq_false, Bool.not_true, Bool.not_false, ne_eq] at hc124'
                    refine rc_seq ?_
                    refine rc_region ?_
                    refine rd_op (ov_bin rfl rfl i_eql) ?_
                    refine rd_op (ov_move rfl) ?_
                    refine rd_nil ?_
                    refine pn_seq ?_
                    refine rc_cond rfl (fun hc125 => ?_) (fun hc125 => ?_)
                    · replace hres := (ite_t hc125).symm.trans hres
                      have hc125' := hc125
                      try simp only [Bool.or_eq_true, Bool.or_eq_false_iff, Bool.and_eq_true, Bool.and_eq_false_imp, decide_eq_true_eq, decide_eq_false_iff_not, Bool.not_eq_true', Bool.not_eq_false', Bool.not_eq_true, Bool.not_eq_false, Bool.not_true, Bool.not_false, ne_eq] at hc125'
                      refine rc_skip ?_
                      refine pn_seq (rc_weak ((sub_cons rfl (sub_cons rfl (sub_nil _)))) (J _ _ (Mem.sub Mj109 .slnil) hres))
                    · replace hres := (ite_f hc125).symm.trans hres
                      have hc125' := hc125
                      try simp only [Bool.or_eq_true, Bool.or_eq_false_iff, Bool.and_eq_true, Bool.and_eq_false_imp, decide_eq_true_eq, decide_eq_false_iff_not, Bool.not_eq_true', Bool.not_eq_false', Bool.not_eq_true, Bool.not_eq_false, Bool.not_true, Bool.not_false, ne_eq] at hc125'
                      refine rc_seq ?_
                      refine rc_region ?_
                      refine rd_op (ov_bin rfl rfl i_eql) ?_
                      refine rd_op (ov_move rfl) ?_
                      refine rd_nil ?_
                      refine pn_seq ?_
                      refine rc_cond rfl (fun hc126 => ?_) (fun hc126 => ?_)
                      · replace hres := (ite_t hc126).symm.trans hres
                        have hc126' := hc126
                        try simp only [Bool.or_eq_true, Bool.or_eq_false_iff, Bool.and_eq_true, Bool.and_eq_false_imp, decide_eq_true_eq, decide_eq_false_iff_not, Bool.not_eq_true', Bool.not_eq_false', Bool.not_eq_true, Bool.not_eq_false, Bool.not_true, Bool.not_false, ne_eq] at hc126'
                        refine rc_skip ?_
                        refine pn_seq (rc_weak ((sub_cons rfl (sub_cons rfl (sub_nil _)))) (J _ _ (Mem.sub Mj109 .slnil) hres))
                      · replace hres := (ite_f hc126).symm.trans hres
                        have hc126' := hc126
                        try simp only [Bool.or_eq_true, Bool.or_eq_false_iff, Bool.and_eq_true, Bool.and_eq_false_imp, decide_eq_true_eq, decide_eq_false_iff_not, Bool.not_eq_true', Bool.not_eq_false', Bool.not_eq_true, Bool.not_eq_false, Bool.not_true, Bool.not_false, ne_eq] at hc126'
                        refine rc_seq ?_
                        refine rc_region ?_
                        refine rd_op (ov_bin rfl rfl i_eql) ?_
                        refine rd_op (ov_move rfl) ?_
                        refine rd_nil ?_
                        refine pn_seq ?_
                        refine rc_cond rfl (fun hc127 => ?_) (fun hc127 => ?_)
                        · replace hres := (ite_t hc127).symm.trans hres
                          have hc127' := hc127
                          try simp only [Bool.or_eq_true, Bool.or_eq_false_iff, Bool.and_eq_true, Bool.and_eq_false_imp, decide_eq_true_eq, decide_eq_false_iff_not, Bool.not_eq_true', Bool.not_eq_false', Bool.not_eq_true, Bool.not_eq_false, Bool.not_true, Bool.not_false, ne_eq] at hc127'
                          refine rc_skip ?_
                          refine pn_seq (rc_weak ((sub_cons rfl (sub_cons rfl (sub_nil _)))) (J _ _ (Mem.sub Mj109 .slnil) hres))
                        · replace hres := (ite_f hc127).symm.trans hres
                          have hc127' := hc127
                          try simp only [Bool.or_eq_true, Bool.or_eq_false_iff, Bool.and_eq_true, Bool.and_eq_false_imp, decide_eq_true_eq, decide_eq_false_iff_not, Bool.not_eq_true', Bool.not_eq_false', Bool.not_eq_true, Bool.not_eq_false, Bool.not_true, Bool.not_false, ne_eq] at hc127'
                          refine rc_region ?_
                          refine rd_op (ov_bin rfl rfl i_eql) ?_
                          refine rd_op (ov_move rfl) ?_
                          refine rd_nil ?_
                          refine pn_seq (rc_weak ((sub_cons rfl (sub_cons rfl (sub_nil _)))) (J _ _ (Mem.sub Mj109 .slnil) hres))
      · intro J
        refine rc_cond rfl (fun hc128 => ?_) (fun hc128 => ?_)
        · replace hres := (ite_t hc128).symm.trans hres
          have hc128' := hc128
          try simp only [Bool.or_eq_true, Bool.or_eq_false_iff, Bool.and_eq_true, Bool.and_eq_false_imp, decide_eq_true_eq, decide_eq_false_iff_not, Bool.not_eq_true', Bool.not_eq_false', Bool.not_eq_true, Bool.not_eq_false, Bool.not_true, Bool.not_false, ne_eq] at hc128'
          refine rc_skip ?_
          refine pn_seq (rc_weak ((sub_cons rfl (sub_cons rfl (sub_nil _)))) (J _ _ (Mem.sub Mj104 .slnil) hres))
        · replace hres := (ite_f hc128).symm.trans hres
          have hc128' := hc128
          try simp only [Bool.or_eq_true, Bool.or_eq_false_iff, Bool.and_eq_true, Bool.and_eq_false_imp, decide_eq_true_eq, decide_eq_false_iff_not, Bool.not_eq_true', Bool.not_eq_false', Bool.not_eq_true, Bool.not_eq_false, Bool.not_true, Bool.not_false, ne_eq] at hc128'
          refine rc_seq ?_
          refine rc_region ?_
          refine rd_op (ov_bin rfl rfl i_eql) ?_
          refine rd_op (ov_move rfl) ?_
          refine rd_nil ?_
          refine pn_seq ?_
          refine rc_cond rfl (fun hc129 => ?_) (fun hc129 => ?_)
          · replace hres := (ite_t hc129).symm.trans hres
            have hc129' := hc129
            try simp only [Bool.or_eq_true, Bool.or_eq_false_iff, Bool.and_eq_true, Bool.and_eq_false_imp, decide_eq_true_eq, decide_eq_false_iff_not, Bool.not_eq_true', Bool.not_eq_false', Bool.not_eq_true, Bool.not_eq_false, Bool.not_true, Bool.not_false, ne_eq] at hc129'
            refine rc_skip ?_
            refine pn_seq (rc_weak ((sub_cons rfl (sub_cons rfl (sub_nil _)))) (J _ _ (Mem.sub Mj104 .slnil) hres))
          · replace hres := (ite_f hc129).symm.trans hres
            have hc129' := hc129
            try simp only [Bool.or_eq_true, Bool.or_eq_false_iff, Bool.and_eq_true, Bool.and_eq_false_imp, decide_eq_true_eq, decide_eq_false_iff_not, Bool.not_eq_true', Bool.not_eq_false', Bool.not_eq_true, Bool.not_eq_false, Bool.not_true, Bool.not_false, ne_eq] at hc129'
            refine rc_seq ?_
            refine rc_region ?_
            refine rd_op (ov_bin rfl rfl i_eql) ?_
            refine rd_op (ov_move rfl) ?_
            refine rd_nil ?_
            refine pn_seq ?_
            refine rc_cond rfl (fun hc130 => ?_) (fun hc130 => ?_)
            · replace hres := (ite_t hc130).symm.trans hres
              have hc130' := hc130
              try simp only [Bool.or_eq_true, Bool.or_eq_false_iff, Bool.and_eq_true, Bool.and_eq_false_imp, decide_eq_true_eq, decide_eq_false_iff_not, Bool.not_eq_true', Bool.not_eq_false', Bool.not_eq_true, Bool.not_eq_false, Bool.not_true, Bool.not_false, ne_eq] at hc130'
              refine rc_skip ?_
              refine pn_seq (rc_weak ((sub_cons rfl (sub_cons rfl (sub_nil _)))) (J _ _ (Mem.sub Mj104 .slnil) hres))
            · replace hres := (ite_f hc130).symm.trans hres
              have hc130' := hc130
              try simp only [Bool.or_eq_true, Bool.or_eq_false_iff, Bool.and_eq_true, Bool.and_eq_false_imp, decide_eq_true_eq, decide_eq_false_iff_not, Bool.not_eq_true', Bool.not_eq_false', Bool.not_eq_true, Bool.not_eq_false, Bool.not_true, Bool.not_false, ne_eq] at hc130'
              refine rc_region ?_
              refine rd_op (ov_bin rfl rfl i_eql) ?_
              refine rd_op (ov_move rfl) ?_
              refine rd_nil ?_
              refine pn_seq (rc_weak ((sub_cons rfl (sub_cons rfl (sub_nil _)))) (J _ _ (Mem.sub Mj104 .slnil) hres))
  · intro J
    refine rc_cond rfl (fun hc131 => ?_) (fun hc131 => ?_)
    · replace hres := (ite_t hc131).symm.trans hres
      have hc131' := hc131
      try simp only [Bool.or_eq_true, Bool.or_eq_false_iff, Bool.and_eq_true, Bool.and_eq_false_imp, decide_eq_true_eq, decide_eq_false_iff_not, Bool.not_eq_true', Bool.not_eq_false', Bool.not_eq_true, Bool.not_eq_false, Bool.not_true, Bool.not_false, ne_eq] at hc131'
      refine rc_skip ?_
      refine pn_seq (rc_weak ((sub_cons rfl (sub_cons rfl (sub_nil _)))) (J _ _ (Mem.sub (Mem.nil ⟨0, []⟩) .slnil) hres))
    · replace hres := (ite_f hc131).symm.trans hres
      have hc131' := hc131
      try simp only [Bool.or_eq_true, Bool.or_eq_false_iff, Bool.and_eq_true, Bool.and_eq_false_imp, decide_eq_true_eq, decide_eq_false_iff_not, Bool.not_eq_true', Bool.not_eq_false', Bool.not_eq_true, Bool.not_eq_false, Bool.not_true, Bool.not_false, ne_eq] at hc131'
      refine rc_seq ?_
      refine rc_region ?_
      refine rd_op (ov_bin rfl rfl i_eql) ?_
      refine rd_op (ov_move rfl) ?_
      refine rd_nil ?_
      refine pn_seq ?_
      refine rc_cond rfl (fun hc132 => ?_) (fun hc132 => ?_)
      · replace hres := (ite_t hc132).symm.trans hres
        have hc132' := hc132
        try simp only [Bool.or_eq_true, Bool.or_eq_false_iff, Bool.and_eq_true, Bool.and_eq_false_imp, decide_eq_true_eq, decide_eq_false_iff_not, Bool.not_eq_true', Bool.not_eq_false', Bool.not_eq_true, Bool.not_eq_false, Bool.not_true, Bool.not_false, ne_eq] at hc132'
        refine rc_skip ?_
        refine pn_seq (rc_weak ((sub_cons rfl (sub_cons rfl (sub_nil _)))) (J _ _ (Mem.sub (Mem.nil ⟨0, []⟩) .slnil) hres))
      · replace hres := (ite_f hc132).symm.trans hres
        have hc132' := hc132
        try simp only [Bool.or_eq_true, Bool.or_eq_false_iff, Bool.and_eq_true, Bool.and_eq_false_imp, decide_eq_true_eq, decide_eq_false_iff_not, Bool.not_eq_true', Bool.not_eq_false', Bool.not_eq_true, Bool.not_eq_false, Bool.not_true, Bool.not_false, ne_eq] at hc132'
        refine rc_seq ?_
        refine rc_region ?_
        refine rd_op (ov_bin rfl rfl i_eql) ?_
        refine rd_op (ov_move rfl) ?_
        refine rd_nil ?_
        refine pn_seq ?_
        refine rc_cond rfl (fun hc133 => ?_) (fun hc133 => ?_)
        · replace hres := (ite_t hc133).symm.trans hres
          have hc133' := hc133
          try simp only [Bool.or_eq_true, Bool.or_eq_false_iff, Bool.and_eq_true, Bool.and_eq_false_imp, decide_eq_true_eq, decide_eq_false_iff_not, Bool.not_eq_true', Bool.not_eq_false', Bool.not_eq_true, Bool.not_eq_false, Bool.not_true, Bool.not_false, ne_eq] at hc133'
          refine rc_skip ?_
          refine pn_seq (rc_weak ((sub_cons rfl (sub_cons rfl (sub_nil _)))) (J _ _ (Mem.sub (Mem.nil ⟨0, []⟩) .slnil) hres))
        · replace hres := (ite_f hc133).symm.trans hres
          have hc133' := hc133
          try simp only [Bool.or_eq_true, Bool.or_eq_false_iff, Bool.and_eq_true, Bool.and_eq_false_imp, decide_eq_true_eq, decide_eq_false_iff_not, Bool.not_eq_true', Bool.not_eq_false', Bool.not_eq_true, Bool.not_eq_false, Bool.not_true, Bool.not_false, ne_eq] at hc133'
          refine rc_region ?_
          refine rd_op (ov_bin rfl rfl i_eql) ?_
          refine rd_op (ov_move rfl) ?_
          refine rd_nil ?_
          refine pn_seq (rc_weak ((sub_cons rfl (sub_cons rfl (sub_nil _)))) (J _ _ (Mem.sub (Mem.nil ⟨0, []⟩) .slnil) hres))

/-- patchbay/expr.wide -/
def RF92 (res : Int × Int) (r : PV) : Prop := r = .tup [vi res.1, vi res.2]
theorem f92_ok {x0 : Int} : FnR Try.prog 92 [vi x0] (.tup [vi ((expr_wide x0).1), vi ((expr_wide x0).2)]) := by
  obtain ⟨res, hres⟩ : ∃ res, expr_wide x0 = res := ⟨_, rfl⟩
  suffices H : RC Try.prog ac92 [] (QR Try.prog [(2, none), (3, none)] (RF92 res)) (argE 0 [vi x0]) ⟨0, []⟩ by
    obtain ⟨r, h1, h2⟩ := fnE text92 (by simp) H
    rw [hres]
    have h2 : r = .tup [vi res.1, vi res.2] := h2
    rw [← h2]; exact h1
  unfold expr_wide at hres
  unfold ac92
  refine rc_seq ?_
  refine rc_region ?_
  refine rd_op (v := vi 0) (ov_move rfl) ?_
  refine rd_op (v := vi 0) (ov_move rfl) ?_
  refine rd_nil ?_
  refine pn_seq ?_
  refine rc_seq ?_
  refine rc_seq ?_
  refine rc_region ?_
  refine rd_op (ov_move rfl) ?_
  refine rd_op (ov_bin rfl rfl i_lss) ?_
  refine rd_op (ov_move rfl) ?_
  refine rd_cut (d := 9) (v := vb ((decide (x0 < 1)) || (decide (32 < x0)))) ?_ ?_
  · intro S Q r
    simp only [ac92_G1, List.cons_append, List.nil_append, List.append_assoc]
    cases hb101 : (decide (x0 < 1))
    · intro k
      have hb101' := hb101
      try simp only [Bool.or_eq_true, Bool.or_eq_false_iff, Bool.and_eq_true, Bool.and_eq_false_imp, decide_eq_true_eq, decide_eq_false_iff_not, Bool.not_eq_true', Bool.not_eq_false', Bool.not_eq_true, Bool.not_eq_false, Bool.not_true, Bool.not_false, ne_eq] at hb101'
      refine rd_yes rfl rfl (ov_move rfl) ?_
      refine rd_yes rfl rfl (ov_bin rfl rfl i_gtr) ?_
      refine rd_op (v := vb (decide (32 < x0))) (ov_pick rfl rfl rfl rfl) ?_
      exact rd_weak (sub_cons rfl (sub_skip rfl (sub_skip rfl (sub_skip rfl (sub_refl _))))) k
    · intro k
      refine rd_skip rfl rfl ?_
      refine rd_skip rfl rfl ?_
      refine rd_op (v := vb true) (ov_pick rfl rfl rfl rfl) ?_
      exact rd_weak (sub_cons rfl (sub_skip rfl (sub_skip rfl (sub_skip rfl (sub_refl _))))) k
  refine rd_nil ?_
  refine pn_seq ?_
  refine rc_cond rfl (fun hc102 => ?_) (fun hc102 => ?_)
  · replace hres := (ite_t hc102).symm.trans hres
    have hc102' := hc102
    try simp only [Bool.or_eq_true, Bool.or_eq_false_iff, Bool.and_eq_true, Bool.and_eq_false_imp, decide_eq_true_eq, decide_eq_false_iff_not, Bool.not_eq_true', Bool.not_eq_false', Bool.not_eq_true, Bool.not_eq_false, Bool.not_true, Bool.not_false, ne_eq] at hc102'
    refine rc_seq ?_
    refine rc_region ?_
    refine rd_op (v := vi 0) (ov_move rfl) ?_
    refine rd_op (v := vi 10) (ov_move rfl) ?_
    refine rd_nil ?_
    refine pn_seq ?_
    subst hres
    exact rc_retV (.tmp rfl (.tmp rfl .nil)) (deep_closed (show closed (.tup _) = true from (clL_cons rfl (clL_cons rfl clL_nil)))) rfl
  · replace hres := (ite_f hc102).symm.trans hres
    have hc102' := hc102
    try simp only [Bool.or_eq_true, Bool.or_eq_false_iff, Bool.and_eq_true, Bool.and_eq_false_imp, decide_eq_true_eq, decide_eq_false_iff_not, Bool.not_eq_true', Bool.not_eq_false', Bool.not_eq_true, Bool.not_eq_false, Bool.not_true, Bool.not_false, ne_eq] at hc102'
    refine rc_skip ?_
    refine pn_seq ?_
    refine rc_seq ?_
    refine rc_region ?_
    refine rd_op (ov_move rfl) ?_
    refine rd_op (ov_move rfl) ?_
    refine rd_op (v := vi 0) (ov_move rfl) ?_
    refine rd_nil ?_
    refine pn_seq ?_
    subst hres
    exact rc_retV (.tmp rfl (.tmp rfl .nil)) (deep_closed (show closed (.tup _) = true from (clL_cons rfl (clL_cons rfl clL_nil)))) rfl

/-- patchbay/bitvec.valid -/
def RF98 (res : Bool) (r : PV) : Prop := r = vb res
theorem bitvec_valid_L1_ok {S : List Fr} {res : Bool} {x0 : List Int} {v0 : PV} (r0 : (tSl tI).R x0 v0) {K0 : Unit → Bool}
    (hK0 : K0 () = res → PX Try.prog 0 S (QR Try.prog [(2, none)] (RF98 res)) [] ⟨0, []⟩) :
    ∀ (m : Nat) (x7_ : Int) (hm1 : m = Int.toNat ((x0.length : Int) - x7_)) (hlo1 : 0 ≤ x7_), bitvec_valid_L1 x0 K0 m x7_ = res → RC Try.prog (.loop ac98_L1) S (QR Try.prog [(2, none)] (RF98 res)) [(7, vi x7_), (6, vi (x0.length : Int)), (5, v0)] ⟨0, []⟩ := by
  intro m
  induction m with
  | zero =>
    intro x7_ hm1 hlo1 hres
    rw [bitvec_valid_L1] at hres
    refine rc_loop ?_
    unfold ac98_L1
    refine rc_seq ?_
    refine rc_region ?_
    refine rd_op (ov_bin rfl rfl i_lss) ?_
    refine rd_nil ?_
    refine pn_seq ?_
    refine rc_seq ?_
    refine rc_cond rfl (fun hc101 => ?_) (fun hc101 => ?_)
    · exfalso
      try simp only [Bool.or_eq_true, Bool.or_eq_false_iff, Bool.and_eq_true, Bool.and_eq_false_imp, decide_eq_true_eq, decide_eq_false_iff_not, Bool.not_eq_true', Bool.not_eq_false', Bool.not_eq_true, Bool.not_eq_false, Bool.not_true, Bool.not_false, ne_eq] at hc101
      omega
    · have hend := hres
      have hc101' := hc101
      try simp only [Bool.or_eq_true, Bool.or_eq_false_iff, Bool.and_eq_true, Bool.and_eq_false_imp, decide_eq_true_eq, decide_eq_false_iff_not, Bool.not_eq_true', Bool.not_eq_false', Bool.not_eq_true, Bool.not_eq_false, Bool.not_true, Bool.not_false, ne_eq] at hc101'
      refine rc_exit ?_
      refine px_seq ?_
      refine px_again ?_
      exact px_weak ((sub_nil _)) (hK0  hres)
  | succ m ih =>
    intro x7_ hm1 hlo1 hres
    rw [bitvec_valid_L1] at hres
    refine rc_loop ?_
    unfold ac98_L1
    refine rc_seq ?_
    refine rc_region ?_
    refine rd_op (ov_bin rfl rfl i_lss) ?_
    refine rd_nil ?_
    refine pn_seq ?_
    refine rc_seq ?_
    refine rc_cond rfl (fun hc102 => ?_) (fun hc102 => ?_)
    · have hgo := hres
      have hc102' := hc102
      try simp only [Bool.or_eq_true, Bool.or_eq_false_iff, Bool.and_eq_true, Bool.and_eq_false_imp, decide_eq_true_eq, decide_eq_false_iff_not, Bool.not_eq_true', Bool.not_eq_false', Bool.not_eq_true, Bool.not_eq_false, Bool.not_true, Bool.not_false, ne_eq] at hc102'
      refine rc_skip ?_
      refine pn_seq ?_
      refine rc_seq ?_
      refine rc_block ?_
      refine rc_seq ?_
      refine rc_region ?_
      refine rd_op (ov_iaddr rfl rfl (slI r0 (by omega) (by omega))) ?_
      refine rd_op (ov_load rfl rfl rfl) ?_
      refine rd_op (ov_move rfl) ?_
      refine rd_nil ?_
      refine pn_seq ?_
      refine rc_seq ?_
      refine rc_region ?_
      refine rd_op (ov_move rfl) ?_
      refine rd_op (ov_bin rfl rfl i_lss) ?_
      refine rd_op (ov_move rfl) ?_
      refine rd_cut (d := 16) (v := vb ((decide ((ix x0 x7_) < 1)) || (decide (32 < (ix x0 x7_))))) ?_ ?_
      · intro S Q r
        simp only [ac98_G1, List.cons_append, List.nil_append, List.append_assoc]
        cases hb103 : (decide ((ix x0 x7_) < 1))
        · intro k
          have hb103' := hb103
          try simp only [Bool.or_eq_true, Bool.or_eq_false_iff, Bool.and_eq_true, Bool.and_eq_false_imp, decide_eq_true_eq, decide_eq_false_iff_not, Bool.not_eq_true', Bool.not_eq_false', Bool.not_eq_true, Bool.not_eq_false, Bool.not_true, Bool.not_false, ne_eq] at hb103'
          refine rd_yes rfl rfl (ov_move rfl) ?_
          refine rd_yes rfl rfl (ov_bin rfl rfl i_gtr) ?_
          refine rd_op (v := vb (decide (32 < (ix x0 x7_)))) (ov_pick rfl rfl rfl rfl) ?_
          exact rd_weak (sub_cons rfl (sub_skip rfl (sub_skip rfl (sub_skip rfl (sub_refl _))))) k
        · intro k
          refine rd_skip rfl rfl ?_
          refine rd_skip rfl rfl ?_
          refine rd_op (v := vb true) (ov_pick rfl rfl rfl rfl) ?_
          exact rd_weak (sub_cons rfl (sub_skip rfl (sub_skip rfl (sub_skip rfl (sub_refl _))))) k
      refine rd_nil ?_
      refine pn_seq ?_
      refine rc_cond rfl (fun hc104 => ?_) (fun hc104 => ?_)
      · replace hres := (ite_t hc104).symm.trans hres
        have hc104' := hc104
        try simp only [Bool.or_eq_true, Bool.or_eq_false_iff, Bool.and_eq_true, Bool.and_eq_false_imp, decide_eq_true_eq, decide_eq_false_iff_not, Bool.not_eq_true', Bool.not_eq_false', Bool.not_eq_true, Bool.not_eq_false, Bool.not_true, Bool.not_false, ne_eq] at hc104'
        refine rc_seq ?_
        refine rc_region ?_
        refine rd_op (v := vb false) (ov_move rfl) ?_
        refine rd_nil ?_
        refine pn_seq ?_
        subst hres
        exact rc_retV (.tmp rfl .nil) (deep_closed rfl) rfl
      · replace hres := (ite_f hc104).symm.trans hres
        have hc104' := hc104
        try simp only [Bool.or_eq_true, Bool.or_eq_false_iff, Bool.and_eq_true, Bool.and_eq_false_imp, decide_eq_true_eq, decide_eq_false_iff_not, Bool.not_eq_true', Bool.not_eq_false', Bool.not_eq_true, Bool.not_eq_false, Bool.not_true, Bool.not_false, ne_eq] at hc104'
        refine rc_skip ?_
        refine pn_blk ?_
        refine pn_seq ?_
        refine rc_region ?_
        refine rd_op (ov_bin rfl rfl i_add) ?_
        refine rd_op (ov_move rfl) ?_
        refine rd_nil ?_
        refine pn_again ?_
        have hbd := sl_bound r0
        have hinc : wr (x7_ + 1) = x7_ + 1 := wr_of (by omega) (by omega)
        rw [hinc]
        refine rc_weak ?_ (ih (x7_ + 1)  (by omega) (by omega) hres)
        exact ((sub_cons rfl (sub_cons rfl (sub_cons rfl (sub_nil _)))))
    · exfalso
      try simp only [Bool.or_eq_true, Bool.or_eq_false_iff, Bool.and_eq_true, Bool.and_eq_false_imp, decide_eq_true_eq, decide_eq_false_iff_not, Bool.not_eq_true', Bool.not_eq_false', Bool.not_eq_true, Bool.not_eq_false, Bool.not_true, Bool.not_false, ne_eq] at hc102
      omega

theorem f98_ok {x0 : List Int} {v0 : PV} (r0 : (tSl tI).R x0 v0) : FnR Try.prog 98 [v0] (vb (bitvec_valid x0)) := by
  obtain ⟨res, hres⟩ : ∃ res, bitvec_valid x0 = res := ⟨_, rfl⟩
  suffices H : RC Try.prog ac98 [] (QR Try.prog [(2, none)] (RF98 res)) (argE 0 [v0]) ⟨0, []⟩ by
    obtain ⟨r, h1, h2⟩ := fnE text98 (by simp) H
    rw [hres]
    have h2 : r = vb res := h2
    rw [← h2]; exact h1
  unfold bitvec_valid at hres
  unfold ac98
  refine rc_seq ?_
  refine rc_region ?_
  refine rd_op (v := vb false) (ov_move rfl) ?_
  refine rd_nil ?_
  refine pn_seq ?_
  refine rc_seq ?_
  refine rc_seq ?_
  refine rc_region ?_
  refine rd_op (ov_move rfl) ?_
  refine rd_op (ov_bi rfl (sl_len r0 Try.underlying29 _)) ?_
  refine rd_op (v := vi 0) (ov_move rfl) ?_
  refine rd_nil ?_
  refine pn_seq ?_
  refine rc_block ?_
  refine rc_weak ?_ (bitvec_valid_L1_ok (x0 := x0) (v0 := v0)  (r0 := r0) ?_ (Int.toNat ((x0.length : Int) - 0)) 0 rfl (by omega) hres)
  · exact ((sub_cons rfl (sub_cons rfl (sub_cons rfl (sub_nil _)))))
  · intro  hres
    refine px_blk ?_
    refine pn_seq ?_
    refine rc_seq ?_
    refine rc_region ?_
    refine rd_op (v := vb true) (ov_move rfl) ?_
    refine rd_nil ?_
    refine pn_seq ?_
    subst hres
    exact rc_retV (.tmp rfl .nil) (deep_closed rfl) rfl

/-- patchbay/bitvec.Mask -/
def RF93 (res : (BitVec 32)) (r : PV) : Prop := r = vu32 res
theorem f93_ok {x0 : Int} : FnR Try.prog 93 [vi x0] (vu32 (bitvec_Mask x0)) := by
  obtain ⟨res, hres⟩ : ∃ res, bitvec_Mask x0 = res := ⟨_, rfl⟩
  suffices H : RC Try.prog ac93 [] (QR Try.prog [(2, none)] (RF93 res)) (argE 0 [vi x0]) ⟨0, []⟩ by
    obtain ⟨r, h1, h2⟩ := fnE text93 (by simp) H
    rw [hres]
    have h2 : r = vu32 res := h2
    rw [← h2]; exact h1
  unfold bitvec_Mask at hres
  unfold ac93
  refine rc_seq ?_
  refine rc_region ?_
  refine rd_op (v := vu32 0#32) (ov_move rfl) ?_
  refine rd_nil ?_
  refine pn_seq ?_
  refine rc_seq ?_
  refine rc_seq ?_
  refine rc_region ?_
  refine rd_op (ov_move rfl) ?_
  refine rd_op (v := .fs true [vi x0]) (ov_bslice rfl (all_cons rfl all_nil)) ?_
  have r101 : (tSl tI).R ([x0] : List Int) (.fs true [vi x0]) := sl_fs ⟨rfl, trivial⟩ (by simp)
  obtain ⟨y102, hw102, hres⟩ := let_ex hres
  have f102 := f98_ok  r101 
  rw [hw102] at f102
  refine rd_call (cv_fn rfl rfl (clL_cons (TR.clo (tSl tI) r101) clL_nil) f102) ?_
  refine rd_op (ov_not rfl) ?_
  refine rd_nil ?_
  refine pn_seq ?_
  refine rc_cond rfl (fun hc103 => ?_) (fun hc103 => ?_)
  · replace hres := (ite_t hc103).symm.trans hres
    have hc103' := hc103
    try simp only [Bool.or_eq_true, Bool.or_eq_false_iff, Bool.and_eq_true, Bool.and_eq_false_imp, decide_eq_true_eq, decide_eq_false_iff_not, Bool.not_eq_true', Bool.not_eq_false', Bool.not_eq_true, Bool.not_eq_false, Bool.not_true, Bool.not_false, ne_eq] at hc103'
    refine rc_seq ?_
    refine rc_region ?_
    refine rd_op (v := vu32 0#32) (ov_move rfl) ?_
    refine rd_nil ?_
    refine pn_seq ?_
    subst hres
    exact rc_retV (.tmp rfl .nil) (deep_closed rfl) rfl
  · replace hres := (ite_f hc103).symm.trans hres
    have hc103' := hc103
    try simp only [Bool.or_eq_true, Bool.or_eq_false_iff, Bool.and_eq_true, Bool.and_eq_false_imp, decide_eq_true_eq, decide_eq_false_iff_not, Bool.not_eq_true', Bool.not_eq_false', Bool.not_eq_true, Bool.not_eq_false, Bool.not_true, Bool.not_false, ne_eq] at hc103'
    refine rc_skip ?_
    refine pn_seq ?_
    refine rc_seq ?_
    refine rc_region ?_
    refine rd_op (ov_move rfl) ?_
    refine rd_op (ov_bin rfl rfl i_sub) ?_
    refine rd_op (ov_bin (a := vu32 4294967295#32) (b := vi (wr (32 - x0))) rfl rfl (w_shr (by first | omega | exact mask_sh (by assumption) (by assumption) | (rw [wr_of (by omega) (by omega)]; omega) | (have hk := two_sh (by assumption) (And.left (by assumption)); omega)))) ?_
    refine rd_op (ov_move rfl) ?_
    refine rd_nil ?_
    refine pn_seq ?_
    subst hres
    exact rc_retV (.tmp rfl .nil) (deep_closed rfl) rfl

/-- (patchbay/expr.Scope).field -/
def RF94 (res : api_Field × Bool) (r : PV) : Prop := ∃ c0, r = .tup [c0, vb res.2] ∧ api_Field.t.R res.1 c0
theorem f94_ok {x0 : expr_Scope} {x1 : Int} {x2 : Int} {v0 : PV} (r0 : expr_Scope.t.R x0 v0) : ∃ c0, FnR Try.prog 94 [v0, vi x1, vi x2] (.tup [c0, vb ((m1_expr_Scope__field x0 x1 x2).2)]) ∧ api_Field.t.R (m1_expr_Scope__field x0 x1 x2).1 c0 := by
  obtain ⟨res, hres⟩ : ∃ res, m1_expr_Scope__field x0 x1 x2 = res := ⟨_, rfl⟩
  suffices H : RC Try.prog ac94 [] (QR Try.prog [(6, some (2, true)), (7, none)] (RF94 res)) (argE 0 [v0, vi x1, vi x2]) ⟨0, []⟩ by
    rw [hres]
    obtain ⟨r, h1, c0, rfl, qc0⟩ := fnE text94 (by simp) H
    exact ⟨c0, h1, qc0⟩
  unfold m1_expr_Scope__field at hres
  unfold ac94
  refine rc_seq ?_
  refine rc_region ?_
  refine rd_op (ov_box rfl (TR.cnt expr_Scope.t r0)) ?_
  refine rd_allocO (x := .agg [vs [], vi 0]) (Mem.nil ⟨0, []⟩) rfl rfl (fun i101 w101 h101 M101 => ?_)
  refine rd_op (v := vb false) (ov_move rfl) ?_
  refine rd_nil ?_
  refine pn_seq ?_
  refine rc_seq ?_
  refine rc_region ?_
  obtain ⟨v103, e103, r103⟩ := expr_Scope.g_Program r0
  refine rd_op (ov_faddr rfl e103) ?_
  obtain ⟨v104, e104, r104⟩ := api_Program.g_Metadata r103
  refine rd_op (ov_faddr rfl e104) ?_
  refine rd_op (ov_load rfl (TR.cnt (tSl api_Field.t) r104) (TR.agg (tSl api_Field.t) r104)) ?_
  refine rd_op (ov_move rfl) ?_
  refine rd_nil ?_
  refine pn_seq ?_
  refine rc_seq ?_
  refine rc_seq ?_
  refine rc_region ?_
  refine rd_op (ov_move rfl) ?_
  refine rd_op (ov_bin rfl rfl i_neq) ?_
  refine rd_nil ?_
  refine pn_seq ?_
  obtain ⟨k115, hk115, hres⟩ := let_ex hres
  refine rc_join (F := fun b S Q => ∀ (x8_115 : List api_Field) (u8_115 : PV) (r8_115 : (tSl api_Field.t).R x8_115 u8_115) (hj115 : Heap) (Mj115 : Mem hj115 [⟨.op i101 w101 0, 115, 2, [.agg [vs [], vi 0]]⟩]), k115 x8_115 = res → RC Try.prog b S Q [(8, u8_115), (6, .op i101 w101 0), (2, vi x2)] hj115) ?_ ?_
  · intro x8_115 u8_115 r8_115 hj115 Mj115 hres
    rw [← hk115] at hres
    refine rc_seq ?_
    refine rc_seq ?_
    refine rc_region ?_
    refine rd_op (ov_move rfl) ?_
    refine rd_op (ov_bin rfl rfl i_lss) ?_
    refine rd_op (ov_move rfl) ?_
    refine rd_cut (d := 39) (v := vb ((decide (x2 < 0)) || (decide ((x8_115.length : Int) ≤ x2)))) ?_ ?_
    · intro S Q r
      simp only [ac94_G2, List.cons_append, List.nil_append, List.append_assoc]
      cases hb116 : (decide (x2 < 0))
      · intro k
        have hb116' := hb116
        try simp only [Bool.or_eq_true, Bool.or_eq_false_iff, Bool.and_eq_true, Bool.and_eq_false_imp, decide_eq_true_eq, decide_eq_false_iff_not, Bool.not_eq_true', Bool.not_eq_false', Bool.not_eq_true, Bool.not_eq_false, Bool.not_true, Bool.not_false, ne_eq] at hb116'
        refine rd_yes rfl rfl (ov_move rfl) ?_
        refine rd_yes rfl rfl (ov_move rfl) ?_
        refine rd_yes rfl rfl (ov_bi rfl (sl_len r8_115 Try.underlying23 _)) ?_
        refine rd_yes rfl rfl (ov_bin rfl rfl i_geq) ?_
        refine rd_op (v := vb (decide ((x8_115.length : Int) ≤ x2))) (ov_pick rfl rfl rfl rfl) ?_
        exact rd_weak (sub_cons rfl (sub_skip rfl (sub_skip rfl (sub_skip rfl (sub_skip rfl (sub_skip rfl (sub_refl _))))))) k
      · intro k
        refine rd_skip rfl rfl ?_
        refine rd_skip rfl rfl ?_
        refine rd_skip rfl rfl ?_
        refine rd_skip rfl rfl ?_
        refine rd_op (v := vb true) (ov_pick rfl rfl rfl rfl) ?_
        exact rd_weak (sub_cons rfl (sub_skip rfl (sub_skip rfl (sub_skip rfl (sub_skip rfl (sub_skip rfl (sub_refl _))))))) k
    refine rd_nil ?_
    refine pn_seq ?_
    refine rc_cond rfl (fun hc117 => ?_) (fun hc117 => ?_)
    · replace hres := (ite_t hc117).symm.trans hres
      have hc117' := hc117
      try simp only [Bool.or_eq_true, Bool.or_eq_false_iff, Bool.and_eq_true, Bool.and_eq_false_imp, decide_eq_true_eq, decide_eq_false_iff_not, Bool.not_eq_true', Bool.not_eq_false', Bool.not_eq_true, Bool.not_eq_false, Bool.not_true, Bool.not_false, ne_eq] at hc117'
      refine rc_seq ?_
      refine rc_region ?_
      refine rd_op (v := .agg [vs [], vi 0]) (ov_build (cs := [vs [], vi 0]) rfl rfl) ?_
      refine rd_storeO (k := 0) (v := .agg [vs [], vi 0]) Mj115 rfl rfl rfl rfl (fun h118 M118 => ?_)
      replace M118 : Mem h118 [⟨.op i101 w101 0, 115, 2, [.agg [vs [], vi 0]]⟩] := M118
      refine rd_op (v := vb false) (ov_move rfl) ?_
      refine rd_nil ?_
      refine pn_seq ?_
      subst hres
      exact rc_retV (.cell rfl (load_whole (k := 0) M118 rfl rfl) (.tmp rfl .nil)) (deep_closed (show closed (.tup _) = true from (clL_cons (TR.clo api_Field.t (show api_Field.t.R ({ Name := ([] : List UInt8), Width := 0 } : api_Field) (.agg [vs [], vi 0]) from rfl)) (clL_cons rfl clL_nil)))) ⟨.agg [vs [], vi 0], rfl, rfl⟩
    · replace hres := (ite_f hc117).symm.trans hres
      have hc117' := hc117
      try simp only [Bool.or_eq_true, Bool.or_eq_false_iff, Bool.and_eq_true, Bool.and_eq_false_imp, decide_eq_true_eq, decide_eq_false_iff_not, Bool.not_eq_true', Bool.not_eq_false', Bool.not_eq_true, Bool.not_eq_false, Bool.not_true, Bool.not_false, ne_eq] at hc117'
      refine rc_skip ?_
      refine pn_seq ?_
      refine rc_seq ?_
      refine rc_region ?_
      refine rd_op (ov_move rfl) ?_
      refine rd_op (ov_move rfl) ?_
      obtain ⟨v119, e119, r119⟩ := sl_idx (i := x2) r8_115 (by omega) (by omega)
      refine rd_op (ov_iaddr rfl rfl e119) ?_
      refine rd_op (ov_load rfl (TR.cnt api_Field.t r119) (TR.agg api_Field.t r119)) ?_
      refine rd_storeO (k := 0) (v := v119) Mj115 rfl rfl rfl (TR.cnt api_Field.t r119) (fun h120 M120 => ?_)
      replace M120 : Mem h120 [⟨.op i101 w101 0, 115, 2, [v119]⟩] := M120
      refine rd_op (v := vb true) (ov_move rfl) ?_
      refine rd_nil ?_
      refine pn_seq ?_
      subst hres
      exact rc_retV (.cell rfl (load_whole (k := 0) M120 rfl (TR.agg api_Field.t r119)) (.tmp rfl .nil)) (deep_closed (show closed (.tup _) = true from (clL_cons (TR.clo api_Field.t r119) (clL_cons rfl clL_nil)))) ⟨v119, rfl, r119⟩
  · intro J
    refine rc_cond rfl (fun hc121 => ?_) (fun hc121 => ?_)
    · replace hres := (ite_t hc121).symm.trans hres
      have hc121' := hc121
      try simp only [Bool.or_eq_true, Bool.or_eq_false_iff, Bool.and_eq_true, Bool.and_eq_false_imp, decide_eq_true_eq, decide_eq_false_iff_not, Bool.not_eq_true', Bool.not_eq_false', Bool.not_eq_true, Bool.not_eq_false, Bool.not_true, Bool.not_false, ne_eq] at hc121'
      refine rc_seq ?_
      refine rc_seq ?_
      refine rc_region ?_
      refine rd_op (ov_move rfl) ?_
      refine rd_op (ov_bin rfl rfl i_lss) ?_
      refine rd_op (ov_move rfl) ?_
      refine rd_cut (d := 23) (v := vb ((decide (x1 < 0)) || (decide ((x0.Program.Headers.length : Int) ≤ x1)))) ?_ ?_
      · intro S Q r
        simp only [ac94_G1, List.cons_append, List.nil_append, List.append_assoc]
        cases hb122 : (decide (x1 < 0))
        · intro k
          have hb122' := hb122
          try simp only [Bool.or_eq_true, Bool.or_eq_false_iff, Bool.and_eq_true, Bool.and_eq_false_imp, decide_eq_true_eq, decide_eq_false_iff_not, Bool.not_eq_true', Bool.not_eq_false', Bool.not_eq_true, Bool.not_eq_false, Bool.not_true, Bool.not_false, ne_eq] at hb122'
          refine rd_yes rfl rfl (ov_move rfl) ?_
          obtain ⟨v123, e123, r123⟩ := expr_Scope.g_Program r0
          refine rd_yes rfl rfl (ov_faddr rfl e123) ?_
          obtain ⟨v124, e124, r124⟩ := api_Program.g_Headers r123
          refine rd_yes rfl rfl (ov_faddr rfl e124) ?_
          refine rd_yes rfl rfl (ov_load rfl (TR.cnt (tSl api_Header.t) r124) (TR.agg (tSl api_Header.t) r124)) ?_
          refine rd_yes rfl rfl (ov_bi rfl (sl_len r124 Try.underlying22 _)) ?_
          refine rd_yes rfl rfl (ov_bin rfl rfl i_geq) ?_
          refine rd_op (v := vb (decide ((x0.Program.Headers.length : Int) ≤ x1))) (ov_pick rfl rfl rfl rfl) ?_
          exact rd_weak (sub_cons rfl (sub_skip rfl (sub_skip rfl (sub_skip rfl (sub_skip rfl (sub_skip rfl (sub_skip rfl (sub_skip rfl (sub_refl _))))))))) k
        · intro k
          refine rd_skip rfl rfl ?_
          refine rd_skip rfl rfl ?_
          refine rd_skip rfl rfl ?_
          refine rd_skip rfl rfl ?_
          refine rd_skip rfl rfl ?_
          refine rd_skip rfl rfl ?_
          refine rd_op (v := vb true) (ov_pick rfl rfl rfl rfl) ?_
          exact rd_weak (sub_cons rfl (sub_skip rfl (sub_skip rfl (sub_skip rfl (sub_skip rfl (sub_skip rfl (sub_skip rfl (sub_skip rfl (sub_refl _))))))))) k
      refine rd_nil ?_
      refine pn_seq ?_
      refine rc_cond rfl (fun hc125 => ?_) (fun hc125 => ?_)
      · replace hres := (ite_t hc125).symm.trans hres
        have hc125' := hc125
        try simp only [Bool.or_eq_true, Bool.or_eq_false_iff, Bool.and_eq_true, Bool.and_eq_false_imp, decide_eq_true_eq, decide_eq_false_iff_not, Bool.not_eq_true', Bool.not_eq_false', Bool.not_eq_true, Bool.not_eq_false, Bool.not_true, Bool.not_false, ne_eq] at hc125'
        refine rc_seq ?_
        refine rc_region ?_
        refine rd_op (v := .agg [vs [], vi 0]) (ov_build (cs := [vs [], vi 0]) rfl rfl) ?_
        refine rd_storeO (k := 0) (v := .agg [vs [], vi 0]) M101 rfl rfl rfl rfl (fun h126 M126 => ?_)
        replace M126 : Mem h126 [⟨.op i101 w101 0, 115, 2, [.agg [vs [], vi 0]]⟩] := M126
        refine rd_op (v := vb false) (ov_move rfl) ?_
        refine rd_nil ?_
        refine pn_seq ?_
        subst hres
        exact rc_retV (.cell rfl (load_whole (k := 0) M126 rfl rfl) (.tmp rfl .nil)) (deep_closed (show closed (.tup _) = true from (clL_cons (TR.clo api_Field.t (show api_Field.t.R ({ Name := ([] : List UInt8), Width := 0 } : api_Field) (.agg [vs [], vi 0]) from rfl)) (clL_cons rfl clL_nil)))) ⟨.agg [vs [], vi 0], rfl, rfl⟩
      · replace hres := (ite_f hc125).symm.trans hres
        have hc125' := hc125
        try simp only [Bool.or_eq_true, Bool.or_eq_false_iff, Bool.and_eq_true, Bool.and_eq_false_imp, decide_eq_true_eq, decide_eq_false_iff_not, Bool.not_eq_true', Bool.not_eq_false', Bool.not_eq_true, Bool.not_eq_false, Bool.not_true, Bool.not_false, ne_eq] at hc125'
        refine rc_skip ?_
        refine pn_seq ?_
        refine rc_region ?_
        obtain ⟨v127, e127, r127⟩ := expr_Scope.g_Program r0
        refine rd_op (ov_faddr rfl e127) ?_
        obtain ⟨v128, e128, r128⟩ := api_Program.g_Headers r127
        refine rd_op (ov_faddr rfl e128) ?_
        refine rd_op (ov_load rfl (TR.cnt (tSl api_Header.t) r128) (TR.agg (tSl api_Header.t) r128)) ?_
        refine rd_op (ov_move rfl) ?_
        obtain ⟨v129, e129, r129⟩ := sl_idx (i := x1) r128 (by omega) (by omega)
        refine rd_op (ov_iaddr rfl rfl e129) ?_
        obtain ⟨v130, e130, r130⟩ := api_Header.g_Fields r129
        refine rd_op (ov_faddr rfl e130) ?_
        refine rd_op (ov_load rfl (TR.cnt (tSl api_Field.t) r130) (TR.agg (tSl api_Field.t) r130)) ?_
        refine rd_op (ov_move rfl) ?_
        refine rd_nil ?_
        refine pn_seq (rc_weak ((sub_cons rfl (sub_cons rfl (sub_cons rfl (sub_nil _))))) (J _ _ r130 _ (Mem.sub M101 (.cons_cons _ .slnil)) hres))
    · replace hres := (ite_f hc121).symm.trans hres
      have hc121' := hc121
      try simp only [Bool.or_eq_true, Bool.or_eq_false_iff, Bool.and_eq_true, Bool.and_eq_false_imp, decide_eq_true_eq, decide_eq_false_iff_not, Bool.not_eq_true', Bool.not_eq_false', Bool.not_eq_true, Bool.not_eq_false, Bool.not_true, Bool.not_false, ne_eq] at hc121'
      refine rc_skip ?_
      refine pn_seq (rc_weak ((sub_cons rfl (sub_cons rfl (sub_cons rfl (sub_nil _))))) (J _ _ r104 _ (Mem.sub M101 (.cons_cons _ .slnil)) hres))

/-- (patchbay/expr.Scope).primary -/
def RF87 (res : Int × Int) (r : PV) : Prop := r = .tup [vi res.1, vi res.2]
theorem f87_ok {x0 : expr_Scope} {x1 : api_ExprNode} {v0 : PV} {v1 : PV} (r0 : expr_Scope.t.R x0 v0) (r1 : api_ExprNode.t.R x1 v1) : FnR Try.prog 87 [v0, v1] (.tup [vi ((m1_expr_Scope__primary x0 x1).1), vi ((m1_expr_Scope__primary x0 x1).2)]) := by
  obtain ⟨res, hres⟩ : ∃ res, m1_expr_Scope__primary x0 x1 = res := ⟨_, rfl⟩
  suffices H : RC Try.prog ac87 [] (QR Try.prog [(4, none), (5, none)] (RF87 res)) (argE 0 [v0, v1]) ⟨0, []⟩ by
    obtain ⟨r, h1, h2⟩ := fnE text87 (by simp) H
    rw [hres]
    have h2 : r = .tup [vi res.1, vi res.2] := h2
    rw [← h2]; exact h1
  unfold m1_expr_Scope__primary at hres
  unfold ac87
  refine rc_seq ?_
  refine rc_region ?_
  refine rd_op (ov_box rfl (TR.cnt expr_Scope.t r0)) ?_
  refine rd_op (ov_box rfl (TR.cnt api_ExprNode.t r1)) ?_
  refine rd_op (v := vi 0) (ov_move rfl) ?_
  refine rd_op (v := vi 0) (ov_move rfl) ?_
  refine rd_nil ?_
  refine pn_seq ?_
  refine rc_seq ?_
  refine rc_seq ?_
  refine rc_region ?_
  refine rd_op (ov_faddr rfl (api_ExprNode.g_Op r1)) ?_
  refine rd_op (ov_load rfl rfl rfl) ?_
  refine rd_nil ?_
  refine pn_seq ?_
  refine rc_block ?_
  refine rc_seq ?_
  refine rc_region ?_
  refine rd_op (ov_bin rfl rfl i_eql) ?_
  refine rd_op (ov_move rfl) ?_
  refine rd_nil ?_
  refine pn_seq ?_
  refine rc_cond rfl (fun hc101 => ?_) (fun hc101 => ?_)
  · replace hres := (ite_t hc101).symm.trans hres
    have hc101' := hc101
    try simp only [Bool.or_eq_true, Bool.or_eq_false_iff, Bool.and_eq_true, Bool.and_eq_false_imp, decide_eq_true_eq, decide_eq_false_iff_not, Bool.not_eq_true', Bool.not_eq_false', Bool.not_eq_true, Bool.not_eq_false, Bool.not_true, Bool.not_false, ne_eq] at hc101'
    refine rc_seq ?_
    refine rc_region ?_
    refine rd_op (ov_faddr rfl (api_ExprNode.g_W r1)) ?_
    refine rd_op (ov_load rfl rfl rfl) ?_
    obtain ⟨y102, hw102, hres⟩ := let_ex hres
    have f102 := f92_ok (x0 := x1.W)  
    rw [hw102] at f102
    refine rd_call (cv_fn rfl rfl (clL_cons rfl clL_nil) f102) ?_
    refine rd_op (ov_move rfl) ?_
    refine rd_op (ov_extract rfl rfl) ?_
    refine rd_op (ov_extract rfl rfl) ?_
    refine rd_op (ov_move rfl) ?_
    refine rd_op (ov_move rfl) ?_
    refine rd_nil ?_
    refine pn_seq ?_
    refine rc_seq ?_
    refine rc_seq ?_
    refine rc_region ?_
    refine rd_op (ov_move rfl) ?_
    refine rd_op (ov_bin rfl rfl i_eql) ?_
    refine rd_op (ov_move rfl) ?_
    refine rd_cut (d := 34) (v := vb ((decide (y102.2 = 0)) && ((decide (x1.N < 0)) || (decide (((bitvec_Mask y102.1).toNat : Int) < x1.N))))) ?_ ?_
    · intro S Q r
      simp only [ac87_G1, List.cons_append, List.nil_append, List.append_assoc]
      cases hb103 : (decide (y102.2 = 0))
      · intro k
        simp only [ac87_G2, List.cons_append, List.nil_append, List.append_assoc]
        refine rd_skip rfl rfl ?_
        refine rd_skip rfl rfl ?_
        refine rd_skip rfl rfl ?_
        refine rd_skip rfl rfl ?_
        refine rd_skipU rfl ?_
        refine rd_skipU rfl ?_
        refine rd_skipU rfl ?_
        refine rd_skipU rfl ?_
        refine rd_skipU rfl ?_
        refine rd_skipU rfl ?_
        refine rd_skip rfl rfl ?_
        refine rd_op (v := vb false) (ov_pick rfl rfl rfl rfl) ?_
        exact rd_weak (sub_cons rfl (sub_skip rfl (sub_skip rfl (sub_skip rfl (sub_skip rfl (sub_skip rfl (sub_skip rfl (sub_skip rfl (sub_skip rfl (sub_skip rfl (sub_skip rfl (sub_skip rfl (sub_skip rfl (sub_refl _)))))))))))))) k
      · intro k
        have hb103' := hb103
        try simp only [Bool.or_eq_true, Bool.or_eq_false_iff, Bool.and_eq_true, Bool.and_eq_false_imp, decide_eq_true_eq, decide_eq_false_iff_not, Bool.not_eq_true', Bool.not_eq_false', Bool.not_eq_true, Bool.not_eq_false, Bool.not_true, Bool.not_false, ne_eq] at hb103'
        refine rd_yes rfl rfl (ov_faddr rfl (api_ExprNode.g_N r1)) ?_
        refine rd_yes rfl rfl (ov_load rfl rfl rfl) ?_
        refine rd_yes rfl rfl (ov_bin rfl rfl i_lss) ?_
        refine rd_yes rfl rfl (ov_move rfl) ?_
        refine rd_cut (d := 33) (v := vb ((decide (x1.N < 0)) || (decide (((bitvec_Mask y102.1).toNat : Int) < x1.N)))) ?_ ?_
        · intro S Q r
          simp only [ac87_G2, List.cons_append, List.nil_append, List.append_assoc]
          cases hb104 : (decide (x1.N < 0))
          · intro k
            have hb104' := hb104
            try simp only [Bool.or_eq_true, Bool.or_eq_false_iff, Bool.and_eq_true, Bool.and_eq_false_imp, decide_eq_true_eq, decide_eq_false_iff_not, Bool.not_eq_true', Bool.not_eq_false', Bool.not_eq_true, Bool.not_eq_false, Bool.not_true, Bool.not_false, ne_eq] at hb104'
            refine rd_yes rfl rfl (ov_faddr rfl (api_ExprNode.g_N r1)) ?_
            refine rd_yes rfl rfl (ov_load rfl rfl rfl) ?_
            refine rd_yes rfl rfl (ov_move rfl) ?_
            have f105 := f93_ok (x0 := y102.1)  
            refine rd_ycall rfl rfl (cv_fn rfl rfl (clL_cons rfl clL_nil) f105) ?_
            refine rd_yes rfl rfl (ov_conv (a := vu32 (bitvec_Mask y102.1)) rfl (c_wi Try.underlying147 Try.underlying3)) ?_
            refine rd_yes rfl rfl (ov_bin rfl rfl i_gtr) ?_
            refine rd_yes (v := vb (decide (((bitvec_Mask y102.1).toNat : Int) < x1.N))) rfl rfl (ov_pick rfl rfl rfl rfl) ?_
            exact rd_weak (sub_cons rfl (sub_skip rfl (sub_skip rfl (sub_skip rfl (sub_skip rfl (sub_skip rfl (sub_skip rfl (sub_skip rfl (sub_refl _))))))))) k
          · intro k
            refine rd_skip rfl rfl ?_
            refine rd_skip rfl rfl ?_
            refine rd_skip rfl rfl ?_
            refine rd_skip rfl rfl ?_
            refine rd_skip rfl rfl ?_
            refine rd_skip rfl rfl ?_
            refine rd_yes (v := vb true) rfl rfl (ov_pick rfl rfl rfl rfl) ?_
            exact rd_weak (sub_cons rfl (sub_skip rfl (sub_skip rfl (sub_skip rfl (sub_skip rfl (sub_skip rfl (sub_skip rfl (sub_skip rfl (sub_refl _))))))))) k
        refine rd_op (v := vb ((decide (x1.N < 0)) || (decide (((bitvec_Mask y102.1).toNat : Int) < x1.N)))) (ov_pick rfl rfl rfl rfl) ?_
        exact rd_weak (sub_cons rfl (sub_skip rfl (sub_skip rfl (sub_skip rfl (sub_skip rfl (sub_skip rfl (sub_skip rfl (sub_refl _)))))))) k
    refine rd_nil ?_
    refine pn_seq ?_
    refine rc_cond rfl (fun hc106 => ?_) (fun hc106 => ?_)
    · replace hres := (ite_t hc106).symm.trans hres
      have hc106' := hc106
      try simp only [Bool.or_eq_true, Bool.or_eq_false_iff, Bool.and_eq_true, Bool.and_eq_false_imp, decide_eq_true_eq, decide_eq_false_iff_not, Bool.not_eq_true', Bool.not_eq_false', Bool.not_eq_true, Bool.not_eq_false, Bool.not_true, Bool.not_false, ne_eq] at hc106'
      refine rc_seq ?_
      refine rc_region ?_
      refine rd_op (v := vi 0) (ov_move rfl) ?_
      refine rd_op (v := vi 9) (ov_move rfl) ?_
      refine rd_nil ?_
      refine pn_seq ?_
      subst hres
      exact rc_retV (.tmp rfl (.tmp rfl .nil)) (deep_closed (show closed (.tup _) = true from (clL_cons rfl (clL_cons rfl clL_nil)))) rfl
    · replace hres := (ite_f hc106).symm.trans hres
      have hc106' := hc106
      try simp only [Bool.or_eq_true, Bool.or_eq_false_iff, Bool.and_eq_true, Bool.and_eq_false_imp, decide_eq_true_eq, decide_eq_false_iff_not, Bool.not_eq_true', Bool.not_eq_false', Bool.not_eq_true, Bool.not_eq_false, Bool.not_true, Bool.not_false, ne_eq] at hc106'
      refine rc_skip ?_
      refine pn_seq ?_
      refine rc_seq ?_
      refine rc_region ?_
      refine rd_op (ov_move rfl) ?_
      refine rd_op (ov_move rfl) ?_
      refine rd_op (ov_move rfl) ?_
      refine rd_op (ov_move rfl) ?_
      refine rd_nil ?_
      refine pn_seq ?_
      subst hres
      exact rc_retV (.tmp rfl (.tmp rfl .nil)) (deep_closed (show closed (.tup _) = true from (clL_cons rfl (clL_cons rfl clL_nil)))) rfl
  · replace hres := (ite_f hc101).symm.trans hres
    have hc101' := hc101
    try simp only [Bool.or_eq_true, Bool.or_eq_false_iff, Bool.and_eq_true, Bool.and_eq_false_imp, decide_eq_true_eq, decide_eq_false_iff_not, Bool.not_eq_true', Bool.not_eq_false', Bool.not_eq_true, Bool.not_eq_false, Bool.not_true, Bool.not_false, ne_eq] at hc101'
    refine rc_seq ?_
    refine rc_region ?_
    refine rd_op (ov_bin rfl rfl i_eql) ?_
    refine rd_op (ov_move rfl) ?_
    refine rd_nil ?_
    refine pn_seq ?_
    refine rc_cond rfl (fun hc107 => ?_) (fun hc107 => ?_)
    · replace hres := (ite_t hc107).symm.trans hres
      have hc107' := hc107
      try simp only [Bool.or_eq_true, Bool.or_eq_false_iff, Bool.and_eq_true, Bool.and_eq_false_imp, decide_eq_true_eq, decide_eq_false_iff_not, Bool.not_eq_true', Bool.not_eq_false', Bool.not_eq_true, Bool.not_eq_false, Bool.not_true, Bool.not_false, ne_eq] at hc107'
      refine rc_seq ?_
      refine rc_region ?_
      refine rd_op (ov_load rfl (TR.cnt expr_Scope.t r0) (TR.agg expr_Scope.t r0)) ?_
      refine rd_op (ov_faddr rfl (api_ExprNode.g_N r1)) ?_
      refine rd_op (ov_load rfl rfl rfl) ?_
      refine rd_op (ov_faddr rfl (api_ExprNode.g_W r1)) ?_
      refine rd_op (ov_load rfl rfl rfl) ?_
      obtain ⟨y108, hw108, hres⟩ := let_ex hres
      obtain ⟨v109, f108, r109⟩ := f94_ok (x1 := x1.N) (x2 := x1.W) r0 
      rw [hw108] at f108 r109
      refine rd_call (cv_fn rfl rfl (clL_cons (TR.clo expr_Scope.t r0) (clL_cons rfl (clL_cons rfl clL_nil))) f108) ?_
      refine rd_op (ov_move rfl) ?_
      refine rd_op (ov_extract rfl rfl) ?_
      refine rd_op (ov_extract rfl rfl) ?_
      refine rd_allocO (x := .agg [vs [], vi 0]) (Mem.nil ⟨0, []⟩) rfl rfl (fun i110 w110 h110 M110 => ?_)
      refine rd_storeO (k := 0) (v := v109) M110 rfl rfl rfl (TR.cnt api_Field.t r109) (fun h112 M112 => ?_)
      replace M112 : Mem h112 [⟨.op i110 w110 0, 115, 2, [v109]⟩] := M112
      refine rd_op (ov_move rfl) ?_
      refine rd_nil ?_
      refine pn_seq ?_
      refine rc_seq ?_
      refine rc_seq ?_
      refine rc_region ?_
      refine rd_op (ov_move rfl) ?_
      refine rd_op (ov_not rfl) ?_
      refine rd_nil ?_
      refine pn_seq ?_
      refine rc_cond rfl (fun hc113 => ?_) (fun hc113 => ?_)
      · replace hres := (ite_t hc113).symm.trans hres
        have hc113' := hc113
        try simp only [Bool.or_eq_true, Bool.or_eq_false_iff, Bool.and_eq_true, Bool.and_eq_false_imp, decide_eq_true_eq, decide_eq_false_iff_not, Bool.not_eq_true', Bool.not_eq_false', Bool.not_eq_true, Bool.not_eq_false, Bool.not_true, Bool.not_false, ne_eq] at hc113'
        refine rc_seq ?_
        refine rc_region ?_
        refine rd_op (v := vi 0) (ov_move rfl) ?_
        refine rd_op (v := vi 8) (ov_move rfl) ?_
        refine rd_nil ?_
        refine pn_seq ?_
        subst hres
        exact rc_retV (.tmp rfl (.tmp rfl .nil)) (deep_closed (show closed (.tup _) = true from (clL_cons rfl (clL_cons rfl clL_nil)))) rfl
      · replace hres := (ite_f hc113).symm.trans hres
        have hc113' := hc113
        try simp only [Bool.or_eq_true, Bool.or_eq_false_iff, Bool.and_eq_true, Bool.and_eq_false_imp, decide_eq_true_eq, decide_eq_false_iff_not, Bool.not_eq_true', Bool.not_eq_false', Bool.not_eq_true, Bool.not_eq_false, Bool.not_true, Bool.not_false, ne_eq] at hc113'
        refine rc_skip ?_
        refine pn_seq ?_
        refine rc_seq ?_
        refine rc_region ?_
        refine rd_op (ov_faddrO rfl) ?_
        refine rd_op (ov_loadf (k := 0) M112 rfl rfl (api_Field.g_Width r109)) ?_
        obtain ⟨y114, hw114, hres⟩ := let_ex hres
        have f114 := f92_ok (x0 := y108.1.Width)  
        rw [hw114] at f114
        refine rd_call (cv_fn rfl rfl (clL_cons rfl clL_nil) f114) ?_
        refine rd_op (ov_extract rfl rfl) ?_
        refine rd_op (ov_extract rfl rfl) ?_
        refine rd_op (ov_move rfl) ?_
        refine rd_op (ov_move rfl) ?_
        refine rd_nil ?_
        refine pn_seq ?_
        subst hres
        exact rc_retV (.tmp rfl (.tmp rfl .nil)) (deep_closed (show closed (.tup _) = true from (clL_cons rfl (clL_cons rfl clL_nil)))) rfl
    · replace hres := (ite_f hc107).symm.trans hres
      have hc107' := hc107
      try simp only [Bool.or_eq_true, Bool.or_eq_false_iff, Bool.and_eq_true, Bool.and_eq_false_imp, decide_eq_true_eq, decide_eq_false_iff_not, Bool.not_eq_true', Bool.not_eq_false', Bool.not_eq_true, Bool.not_eq_false, Bool.not_true, Bool.not_false, ne_eq] at hc107'
      refine rc_seq ?_
      refine rc_region ?_
      refine rd_op (ov_bin rfl rfl i_eql) ?_
      refine rd_op (ov_move rfl) ?_
      refine rd_nil ?_
      refine pn_seq ?_
      refine rc_cond rfl (fun hc115 => ?_) (fun hc115 => ?_)
      · replace hres := (ite_t hc115).symm.trans hres
        have hc115' := hc115
        try simp only [Bool.or_eq_true, Bool.or_eq_false_iff, Bool.and_eq_true, Bool.and_eq_false_imp, decide_eq_true_eq, decide_eq_false_iff_not, Bool.not_eq_true', Bool.not_eq_false', Bool.not_eq_true, Bool.not_eq_false, Bool.not_true, Bool.not_false, ne_eq] at hc115'
        refine rc_seq ?_
        refine rc_seq ?_
        refine rc_region ?_
        refine rd_op (ov_faddr rfl (api_ExprNode.g_N r1)) ?_
        refine rd_op (ov_load rfl rfl rfl) ?_
        refine rd_op (ov_bin rfl rfl i_lss) ?_
        refine rd_op (ov_move rfl) ?_
        refine rd_cut (d := 67) (v := vb ((decide (x1.N < 0)) || (decide ((x0.Params.length : Int) ≤ x1.N)))) ?_ ?_
        · intro S Q r
          simp only [ac87_G3, List.cons_append, List.nil_append, List.append_assoc]
          cases hb116 : (decide (x1.N < 0))
          · intro k
            have hb116' := hb116
            try simp only [Bool.or_eq_true, Bool.or_eq_false_iff, Bool.and_eq_true, Bool.and_eq_false_imp, decide_eq_true_eq, decide_eq_false_iff_not, Bool.not_eq_true', Bool.not_eq_false', Bool.not_eq_true, Bool.not_eq_false, Bool.not_true, Bool.not_false, ne_eq] at hb116'
            refine rd_yes rfl rfl (ov_faddr rfl (api_ExprNode.g_N r1)) ?_
            refine rd_yes rfl rfl (ov_load rfl rfl rfl) ?_
            obtain ⟨v117, e117, r117⟩ := expr_Scope.g_Params r0
            refine rd_yes rfl rfl (ov_faddr rfl e117) ?_
            refine rd_yes rfl rfl (ov_load rfl (TR.cnt (tSl api_Field.t) r117) (TR.agg (tSl api_Field.t) r117)) ?_
            refine rd_yes rfl rfl (ov_bi rfl (sl_len r117 Try.underlying23 _)) ?_
            refine rd_yes rfl rfl (ov_bin rfl rfl i_geq) ?_
            refine rd_op (v := vb (decide ((x0.Params.length : Int) ≤ x1.N))) (ov_pick rfl rfl rfl rfl) ?_
            exact rd_weak (sub_cons rfl (sub_skip rfl (sub_skip rfl (sub_skip rfl (sub_skip rfl (sub_skip rfl (sub_skip rfl (sub_skip rfl (sub_refl _))))))))) k
          · intro k
            refine rd_skip rfl rfl ?_
            refine rd_skip rfl rfl ?_
            refine rd_skip rfl rfl ?_
            refine rd_skip rfl rfl ?_
            refine rd_skip rfl rfl ?_
            refine rd_skip rfl rfl ?_
            refine rd_op (v := vb true) (ov_pick rfl rfl rfl rfl) ?_
            exact rd_weak (sub_cons rfl (sub_skip rfl (sub_skip rfl (sub_skip rfl (sub_skip rfl (sub_skip rfl (sub_skip rfl (sub_skip rfl (sub_refl _))))))))) k
        refine rd_nil ?_
        refine pn_seq ?_
        refine rc_cond rfl (fun hc118 => ?_) (fun hc118 => ?_)
        · replace hres := (ite_t hc118).symm.trans hres
          have hc118' := hc118
          try simp only [Bool.or_eq_true, Bool.or_eq_false_iff, Bool.and_eq_true, Bool.and_eq_false_imp, decide_eq_true_eq, decide_eq_false_iff_not, Bool.not_eq_true', Bool.not_eq_false', Bool.not_eq_true, Bool.not_eq_false, Bool.not_true, Bool.not_false, ne_eq] at hc118'
          refine rc_seq ?_
          refine rc_region ?_
          refine rd_op (v := vi 0) (ov_move rfl) ?_
          refine rd_op (v := vi 8) (ov_move rfl) ?_
          refine rd_nil ?_
          refine pn_seq ?_
          subst hres
          exact rc_retV (.tmp rfl (.tmp rfl .nil)) (deep_closed (show closed (.tup _) = true from (clL_cons rfl (clL_cons rfl clL_nil)))) rfl
        · replace hres := (ite_f hc118).symm.trans hres
          have hc118' := hc118
          try simp only [Bool.or_eq_true, Bool.or_eq_false_iff, Bool.and_eq_true, Bool.and_eq_false_imp, decide_eq_true_eq, decide_eq_false_iff_not, Bool.not_eq_true', Bool.not_eq_false', Bool.not_eq_true, Bool.not_eq_false, Bool.not_true, Bool.not_false, ne_eq] at hc118'
          refine rc_skip ?_
          refine pn_seq ?_
          refine rc_seq ?_
          refine rc_region ?_
          obtain ⟨v119, e119, r119⟩ := expr_Scope.g_Params r0
          refine rd_op (ov_faddr rfl e119) ?_
          refine rd_op (ov_load rfl (TR.cnt (tSl api_Field.t) r119) (TR.agg (tSl api_Field.t) r119)) ?_
          refine rd_op (ov_faddr rfl (api_ExprNode.g_N r1)) ?_
          refine rd_op (ov_load rfl rfl rfl) ?_
          obtain ⟨v120, e120, r120⟩ := sl_idx (i := x1.N) r119 (by omega) (by omega)
          refine rd_op (ov_iaddr rfl rfl e120) ?_
          refine rd_op (ov_faddr rfl (api_Field.g_Width r120)) ?_
          refine rd_op (ov_load rfl rfl rfl) ?_
          obtain ⟨y121, hw121, hres⟩ := let_ex hres
          have f121 := f92_ok (x0 := (ix x0.Params x1.N).Width)  
          rw [hw121] at f121
          refine rd_call (cv_fn rfl rfl (clL_cons rfl clL_nil) f121) ?_
          refine rd_op (ov_extract rfl rfl) ?_
          refine rd_op (ov_extract rfl rfl) ?_
          refine rd_op (ov_move rfl) ?_
          refine rd_op (ov_move rfl) ?_
          refine rd_nil ?_
          refine pn_seq ?_
          subst hres
          exact rc_retV (.tmp rfl (.tmp rfl .nil)) (deep_closed (show closed (.tup _) = true from (clL_cons rfl (clL_cons rfl clL_nil)))) rfl
      · replace hres := (ite_f hc115).symm.trans hres
        have hc115' := hc115
        try simp only [Bool.or_eq_true, Bool.or_eq_false_iff, Bool.and_eq_true, Bool.and_eq_false_imp, decide_eq_true_eq, decide_eq_false_iff_not, Bool.not_eq_true', Bool.not_eq_false', Bool.not_eq_true, Bool.not_eq_false, Bool.not_true, Bool.not_false, ne_eq] at hc115'
        refine rc_skip ?_
        refine pn_blk ?_
        refine pn_seq ?_
        refine rc_seq ?_
        refine rc_seq ?_
        refine rc_region ?_
        refine rd_op (ov_faddr rfl (api_ExprNode.g_N r1)) ?_
        refine rd_op (ov_load rfl rfl rfl) ?_
        refine rd_op (ov_bin rfl rfl i_lss) ?_
        refine rd_op (ov_move rfl) ?_
        refine rd_cut (d := 89) (v := vb ((decide (x1.N < 0)) || (decide ((x0.Program.Headers.length : Int) ≤ x1.N)))) ?_ ?_
        · intro S Q r
          simp only [ac87_G4, List.cons_append, List.nil_append, List.append_assoc]
          cases hb122 : (decide (x1.N < 0))
          · intro k
            have hb122' := hb122
            try simp only [Bool.or_eq_true, Bool.or_eq_false_iff, Bool.and_eq_true, Bool.and_eq_false_imp, decide_eq_true_eq, decide_eq_false_iff_not, Bool.not_eq_true', Bool.not_eq_false', Bool.not_eq_true, Bool.not_eq_false, Bool.not_true, Bool.not_false, ne_eq] at hb122'
            refine rd_yes rfl rfl (ov_faddr rfl (api_ExprNode.g_N r1)) ?_
            refine rd_yes rfl rfl (ov_load rfl rfl rfl) ?_
            obtain ⟨v123, e123, r123⟩ := expr_Scope.g_Program r0
            refine rd_yes rfl rfl (ov_faddr rfl e123) ?_
            obtain ⟨v124, e124, r124⟩ := api_Program.g_Headers r123
            refine rd_yes rfl rfl (ov_faddr rfl e124) ?_
            refine rd_yes rfl rfl (ov_load rfl (TR.cnt (tSl api_Header.t) r124) (TR.agg (tSl api_Header.t) r124)) ?_
            refine rd_yes rfl rfl (ov_bi rfl (sl_len r124 Try.underlying22 _)) ?_
            refine rd_yes rfl rfl (ov_bin rfl rfl i_geq) ?_
            refine rd_op (v := vb (decide ((x0.Program.Headers.length : Int) ≤ x1.N))) (ov_pick rfl rfl rfl rfl) ?_
            exact rd_weak (sub_cons rfl (sub_skip rfl (sub_skip rfl (sub_skip rfl (sub_skip rfl (sub_skip rfl (sub_skip rfl (sub_skip rfl (sub_skip rfl (sub_refl _)))))))))) k
          · intro k
            refine rd_skip rfl rfl ?_
            refine rd_skip rfl rfl ?_
            refine rd_skip rfl rfl ?_
            refine rd_skip rfl rfl ?_
            refine rd_skip rfl rfl ?_
            refine rd_skip rfl rfl ?_
            refine rd_skip rfl rfl ?_
            refine rd_op (v := vb true) (ov_pick rfl rfl rfl rfl) ?_
            exact rd_weak (sub_cons rfl (sub_skip rfl (sub_skip rfl (sub_skip rfl (sub_skip rfl (sub_skip rfl (sub_skip rfl (sub_skip rfl (sub_skip rfl (sub_refl _)))))))))) k
        refine rd_nil ?_
        refine pn_seq ?_
        refine rc_cond rfl (fun hc125 => ?_) (fun hc125 => ?_)
        · replace hres := (ite_t hc125).symm.trans hres
          have hc125' := hc125
          try simp only [Bool.or_eq_true, Bool.or_eq_false_iff, Bool.and_eq_true, Bool.and_eq_false_imp, decide_eq_true_eq, decide_eq_false_iff_not, Bool.not_eq_true', Bool.not_eq_false', Bool.not_eq_true, Bool.not_eq_false, Bool.not_true, Bool.not_false, ne_eq] at hc125'
          refine rc_seq ?_
          refine rc_region ?_
          refine rd_op (v := vi 0) (ov_move rfl) ?_
          refine rd_op (v := vi 8) (ov_move rfl) ?_
          refine rd_nil ?_
          refine pn_seq ?_
          subst hres
          exact rc_retV (.tmp rfl (.tmp rfl .nil)) (deep_closed (show closed (.tup _) = true from (clL_cons rfl (clL_cons rfl clL_nil)))) rfl
        · replace hres := (ite_f hc125).symm.trans hres
          have hc125' := hc125
          try simp only [Bool.or_eq_true, Bool.or_eq_false_iff, Bool.and_eq_true, Bool.and_eq_false_imp, decide_eq_true_eq, decide_eq_false_iff_not, Bool.not_eq_true', Bool.not_eq_false', Bool.not_eq_true, Bool.not_eq_false, Bool.not_true, Bool.not_false, ne_eq] at hc125'
          refine rc_skip ?_
          refine pn_seq ?_
          refine rc_seq ?_
          refine rc_region ?_
          refine rd_op (v := vi 1) (ov_move rfl) ?_
          refine rd_op (v := vi 0) (ov_move rfl) ?_
          refine rd_nil ?_
          refine pn_seq ?_
          subst hres
          exact rc_retV (.tmp rfl (.tmp rfl .nil)) (deep_closed (show closed (.tup _) = true from (clL_cons rfl (clL_cons rfl clL_nil)))) rfl

/-- patchbay/expr.combine -/
def RF88 (res : Int × Int) (r : PV) : Prop := r = .tup [vi res.1, vi res.2]
theorem f88_ok {x0 : api_ExprNode} {x1 : List Int} {v0 : PV} {v1 : PV} (r0 : api_ExprNode.t.R x0 v0) (r1 : (tAr 3 tI).R x1 v1) : FnR Try.prog 88 [v0, v1] (.tup [vi ((expr_combine x0 x1).1), vi ((expr_combine x0 x1).2)]) := by
  obtain ⟨res, hres⟩ : ∃ res, expr_combine x0 x1 = res := ⟨_, rfl⟩
  suffices H : RC Try.prog ac88 [] (QR Try.prog [(4, none), (5, none)] (RF88 res)) (argE 0 [v0, v1]) ⟨0, []⟩ by
    obtain ⟨r, h1, h2⟩ := fnE text88 (by simp) H
    rw [hres]
    have h2 : r = .tup [vi res.1, vi res.2] := h2
    rw [← h2]; exact h1
  unfold expr_combine at hres
  unfold ac88
  refine rc_seq ?_
  refine rc_region ?_
  refine rd_op (ov_box rfl (TR.cnt api_ExprNode.t r0)) ?_
  refine rd_op (ov_box rfl (TR.cnt (tAr 3 tI) r1)) ?_
  refine rd_op (v := vi 0) (ov_move rfl) ?_
  refine rd_op (v := vi 0) (ov_move rfl) ?_
  refine rd_nil ?_
  refine pn_seq ?_
  refine rc_seq ?_
  refine rc_seq ?_
  refine rc_region ?_
  refine rd_op (ov_faddr rfl (api_ExprNode.g_Op r0)) ?_
  refine rd_op (ov_load rfl rfl rfl) ?_
  refine rd_nil ?_
  refine pn_seq ?_
  refine rc_block ?_
  refine rc_seq ?_
  refine rc_seq ?_
  refine rc_region ?_
  refine rd_op (ov_bin rfl rfl i_eql) ?_
  refine rd_op (ov_move rfl) ?_
  refine rd_nil ?_
  refine pn_seq ?_
  obtain ⟨k102, hk102, hres⟩ := let_ex hres
  refine rc_join (F := fun b S Q => ∀ (x10_102 : Bool) (hj102 : Heap) (Mj102 : Mem hj102 []), k102 x10_102 = res → RC Try.prog b S Q [(10, vb x10_102), (9, vi x0.Op), (3, .fp v1), (2, .fp v0)] hj102) ?_ ?_
  · intro x10_102 hj102 Mj102 hres
    rw [← hk102] at hres
    refine rc_cond rfl (fun hc103 => ?_) (fun hc103 => ?_)
    · replace hres := (ite_t hc103).symm.trans hres
      have hc103' := hc103
      try simp only [Bool.or_eq_true, Bool.or_eq_false_iff, Bool.and_eq_true, Bool.and_eq_false_imp, decide_eq_true_eq, decide_eq_false_iff_not, Bool.not_eq_true', Bool.not_eq_false', Bool.not_eq_true, Bool.not_eq_false, Bool.not_true, Bool.not_false, ne_eq] at hc103'
      refine rc_seq ?_
      refine rc_region ?_
      refine rd_op (ov_faddr rfl (api_ExprNode.g_N r0)) ?_
      refine rd_op (ov_load rfl rfl rfl) ?_
      refine rd_op (ov_bin rfl rfl i_lss) ?_
      refine rd_op (ov_move rfl) ?_
      refine rd_cut (d := 20) (v := vb ((decide (x0.N < 0)) || (decide (31 < x0.N)))) ?_ ?_
      · intro S Q r
        simp only [ac88_G1, List.cons_append, List.nil_append, List.append_assoc]
        cases hb104 : (decide (x0.N < 0))
        · intro k
          have hb104' := hb104
          try simp only [Bool.or_eq_true, Bool.or_eq_false_iff, Bool.and_eq_true, Bool.and_eq_false_imp, decide_eq_true_eq, decide_eq_false_iff_not, Bool.not_eq_true', Bool.not_eq_false', Bool.not_eq_true, Bool.not_eq_false, Bool.not_true, Bool.not_false, ne_eq] at hb104'
          refine rd_yes rfl rfl (ov_faddr rfl (api_ExprNode.g_N r0)) ?_
          refine rd_yes rfl rfl (ov_load rfl rfl rfl) ?_
          refine rd_yes rfl rfl (ov_bin rfl rfl i_gtr) ?_
          refine rd_op (v := vb (decide (31 < x0.N))) (ov_pick rfl rfl rfl rfl) ?_
          exact rd_weak (sub_cons rfl (sub_skip rfl (sub_skip rfl (sub_skip rfl (sub_skip rfl (sub_refl _)))))) k
        · intro k
          refine rd_skip rfl rfl ?_
          refine rd_skip rfl rfl ?_
          refine rd_skip rfl rfl ?_
          refine rd_op (v := vb true) (ov_pick rfl rfl rfl rfl) ?_
          exact rd_weak (sub_cons rfl (sub_skip rfl (sub_skip rfl (sub_skip rfl (sub_skip rfl (sub_refl _)))))) k
      refine rd_nil ?_
      refine pn_seq ?_
      refine rc_cond rfl (fun hc105 => ?_) (fun hc105 => ?_)
      · replace hres := (ite_t hc105).symm.trans hres
        have hc105' := hc105
        try simp only [Bool.or_eq_true, Bool.or_eq_false_iff, Bool.and_eq_true, Bool.and_eq_false_imp, decide_eq_true_eq, decide_eq_false_iff_not, Bool.not_eq_true', Bool.not_eq_false', Bool.not_eq_true, Bool.not_eq_false, Bool.not_true, Bool.not_false, ne_eq] at hc105'
        refine rc_seq ?_
        refine rc_region ?_
        refine rd_op (v := vi 0) (ov_move rfl) ?_
        refine rd_op (v := vi 9) (ov_move rfl) ?_
        refine rd_nil ?_
        refine pn_seq ?_
        subst hres
        exact rc_retV (.tmp rfl (.tmp rfl .nil)) (deep_closed (show closed (.tup _) = true from (clL_cons rfl (clL_cons rfl clL_nil)))) rfl
      · replace hres := (ite_f hc105).symm.trans hres
        have hc105' := hc105
        try simp only [Bool.or_eq_true, Bool.or_eq_false_iff, Bool.and_eq_true, Bool.and_eq_false_imp, decide_eq_true_eq, decide_eq_false_iff_not, Bool.not_eq_true', Bool.not_eq_false', Bool.not_eq_true, Bool.not_eq_false, Bool.not_true, Bool.not_false, ne_eq] at hc105'
        refine rc_skip ?_
        refine pn_blk ?_
        refine pn_seq ?_
        refine rc_seq ?_
        refine rc_seq ?_
        refine rc_region ?_
        refine rd_op (ov_faddr rfl (api_ExprNode.g_Op r0)) ?_
        refine rd_op (ov_load rfl rfl rfl) ?_
        obtain ⟨y106, hw106, hres⟩ := let_ex hres
        have f106 := f86_ok (x0 := x0.Op)  
        rw [hw106] at f106
        refine rd_call (cv_fn rfl rfl (clL_cons rfl clL_nil) f106) ?_
        refine rd_op (ov_bin rfl rfl i_eql) ?_
        refine rd_op (ov_move rfl) ?_
        refine rd_cut (d := 80) (v := vb ((decide (y106 = 2)) && (!decide ((ix x1 0) = (ix x1 1))))) ?_ ?_
        · intro S Q r
          simp only [ac88_G4, List.cons_append, List.nil_append, List.append_assoc]
          cases hb107 : (decide (y106 = 2))
          · intro k
            refine rd_skip rfl rfl ?_
            refine rd_skip rfl rfl ?_
            refine rd_skip rfl rfl ?_
            refine rd_skip rfl rfl ?_
            refine rd_skip rfl rfl ?_
            refine rd_op (v := vb false) (ov_pick rfl rfl rfl rfl) ?_
            exact rd_weak (sub_cons rfl (sub_skip rfl (sub_skip rfl (sub_skip rfl (sub_skip rfl (sub_skip rfl (sub_skip rfl (sub_refl _)))))))) k
          · intro k
            have hb107' := hb107
            try simp only [Bool.or_eq_true, Bool.or_eq_false_iff, Bool.and_eq_true, Bool.and_eq_false_imp, decide_eq_true_eq, decide_eq_false_iff_not, Bool.not_eq_true', Bool.not_eq_false', Bool.not_eq_true, Bool.not_eq_false, Bool.not_true, Bool.not_false, ne_eq] at hb107'
            obtain ⟨v108, e108, r108⟩ := arr_addr (t := tI) r1 (i := 0) (by omega) (by omega)
            have r108 : v108 = vi (ix x1 0) := r108; subst r108
            refine rd_yes rfl rfl (ov_iaddrA rfl rfl e108) ?_
            refine rd_yes rfl rfl (ov_load rfl rfl rfl) ?_
            obtain ⟨v109, e109, r109⟩ := arr_addr (t := tI) r1 (i := 1) (by omega) (by omega)
            have r109 : v109 = vi (ix x1 1) := r109; subst r109
            refine rd_yes rfl rfl (ov_iaddrA rfl rfl e109) ?_
            refine rd_yes rfl rfl (ov_load rfl rfl rfl) ?_
            refine rd_yes rfl rfl (ov_bin rfl rfl i_neq) ?_
            refine rd_op (v := vb (!decide ((ix x1 0) = (ix x1 1)))) (ov_pick rfl rfl rfl rfl) ?_
            exact rd_weak (sub_cons rfl (sub_skip rfl (sub_skip rfl (sub_skip rfl (sub_skip rfl (sub_skip rfl (sub_skip rfl (sub_refl _)))))))) k
        refine rd_nil ?_
        refine pn_seq ?_
        refine rc_cond rfl (fun hc110 => ?_) (fun hc110 => ?_)
        · replace hres := (ite_t hc110).symm.trans hres
          have hc110' := hc110
          try simp only [Bool.or_eq_true, Bool.or_eq_false_iff, Bool.and_eq_true, Bool.and_eq_false_imp, decide_eq_true_eq, decide_eq_false_iff_not, Bool.not_eq_true', Bool.not_eq_false', Bool.not_eq_true, Bool.not_eq_false, Bool.not_true, Bool.not_false, ne_eq] at hc110'
          refine rc_seq ?_
          refine rc_region ?_
          refine rd_op (v := vi 0) (ov_move rfl) ?_
          refine rd_op (v := vi 10) (ov_move rfl) ?_
          refine rd_nil ?_
          refine pn_seq ?_
          subst hres
          exact rc_retV (.tmp rfl (.tmp rfl .nil)) (deep_closed (show closed (.tup _) = true from (clL_cons rfl (clL_cons rfl clL_nil)))) rfl
        · replace hres := (ite_f hc110).symm.trans hres
          have hc110' := hc110
          try simp only [Bool.or_eq_true, Bool.or_eq_false_iff, Bool.and_eq_true, Bool.and_eq_false_imp, decide_eq_true_eq, decide_eq_false_iff_not, Bool.not_eq_true', Bool.not_eq_false', Bool.not_eq_true, Bool.not_eq_false, Bool.not_true, Bool.not_false, ne_eq] at hc110'
          refine rc_skip ?_
          refine pn_seq ?_
          refine rc_seq ?_
          refine rc_seq ?_
          refine rc_region ?_
          refine rd_op (ov_faddr rfl (api_ExprNode.g_Op r0)) ?_
          refine rd_op (ov_load rfl rfl rfl) ?_
          refine rd_op (ov_bin rfl rfl i_eql) ?_
          refine rd_op (ov_move rfl) ?_
          refine rd_cut (d := 88) (v := vb ((decide (x0.Op = 15)) || (decide (x0.Op = 16)))) ?_ ?_
          · intro S Q r
            simp only [ac88_G5, List.cons_append, List.nil_append, List.append_assoc]
            cases hb111 : (decide (x0.Op = 15))
            · intro k
              have hb111' := hb111
              try simp only [Bool.or_eq_true, Bool.or_eq_false_iff, Bool.and_eq_true, Bool.and_eq_false_imp, decide_eq_true_eq, decide_eq_false_iff_not, Bool.not_eq_true', Bool.not_eq_false', Bool.not_eq_true, Bool.not_eq_false, Bool.not_true, Bool.not_false, ne_eq] at hb111'
              refine rd_yes rfl rfl (ov_faddr rfl (api_ExprNode.g_Op r0)) ?_
              refine rd_yes rfl rfl (ov_load rfl rfl rfl) ?_
              refine rd_yes rfl rfl (ov_bin rfl rfl i_eql) ?_
              refine rd_op (v := vb (decide (x0.Op = 16))) (ov_pick rfl rfl rfl rfl) ?_
              exact rd_weak (sub_cons rfl (sub_skip rfl (sub_skip rfl (sub_skip rfl (sub_skip rfl (sub_refl _)))))) k
            · intro k
              refine rd_skip rfl rfl ?_
              refine rd_skip rfl rfl ?_
              refine rd_skip rfl rfl ?_
              refine rd_op (v := vb true) (ov_pick rfl rfl rfl rfl) ?_
              exact rd_weak (sub_cons rfl (sub_skip rfl (sub_skip rfl (sub_skip rfl (sub_skip rfl (sub_refl _)))))) k
          refine rd_nil ?_
          refine pn_seq ?_
          refine rc_cond rfl (fun hc112 => ?_) (fun hc112 => ?_)
          · replace hres := (ite_t hc112).symm.trans hres
            have hc112' := hc112
            try simp only [Bool.or_eq_true, Bool.or_eq_false_iff, Bool.and_eq_true, Bool.and_eq_false_imp, decide_eq_true_eq, decide_eq_false_iff_not, Bool.not_eq_true', Bool.not_eq_false', Bool.not_eq_true, Bool.not_eq_false, Bool.not_true, Bool.not_false, ne_eq] at hc112'
            refine rc_seq ?_
            refine rc_region ?_
            refine rd_op (v := vi 1) (ov_move rfl) ?_
            refine rd_op (v := vi 0) (ov_move rfl) ?_
            refine rd_nil ?_
            refine pn_seq ?_
            subst hres
            exact rc_retV (.tmp rfl (.tmp rfl .nil)) (deep_closed (show closed (.tup _) = true from (clL_cons rfl (clL_cons rfl clL_nil)))) rfl
          · replace hres := (ite_f hc112).symm.trans hres
            have hc112' := hc112
            try simp only [Bool.or_eq_true, Bool.or_eq_false_iff, Bool.and_eq_true, Bool.and_eq_false_imp, decide_eq_true_eq, decide_eq_false_iff_not, Bool.not_eq_true', Bool.not_eq_false', Bool.not_eq_true, Bool.not_eq_false, Bool.not_true, Bool.not_false, ne_eq] at hc112'
            refine rc_skip ?_
            refine pn_seq ?_
            refine rc_seq ?_
            refine rc_region ?_
            obtain ⟨v113, e113, r113⟩ := arr_addr (t := tI) r1 (i := 0) (by omega) (by omega)
            have r113 : v113 = vi (ix x1 0) := r113; subst r113
            refine rd_op (ov_iaddrA rfl rfl e113) ?_
            refine rd_op (ov_load rfl rfl rfl) ?_
            refine rd_op (ov_move rfl) ?_
            refine rd_op (v := vi 0) (ov_move rfl) ?_
            refine rd_nil ?_
            refine pn_seq ?_
            subst hres
            exact rc_retV (.tmp rfl (.tmp rfl .nil)) (deep_closed (show closed (.tup _) = true from (clL_cons rfl (clL_cons rfl clL_nil)))) rfl
    · replace hres := (ite_f hc103).symm.trans hres
      have hc103' := hc103
      try simp only [Bool.or_eq_true, Bool.or_eq_false_iff, Bool.and_eq_true, Bool.and_eq_false_imp, decide_eq_true_eq, decide_eq_false_iff_not, Bool.not_eq_true', Bool.not_eq_false', Bool.not_eq_true, Bool.not_eq_false, Bool.not_true, Bool.not_false, ne_eq] at hc103'
      refine rc_seq ?_
      refine rc_region ?_
      refine rd_op (ov_bin rfl rfl i_eql) ?_
      refine rd_op (ov_move rfl) ?_
      refine rd_nil ?_
      refine pn_seq ?_
      refine rc_cond rfl (fun hc114 => ?_) (fun hc114 => ?_)
      · replace hres := (ite_t hc114).symm.trans hres
        have hc114' := hc114
        try simp only [Bool.or_eq_true, Bool.or_eq_false_iff, Bool.and_eq_true, Bool.and_eq_false_imp, decide_eq_true_eq, decide_eq_false_iff_not, Bool.not_eq_true', Bool.not_eq_false', Bool.not_eq_true, Bool.not_eq_false, Bool.not_true, Bool.not_false, ne_eq] at hc114'
        refine rc_seq ?_
        refine rc_seq ?_
        refine rc_region ?_
        refine rd_op (ov_faddr rfl (api_ExprNode.g_N r0)) ?_
        refine rd_op (ov_load rfl rfl rfl) ?_
        refine rd_op (ov_bin rfl rfl i_lss) ?_
        refine rd_nil ?_
        refine pn_seq ?_
        refine rc_cond rfl (fun hc115 => ?_) (fun hc115 => ?_)
        · replace hres := (ite_t hc115).symm.trans hres
          have hc115' := hc115
          try simp only [Bool.or_eq_true, Bool.or_eq_false_iff, Bool.and_eq_true, Bool.and_eq_false_imp, decide_eq_true_eq, decide_eq_false_iff_not, Bool.not_eq_true', Bool.not_eq_false', Bool.not_eq_true, Bool.not_eq_false, Bool.not_true, Bool.not_false, ne_eq] at hc115'
          refine rc_seq ?_
          refine rc_region ?_
          refine rd_op (v := vi 0) (ov_move rfl) ?_
          refine rd_op (v := vi 9) (ov_move rfl) ?_
          refine rd_nil ?_
          refine pn_seq ?_
          subst hres
          exact rc_retV (.tmp rfl (.tmp rfl .nil)) (deep_closed (show closed (.tup _) = true from (clL_cons rfl (clL_cons rfl clL_nil)))) rfl
        · replace hres := (ite_f hc115).symm.trans hres
          have hc115' := hc115
          try simp only [Bool.or_eq_true, Bool.or_eq_false_iff, Bool.and_eq_true, Bool.and_eq_false_imp, decide_eq_true_eq, decide_eq_false_iff_not, Bool.not_eq_true', Bool.not_eq_false', Bool.not_eq_true, Bool.not_eq_false, Bool.not_true, Bool.not_false, ne_eq] at hc115'
          refine rc_skip ?_
          refine pn_seq ?_
          refine rc_seq ?_
          refine rc_seq ?_
          refine rc_region ?_
          refine rd_op (ov_faddr rfl (api_ExprNode.g_W r0)) ?_
          refine rd_op (ov_load rfl rfl rfl) ?_
          obtain ⟨y116, hw116, hres⟩ := let_ex hres
          have f116 := f92_ok (x0 := x0.W)  
          rw [hw116] at f116
          refine rd_call (cv_fn rfl rfl (clL_cons rfl clL_nil) f116) ?_
          refine rd_op (ov_move rfl) ?_
          refine rd_op (ov_extract rfl rfl) ?_
          refine rd_op (ov_extract rfl rfl) ?_
          refine rd_op (ov_move rfl) ?_
          refine rd_op (ov_move rfl) ?_
          refine rd_nil ?_
          refine pn_seq ?_
          refine rc_seq ?_
          refine rc_region ?_
          refine rd_op (ov_move rfl) ?_
          refine rd_op (ov_bin rfl rfl i_neq) ?_
          refine rd_op (ov_move rfl) ?_
          refine rd_cut (d := 43) (v := vb ((!decide (y116.2 = 0)) || (decide ((wr ((ix x1 0) - x0.W)) < x0.N)))) ?_ ?_
          · intro S Q r
            simp only [ac88_G2, List.cons_append, List.nil_append, List.append_assoc]
            cases hb117 : (!decide (y116.2 = 0))
            · intro k
              have hb117' := hb117
              try simp only [Bool.or_eq_true, Bool.or_eq_false_iff, Bool.and_eq_true, Bool.and_eq_false_imp, decide_eq_true_eq, decide_eq_false_iff_not, Bool.not_eq_true', Bool.not_eq_false', Bool.not_eq_true, Bool.not_eq_false, Bool.not_true, Bool.not_false, ne_eq] at hb117'
              refine rd_yes rfl rfl (ov_faddr rfl (api_ExprNode.g_N r0)) ?_
              refine rd_yes rfl rfl (ov_load rfl rfl rfl) ?_
              obtain ⟨v118, e118, r118⟩ := arr_addr (t := tI) r1 (i := 0) (by omega) (by omega)
              have r118 : v118 = vi (ix x1 0) := r118; subst r118
              refine rd_yes rfl rfl (ov_iaddrA rfl rfl e118) ?_
              refine rd_yes rfl rfl (ov_load rfl rfl rfl) ?_
              refine rd_yes rfl rfl (ov_faddr rfl (api_ExprNode.g_W r0)) ?_
              refine rd_yes rfl rfl (ov_load rfl rfl rfl) ?_
              refine rd_yes rfl rfl (ov_bin rfl rfl i_sub) ?_
              refine rd_yes rfl rfl (ov_bin rfl rfl i_gtr) ?_
              refine rd_op (v := vb (decide ((wr ((ix x1 0) - x0.W)) < x0.N))) (ov_pick rfl rfl rfl rfl) ?_
              exact rd_weak (sub_cons rfl (sub_skip rfl (sub_skip rfl (sub_skip rfl (sub_skip rfl (sub_skip rfl (sub_skip rfl (sub_skip rfl (sub_skip rfl (sub_skip rfl (sub_refl _))))))))))) k
            · intro k
              refine rd_skip rfl rfl ?_
              refine rd_skip rfl rfl ?_
              refine rd_skip rfl rfl ?_
              refine rd_skip rfl rfl ?_
              refine rd_skip rfl rfl ?_
              refine rd_skip rfl rfl ?_
              refine rd_skip rfl rfl ?_
              refine rd_skip rfl rfl ?_
              refine rd_op (v := vb true) (ov_pick rfl rfl rfl rfl) ?_
              exact rd_weak (sub_cons rfl (sub_skip rfl (sub_skip rfl (sub_skip rfl (sub_skip rfl (sub_skip rfl (sub_skip rfl (sub_skip rfl (sub_skip rfl (sub_skip rfl (sub_refl _))))))))))) k
          refine rd_nil ?_
          refine pn_seq ?_
          refine rc_cond rfl (fun hc119 => ?_) (fun hc119 => ?_)
          · replace hres := (ite_t hc119).symm.trans hres
            have hc119' := hc119
            try simp only [Bool.or_eq_true, Bool.or_eq_false_iff, Bool.and_eq_true, Bool.and_eq_false_imp, decide_eq_true_eq, decide_eq_false_iff_not, Bool.not_eq_true', Bool.not_eq_false', Bool.not_eq_true, Bool.not_eq_false, Bool.not_true, Bool.not_false, ne_eq] at hc119'
            refine rc_seq ?_
            refine rc_region ?_
            refine rd_op (v := vi 0) (ov_move rfl) ?_
            refine rd_op (v := vi 10) (ov_move rfl) ?_
            refine rd_nil ?_
            refine pn_seq ?_
            subst hres
            exact rc_retV (.tmp rfl (.tmp rfl .nil)) (deep_closed (show closed (.tup _) = true from (clL_cons rfl (clL_cons rfl clL_nil)))) rfl
          · replace hres := (ite_f hc119).symm.trans hres
            have hc119' := hc119
            try simp only [Bool.or_eq_true, Bool.or_eq_false_iff, Bool.and_eq_true, Bool.and_eq_false_imp, decide_eq_true_eq, decide_eq_false_iff_not, Bool.not_eq_true', Bool.not_eq_false', Bool.not_eq_true, Bool.not_eq_false, Bool.not_true, Bool.not_false, ne_eq] at hc119'
            refine rc_skip ?_
            refine pn_seq ?_
            refine rc_seq ?_
            refine rc_region ?_
            refine rd_op (ov_faddr rfl (api_ExprNode.g_W r0)) ?_
            refine rd_op (ov_load rfl rfl rfl) ?_
            refine rd_op (ov_move rfl) ?_
            refine rd_op (v := vi 0) (ov_move rfl) ?_
            refine rd_nil ?_
            refine pn_seq ?_
            subst hres
            exact rc_retV (.tmp rfl (.tmp rfl .nil)) (deep_closed (show closed (.tup _) = true from (clL_cons rfl (clL_cons rfl clL_nil)))) rfl
      · replace hres := (ite_f hc114).symm.trans hres
        have hc114' := hc114
        try simp only [Bool.or_eq_true, Bool.or_eq_false_iff, Bool.and_eq_true, Bool.and_eq_false_imp, decide_eq_true_eq, decide_eq_false_iff_not, Bool.not_eq_true', Bool.not_eq_false', Bool.not_eq_true, Bool.not_eq_false, Bool.not_true, Bool.not_false, ne_eq] at hc114'
        refine rc_seq ?_
        refine rc_region ?_
        refine rd_op (ov_bin rfl rfl i_eql) ?_
        refine rd_op (ov_move rfl) ?_
        refine rd_nil ?_
        refine pn_seq ?_
        refine rc_cond rfl (fun hc120 => ?_) (fun hc120 => ?_)
        · replace hres := (ite_t hc120).symm.trans hres
          have hc120' := hc120
          try simp only [Bool.or_eq_true, Bool.or_eq_false_iff, Bool.and_eq_true, Bool.and_eq_false_imp, decide_eq_true_eq, decide_eq_false_iff_not, Bool.not_eq_true', Bool.not_eq_false', Bool.not_eq_true, Bool.not_eq_false, Bool.not_true, Bool.not_false, ne_eq] at hc120'
          refine rc_seq ?_
          refine rc_region ?_
          obtain ⟨v121, e121, r121⟩ := arr_addr (t := tI) r1 (i := 0) (by omega) (by omega)
          have r121 : v121 = vi (ix x1 0) := r121; subst r121
          refine rd_op (ov_iaddrA rfl rfl e121) ?_
          refine rd_op (ov_load rfl rfl rfl) ?_
          obtain ⟨v122, e122, r122⟩ := arr_addr (t := tI) r1 (i := 1) (by omega) (by omega)
          have r122 : v122 = vi (ix x1 1) := r122; subst r122
          refine rd_op (ov_iaddrA rfl rfl e122) ?_
          refine rd_op (ov_load rfl rfl rfl) ?_
          refine rd_op (ov_bin rfl rfl i_add) ?_
          obtain ⟨y123, hw123, hres⟩ := let_ex hres
          have f123 := f92_ok (x0 := (wr ((ix x1 0) + (ix x1 1))))  
          rw [hw123] at f123
          refine rd_call (cv_fn rfl rfl (clL_cons rfl clL_nil) f123) ?_
          refine rd_op (ov_extract rfl rfl) ?_
          refine rd_op (ov_extract rfl rfl) ?_
          refine rd_op (ov_move rfl) ?_
          refine rd_op (ov_move rfl) ?_
          refine rd_nil ?_
          refine pn_seq ?_
          subst hres
          exact rc_retV (.tmp rfl (.tmp rfl .nil)) (deep_closed (show closed (.tup _) = true from (clL_cons rfl (clL_cons rfl clL_nil)))) rfl
        · replace hres := (ite_f hc120).symm.trans hres
          have hc120' := hc120
          try simp only [Bool.or_eq_true, Bool.or_eq_false_iff, Bool.and_eq_true, Bool.and_eq_false_imp, decide_eq_true_eq, decide_eq_false_iff_not, Bool.not_eq_true', Bool.not_eq_false', Bool.not_eq_true, Bool.not_eq_false, Bool.not_true, Bool.not_false, ne_eq] at hc120'
          refine rc_seq ?_
          refine rc_region ?_
          refine rd_op (ov_bin rfl rfl i_eql) ?_
          refine rd_op (ov_move rfl) ?_
          refine rd_nil ?_
          refine pn_seq ?_
          refine rc_cond rfl (fun hc124 => ?_) (fun hc124 => ?_)
          · replace hres := (ite_t hc124).symm.trans hres
            have hc124' := hc124
            try simp only [Bool.or_eq_true, Bool.or_eq_false_iff, Bool.and_eq_true, Bool.and_eq_false_imp, decide_eq_true_eq, decide_eq_false_iff_not, Bool.not_eq_true', Bool.not_eq_false', Bool.not_eq_true, Bool.not_eq_false, Bool.not_true, Bool.not_false, ne_eq] at hc124'
            refine rc_seq ?_
            refine rc_seq ?_
            refine rc_region ?_
            obtain ⟨v125, e125, r125⟩ := arr_addr (t := tI) r1 (i := 0) (by omega) (by omega)
            have r125 : v125 = vi (ix x1 0) := r125; subst r125
            refine rd_op (ov_iaddrA rfl rfl e125) ?_
            refine rd_op (ov_load rfl rfl rfl) ?_
            refine rd_op (ov_bin rfl rfl i_neq) ?_
            refine rd_op (ov_move rfl) ?_
            refine rd_cut (d := 67) (v := vb ((!decide ((ix x1 0) = 1)) || (!decide ((ix x1 1) = (ix x1 2))))) ?_ ?_
            · intro S Q r
              simp only [ac88_G3, List.cons_append, List.nil_append, List.append_assoc]
              cases hb126 : (!decide ((ix x1 0) = 1))
              · intro k
                have hb126' := hb126
                try simp only [Bool.or_eq_true, Bool.or_eq_false_iff, Bool.and_eq_true, Bool.and_eq_false_imp, decide_eq_true_eq, decide_eq_false_iff_not, Bool.not_eq_true', Bool.not_eq_false', Bool.not_eq_true, Bool.not_eq_false, Bool.not_true, Bool.not_false, ne_eq] at hb126'
                obtain ⟨v127, e127, r127⟩ := arr_addr (t := tI) r1 (i := 1) (by omega) (by omega)
                have r127 : v127 = vi (ix x1 1) := r127; subst r127
                refine rd_yes rfl rfl (ov_iaddrA rfl rfl e127) ?_
                refine rd_yes rfl rfl (ov_load rfl rfl rfl) ?_
                obtain ⟨v128, e128, r128⟩ := arr_addr (t := tI) r1 (i := 2) (by omega) (by omega)
                have r128 : v128 = vi (ix x1 2) := r128; subst r128
                refine rd_yes rfl rfl (ov_iaddrA rfl rfl e128) ?_
                refine rd_yes rfl rfl (ov_load rfl rfl rfl) ?_
                refine rd_yes rfl rfl (ov_bin rfl rfl i_neq) ?_
                refine rd_op (v := vb (!decide ((ix x1 1) = (ix x1 2)))) (ov_pick rfl rfl rfl rfl) ?_
                exact rd_weak (sub_cons rfl (sub_skip rfl (sub_skip rfl (sub_skip rfl (sub_skip rfl (sub_skip rfl (sub_skip rfl (sub_refl _)))))))) k
              · intro k
                refine rd_skip rfl rfl ?_
                refine rd_skip rfl rfl ?_
                refine rd_skip rfl rfl ?_
                refine rd_skip rfl rfl ?_
                refine rd_skip rfl rfl ?_
                refine rd_op (v := vb true) (ov_pick rfl rfl rfl rfl) ?_
                exact rd_weak (sub_cons rfl (sub_skip rfl (sub_skip rfl (sub_skip rfl (sub_skip rfl (sub_skip rfl (sub_skip rfl (sub_refl _)))))))) k
            refine rd_nil ?_
            refine pn_seq ?_
            refine rc_cond rfl (fun hc129 => ?_) (fun hc129 => ?_)
            · replace hres := (ite_t hc129).symm.trans hres
              have hc129' := hc129
              try simp only [Bool.or_eq_true, Bool.or_eq_false_iff, Bool.and_eq_true, Bool.and_eq_false_imp, decide_eq_true_eq, decide_eq_false_iff_not, Bool.not_eq_true', Bool.not_eq_false', Bool.not_eq_true, Bool.not_eq_false, Bool.not_true, Bool.not_false, ne_eq] at hc129'
              refine rc_seq ?_
              refine rc_region ?_
              refine rd_op (v := vi 0) (ov_move rfl) ?_
              refine rd_op (v := vi 10) (ov_move rfl) ?_
              refine rd_nil ?_
              refine pn_seq ?_
              subst hres
              exact rc_retV (.tmp rfl (.tmp rfl .nil)) (deep_closed (show closed (.tup _) = true from (clL_cons rfl (clL_cons rfl clL_nil)))) rfl
            · replace hres := (ite_f hc129).symm.trans hres
              have hc129' := hc129
              try simp only [Bool.or_eq_true, Bool.or_eq_false_iff, Bool.and_eq_true, Bool.and_eq_false_imp, decide_eq_true_eq, decide_eq_false_iff_not, Bool.not_eq_true', Bool.not_eq_false', Bool.not_eq_true, Bool.not_eq_false, Bool.not_true, Bool.not_false, ne_eq] at hc129'
              refine rc_skip ?_
              refine pn_seq ?_
              refine rc_seq ?_
              refine rc_region ?_
              obtain ⟨v130, e130, r130⟩ := arr_addr (t := tI) r1 (i := 1) (by omega) (by omega)
              have r130 : v130 = vi (ix x1 1) := r130; subst r130
              refine rd_op (ov_iaddrA rfl rfl e130) ?_
              refine rd_op (ov_load rfl rfl rfl) ?_
              refine rd_op (ov_move rfl) ?_
              refine rd_op (v := vi 0) (ov_move rfl) ?_
              refine rd_nil ?_
              refine pn_seq ?_
              subst hres
              exact rc_retV (.tmp rfl (.tmp rfl .nil)) (deep_closed (show closed (.tup _) = true from (clL_cons rfl (clL_cons rfl clL_nil)))) rfl
          · replace hres := (ite_f hc124).symm.trans hres
            have hc124' := hc124
            try simp only [Bool.or_eq_true, Bool.or_eq_false_iff, Bool.and_eq_true, Bool.and_eq_false_imp, decide_eq_true_eq, decide_eq_false_iff_not, Bool.not_eq_true', Bool.not_eq_false', Bool.not_eq_true, Bool.not_eq_false, Bool.not_true, Bool.not_false, ne_eq] at hc124'
            refine rc_skip ?_
            refine pn_blk ?_
            refine pn_seq ?_
            refine rc_seq ?_
            refine rc_seq ?_
            refine rc_region ?_
            refine rd_op (ov_faddr rfl (api_ExprNode.g_Op r0)) ?_
            refine rd_op (ov_load rfl rfl rfl) ?_
            obtain ⟨y131, hw131, hres⟩ := let_ex hres
            have f131 := f86_ok (x0 := x0.Op)  
            rw [hw131] at f131
            refine rd_call (cv_fn rfl rfl (clL_cons rfl clL_nil) f131) ?_
            refine rd_op (ov_bin rfl rfl i_eql) ?_
            refine rd_op (ov_move rfl) ?_
            refine rd_cut (d := 80) (v := vb ((decide (y131 = 2)) && (!decide ((ix x1 0) = (ix x1 1))))) ?_ ?_
            · intro S Q r
              simp only [ac88_G4, List.cons_append, List.nil_append, List.append_assoc]
              cases hb132 : (decide (y131 = 2))
              · intro k
                refine rd_skip rfl rfl ?_
                refine rd_skip rfl rfl ?_
                refine rd_skip rfl rfl ?_
                refine rd_skip rfl rfl ?_
                refine rd_skip rfl rfl ?_
                refine rd_op (v := vb false) (ov_pick rfl rfl rfl rfl) ?_
                exact rd_weak (sub_cons rfl (sub_skip rfl (sub_skip rfl (sub_skip rfl (sub_skip rfl (sub_skip rfl (sub_skip rfl (sub_refl _)))))))) k
              · intro k
                have hb132' := hb132
                try simp only [Bool.or_eq_true, Bool.or_eq_false_iff, Bool.and_eq_true, Bool.and_eq_false_imp, decide_eq_true_eq, decide_eq_false_iff_not, Bool.not_eq_true', Bool.not_eq_false', Bool.not_eq_true, Bool.not_eq_false, Bool.not_true, Bool.not_false, ne_eq] at hb132'
                obtain ⟨v133, e133, r133⟩ := arr_addr (t := tI) r1 (i := 0) (by omega) (by omega)
                have r133 : v133 = vi (ix x1 0) := r133; subst r133
                refine rd_yes rfl rfl (ov_iaddrA rfl rfl e133) ?_
                refine rd_yes rfl rfl (ov_load rfl rfl rfl) ?_
                obtain ⟨v134, e134, r134⟩ := arr_addr (t := tI) r1 (i := 1) (by omega) (by omega)
                have r134 : v134 = vi (ix x1 1) := r134; subst r134
                refine rd_yes rfl rfl (ov_iaddrA rfl rfl e134) ?_
                refine rd_yes rfl rfl (ov_load rfl rfl rfl) ?_
                refine rd_yes rfl rfl (ov_bin rfl rfl i_neq) ?_
                refine rd_op (v := vb (!decide ((ix x1 0) = (ix x1 1)))) (ov_pick rfl rfl rfl rfl) ?_
                exact rd_weak (sub_cons rfl (sub_skip rfl (sub_skip rfl (sub_skip rfl (sub_skip rfl (sub_skip rfl (sub_skip rfl (sub_refl _)))))))) k
            refine rd_nil ?_
            refine pn_seq ?_
            refine rc_cond rfl (fun hc135 => ?_) (fun hc135 => ?_)
            · replace hres := (ite_t hc135).symm.trans hres
              have hc135' := hc135
              try simp only [Bool.or_eq_true, Bool.or_eq_false_iff, Bool.and_eq_true, Bool.and_eq_false_imp, decide_eq_true_eq, decide_eq_false_iff_not, Bool.not_eq_true', Bool.not_eq_false', Bool.not_eq_true, Bool.not_eq_false, Bool.not_true, Bool.not_false, ne_eq] at hc135'
              refine rc_seq ?_
              refine rc_region ?_
              refine rd_op (v := vi 0) (ov_move rfl) ?_
              refine rd_op (v := vi 10) (ov_move rfl) ?_
              refine rd_nil ?_
              refine pn_seq ?_
              subst hres
              exact rc_retV (.tmp rfl (.tmp rfl .nil)) (deep_closed (show closed (.tup _) = true from (clL_cons rfl (clL_cons rfl clL_nil)))) rfl
            · replace hres := (ite_f hc135).symm.trans hres
              have hc135' := hc135
              try simp only [Bool.or_eq_true, Bool.or_eq_false_iff, Bool.and_eq_true, Bool.and_eq_false_imp, decide_eq_true_eq, decide_eq_false_iff_not, Bool.not_eq_true', Bool.not_eq_false', Bool.not_eq_true, Bool.not_eq_false, Bool.not_true, Bool.not_false, ne_eq] at hc135'
              refine rc_skip ?_
              refine pn_seq ?_
              refine rc_seq ?_
              refine rc_seq ?_
              refine rc_region ?_
              refine rd_op (ov_faddr rfl (api_ExprNode.g_Op r0)) ?_
              refine rd_op (ov_load rfl rfl rfl) ?_
              refine rd_op (ov_bin rfl rfl i_eql) ?_
              refine rd_op (ov_move rfl) ?_
              refine rd_cut (d := 88) (v := vb ((decide (x0.Op = 15)) || (decide (x0.Op = 16)))) ?_ ?_
              · intro S Q r
                simp only [ac88_G5, List.cons_append, List.nil_append, List.append_assoc]
                cases hb136 : (decide (x0.Op = 15))
                · intro k
                  have hb136' := hb136
                  try simp only [Bool.or_eq_true, Bool.or_eq_false_iff, Bool.and_eq_true, Bool.and_eq_false_imp, decide_eq_true_eq, decide_eq_false_iff_not, Bool.not_eq_true', Bool.not_eq_false', Bool.not_eq_true, Bool.not_eq_false, Bool.not_true, Bool.not_false, ne_eq] at hb136'
                  refine rd_yes rfl rfl (ov_faddr rfl (api_ExprNode.g_Op r0)) ?_
                  refine rd_yes rfl rfl (ov_load rfl rfl rfl) ?_
                  refine rd_yes rfl rfl (ov_bin rfl rfl i_eql) ?_
                  refine rd_op (v := vb (decide (x0.Op = 16))) (ov_pick rfl rfl rfl rfl) ?_
                  exact rd_weak (sub_cons rfl (sub_skip rfl (sub_skip rfl (sub_skip rfl (sub_skip rfl (sub_refl _)))))) k
                · intro k
                  refine rd_skip rfl rfl ?_
                  refine rd_skip rfl rfl ?_
                  refine rd_skip rfl rfl ?_
                  refine rd_op (v := vb true) (ov_pick rfl rfl rfl rfl) ?_
                  exact rd_weak (sub_cons rfl (sub_skip rfl (sub_skip rfl (sub_skip rfl (sub_skip rfl (sub_refl _)))))) k
              refine rd_nil ?_
              refine pn_seq ?_
              refine rc_cond rfl (fun hc137 => ?_) (fun hc137 => ?_)
              · replace hres := (ite_t hc137).symm.trans hres
                have hc137' := hc137
                try simp only [Bool.or_eq_true, Bool.or_eq_false_iff, Bool.and_eq_true, Bool.and_eq_false_imp, decide_eq_true_eq, decide_eq_false_iff_not, Bool.not_eq_true', Bool.not_eq_false', Bool.not_eq_true, Bool.not_eq_false, Bool.not_true, Bool.not_false, ne_eq] at hc137'
                refine rc_seq ?_
                refine rc_region ?_
                refine rd_op (v := vi 1) (ov_move rfl) ?_
                refine rd_op (v := vi 0) (ov_move rfl) ?_
                refine rd_nil ?_
                refine pn_seq ?_
                subst hres
                exact rc_retV (.tmp rfl (.tmp rfl .nil)) (deep_closed (show closed (.tup _) = true from (clL_cons rfl (clL_cons rfl clL_nil)))) rfl
              · replace hres := (ite_f hc137).symm.trans hres
                have hc137' := hc137
                try simp only [Bool.or_eq_true, Bool.or_eq_false_iff, Bool.and_eq_true, Bool.and_eq_false_imp, decide_eq_true_eq, decide_eq_false_iff_not, Bool.not_eq_true', Bool.not_eq_false', Bool.not_eq_true, Bool.not_eq_false, Bool.not_true, Bool.not_false, ne_eq] at hc137'
                refine rc_skip ?_
                refine pn_seq ?_
                refine rc_seq ?_
                refine rc_region ?_
                obtain ⟨v138, e138, r138⟩ := arr_addr (t := tI) r1 (i := 0) (by omega) (by omega)
                have r138 : v138 = vi (ix x1 0) := r138; subst r138
                refine rd_op (ov_iaddrA rfl rfl e138) ?_
                refine rd_op (ov_load rfl rfl rfl) ?_
                refine rd_op (ov_move rfl) ?_
                refine rd_op (v := vi 0) (ov_move rfl) ?_
                refine rd_nil ?_
                refine pn_seq ?_
                subst hres
                exact rc_retV (.tmp rfl (.tmp rfl .nil)) (deep_closed (show closed (.tup _) = true from (clL_cons rfl (clL_cons rfl clL_nil)))) rfl
  · intro J
    refine rc_cond rfl (fun hc139 => ?_) (fun hc139 => ?_)
    · replace hres := (ite_t hc139).symm.trans hres
      have hc139' := hc139
      try simp only [Bool.or_eq_true, Bool.or_eq_false_iff, Bool.and_eq_true, Bool.and_eq_false_imp, decide_eq_true_eq, decide_eq_false_iff_not, Bool.not_eq_true', Bool.not_eq_false', Bool.not_eq_true, Bool.not_eq_false, Bool.not_true, Bool.not_false, ne_eq] at hc139'
      refine rc_skip ?_
      refine pn_seq (rc_weak ((sub_cons rfl (sub_cons rfl (sub_cons rfl (sub_cons rfl (sub_nil _)))))) (J _ _ (Mem.sub (Mem.nil ⟨0, []⟩) .slnil) hres))
    · replace hres := (ite_f hc139).symm.trans hres
      have hc139' := hc139
      try simp only [Bool.or_eq_true, Bool.or_eq_false_iff, Bool.and_eq_true, Bool.and_eq_false_imp, decide_eq_true_eq, decide_eq_false_iff_not, Bool.not_eq_true', Bool.not_eq_false', Bool.not_eq_true, Bool.not_eq_false, Bool.not_true, Bool.not_false, ne_eq] at hc139'
      refine rc_region ?_
      refine rd_op (ov_bin rfl rfl i_eql) ?_
      refine rd_op (ov_move rfl) ?_
      refine rd_nil ?_
      refine pn_seq (rc_weak ((sub_cons rfl (sub_cons rfl (sub_cons rfl (sub_cons rfl (sub_nil _)))))) (J _ _ (Mem.sub (Mem.nil ⟨0, []⟩) .slnil) hres))

end Go.Proofs.Ytkgnjpoafilicaa
