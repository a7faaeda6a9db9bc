/-
 The code of each function does what its plain program says.
-/
import Derived.Test.YtnejfbehaembkaaL4W2
set_option linter.unusedVariables false
set_option linter.unusedSimpArgs false
set_option maxRecDepth 100000
namespace Go.Proofs.Ytnejfbehaembkaa
open Go Go.Pb Go.RowKit
/-- patchbay/expr.Eval -/
def RF19 (res : (BitVec 32)) (r : PV) : Prop := r = vu32 res
theorem f19_ok {x0 : List api_ExprNode} {x1 : expr_Scope} {x2 : api_Env} {x3 : List (BitVec 32)} {v0 : PV} {v1 : PV} {v2 : PV} {v3 : PV} (r0 : (tSl api_ExprNode.t).R x0 v0) (r1 : expr_Scope.t.R x1 v1) (r2 : api_Env.t.R x2 v2) (r3 : (tSl tU32).R x3 v3) : FnR Try.prog 19 [v0, v1, v2, v3] (vu32 (expr_Eval x0 x1 x2 x3)) := by
 obtain ⟨res, hres⟩ : ∃ res, expr_Eval x0 x1 x2 x3 = res := ⟨_, rfl⟩
 suffices H : RC Try.prog ac19 [] (QR Try.prog [(8, none)] (RF19 res)) (argE 0 [v0, v1, v2, v3]) ⟨0, []⟩ by
  obtain ⟨r, h1, h2⟩ := fnE text19 (by simp) H
  rw [hres]
  have h2 : r = vu32 res := h2
  rw [← h2]; exact h1
 unfold expr_Eval at hres
 unfold ac19
 refine rc_seq ?_
 refine rc_region ?_
 refine rd_op (ov_box rfl (TR.cnt expr_Scope.t r1)) ?_
 refine rd_op (ov_box rfl (TR.cnt api_Env.t r2)) ?_
 refine rd_op (v := vu32 0#32) (ov_move rfl) ?_
 refine rd_nil ?_
 refine pn_seq ?_
 refine rc_seq ?_
 refine rc_seq ?_
 refine rc_region ?_
 refine rd_op (ov_move rfl) ?_
 refine rd_op (ov_load rfl (TR.cnt expr_Scope.t r1) (TR.agg expr_Scope.t r1)) ?_
 obtain ⟨y101, hw101, hres⟩ := let_ex hres
 have f101 := f6_ok  r0 r1 
 rw [hw101] at f101
 refine rd_call (cv_fn rfl rfl (clL_cons (TR.clo (tSl api_ExprNode.t) r0) (clL_cons (TR.clo expr_Scope.t r1) clL_nil)) f101) ?_
 refine rd_op (ov_move rfl) ?_
 refine rd_op (ov_extract rfl rfl) ?_
 refine rd_op (ov_extract rfl rfl) ?_
 refine rd_op (ov_move rfl) ?_
 refine rd_op (ov_move rfl) ?_
 refine rd_nil ?_
 refine pn_seq ?_
 refine rc_seq ?_
 refine rc_region ?_
 refine rd_op (ov_move rfl) ?_
 refine rd_op (ov_bin rfl rfl i_neq) ?_
 refine rd_nil ?_
 refine pn_seq ?_
 refine rc_cond rfl (fun hc102 => ?_) (fun hc102 => ?_)
 ·replace hres := (ite_t hc102).symm.trans hres
  have hc102' := hc102
  try simp only [qa1, qa2, qa3, qa4, qa5, qa6, qa7, qa8, qa9, qaA, qaB, qaC, qaD] at hc102'
  refine rc_seq ?_
  refine rc_region ?_
  refine rd_op (v := vu32 0#32) (ov_move rfl) ?_
  refine rd_nil ?_
  refine pn_seq ?_
  subst hres
  exact rc_retV (.tmp rfl .nil) (deep_closed rfl) rfl
 ·replace hres := (ite_f hc102).symm.trans hres
  have hc102' := hc102
  try simp only [qa1, qa2, qa3, qa4, qa5, qa6, qa7, qa8, qa9, qaA, qaB, qaC, qaD] at hc102'
  refine rc_skip ?_
  refine pn_seq ?_
  refine rc_seq ?_
  refine rc_region ?_
  refine rd_op (ov_load rfl (TR.cnt expr_Scope.t r1) (TR.agg expr_Scope.t r1)) ?_
  refine rd_op (ov_load rfl (TR.cnt api_Env.t r2) (TR.agg api_Env.t r2)) ?_
  refine rd_op (ov_move rfl) ?_
  refine rd_op (ov_move rfl) ?_
  obtain ⟨v103_c1, v103_c2, v103_c3, v103_c4, v103_c5, v103_c6, v103_c7, v103_c8, v103_c9, e103, r103_c1, r103_c2, r103_c3, r103_c4, r103_c5, r103_c6, r103_c7, r103_c8, r103_c9⟩ := r1
  subst e103
  obtain ⟨v104_c0, v104_c1, v104_c2, v104_c3, e104, r104_c0, r104_c1, r104_c2, r104_c3⟩ := r2
  subst e104
  refine rd_op (v := .agg [vs x1.Program.Name, v103_c1, v103_c2, v103_c3, v103_c4, v103_c5, v103_c6, v103_c7, v103_c8, v103_c9, v104_c0, v104_c1, v104_c2, v104_c3, v3, v0, vi 0]) (ov_build (cs := [vs x1.Program.Name, v103_c1, v103_c2, v103_c3, v103_c4, v103_c5, v103_c6, v103_c7, v103_c8, v103_c9, v104_c0, v104_c1, v104_c2, v104_c3, v3, v0, vi 0]) rfl (by simp only [buildV, cells_one (TR.cnt (tSl tU32) r3) (TR.agg (tSl tU32) r3), cells_one (TR.cnt (tSl api_ExprNode.t) r0) (TR.agg (tSl api_ExprNode.t) r0)]; rfl)) ?_
  refine rd_allocO (x := .agg [vs [], nilS, nilS, nilS, nilS, nilS, nilS, nilS, nilS, nilS, nilS, nilS, nilS, nilS, nilS, nilS, vi 0]) (Mem.nil ⟨0, []⟩) rfl rfl (fun i105 w105 h105 M105 => ?_)
  refine rd_storeO (k := 0) (v := .agg [vs x1.Program.Name, v103_c1, v103_c2, v103_c3, v103_c4, v103_c5, v103_c6, v103_c7, v103_c8, v103_c9, v104_c0, v104_c1, v104_c2, v104_c3, v3, v0, vi 0]) M105 rfl rfl rfl rfl (fun h107 M107 => ?_)
  replace M107 : Mem h107 [⟨.op i105 w105 0, 86, 17, [.agg [vs x1.Program.Name, v103_c1, v103_c2, v103_c3, v103_c4, v103_c5, v103_c6, v103_c7, v103_c8, v103_c9, v104_c0, v104_c1, v104_c2, v104_c3, v3, v0, vi 0]]⟩] := M107
  refine rd_nil ?_
  refine pn_seq ?_
  refine rc_seq ?_
  refine rc_regionS ?_
  have M108 : Mem h107 [⟨.op i105 w105 0, 86, 17, [.agg [vs x1.Program.Name, v103_c1, v103_c2, v103_c3, v103_c4, v103_c5, v103_c6, v103_c7, v103_c8, v103_c9, v104_c0, v104_c1, v104_c2, v104_c3, v3, v0, vi 0]]⟩] := (Mem.front (k := 0) M107 rfl)
  obtain ⟨y108, hw108, hres⟩ := let_ex hres
  obtain ⟨vr108, h110, hX108, hZ108⟩ := f36_ok (x0 := ({ scope := x1, env := x2, args := x3, nodes := x0, next := 0 } : expr_machine)) (show expr_machine.t.R ({ scope := x1, env := x2, args := x3, nodes := x0, next := 0 } : expr_machine) (.agg [vs x1.Program.Name, v103_c1, v103_c2, v103_c3, v103_c4, v103_c5, v103_c6, v103_c7, v103_c8, v103_c9, v104_c0, v104_c1, v104_c2, v104_c3, v3, v0, vi 0]) from ⟨v103_c1, v103_c2, v103_c3, v103_c4, v103_c5, v103_c6, v103_c7, v103_c8, v103_c9, v104_c0, v104_c1, v104_c2, v104_c3, v3, v0, rfl, r103_c1, r103_c2, r103_c3, r103_c4, r103_c5, r103_c6, r103_c7, r103_c8, r103_c9, r104_c0, r104_c1, r104_c2, r104_c3, r3, r0⟩) M108 (by exact ev0 (by assumption) (by assumption) _ _)
  rw [hw108] at hZ108
  obtain ⟨u108_0, v109, M110, ru108_0, hr108, r109⟩ := hZ108
  replace hr108 := hr108.symm; subst hr108
  refine rs_callXc rfl rfl hX108 ?_
  refine rs_step ?_
  refine rd_op (ov_field rfl (expr_value.g_v r109)) ?_
  refine rs_back ?_
  refine rs_step ?_
  refine rd_op (ov_move rfl) ?_
  refine rs_back ?_
  refine rs_nil ?_
  refine pn_seq ?_
  subst hres
  exact rc_retV (.tmp rfl .nil) (deep_closed rfl) rfl

/-- patchbay/patchbaylaw13.ExprDepends -/
def RF4 (res : Bool) (r : PV) : Prop := r = vb res
theorem law13_ExprDepends_L1_ok {S : List Fr} {res : Bool} {x0 : law13_Args} {x1 : api_Env} {y105 : (List api_FieldRef)} {y108 : (List Int)} {v0 : PV} {v1 : PV} {v106 : PV} {v109 : PV} (r0 : law13_Args.t.R x0 v0) (r1 : api_Env.t.R x1 v1) (hc102 : (decide (100 < (x0.Nodes.length : Int))) = false) (hw105 : expr_Fields x0.Nodes = y105) (r106 : (tSl api_FieldRef.t).R y105 v106) (hw108 : expr_Headers x0.Nodes = y108) {K0 : Unit → Bool}
  (hK0 : K0 () = res → PX Try.prog 0 S (QR Try.prog [(4, none)] (RF4 res)) [(2, .fp v0), (3, .fp v1), (6, v109)] ⟨0, []⟩) :
  ∀ (m : Nat) (x7_ : Int) (hm1 : m = Int.toNat ((y105.length : Int) - x7_)) (hlo1 : 0 ≤ x7_), law13_ExprDepends_L1 x0 x1 y105 K0 m x7_ = res → RC Try.prog (.loop ac4_L1) S (QR Try.prog [(4, none)] (RF4 res)) [(7, vi x7_), (6, v109), (5, v106), (3, .fp v1), (2, .fp v0)] ⟨0, []⟩ := by
 have hc102' := hc102
 try simp only [qa1, qa2, qa3, qa4, qa5, qa6, qa7, qa8, qa9, qaA, qaB, qaC, qaD] at hc102'
 intro m
 induction m with
 | zero =>
  intro x7_ hm1 hlo1 hres
  rw [law13_ExprDepends_L1] at hres
  refine rc_loop ?_
  unfold ac4_L1
  refine rc_seq ?_
  refine rc_seq ?_
  refine rc_region ?_
  refine rd_op (ov_move rfl) ?_
  refine rd_op (ov_move rfl) ?_
  refine rd_op (ov_bi rfl (sl_len r106 Try.underlying52 _)) ?_
  refine rd_op (ov_bin rfl rfl i_lss) ?_
  refine rd_nil ?_
  refine pn_seq ?_
  refine rc_cond rfl (fun hc110 => ?_) (fun hc110 => ?_)
  ·exfalso
   try simp only [qa1, qa2, qa3, qa4, qa5, qa6, qa7, qa8, qa9, qaA, qaB, qaC, qaD] at hc110
   omega
  ·have hend := hres
   have hc110' := hc110
   try simp only [qa1, qa2, qa3, qa4, qa5, qa6, qa7, qa8, qa9, qaA, qaB, qaC, qaD] at hc110'
   refine rc_exit ?_
   refine px_seq ?_
   refine px_again ?_
   exact px_weak ((sub_cons rfl (sub_cons rfl (sub_cons rfl (sub_nil _))))) (hK0  hres)
 | succ m ih =>
  intro x7_ hm1 hlo1 hres
  rw [law13_ExprDepends_L1] at hres
  refine rc_loop ?_
  unfold ac4_L1
  refine rc_seq ?_
  refine rc_seq ?_
  refine rc_region ?_
  refine rd_op (ov_move rfl) ?_
  refine rd_op (ov_move rfl) ?_
  refine rd_op (ov_bi rfl (sl_len r106 Try.underlying52 _)) ?_
  refine rd_op (ov_bin rfl rfl i_lss) ?_
  refine rd_nil ?_
  refine pn_seq ?_
  refine rc_cond rfl (fun hc111 => ?_) (fun hc111 => ?_)
  ·have hgo := hres
   have hc111' := hc111
   try simp only [qa1, qa2, qa3, qa4, qa5, qa6, qa7, qa8, qa9, qaA, qaB, qaC, qaD] at hc111'
   refine rc_skip ?_
   refine pn_seq ?_
   refine rc_seq ?_
   refine rc_block ?_
   refine rc_seq ?_
   refine rc_region ?_
   obtain ⟨v112, e112, r112⟩ := law13_Args.g_E r0
   refine rd_op (ov_faddr rfl e112) ?_
   refine rd_op (ov_load rfl (TR.cnt api_Env.t r112) (TR.agg api_Env.t r112)) ?_
   refine rd_op (ov_move rfl) ?_
   refine rd_op (ov_move rfl) ?_
   obtain ⟨v113, e113, r113⟩ := sl_idx (i := x7_) r106 (by omega) (by omega)
   refine rd_op (ov_iaddr rfl rfl e113) ?_
   refine rd_op (ov_load rfl (TR.cnt api_FieldRef.t r113) (TR.agg api_FieldRef.t r113)) ?_
   obtain ⟨y114, hw114, hres⟩ := let_ex hres
   have f114 := f17_ok  r112 r113 
   rw [hw114] at f114
   refine rd_call (cv_fn rfl rfl (clL_cons (TR.clo api_Env.t r112) (clL_cons (TR.clo api_FieldRef.t r113) clL_nil)) f114) ?_
   refine rd_op (ov_load rfl (TR.cnt api_Env.t r1) (TR.agg api_Env.t r1)) ?_
   refine rd_op (ov_move rfl) ?_
   refine rd_op (ov_move rfl) ?_
   obtain ⟨v115, e115, r115⟩ := sl_idx (i := x7_) r106 (by omega) (by omega)
   refine rd_op (ov_iaddr rfl rfl e115) ?_
   refine rd_op (ov_load rfl (TR.cnt api_FieldRef.t r115) (TR.agg api_FieldRef.t r115)) ?_
   obtain ⟨y116, hw116, hres⟩ := let_ex hres
   have f116 := f17_ok  r1 r115 
   rw [hw116] at f116
   refine rd_call (cv_fn rfl rfl (clL_cons (TR.clo api_Env.t r1) (clL_cons (TR.clo api_FieldRef.t r115) clL_nil)) f116) ?_
   refine rd_op (ov_bin (a := vu32 y114) (b := vu32 y116) rfl rfl w_neq) ?_
   refine rd_nil ?_
   refine pn_seq ?_
   refine rc_cond rfl (fun hc117 => ?_) (fun hc117 => ?_)
   ·replace hres := (ite_t hc117).symm.trans hres
    have hc117' := hc117
    try simp only [qa1, qa2, qa3, qa4, qa5, qa6, qa7, qa8, qa9, qaA, qaB, qaC, qaD] at hc117'
    refine rc_seq ?_
    refine rc_region ?_
    obtain ⟨y118, hw118, hres⟩ := let_ex hres
    have f118 := f5_ok   
    rw [hw118] at f118
    refine rd_call (cv_fn rfl rfl clL_nil f118) ?_
    refine rd_op (ov_move rfl) ?_
    refine rd_nil ?_
    refine pn_seq ?_
    subst hres
    exact rc_retV (.tmp rfl .nil) (deep_closed rfl) rfl
   ·replace hres := (ite_f hc117).symm.trans hres
    have hc117' := hc117
    try simp only [qa1, qa2, qa3, qa4, qa5, qa6, qa7, qa8, qa9, qaA, qaB, qaC, qaD] at hc117'
    refine rc_skip ?_
    refine pn_blk ?_
    refine pn_seq ?_
    refine rc_region ?_
    refine rd_op (ov_move rfl) ?_
    refine rd_op (ov_bin rfl rfl i_add) ?_
    refine rd_op (ov_move rfl) ?_
    refine rd_nil ?_
    refine pn_again ?_
    have hbd := sl_bound r106
    have hinc : wr (x7_ + 1) = x7_ + 1 := wr_of (by omega) (by omega)
    rw [hinc]
    refine rc_weak ?_ (ih (x7_ + 1)  (by omega) (by omega) hres)
    exact ((sub_cons rfl (sub_cons rfl (sub_cons rfl (sub_cons rfl (sub_cons rfl (sub_nil _)))))))
  ·exfalso
   try simp only [qa1, qa2, qa3, qa4, qa5, qa6, qa7, qa8, qa9, qaA, qaB, qaC, qaD] at hc111
   omega

theorem law13_ExprDepends_L2_ok {S : List Fr} {res : Bool} {x0 : law13_Args} {x1 : api_Env} {y105 : (List api_FieldRef)} {y108 : (List Int)} {v0 : PV} {v1 : PV} {v109 : PV} (r0 : law13_Args.t.R x0 v0) (r1 : api_Env.t.R x1 v1) (hc102 : (decide (100 < (x0.Nodes.length : Int))) = false) (hw105 : expr_Fields x0.Nodes = y105) (hw108 : expr_Headers x0.Nodes = y108) (r109 : (tSl tI).R y108 v109) {K2 : Unit → Bool}
  (hK2 : K2 () = res → PX Try.prog 2 S (QR Try.prog [(4, none)] (RF4 res)) [(2, .fp v0), (3, .fp v1)] ⟨0, []⟩) :
  ∀ (m : Nat) (x8_ : Int) (hm2 : m = Int.toNat ((y108.length : Int) - x8_)) (hlo2 : 0 ≤ x8_), law13_ExprDepends_L2 x0 x1 y108 K2 m x8_ = res → RC Try.prog (.loop ac4_L2) S (QR Try.prog [(4, none)] (RF4 res)) [(8, vi x8_), (6, v109), (3, .fp v1), (2, .fp v0)] ⟨0, []⟩ := by
 have hc102' := hc102
 try simp only [qa1, qa2, qa3, qa4, qa5, qa6, qa7, qa8, qa9, qaA, qaB, qaC, qaD] at hc102'
 intro m
 induction m with
 | zero =>
  intro x8_ hm2 hlo2 hres
  rw [law13_ExprDepends_L2] at hres
  refine rc_loop ?_
  unfold ac4_L2
  refine rc_seq ?_
  refine rc_seq ?_
  refine rc_region ?_
  refine rd_op (ov_move rfl) ?_
  refine rd_op (ov_move rfl) ?_
  refine rd_op (ov_bi rfl (sl_len r109 Try.underlying29 _)) ?_
  refine rd_op (ov_bin rfl rfl i_lss) ?_
  refine rd_nil ?_
  refine pn_seq ?_
  refine rc_cond rfl (fun hc120 => ?_) (fun hc120 => ?_)
  ·exfalso
   try simp only [qa1, qa2, qa3, qa4, qa5, qa6, qa7, qa8, qa9, qaA, qaB, qaC, qaD] at hc120
   omega
  ·have hend := hres
   have hc120' := hc120
   try simp only [qa1, qa2, qa3, qa4, qa5, qa6, qa7, qa8, qa9, qaA, qaB, qaC, qaD] at hc120'
   refine rc_exit ?_
   refine px_seq ?_
   refine px_again ?_
   exact px_weak ((sub_cons rfl (sub_cons rfl (sub_nil _)))) (hK2  hres)
 | succ m ih =>
  intro x8_ hm2 hlo2 hres
  rw [law13_ExprDepends_L2] at hres
  refine rc_loop ?_
  unfold ac4_L2
  refine rc_seq ?_
  refine rc_seq ?_
  refine rc_region ?_
  refine rd_op (ov_move rfl) ?_
  refine rd_op (ov_move rfl) ?_
  refine rd_op (ov_bi rfl (sl_len r109 Try.underlying29 _)) ?_
  refine rd_op (ov_bin rfl rfl i_lss) ?_
  refine rd_nil ?_
  refine pn_seq ?_
  refine rc_cond rfl (fun hc121 => ?_) (fun hc121 => ?_)
  ·have hgo := hres
   have hc121' := hc121
   try simp only [qa1, qa2, qa3, qa4, qa5, qa6, qa7, qa8, qa9, qaA, qaB, qaC, qaD] at hc121'
   refine rc_skip ?_
   refine pn_seq ?_
   refine rc_seq ?_
   refine rc_block ?_
   refine rc_seq ?_
   refine rc_region ?_
   obtain ⟨v122, e122, r122⟩ := law13_Args.g_E r0
   refine rd_op (ov_faddr rfl e122) ?_
   refine rd_op (ov_load rfl (TR.cnt api_Env.t r122) (TR.agg api_Env.t r122)) ?_
   refine rd_op (ov_move rfl) ?_
   refine rd_op (ov_move rfl) ?_
   refine rd_op (ov_iaddr rfl rfl (slI r109 (by omega) (by omega))) ?_
   refine rd_op (ov_load rfl rfl rfl) ?_
   obtain ⟨y123, hw123, hres⟩ := let_ex hres
   have f123 := f18_ok (x1 := (ix y108 x8_)) r122 
   rw [hw123] at f123
   refine rd_call (cv_fn rfl rfl (clL_cons (TR.clo api_Env.t r122) (clL_cons rfl clL_nil)) f123) ?_
   refine rd_op (ov_load rfl (TR.cnt api_Env.t r1) (TR.agg api_Env.t r1)) ?_
   refine rd_op (ov_move rfl) ?_
   refine rd_op (ov_move rfl) ?_
   refine rd_op (ov_iaddr rfl rfl (slI r109 (by omega) (by omega))) ?_
   refine rd_op (ov_load rfl rfl rfl) ?_
   obtain ⟨y124, hw124, hres⟩ := let_ex hres
   have f124 := f18_ok (x1 := (ix y108 x8_)) r1 
   rw [hw124] at f124
   refine rd_call (cv_fn rfl rfl (clL_cons (TR.clo api_Env.t r1) (clL_cons rfl clL_nil)) f124) ?_
   refine rd_op (ov_bin rfl rfl (bin_neqb (by rw [Try.underlying4]; rfl))) ?_
   refine rd_nil ?_
   refine pn_seq ?_
   refine rc_cond rfl (fun hc125 => ?_) (fun hc125 => ?_)
   ·replace hres := (ite_t hc125).symm.trans hres
    have hc125' := hc125
    try simp only [qa1, qa2, qa3, qa4, qa5, qa6, qa7, qa8, qa9, qaA, qaB, qaC, qaD] at hc125'
    refine rc_seq ?_
    refine rc_region ?_
    obtain ⟨y126, hw126, hres⟩ := let_ex hres
    have f126 := f5_ok   
    rw [hw126] at f126
    refine rd_call (cv_fn rfl rfl clL_nil f126) ?_
    refine rd_op (ov_move rfl) ?_
    refine rd_nil ?_
    refine pn_seq ?_
    subst hres
    exact rc_retV (.tmp rfl .nil) (deep_closed rfl) rfl
   ·replace hres := (ite_f hc125).symm.trans hres
    have hc125' := hc125
    try simp only [qa1, qa2, qa3, qa4, qa5, qa6, qa7, qa8, qa9, qaA, qaB, qaC, qaD] at hc125'
    refine rc_skip ?_
    refine pn_blk ?_
    refine pn_seq ?_
    refine rc_region ?_
    refine rd_op (ov_move rfl) ?_
    refine rd_op (ov_bin rfl rfl i_add) ?_
    refine rd_op (ov_move rfl) ?_
    refine rd_nil ?_
    refine pn_again ?_
    have hbd := sl_bound r109
    have hinc : wr (x8_ + 1) = x8_ + 1 := wr_of (by omega) (by omega)
    rw [hinc]
    refine rc_weak ?_ (ih (x8_ + 1)  (by omega) (by omega) hres)
    exact ((sub_cons rfl (sub_cons rfl (sub_cons rfl (sub_cons rfl (sub_nil _))))))
  ·exfalso
   try simp only [qa1, qa2, qa3, qa4, qa5, qa6, qa7, qa8, qa9, qaA, qaB, qaC, qaD] at hc121
   omega

theorem f4_ok {x0 : law13_Args} {x1 : api_Env} {v0 : PV} {v1 : PV} (r0 : law13_Args.t.R x0 v0) (r1 : api_Env.t.R x1 v1) : FnR Try.prog 4 [v0, v1] (vb (law13_ExprDepends x0 x1)) := by
 obtain ⟨res, hres⟩ : ∃ res, law13_ExprDepends x0 x1 = res := ⟨_, rfl⟩
 suffices H : RC Try.prog ac4 [] (QR Try.prog [(4, none)] (RF4 res)) (argE 0 [v0, v1]) ⟨0, []⟩ by
  obtain ⟨r, h1, h2⟩ := fnE text4 (by simp) H
  rw [hres]
  have h2 : r = vb res := h2
  rw [← h2]; exact h1
 unfold law13_ExprDepends at hres
 unfold ac4
 refine rc_seq ?_
 refine rc_region ?_
 refine rd_op (ov_box rfl (TR.cnt law13_Args.t r0)) ?_
 refine rd_op (ov_box rfl (TR.cnt api_Env.t r1)) ?_
 refine rd_op (v := vb false) (ov_move rfl) ?_
 refine rd_nil ?_
 refine pn_seq ?_
 refine rc_seq ?_
 refine rc_seq ?_
 refine rc_region ?_
 obtain ⟨v101, e101, r101⟩ := law13_Args.g_Nodes r0
 refine rd_op (ov_faddr rfl e101) ?_
 refine rd_op (ov_load rfl (TR.cnt (tSl api_ExprNode.t) r101) (TR.agg (tSl api_ExprNode.t) r101)) ?_
 refine rd_op (ov_bi rfl (sl_len r101 Try.underlying32 _)) ?_
 refine rd_op (ov_bin rfl rfl i_gtr) ?_
 refine rd_nil ?_
 refine pn_seq ?_
 refine rc_cond rfl (fun hc102 => ?_) (fun hc102 => ?_)
 ·replace hres := (ite_t hc102).symm.trans hres
  have hc102' := hc102
  try simp only [qa1, qa2, qa3, qa4, qa5, qa6, qa7, qa8, qa9, qaA, qaB, qaC, qaD] at hc102'
  refine rc_seq ?_
  refine rc_region ?_
  obtain ⟨y103, hw103, hres⟩ := let_ex hres
  have f103 := f5_ok   
  rw [hw103] at f103
  refine rd_call (cv_fn rfl rfl clL_nil f103) ?_
  refine rd_op (ov_move rfl) ?_
  refine rd_nil ?_
  refine pn_seq ?_
  subst hres
  exact rc_retV (.tmp rfl .nil) (deep_closed rfl) rfl
 ·replace hres := (ite_f hc102).symm.trans hres
  have hc102' := hc102
  try simp only [qa1, qa2, qa3, qa4, qa5, qa6, qa7, qa8, qa9, qaA, qaB, qaC, qaD] at hc102'
  refine rc_skip ?_
  refine pn_seq ?_
  refine rc_seq ?_
  refine rc_region ?_
  obtain ⟨v104, e104, r104⟩ := law13_Args.g_Nodes r0
  refine rd_op (ov_faddr rfl e104) ?_
  refine rd_op (ov_load rfl (TR.cnt (tSl api_ExprNode.t) r104) (TR.agg (tSl api_ExprNode.t) r104)) ?_
  obtain ⟨y105, hw105, hres⟩ := let_ex hres
  obtain ⟨v106, f105, r106⟩ := f12_ok  r104 (by first | assumption | omega | (rw [wr_of (by omega) (by omega)]; omega) | (simp; done) | (simp only [law13_join, List.length_append, List.length_nil, List.length_cons]; omega) | (have hk := (chk_ok (by assumption) (by assumption)).1; omega) | (simp only [List.length_cons, List.length_nil]; omega) | (simp only [List.length_append]; have hk := (chk_ok (by assumption) (by assumption)).1; omega) | (simp only [law13_join, List.length_append, List.length_nil]; have hk := (chk_ok (by assumption) (by assumption)).1; omega))
  rw [hw105] at r106
  refine rd_call (cv_fn rfl rfl (clL_cons (TR.clo (tSl api_ExprNode.t) r104) clL_nil) f105) ?_
  obtain ⟨v107, e107, r107⟩ := law13_Args.g_Nodes r0
  refine rd_op (ov_faddr rfl e107) ?_
  refine rd_op (ov_load rfl (TR.cnt (tSl api_ExprNode.t) r107) (TR.agg (tSl api_ExprNode.t) r107)) ?_
  obtain ⟨y108, hw108, hres⟩ := let_ex hres
  obtain ⟨v109, f108, r109⟩ := f15_ok  r107 (by first | assumption | omega | (rw [wr_of (by omega) (by omega)]; omega) | (simp; done) | (simp only [law13_join, List.length_append, List.length_nil, List.length_cons]; omega) | (have hk := (chk_ok (by assumption) (by assumption)).1; omega) | (simp only [List.length_cons, List.length_nil]; omega) | (simp only [List.length_append]; have hk := (chk_ok (by assumption) (by assumption)).1; omega) | (simp only [law13_join, List.length_append, List.length_nil]; have hk := (chk_ok (by assumption) (by assumption)).1; omega))
  rw [hw108] at r109
  refine rd_call (cv_fn rfl rfl (clL_cons (TR.clo (tSl api_ExprNode.t) r107) clL_nil) f108) ?_
  refine rd_op (ov_move rfl) ?_
  refine rd_op (ov_move rfl) ?_
  refine rd_nil ?_
  refine pn_seq ?_
  refine rc_seq ?_
  refine rc_seq ?_
  refine rc_region ?_
  refine rd_op (v := vi 0) (ov_move rfl) ?_
  refine rd_nil ?_
  refine pn_seq ?_
  refine rc_block ?_
  refine rc_weak ?_ (law13_ExprDepends_L1_ok (x0 := x0) (x1 := x1) (y105 := y105) (y108 := y108) (v0 := v0) (v1 := v1) (v106 := v106) (v109 := v109)  (r0 := r0) (r1 := r1) (hc102 := hc102) (hw105 := hw105) (r106 := r106) (hw108 := hw108) ?_ (Int.toNat ((y105.length : Int) - 0)) 0 rfl (by omega) hres)
  ·exact ((sub_cons rfl (sub_cons rfl (sub_cons rfl (sub_cons rfl (sub_cons rfl (sub_nil _)))))))
  ·intro  hres
   refine px_blk ?_
   refine pn_seq ?_
   refine rc_seq ?_
   refine rc_seq ?_
   refine rc_region ?_
   refine rd_op (v := vi 0) (ov_move rfl) ?_
   refine rd_nil ?_
   refine pn_seq ?_
   refine rc_block ?_
   refine rc_weak ?_ (law13_ExprDepends_L2_ok (x0 := x0) (x1 := x1) (y105 := y105) (y108 := y108) (v0 := v0) (v1 := v1) (v109 := v109)  (r0 := r0) (r1 := r1) (hc102 := hc102) (hw105 := hw105) (hw108 := hw108) (r109 := r109) ?_ (Int.toNat ((y108.length : Int) - 0)) 0 rfl (by omega) hres)
   ·exact ((sub_cons rfl (sub_cons rfl (sub_cons rfl (sub_cons rfl (sub_nil _))))))
   ·intro  hres
    refine px_blk ?_
    refine pn_seq ?_
    refine rc_seq ?_
    refine rc_region ?_
    obtain ⟨v128, e128, r128⟩ := law13_Args.g_Nodes r0
    refine rd_op (ov_faddr rfl e128) ?_
    refine rd_op (ov_load rfl (TR.cnt (tSl api_ExprNode.t) r128) (TR.agg (tSl api_ExprNode.t) r128)) ?_
    refine rd_op (ov_load rfl (TR.cnt law13_Args.t r0) (TR.agg law13_Args.t r0)) ?_
    obtain ⟨y129, hw129, hres⟩ := let_ex hres
    obtain ⟨v130, f129, r130⟩ := f7_ok  r0 
    rw [hw129] at r130
    refine rd_call (cv_fn rfl rfl (clL_cons (TR.clo law13_Args.t r0) clL_nil) f129) ?_
    obtain ⟨v131, e131, r131⟩ := law13_Args.g_E r0
    refine rd_op (ov_faddr rfl e131) ?_
    refine rd_op (ov_load rfl (TR.cnt api_Env.t r131) (TR.agg api_Env.t r131)) ?_
    obtain ⟨v132, e132, r132⟩ := law13_Args.g_Args r0
    refine rd_op (ov_faddr rfl e132) ?_
    refine rd_op (ov_load rfl (TR.cnt (tSl tU32) r132) (TR.agg (tSl tU32) r132)) ?_
    obtain ⟨y133, hw133, hres⟩ := let_ex hres
    have f133 := f19_ok  r128 r130 r131 r132 
    rw [hw133] at f133
    refine rd_call (cv_fn rfl rfl (clL_cons (TR.clo (tSl api_ExprNode.t) r128) (clL_cons (TR.clo expr_Scope.t r130) (clL_cons (TR.clo api_Env.t r131) (clL_cons (TR.clo (tSl tU32) r132) clL_nil)))) f133) ?_
    obtain ⟨v134, e134, r134⟩ := law13_Args.g_Nodes r0
    refine rd_op (ov_faddr rfl e134) ?_
    refine rd_op (ov_load rfl (TR.cnt (tSl api_ExprNode.t) r134) (TR.agg (tSl api_ExprNode.t) r134)) ?_
    refine rd_op (ov_load rfl (TR.cnt law13_Args.t r0) (TR.agg law13_Args.t r0)) ?_
    obtain ⟨y135, hw135, hres⟩ := let_ex hres
    obtain ⟨v136, f135, r136⟩ := f7_ok  r0 
    rw [hw135] at r136
    refine rd_call (cv_fn rfl rfl (clL_cons (TR.clo law13_Args.t r0) clL_nil) f135) ?_
    refine rd_op (ov_load rfl (TR.cnt api_Env.t r1) (TR.agg api_Env.t r1)) ?_
    obtain ⟨v137, e137, r137⟩ := law13_Args.g_Args r0
    refine rd_op (ov_faddr rfl e137) ?_
    refine rd_op (ov_load rfl (TR.cnt (tSl tU32) r137) (TR.agg (tSl tU32) r137)) ?_
    obtain ⟨y138, hw138, hres⟩ := let_ex hres
    have f138 := f19_ok  r134 r136 r1 r137 
    rw [hw138] at f138
    refine rd_call (cv_fn rfl rfl (clL_cons (TR.clo (tSl api_ExprNode.t) r134) (clL_cons (TR.clo expr_Scope.t r136) (clL_cons (TR.clo api_Env.t r1) (clL_cons (TR.clo (tSl tU32) r137) clL_nil)))) f138) ?_
    refine rd_op (ov_bin (a := vu32 y133) (b := vu32 y138) rfl rfl w_eql) ?_
    refine rd_op (ov_move rfl) ?_
    refine rd_cut (d := 82) (v := vb ((decide (y133 = y138)) && (law13_awake))) ?_ ?_
    ·intro S Q r
     simp only [ac4_G1, List.cons_append, List.nil_append, List.append_assoc]
     cases hb139 : (decide (y133 = y138))
     ·intro k
      refine rd_skip rfl rfl ?_
      refine rd_op (v := vb false) (ov_pick rfl rfl rfl rfl) ?_
      exact rd_weak (sub_cons rfl (sub_skip rfl (sub_skip rfl (sub_refl _)))) k
     ·intro k
      have hb139' := hb139
      try simp only [qa1, qa2, qa3, qa4, qa5, qa6, qa7, qa8, qa9, qaA, qaB, qaC, qaD] at hb139'
      have f140 := f5_ok   
      refine rd_ycall rfl rfl (cv_fn rfl rfl clL_nil f140) ?_
      refine rd_op (v := vb (law13_awake)) (ov_pick rfl rfl rfl rfl) ?_
      exact rd_weak (sub_cons rfl (sub_skip rfl (sub_skip rfl (sub_refl _)))) k
    refine rd_op (ov_move rfl) ?_
    refine rd_nil ?_
    refine pn_seq ?_
    subst hres
    exact rc_retV (.tmp rfl .nil) (deep_closed rfl) rfl

end Go.Proofs.Ytnejfbehaembkaa
