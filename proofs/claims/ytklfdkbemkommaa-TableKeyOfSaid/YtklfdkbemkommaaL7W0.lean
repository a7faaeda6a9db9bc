/-
 The code of each function does what its plain program says.
-/
import Derived.Test.YtklfdkbemkommaaKDef
import Derived.Test.YtklfdkbemkommaaL7Text
import Derived.Test.YtklfdkbemkommaaKPure
import Derived.Test.YtklfdkbemkommaaPbC
set_option linter.unusedVariables false
set_option linter.unusedSimpArgs false
set_option maxRecDepth 100000
namespace Go.Proofs.Ytklfdkbemkommaa
open Go Go.Pb Go.RowKit
theorem qa1 (a b : Bool) : ((a || b) = true) = (a = true ∨ b = true) := Bool.or_eq_true a b
theorem qa2 (a b : Bool) : (a || b) = false ↔ a = false ∧ b = false := Bool.or_eq_false_iff
theorem qa3 (a b : Bool) : ((a && b) = true) = (a = true ∧ b = true) := Bool.and_eq_true a b
theorem qa4 (a b : Bool) : (a && b) = false ↔ (a = true → b = false) := Bool.and_eq_false_imp
theorem qa5 {p : Prop} [Decidable p] : (decide p = true) = p := decide_eq_true_eq
theorem qa6 {p : Prop} [Decidable p] : decide p = false ↔ ¬p := decide_eq_false_iff_not
theorem qa7 {a : Bool} : ((!a) = true) = (a = false) := Bool.not_eq_true' a
theorem qa8 {a : Bool} : ((!a) = false) = (a = true) := Bool.not_eq_false' a
theorem qa9 (a : Bool) : (¬a = true) = (a = false) := Bool.not_eq_true a
theorem qaA (a : Bool) : (¬a = false) = (a = true) := Bool.not_eq_false a
theorem qaB : (!true) = false := Bool.not_true
theorem qaC : (!false) = true := Bool.not_false
theorem qaD {α : Type} (a b : α) : (a ≠ b) = ¬a = b := ne_eq a b
/-- patchbay/patchbaylaw17.fields -/
def RF44 (res : Bool) (r : PV) : Prop := r = vb res
theorem law17_fields_L1_ok {S : List Fr} {res : Bool} {x0 : List api_Field} {v0 : PV} (r0 : (tSl api_Field.t).R x0 v0) (hc101 : (decide (16 < (x0.length : Int))) = false) {K0 : Unit → Bool}
  (hK0 : K0 () = res → PX Try.prog 0 S (QR Try.prog [(2, none)] (RF44 res)) [] ⟨0, []⟩) :
  ∀ (m : Nat) (x3_ : Int) (hm1 : m = Int.toNat ((x0.length : Int) - x3_)) (hlo1 : 0 ≤ x3_), law17_fields_L1 x0 K0 m x3_ = res → RC Try.prog (.loop ac44_L1) S (QR Try.prog [(2, none)] (RF44 res)) [(3, vi x3_), (0, v0)] ⟨0, []⟩ := by
 have hc101' := hc101
 try simp only [qa1, qa2, qa3, qa4, qa5, qa6, qa7, qa8, qa9, qaA, qaB, qaC, qaD] at hc101'
 intro m
 induction m with
 | zero =>
  intro x3_ hm1 hlo1 hres
  rw [law17_fields_L1] at hres
  refine rc_loop ?_
  unfold ac44_L1
  refine rc_seq ?_
  refine rc_seq ?_
  refine rc_region ?_
  refine rd_op (ov_move rfl) ?_
  refine rd_op (ov_move rfl) ?_
  refine rd_op (ov_bi rfl (sl_len r0 Try.underlying23 _)) ?_
  refine rd_op (ov_bin rfl rfl i_lss) ?_
  refine rd_nil ?_
  refine pn_seq ?_
  refine rc_cond rfl (fun hc102 => ?_) (fun hc102 => ?_)
  ·exfalso
   try simp only [qa1, qa2, qa3, qa4, qa5, qa6, qa7, qa8, qa9, qaA, qaB, qaC, qaD] at hc102
   omega
  ·have hend := hres
   have hc102' := hc102
   try simp only [qa1, qa2, qa3, qa4, qa5, qa6, qa7, qa8, qa9, qaA, qaB, qaC, qaD] at hc102'
   refine rc_exit ?_
   refine px_seq ?_
   refine px_again ?_
   exact px_weak ((sub_nil _)) (hK0  hres)
 | succ m ih =>
  intro x3_ hm1 hlo1 hres
  rw [law17_fields_L1] at hres
  refine rc_loop ?_
  unfold ac44_L1
  refine rc_seq ?_
  refine rc_seq ?_
  refine rc_region ?_
  refine rd_op (ov_move rfl) ?_
  refine rd_op (ov_move rfl) ?_
  refine rd_op (ov_bi rfl (sl_len r0 Try.underlying23 _)) ?_
  refine rd_op (ov_bin rfl rfl i_lss) ?_
  refine rd_nil ?_
  refine pn_seq ?_
  refine rc_cond rfl (fun hc103 => ?_) (fun hc103 => ?_)
  ·have hgo := hres
   have hc103' := hc103
   try simp only [qa1, qa2, qa3, qa4, qa5, qa6, qa7, qa8, qa9, qaA, qaB, qaC, qaD] at hc103'
   refine rc_skip ?_
   refine pn_seq ?_
   refine rc_seq ?_
   refine rc_block ?_
   refine rc_seq ?_
   refine rc_region ?_
   refine rd_op (ov_move rfl) ?_
   refine rd_op (ov_move rfl) ?_
   obtain ⟨v104, e104, r104⟩ := sl_idx (i := x3_) r0 (by first | omega | (have hk := tck (by assumption) (by assumption); omega) | (have hk := rtck (by assumption) (by assumption); omega) | (have hk := eck (by assumption) (by assumption) (by assumption); omega) | (have hk := tv (by assumption) (by assumption); omega) | (have hk := rtv (by assumption) (by assumption); omega)) (by first | omega | (have hk := tck (by assumption) (by assumption); omega) | (have hk := rtck (by assumption) (by assumption); omega) | (have hk := eck (by assumption) (by assumption) (by assumption); omega) | (have hk := tv (by assumption) (by assumption); omega) | (have hk := rtv (by assumption) (by assumption); omega))
   refine rd_op (ov_iaddr rfl rfl e104) ?_
   refine rd_op (ov_faddr rfl (api_Field.g_Name r104)) ?_
   refine rd_op (ov_load rfl rfl rfl) ?_
   refine rd_op (ov_bi rfl (str_len Try.underlying9)) ?_
   refine rd_op (ov_bin rfl rfl i_gtr) ?_
   refine rd_nil ?_
   refine pn_seq ?_
   refine rc_cond rfl (fun hc105 => ?_) (fun hc105 => ?_)
   ·replace hres := (ite_t hc105).symm.trans hres
    have hc105' := hc105
    try simp only [qa1, qa2, qa3, qa4, qa5, qa6, qa7, qa8, qa9, qaA, qaB, qaC, qaD] at hc105'
    refine rc_seq ?_
    refine rc_region ?_
    refine rd_op (v := vb false) (ov_move rfl) ?_
    refine rd_nil ?_
    refine pn_seq ?_
    subst hres
    exact rc_retV (.tmp rfl .nil) (deep_closed rfl) rfl
   ·replace hres := (ite_f hc105).symm.trans hres
    have hc105' := hc105
    try simp only [qa1, qa2, qa3, qa4, qa5, qa6, qa7, qa8, qa9, qaA, qaB, qaC, qaD] at hc105'
    refine rc_skip ?_
    refine pn_blk ?_
    refine pn_seq ?_
    refine rc_region ?_
    refine rd_op (ov_move rfl) ?_
    refine rd_op (ov_bin rfl rfl i_add) ?_
    refine rd_op (ov_move rfl) ?_
    refine rd_nil ?_
    refine pn_again ?_
    have hbd := sl_bound r0
    have hinc : wr (x3_ + 1) = x3_ + 1 := wr_of (by omega) (by omega)
    rw [hinc]
    refine rc_weak ?_ (ih (x3_ + 1)  (by omega) (by omega) hres)
    exact ((sub_cons rfl (sub_cons rfl (sub_nil _))))
  ·exfalso
   try simp only [qa1, qa2, qa3, qa4, qa5, qa6, qa7, qa8, qa9, qaA, qaB, qaC, qaD] at hc103
   omega

theorem f44_ok {x0 : List api_Field} {v0 : PV} (r0 : (tSl api_Field.t).R x0 v0) : FnR Try.prog 44 [v0] (vb (law17_fields x0)) := by
 obtain ⟨res, hres⟩ : ∃ res, law17_fields x0 = res := ⟨_, rfl⟩
 suffices H : RC Try.prog ac44 [] (QR Try.prog [(2, none)] (RF44 res)) (argE 0 [v0]) ⟨0, []⟩ by
  obtain ⟨r, h1, h2⟩ := fnE text44 (by simp) H
  rw [hres]
  have h2 : r = vb res := h2
  rw [← h2]; exact h1
 unfold law17_fields at hres
 unfold ac44
 refine rc_seq ?_
 refine rc_region ?_
 refine rd_op (v := vb false) (ov_move rfl) ?_
 refine rd_nil ?_
 refine pn_seq ?_
 refine rc_seq ?_
 refine rc_seq ?_
 refine rc_region ?_
 refine rd_op (ov_move rfl) ?_
 refine rd_op (ov_bi rfl (sl_len r0 Try.underlying23 _)) ?_
 refine rd_op (ov_bin rfl rfl i_gtr) ?_
 refine rd_nil ?_
 refine pn_seq ?_
 refine rc_cond rfl (fun hc101 => ?_) (fun hc101 => ?_)
 ·replace hres := (ite_t hc101).symm.trans hres
  have hc101' := hc101
  try simp only [qa1, qa2, qa3, qa4, qa5, qa6, qa7, qa8, qa9, qaA, qaB, qaC, qaD] at hc101'
  refine rc_seq ?_
  refine rc_region ?_
  refine rd_op (v := vb false) (ov_move rfl) ?_
  refine rd_nil ?_
  refine pn_seq ?_
  subst hres
  exact rc_retV (.tmp rfl .nil) (deep_closed rfl) rfl
 ·replace hres := (ite_f hc101).symm.trans hres
  have hc101' := hc101
  try simp only [qa1, qa2, qa3, qa4, qa5, qa6, qa7, qa8, qa9, qaA, qaB, qaC, qaD] at hc101'
  refine rc_skip ?_
  refine pn_seq ?_
  refine rc_seq ?_
  refine rc_seq ?_
  refine rc_region ?_
  refine rd_op (v := vi 0) (ov_move rfl) ?_
  refine rd_nil ?_
  refine pn_seq ?_
  refine rc_block ?_
  refine rc_weak ?_ (law17_fields_L1_ok (x0 := x0) (v0 := v0)  (r0 := r0) (hc101 := hc101) ?_ (Int.toNat ((x0.length : Int) - 0)) 0 rfl (by omega) hres)
  ·exact ((sub_cons rfl (sub_cons rfl (sub_nil _))))
  ·intro  hres
   refine px_blk ?_
   refine pn_seq ?_
   refine rc_seq ?_
   refine rc_region ?_
   refine rd_op (v := vb true) (ov_move rfl) ?_
   refine rd_nil ?_
   refine pn_seq ?_
   subst hres
   exact rc_retV (.tmp rfl .nil) (deep_closed rfl) rfl

/-- patchbay/patchbaylaw17.body -/
def RF45 (res : Bool) (r : PV) : Prop := r = vb res
theorem law17_body_L1_ok {S : List Fr} {res : Bool} {x0 : api_Action} {v0 : PV} (r0 : api_Action.t.R x0 v0) (hc106 : (((decide (40 < (x0.Name.length : Int))) || (!(law17_fields x0.Params))) || (decide (16 < (x0.Body.length : Int)))) = false) {K0 : Unit → Bool}
  (hK0 : K0 () = res → PX Try.prog 0 S (QR Try.prog [(2, none)] (RF45 res)) [] ⟨0, []⟩) :
  ∀ (m : Nat) (x3_ : Int) (hm1 : m = Int.toNat ((x0.Body.length : Int) - x3_)) (hlo1 : 0 ≤ x3_), law17_body_L1 x0 K0 m x3_ = res → RC Try.prog (.loop ac45_L1) S (QR Try.prog [(2, none)] (RF45 res)) [(3, vi x3_), (1, .fp v0)] ⟨0, []⟩ := by
 have hc106' := hc106
 try simp only [qa1, qa2, qa3, qa4, qa5, qa6, qa7, qa8, qa9, qaA, qaB, qaC, qaD] at hc106'
 intro m
 induction m with
 | zero =>
  intro x3_ hm1 hlo1 hres
  rw [law17_body_L1] at hres
  refine rc_loop ?_
  unfold ac45_L1
  refine rc_seq ?_
  refine rc_seq ?_
  refine rc_region ?_
  refine rd_op (ov_move rfl) ?_
  obtain ⟨v107, e107, r107⟩ := api_Action.g_Body r0
  refine rd_op (ov_faddr rfl e107) ?_
  refine rd_op (ov_load rfl (TR.cnt (tSl api_Statement.t) r107) (TR.agg (tSl api_Statement.t) r107)) ?_
  refine rd_op (ov_bi rfl (sl_len r107 Try.underlying93 _)) ?_
  refine rd_op (ov_bin rfl rfl i_lss) ?_
  refine rd_nil ?_
  refine pn_seq ?_
  refine rc_cond rfl (fun hc108 => ?_) (fun hc108 => ?_)
  ·exfalso
   try simp only [qa1, qa2, qa3, qa4, qa5, qa6, qa7, qa8, qa9, qaA, qaB, qaC, qaD] at hc108
   omega
  ·have hend := hres
   have hc108' := hc108
   try simp only [qa1, qa2, qa3, qa4, qa5, qa6, qa7, qa8, qa9, qaA, qaB, qaC, qaD] at hc108'
   refine rc_exit ?_
   refine px_seq ?_
   refine px_again ?_
   exact px_weak ((sub_nil _)) (hK0  hres)
 | succ m ih =>
  intro x3_ hm1 hlo1 hres
  rw [law17_body_L1] at hres
  refine rc_loop ?_
  unfold ac45_L1
  refine rc_seq ?_
  refine rc_seq ?_
  refine rc_region ?_
  refine rd_op (ov_move rfl) ?_
  obtain ⟨v109, e109, r109⟩ := api_Action.g_Body r0
  refine rd_op (ov_faddr rfl e109) ?_
  refine rd_op (ov_load rfl (TR.cnt (tSl api_Statement.t) r109) (TR.agg (tSl api_Statement.t) r109)) ?_
  refine rd_op (ov_bi rfl (sl_len r109 Try.underlying93 _)) ?_
  refine rd_op (ov_bin rfl rfl i_lss) ?_
  refine rd_nil ?_
  refine pn_seq ?_
  refine rc_cond rfl (fun hc110 => ?_) (fun hc110 => ?_)
  ·have hgo := hres
   have hc110' := hc110
   try simp only [qa1, qa2, qa3, qa4, qa5, qa6, qa7, qa8, qa9, qaA, qaB, qaC, qaD] at hc110'
   refine rc_skip ?_
   refine pn_seq ?_
   refine rc_seq ?_
   refine rc_block ?_
   refine rc_seq ?_
   refine rc_region ?_
   obtain ⟨v111, e111, r111⟩ := api_Action.g_Body r0
   refine rd_op (ov_faddr rfl e111) ?_
   refine rd_op (ov_load rfl (TR.cnt (tSl api_Statement.t) r111) (TR.agg (tSl api_Statement.t) r111)) ?_
   refine rd_op (ov_move rfl) ?_
   obtain ⟨v112, e112, r112⟩ := sl_idx (i := x3_) r111 (by first | omega | (have hk := tck (by assumption) (by assumption); omega) | (have hk := rtck (by assumption) (by assumption); omega) | (have hk := eck (by assumption) (by assumption) (by assumption); omega) | (have hk := tv (by assumption) (by assumption); omega) | (have hk := rtv (by assumption) (by assumption); omega)) (by first | omega | (have hk := tck (by assumption) (by assumption); omega) | (have hk := rtck (by assumption) (by assumption); omega) | (have hk := eck (by assumption) (by assumption) (by assumption); omega) | (have hk := tv (by assumption) (by assumption); omega) | (have hk := rtv (by assumption) (by assumption); omega))
   refine rd_op (ov_iaddr rfl rfl e112) ?_
   obtain ⟨v113, e113, r113⟩ := api_Statement.g_Index r112
   refine rd_op (ov_faddr rfl e113) ?_
   refine rd_op (ov_load rfl (TR.cnt (tSl api_ExprNode.t) r113) (TR.agg (tSl api_ExprNode.t) r113)) ?_
   refine rd_op (ov_bi rfl (sl_len r113 Try.underlying113 _)) ?_
   refine rd_op (ov_bin rfl rfl i_gtr) ?_
   refine rd_op (ov_move rfl) ?_
   refine rd_cut (d := 44) (v := vb ((decide (40 < (((ix x0.Body x3_).Index).length : Int))) || (decide (40 < (((ix x0.Body x3_).Value).length : Int))))) ?_ ?_
   ·intro S Q r
    simp only [ac45_G3, List.cons_append, List.nil_append, List.append_assoc]
    cases hb114 : (decide (40 < (((ix x0.Body x3_).Index).length : Int)))
    ·intro k
     have hb114' := hb114
     try simp only [qa1, qa2, qa3, qa4, qa5, qa6, qa7, qa8, qa9, qaA, qaB, qaC, qaD] at hb114'
     obtain ⟨v115, e115, r115⟩ := api_Action.g_Body r0
     refine rd_yes rfl rfl (ov_faddr rfl e115) ?_
     refine rd_yes rfl rfl (ov_load rfl (TR.cnt (tSl api_Statement.t) r115) (TR.agg (tSl api_Statement.t) r115)) ?_
     refine rd_yes rfl rfl (ov_move rfl) ?_
     obtain ⟨v116, e116, r116⟩ := sl_idx (i := x3_) r115 (by first | omega | (have hk := tck (by assumption) (by assumption); omega) | (have hk := rtck (by assumption) (by assumption); omega) | (have hk := eck (by assumption) (by assumption) (by assumption); omega) | (have hk := tv (by assumption) (by assumption); omega) | (have hk := rtv (by assumption) (by assumption); omega)) (by first | omega | (have hk := tck (by assumption) (by assumption); omega) | (have hk := rtck (by assumption) (by assumption); omega) | (have hk := eck (by assumption) (by assumption) (by assumption); omega) | (have hk := tv (by assumption) (by assumption); omega) | (have hk := rtv (by assumption) (by assumption); omega))
     refine rd_yes rfl rfl (ov_iaddr rfl rfl e116) ?_
     obtain ⟨v117, e117, r117⟩ := api_Statement.g_Value r116
     refine rd_yes rfl rfl (ov_faddr rfl e117) ?_
     refine rd_yes rfl rfl (ov_load rfl (TR.cnt (tSl api_ExprNode.t) r117) (TR.agg (tSl api_ExprNode.t) r117)) ?_
     refine rd_yes rfl rfl (ov_bi rfl (sl_len r117 Try.underlying113 _)) ?_
     refine rd_yes rfl rfl (ov_bin rfl rfl i_gtr) ?_
     refine rd_op (v := vb (decide (40 < (((ix x0.Body x3_).Value).length : Int)))) (ov_pick rfl rfl rfl rfl) ?_
     exact rd_weak (sub_cons rfl (sub_skip rfl (sub_skip rfl (sub_skip rfl (sub_skip rfl (sub_skip rfl (sub_skip rfl (sub_skip rfl (sub_skip rfl (sub_skip rfl (sub_refl _))))))))))) k
    ·intro k
     refine rd_skip rfl rfl ?_
     refine rd_skip rfl rfl ?_
     refine rd_skip rfl rfl ?_
     refine rd_skip rfl rfl ?_
     refine rd_skip rfl rfl ?_
     refine rd_skip rfl rfl ?_
     refine rd_skip rfl rfl ?_
     refine rd_skip rfl rfl ?_
     refine rd_op (v := vb true) (ov_pick rfl rfl rfl rfl) ?_
     exact rd_weak (sub_cons rfl (sub_skip rfl (sub_skip rfl (sub_skip rfl (sub_skip rfl (sub_skip rfl (sub_skip rfl (sub_skip rfl (sub_skip rfl (sub_skip rfl (sub_refl _))))))))))) k
   refine rd_nil ?_
   refine pn_seq ?_
   refine rc_cond rfl (fun hc118 => ?_) (fun hc118 => ?_)
   ·replace hres := (ite_t hc118).symm.trans hres
    have hc118' := hc118
    try simp only [qa1, qa2, qa3, qa4, qa5, qa6, qa7, qa8, qa9, qaA, qaB, qaC, qaD] at hc118'
    refine rc_seq ?_
    refine rc_region ?_
    refine rd_op (v := vb false) (ov_move rfl) ?_
    refine rd_nil ?_
    refine pn_seq ?_
    subst hres
    exact rc_retV (.tmp rfl .nil) (deep_closed rfl) rfl
   ·replace hres := (ite_f hc118).symm.trans hres
    have hc118' := hc118
    try simp only [qa1, qa2, qa3, qa4, qa5, qa6, qa7, qa8, qa9, qaA, qaB, qaC, qaD] at hc118'
    refine rc_skip ?_
    refine pn_blk ?_
    refine pn_seq ?_
    refine rc_region ?_
    refine rd_op (ov_move rfl) ?_
    refine rd_op (ov_bin rfl rfl i_add) ?_
    refine rd_op (ov_move rfl) ?_
    refine rd_nil ?_
    refine pn_again ?_
    have hbd := sl_bound r109
    have hinc : wr (x3_ + 1) = x3_ + 1 := wr_of (by omega) (by omega)
    rw [hinc]
    refine rc_weak ?_ (ih (x3_ + 1)  (by omega) (by omega) hres)
    exact ((sub_cons rfl (sub_cons rfl (sub_nil _))))
  ·exfalso
   try simp only [qa1, qa2, qa3, qa4, qa5, qa6, qa7, qa8, qa9, qaA, qaB, qaC, qaD] at hc110
   omega

theorem f45_ok {x0 : api_Action} {v0 : PV} (r0 : api_Action.t.R x0 v0) : FnR Try.prog 45 [v0] (vb (law17_body x0)) := by
 obtain ⟨res, hres⟩ : ∃ res, law17_body x0 = res := ⟨_, rfl⟩
 suffices H : RC Try.prog ac45 [] (QR Try.prog [(2, none)] (RF45 res)) (argE 0 [v0]) ⟨0, []⟩ by
  obtain ⟨r, h1, h2⟩ := fnE text45 (by simp) H
  rw [hres]
  have h2 : r = vb res := h2
  rw [← h2]; exact h1
 unfold law17_body at hres
 unfold ac45
 refine rc_seq ?_
 refine rc_region ?_
 refine rd_op (ov_box rfl (TR.cnt api_Action.t r0)) ?_
 refine rd_op (v := vb false) (ov_move rfl) ?_
 refine rd_nil ?_
 refine pn_seq ?_
 refine rc_seq ?_
 refine rc_seq ?_
 refine rc_region ?_
 refine rd_op (ov_faddr rfl (api_Action.g_Name r0)) ?_
 refine rd_op (ov_load rfl rfl rfl) ?_
 refine rd_op (ov_bi rfl (str_len Try.underlying9)) ?_
 refine rd_op (ov_bin rfl rfl i_gtr) ?_
 refine rd_op (ov_move rfl) ?_
 refine rd_cut (d := 13) (v := vb ((decide (40 < (x0.Name.length : Int))) || (!(law17_fields x0.Params)))) ?_ ?_
 ·intro S Q r
  simp only [ac45_G1, List.cons_append, List.nil_append, List.append_assoc]
  cases hb101 : (decide (40 < (x0.Name.length : Int)))
  ·intro k
   have hb101' := hb101
   try simp only [qa1, qa2, qa3, qa4, qa5, qa6, qa7, qa8, qa9, qaA, qaB, qaC, qaD] at hb101'
   obtain ⟨v102, e102, r102⟩ := api_Action.g_Params r0
   refine rd_yes rfl rfl (ov_faddr rfl e102) ?_
   refine rd_yes rfl rfl (ov_load rfl (TR.cnt (tSl api_Field.t) r102) (TR.agg (tSl api_Field.t) r102)) ?_
   have f103 := f44_ok  r102 
   refine rd_ycall rfl rfl (cv_fn rfl rfl (clL_cons (TR.clo (tSl api_Field.t) r102) clL_nil) f103) ?_
   refine rd_yes rfl rfl (ov_not rfl) ?_
   refine rd_op (v := vb (!(law17_fields x0.Params))) (ov_pick rfl rfl rfl rfl) ?_
   exact rd_weak (sub_cons rfl (sub_skip rfl (sub_skip rfl (sub_skip rfl (sub_skip rfl (sub_skip rfl (sub_refl _))))))) k
  ·intro k
   refine rd_skip rfl rfl ?_
   refine rd_skip rfl rfl ?_
   refine rd_skip rfl rfl ?_
   refine rd_skip rfl rfl ?_
   refine rd_op (v := vb true) (ov_pick rfl rfl rfl rfl) ?_
   exact rd_weak (sub_cons rfl (sub_skip rfl (sub_skip rfl (sub_skip rfl (sub_skip rfl (sub_skip rfl (sub_refl _))))))) k
 refine rd_op (ov_move rfl) ?_
 refine rd_cut (d := 19) (v := vb (((decide (40 < (x0.Name.length : Int))) || (!(law17_fields x0.Params))) || (decide (16 < (x0.Body.length : Int))))) ?_ ?_
 ·intro S Q r
  simp only [ac45_G2, List.cons_append, List.nil_append, List.append_assoc]
  cases hb104 : ((decide (40 < (x0.Name.length : Int))) || (!(law17_fields x0.Params)))
  ·intro k
   have hb104' := hb104
   try simp only [qa1, qa2, qa3, qa4, qa5, qa6, qa7, qa8, qa9, qaA, qaB, qaC, qaD] at hb104'
   obtain ⟨v105, e105, r105⟩ := api_Action.g_Body r0
   refine rd_yes rfl rfl (ov_faddr rfl e105) ?_
   refine rd_yes rfl rfl (ov_load rfl (TR.cnt (tSl api_Statement.t) r105) (TR.agg (tSl api_Statement.t) r105)) ?_
   refine rd_yes rfl rfl (ov_bi rfl (sl_len r105 Try.underlying93 _)) ?_
   refine rd_yes rfl rfl (ov_bin rfl rfl i_gtr) ?_
   refine rd_op (v := vb (decide (16 < (x0.Body.length : Int)))) (ov_pick rfl rfl rfl rfl) ?_
   exact rd_weak (sub_cons rfl (sub_skip rfl (sub_skip rfl (sub_skip rfl (sub_skip rfl (sub_skip rfl (sub_refl _))))))) k
  ·intro k
   refine rd_skip rfl rfl ?_
   refine rd_skip rfl rfl ?_
   refine rd_skip rfl rfl ?_
   refine rd_skip rfl rfl ?_
   refine rd_op (v := vb true) (ov_pick rfl rfl rfl rfl) ?_
   exact rd_weak (sub_cons rfl (sub_skip rfl (sub_skip rfl (sub_skip rfl (sub_skip rfl (sub_skip rfl (sub_refl _))))))) k
 refine rd_nil ?_
 refine pn_seq ?_
 refine rc_cond rfl (fun hc106 => ?_) (fun hc106 => ?_)
 ·replace hres := (ite_t hc106).symm.trans hres
  have hc106' := hc106
  try simp only [qa1, qa2, qa3, qa4, qa5, qa6, qa7, qa8, qa9, qaA, qaB, qaC, qaD] at hc106'
  refine rc_seq ?_
  refine rc_region ?_
  refine rd_op (v := vb false) (ov_move rfl) ?_
  refine rd_nil ?_
  refine pn_seq ?_
  subst hres
  exact rc_retV (.tmp rfl .nil) (deep_closed rfl) rfl
 ·replace hres := (ite_f hc106).symm.trans hres
  have hc106' := hc106
  try simp only [qa1, qa2, qa3, qa4, qa5, qa6, qa7, qa8, qa9, qaA, qaB, qaC, qaD] at hc106'
  refine rc_skip ?_
  refine pn_seq ?_
  refine rc_seq ?_
  refine rc_seq ?_
  refine rc_region ?_
  refine rd_op (v := vi 0) (ov_move rfl) ?_
  refine rd_nil ?_
  refine pn_seq ?_
  refine rc_block ?_
  refine rc_weak ?_ (law17_body_L1_ok (x0 := x0) (v0 := v0)  (r0 := r0) (hc106 := hc106) ?_ (Int.toNat ((x0.Body.length : Int) - 0)) 0 rfl (by omega) hres)
  ·exact ((sub_cons rfl (sub_cons rfl (sub_nil _))))
  ·intro  hres
   refine px_blk ?_
   refine pn_seq ?_
   refine rc_seq ?_
   refine rc_region ?_
   refine rd_op (v := vb true) (ov_move rfl) ?_
   refine rd_nil ?_
   refine pn_seq ?_
   subst hres
   exact rc_retV (.tmp rfl .nil) (deep_closed rfl) rfl

/-- patchbay/patchbaylaw17.Small -/
def RF14 (res : Bool) (r : PV) : Prop := r = vb res
theorem law17_Small_L1_ok {S : List Fr} {res : Bool} {x0 : api_Program} {v0 : PV} (r0 : api_Program.t.R x0 v0) (hc116 : ((((((((decide (40 < (x0.Name.length : Int))) || (decide (12 < (x0.Headers.length : Int)))) || (!(law17_fields x0.Metadata))) || (decide (8 < (x0.Registers.length : Int)))) || (decide (20 < (x0.Actions.length : Int)))) || (decide (16 < (x0.Tables.length : Int)))) || (decide (16 < (x0.States.length : Int)))) || (decide (16 < (x0.Deparser.length : Int)))) = false) {K0 : Unit → Bool}
  (hK0 : K0 () = res → PX Try.prog 0 S (QR Try.prog [(2, none)] (RF14 res)) [(1, .fp v0)] ⟨0, []⟩) :
  ∀ (m : Nat) (x3_ : Int) (hm1 : m = Int.toNat ((x0.Headers.length : Int) - x3_)) (hlo1 : 0 ≤ x3_), law17_Small_L1 x0 K0 m x3_ = res → RC Try.prog (.loop ac14_L1) S (QR Try.prog [(2, none)] (RF14 res)) [(3, vi x3_), (1, .fp v0)] ⟨0, []⟩ := by
 have hc116' := hc116
 try simp only [qa1, qa2, qa3, qa4, qa5, qa6, qa7, qa8, qa9, qaA, qaB, qaC, qaD] at hc116'
 intro m
 induction m with
 | zero =>
  intro x3_ hm1 hlo1 hres
  rw [law17_Small_L1] at hres
  refine rc_loop ?_
  unfold ac14_L1
  refine rc_seq ?_
  refine rc_seq ?_
  refine rc_region ?_
  refine rd_op (ov_move rfl) ?_
  obtain ⟨v117, e117, r117⟩ := api_Program.g_Headers r0
  refine rd_op (ov_faddr rfl e117) ?_
  refine rd_op (ov_load rfl (TR.cnt (tSl api_Header.t) r117) (TR.agg (tSl api_Header.t) r117)) ?_
  refine rd_op (ov_bi rfl (sl_len r117 Try.underlying22 _)) ?_
  refine rd_op (ov_bin rfl rfl i_lss) ?_
  refine rd_nil ?_
  refine pn_seq ?_
  refine rc_cond rfl (fun hc118 => ?_) (fun hc118 => ?_)
  ·exfalso
   try simp only [qa1, qa2, qa3, qa4, qa5, qa6, qa7, qa8, qa9, qaA, qaB, qaC, qaD] at hc118
   omega
  ·have hend := hres
   have hc118' := hc118
   try simp only [qa1, qa2, qa3, qa4, qa5, qa6, qa7, qa8, qa9, qaA, qaB, qaC, qaD] at hc118'
   refine rc_exit ?_
   refine px_seq ?_
   refine px_again ?_
   exact px_weak ((sub_cons rfl (sub_nil _))) (hK0  hres)
 | succ m ih =>
  intro x3_ hm1 hlo1 hres
  rw [law17_Small_L1] at hres
  refine rc_loop ?_
  unfold ac14_L1
  refine rc_seq ?_
  refine rc_seq ?_
  refine rc_region ?_
  refine rd_op (ov_move rfl) ?_
  obtain ⟨v119, e119, r119⟩ := api_Program.g_Headers r0
  refine rd_op (ov_faddr rfl e119) ?_
  refine rd_op (ov_load rfl (TR.cnt (tSl api_Header.t) r119) (TR.agg (tSl api_Header.t) r119)) ?_
  refine rd_op (ov_bi rfl (sl_len r119 Try.underlying22 _)) ?_
  refine rd_op (ov_bin rfl rfl i_lss) ?_
  refine rd_nil ?_
  refine pn_seq ?_
  refine rc_cond rfl (fun hc120 => ?_) (fun hc120 => ?_)
  ·have hgo := hres
   have hc120' := hc120
   try simp only [qa1, qa2, qa3, qa4, qa5, qa6, qa7, qa8, qa9, qaA, qaB, qaC, qaD] at hc120'
   refine rc_skip ?_
   refine pn_seq ?_
   refine rc_seq ?_
   refine rc_block ?_
   refine rc_seq ?_
   refine rc_region ?_
   obtain ⟨v121, e121, r121⟩ := api_Program.g_Headers r0
   refine rd_op (ov_faddr rfl e121) ?_
   refine rd_op (ov_load rfl (TR.cnt (tSl api_Header.t) r121) (TR.agg (tSl api_Header.t) r121)) ?_
   refine rd_op (ov_move rfl) ?_
   obtain ⟨v122, e122, r122⟩ := sl_idx (i := x3_) r121 (by first | omega | (have hk := tck (by assumption) (by assumption); omega) | (have hk := rtck (by assumption) (by assumption); omega) | (have hk := eck (by assumption) (by assumption) (by assumption); omega) | (have hk := tv (by assumption) (by assumption); omega) | (have hk := rtv (by assumption) (by assumption); omega)) (by first | omega | (have hk := tck (by assumption) (by assumption); omega) | (have hk := rtck (by assumption) (by assumption); omega) | (have hk := eck (by assumption) (by assumption) (by assumption); omega) | (have hk := tv (by assumption) (by assumption); omega) | (have hk := rtv (by assumption) (by assumption); omega))
   refine rd_op (ov_iaddr rfl rfl e122) ?_
   refine rd_op (ov_faddr rfl (api_Header.g_Name r122)) ?_
   refine rd_op (ov_load rfl rfl rfl) ?_
   refine rd_op (ov_bi rfl (str_len Try.underlying9)) ?_
   refine rd_op (ov_bin rfl rfl i_gtr) ?_
   refine rd_op (ov_move rfl) ?_
   refine rd_cut (d := 79) (v := vb ((decide (40 < (((ix x0.Headers x3_).Name).length : Int))) || (!(law17_fields ((ix x0.Headers x3_).Fields))))) ?_ ?_
   ·intro S Q r
    simp only [ac14_G8, List.cons_append, List.nil_append, List.append_assoc]
    cases hb123 : (decide (40 < (((ix x0.Headers x3_).Name).length : Int)))
    ·intro k
     have hb123' := hb123
     try simp only [qa1, qa2, qa3, qa4, qa5, qa6, qa7, qa8, qa9, qaA, qaB, qaC, qaD] at hb123'
     obtain ⟨v124, e124, r124⟩ := api_Program.g_Headers r0
     refine rd_yes rfl rfl (ov_faddr rfl e124) ?_
     refine rd_yes rfl rfl (ov_load rfl (TR.cnt (tSl api_Header.t) r124) (TR.agg (tSl api_Header.t) r124)) ?_
     refine rd_yes rfl rfl (ov_move rfl) ?_
     obtain ⟨v125, e125, r125⟩ := sl_idx (i := x3_) r124 (by first | omega | (have hk := tck (by assumption) (by assumption); omega) | (have hk := rtck (by assumption) (by assumption); omega) | (have hk := eck (by assumption) (by assumption) (by assumption); omega) | (have hk := tv (by assumption) (by assumption); omega) | (have hk := rtv (by assumption) (by assumption); omega)) (by first | omega | (have hk := tck (by assumption) (by assumption); omega) | (have hk := rtck (by assumption) (by assumption); omega) | (have hk := eck (by assumption) (by assumption) (by assumption); omega) | (have hk := tv (by assumption) (by assumption); omega) | (have hk := rtv (by assumption) (by assumption); omega))
     refine rd_yes rfl rfl (ov_iaddr rfl rfl e125) ?_
     obtain ⟨v126, e126, r126⟩ := api_Header.g_Fields r125
     refine rd_yes rfl rfl (ov_faddr rfl e126) ?_
     refine rd_yes rfl rfl (ov_load rfl (TR.cnt (tSl api_Field.t) r126) (TR.agg (tSl api_Field.t) r126)) ?_
     have f127 := f44_ok  r126 
     refine rd_ycall rfl rfl (cv_fn rfl rfl (clL_cons (TR.clo (tSl api_Field.t) r126) clL_nil) f127) ?_
     refine rd_yes rfl rfl (ov_not rfl) ?_
     refine rd_op (v := vb (!(law17_fields ((ix x0.Headers x3_).Fields)))) (ov_pick rfl rfl rfl rfl) ?_
     exact rd_weak (sub_cons rfl (sub_skip rfl (sub_skip rfl (sub_skip rfl (sub_skip rfl (sub_skip rfl (sub_skip rfl (sub_skip rfl (sub_skip rfl (sub_skip rfl (sub_refl _))))))))))) k
    ·intro k
     refine rd_skip rfl rfl ?_
     refine rd_skip rfl rfl ?_
     refine rd_skip rfl rfl ?_
     refine rd_skip rfl rfl ?_
     refine rd_skip rfl rfl ?_
     refine rd_skip rfl rfl ?_
     refine rd_skip rfl rfl ?_
     refine rd_skip rfl rfl ?_
     refine rd_op (v := vb true) (ov_pick rfl rfl rfl rfl) ?_
     exact rd_weak (sub_cons rfl (sub_skip rfl (sub_skip rfl (sub_skip rfl (sub_skip rfl (sub_skip rfl (sub_skip rfl (sub_skip rfl (sub_skip rfl (sub_skip rfl (sub_refl _))))))))))) k
   refine rd_nil ?_
   refine pn_seq ?_
   refine rc_cond rfl (fun hc128 => ?_) (fun hc128 => ?_)
   ·replace hres := (ite_t hc128).symm.trans hres
    have hc128' := hc128
    try simp only [qa1, qa2, qa3, qa4, qa5, qa6, qa7, qa8, qa9, qaA, qaB, qaC, qaD] at hc128'
    refine rc_seq ?_
    refine rc_region ?_
    refine rd_op (v := vb false) (ov_move rfl) ?_
    refine rd_nil ?_
    refine pn_seq ?_
    subst hres
    exact rc_retV (.tmp rfl .nil) (deep_closed rfl) rfl
   ·replace hres := (ite_f hc128).symm.trans hres
    have hc128' := hc128
    try simp only [qa1, qa2, qa3, qa4, qa5, qa6, qa7, qa8, qa9, qaA, qaB, qaC, qaD] at hc128'
    refine rc_skip ?_
    refine pn_blk ?_
    refine pn_seq ?_
    refine rc_region ?_
    refine rd_op (ov_move rfl) ?_
    refine rd_op (ov_bin rfl rfl i_add) ?_
    refine rd_op (ov_move rfl) ?_
    refine rd_nil ?_
    refine pn_again ?_
    have hbd := sl_bound r119
    have hinc : wr (x3_ + 1) = x3_ + 1 := wr_of (by omega) (by omega)
    rw [hinc]
    refine rc_weak ?_ (ih (x3_ + 1)  (by omega) (by omega) hres)
    exact ((sub_cons rfl (sub_cons rfl (sub_nil _))))
  ·exfalso
   try simp only [qa1, qa2, qa3, qa4, qa5, qa6, qa7, qa8, qa9, qaA, qaB, qaC, qaD] at hc120
   omega

theorem law17_Small_L2_ok {S : List Fr} {res : Bool} {x0 : api_Program} {v0 : PV} (r0 : api_Program.t.R x0 v0) (hc116 : ((((((((decide (40 < (x0.Name.length : Int))) || (decide (12 < (x0.Headers.length : Int)))) || (!(law17_fields x0.Metadata))) || (decide (8 < (x0.Registers.length : Int)))) || (decide (20 < (x0.Actions.length : Int)))) || (decide (16 < (x0.Tables.length : Int)))) || (decide (16 < (x0.States.length : Int)))) || (decide (16 < (x0.Deparser.length : Int)))) = false) {K2 : Unit → Bool}
  (hK2 : K2 () = res → PX Try.prog 2 S (QR Try.prog [(2, none)] (RF14 res)) [(1, .fp v0)] ⟨0, []⟩) :
  ∀ (m : Nat) (x4_ : Int) (hm2 : m = Int.toNat ((x0.Registers.length : Int) - x4_)) (hlo2 : 0 ≤ x4_), law17_Small_L2 x0 K2 m x4_ = res → RC Try.prog (.loop ac14_L2) S (QR Try.prog [(2, none)] (RF14 res)) [(4, vi x4_), (1, .fp v0)] ⟨0, []⟩ := by
 have hc116' := hc116
 try simp only [qa1, qa2, qa3, qa4, qa5, qa6, qa7, qa8, qa9, qaA, qaB, qaC, qaD] at hc116'
 intro m
 induction m with
 | zero =>
  intro x4_ hm2 hlo2 hres
  rw [law17_Small_L2] at hres
  refine rc_loop ?_
  unfold ac14_L2
  refine rc_seq ?_
  refine rc_seq ?_
  refine rc_region ?_
  refine rd_op (ov_move rfl) ?_
  obtain ⟨v130, e130, r130⟩ := api_Program.g_Registers r0
  refine rd_op (ov_faddr rfl e130) ?_
  refine rd_op (ov_load rfl (TR.cnt (tSl api_Register.t) r130) (TR.agg (tSl api_Register.t) r130)) ?_
  refine rd_op (ov_bi rfl (sl_len r130 Try.underlying24 _)) ?_
  refine rd_op (ov_bin rfl rfl i_lss) ?_
  refine rd_nil ?_
  refine pn_seq ?_
  refine rc_cond rfl (fun hc131 => ?_) (fun hc131 => ?_)
  ·exfalso
   try simp only [qa1, qa2, qa3, qa4, qa5, qa6, qa7, qa8, qa9, qaA, qaB, qaC, qaD] at hc131
   omega
  ·have hend := hres
   have hc131' := hc131
   try simp only [qa1, qa2, qa3, qa4, qa5, qa6, qa7, qa8, qa9, qaA, qaB, qaC, qaD] at hc131'
   refine rc_exit ?_
   refine px_seq ?_
   refine px_again ?_
   exact px_weak ((sub_cons rfl (sub_nil _))) (hK2  hres)
 | succ m ih =>
  intro x4_ hm2 hlo2 hres
  rw [law17_Small_L2] at hres
  refine rc_loop ?_
  unfold ac14_L2
  refine rc_seq ?_
  refine rc_seq ?_
  refine rc_region ?_
  refine rd_op (ov_move rfl) ?_
  obtain ⟨v132, e132, r132⟩ := api_Program.g_Registers r0
  refine rd_op (ov_faddr rfl e132) ?_
  refine rd_op (ov_load rfl (TR.cnt (tSl api_Register.t) r132) (TR.agg (tSl api_Register.t) r132)) ?_
  refine rd_op (ov_bi rfl (sl_len r132 Try.underlying24 _)) ?_
  refine rd_op (ov_bin rfl rfl i_lss) ?_
  refine rd_nil ?_
  refine pn_seq ?_
  refine rc_cond rfl (fun hc133 => ?_) (fun hc133 => ?_)
  ·have hgo := hres
   have hc133' := hc133
   try simp only [qa1, qa2, qa3, qa4, qa5, qa6, qa7, qa8, qa9, qaA, qaB, qaC, qaD] at hc133'
   refine rc_skip ?_
   refine pn_seq ?_
   refine rc_seq ?_
   refine rc_block ?_
   refine rc_seq ?_
   refine rc_region ?_
   obtain ⟨v134, e134, r134⟩ := api_Program.g_Registers r0
   refine rd_op (ov_faddr rfl e134) ?_
   refine rd_op (ov_load rfl (TR.cnt (tSl api_Register.t) r134) (TR.agg (tSl api_Register.t) r134)) ?_
   refine rd_op (ov_move rfl) ?_
   obtain ⟨v135, e135, r135⟩ := sl_idx (i := x4_) r134 (by first | omega | (have hk := tck (by assumption) (by assumption); omega) | (have hk := rtck (by assumption) (by assumption); omega) | (have hk := eck (by assumption) (by assumption) (by assumption); omega) | (have hk := tv (by assumption) (by assumption); omega) | (have hk := rtv (by assumption) (by assumption); omega)) (by first | omega | (have hk := tck (by assumption) (by assumption); omega) | (have hk := rtck (by assumption) (by assumption); omega) | (have hk := eck (by assumption) (by assumption) (by assumption); omega) | (have hk := tv (by assumption) (by assumption); omega) | (have hk := rtv (by assumption) (by assumption); omega))
   refine rd_op (ov_iaddr rfl rfl e135) ?_
   refine rd_op (ov_faddr rfl (api_Register.g_Name r135)) ?_
   refine rd_op (ov_load rfl rfl rfl) ?_
   refine rd_op (ov_bi rfl (str_len Try.underlying9)) ?_
   refine rd_op (ov_bin rfl rfl i_gtr) ?_
   refine rd_nil ?_
   refine pn_seq ?_
   refine rc_cond rfl (fun hc136 => ?_) (fun hc136 => ?_)
   ·replace hres := (ite_t hc136).symm.trans hres
    have hc136' := hc136
    try simp only [qa1, qa2, qa3, qa4, qa5, qa6, qa7, qa8, qa9, qaA, qaB, qaC, qaD] at hc136'
    refine rc_seq ?_
    refine rc_region ?_
    refine rd_op (v := vb false) (ov_move rfl) ?_
    refine rd_nil ?_
    refine pn_seq ?_
    subst hres
    exact rc_retV (.tmp rfl .nil) (deep_closed rfl) rfl
   ·replace hres := (ite_f hc136).symm.trans hres
    have hc136' := hc136
    try simp only [qa1, qa2, qa3, qa4, qa5, qa6, qa7, qa8, qa9, qaA, qaB, qaC, qaD] at hc136'
    refine rc_skip ?_
    refine pn_blk ?_
    refine pn_seq ?_
    refine rc_region ?_
    refine rd_op (ov_move rfl) ?_
    refine rd_op (ov_bin rfl rfl i_add) ?_
    refine rd_op (ov_move rfl) ?_
    refine rd_nil ?_
    refine pn_again ?_
    have hbd := sl_bound r132
    have hinc : wr (x4_ + 1) = x4_ + 1 := wr_of (by omega) (by omega)
    rw [hinc]
    refine rc_weak ?_ (ih (x4_ + 1)  (by omega) (by omega) hres)
    exact ((sub_cons rfl (sub_cons rfl (sub_nil _))))
  ·exfalso
   try simp only [qa1, qa2, qa3, qa4, qa5, qa6, qa7, qa8, qa9, qaA, qaB, qaC, qaD] at hc133
   omega

theorem law17_Small_L3_ok {S : List Fr} {res : Bool} {x0 : api_Program} {v0 : PV} (r0 : api_Program.t.R x0 v0) (hc116 : ((((((((decide (40 < (x0.Name.length : Int))) || (decide (12 < (x0.Headers.length : Int)))) || (!(law17_fields x0.Metadata))) || (decide (8 < (x0.Registers.length : Int)))) || (decide (20 < (x0.Actions.length : Int)))) || (decide (16 < (x0.Tables.length : Int)))) || (decide (16 < (x0.States.length : Int)))) || (decide (16 < (x0.Deparser.length : Int)))) = false) {K4 : Unit → Bool}
  (hK4 : K4 () = res → PX Try.prog 4 S (QR Try.prog [(2, none)] (RF14 res)) [(1, .fp v0)] ⟨0, []⟩) :
  ∀ (m : Nat) (x5_ : Int) (hm3 : m = Int.toNat ((x0.Actions.length : Int) - x5_)) (hlo3 : 0 ≤ x5_), law17_Small_L3 x0 K4 m x5_ = res → RC Try.prog (.loop ac14_L3) S (QR Try.prog [(2, none)] (RF14 res)) [(5, vi x5_), (1, .fp v0)] ⟨0, []⟩ := by
 have hc116' := hc116
 try simp only [qa1, qa2, qa3, qa4, qa5, qa6, qa7, qa8, qa9, qaA, qaB, qaC, qaD] at hc116'
 intro m
 induction m with
 | zero =>
  intro x5_ hm3 hlo3 hres
  rw [law17_Small_L3] at hres
  refine rc_loop ?_
  unfold ac14_L3
  refine rc_seq ?_
  refine rc_seq ?_
  refine rc_region ?_
  refine rd_op (ov_move rfl) ?_
  obtain ⟨v138, e138, r138⟩ := api_Program.g_Actions r0
  refine rd_op (ov_faddr rfl e138) ?_
  refine rd_op (ov_load rfl (TR.cnt (tSl api_Action.t) r138) (TR.agg (tSl api_Action.t) r138)) ?_
  refine rd_op (ov_bi rfl (sl_len r138 Try.underlying25 _)) ?_
  refine rd_op (ov_bin rfl rfl i_lss) ?_
  refine rd_nil ?_
  refine pn_seq ?_
  refine rc_cond rfl (fun hc139 => ?_) (fun hc139 => ?_)
  ·exfalso
   try simp only [qa1, qa2, qa3, qa4, qa5, qa6, qa7, qa8, qa9, qaA, qaB, qaC, qaD] at hc139
   omega
  ·have hend := hres
   have hc139' := hc139
   try simp only [qa1, qa2, qa3, qa4, qa5, qa6, qa7, qa8, qa9, qaA, qaB, qaC, qaD] at hc139'
   refine rc_exit ?_
   refine px_seq ?_
   refine px_again ?_
   exact px_weak ((sub_cons rfl (sub_nil _))) (hK4  hres)
 | succ m ih =>
  intro x5_ hm3 hlo3 hres
  rw [law17_Small_L3] at hres
  refine rc_loop ?_
  unfold ac14_L3
  refine rc_seq ?_
  refine rc_seq ?_
  refine rc_region ?_
  refine rd_op (ov_move rfl) ?_
  obtain ⟨v140, e140, r140⟩ := api_Program.g_Actions r0
  refine rd_op (ov_faddr rfl e140) ?_
  refine rd_op (ov_load rfl (TR.cnt (tSl api_Action.t) r140) (TR.agg (tSl api_Action.t) r140)) ?_
  refine rd_op (ov_bi rfl (sl_len r140 Try.underlying25 _)) ?_
  refine rd_op (ov_bin rfl rfl i_lss) ?_
  refine rd_nil ?_
  refine pn_seq ?_
  refine rc_cond rfl (fun hc141 => ?_) (fun hc141 => ?_)
  ·have hgo := hres
   have hc141' := hc141
   try simp only [qa1, qa2, qa3, qa4, qa5, qa6, qa7, qa8, qa9, qaA, qaB, qaC, qaD] at hc141'
   refine rc_skip ?_
   refine pn_seq ?_
   refine rc_seq ?_
   refine rc_block ?_
   refine rc_seq ?_
   refine rc_region ?_
   obtain ⟨v142, e142, r142⟩ := api_Program.g_Actions r0
   refine rd_op (ov_faddr rfl e142) ?_
   refine rd_op (ov_load rfl (TR.cnt (tSl api_Action.t) r142) (TR.agg (tSl api_Action.t) r142)) ?_
   refine rd_op (ov_move rfl) ?_
   obtain ⟨v143, e143, r143⟩ := sl_idx (i := x5_) r142 (by first | omega | (have hk := tck (by assumption) (by assumption); omega) | (have hk := rtck (by assumption) (by assumption); omega) | (have hk := eck (by assumption) (by assumption) (by assumption); omega) | (have hk := tv (by assumption) (by assumption); omega) | (have hk := rtv (by assumption) (by assumption); omega)) (by first | omega | (have hk := tck (by assumption) (by assumption); omega) | (have hk := rtck (by assumption) (by assumption); omega) | (have hk := eck (by assumption) (by assumption) (by assumption); omega) | (have hk := tv (by assumption) (by assumption); omega) | (have hk := rtv (by assumption) (by assumption); omega))
   refine rd_op (ov_iaddr rfl rfl e143) ?_
   refine rd_op (ov_load rfl (TR.cnt api_Action.t r143) (TR.agg api_Action.t r143)) ?_
   obtain ⟨y144, hw144, hres⟩ := let_ex hres
   have f144 := f45_ok  r143 
   rw [hw144] at f144
   refine rd_call (cv_fn rfl rfl (clL_cons (TR.clo api_Action.t r143) clL_nil) f144) ?_
   refine rd_op (ov_not rfl) ?_
   refine rd_nil ?_
   refine pn_seq ?_
   refine rc_cond rfl (fun hc145 => ?_) (fun hc145 => ?_)
   ·replace hres := (ite_t hc145).symm.trans hres
    have hc145' := hc145
    try simp only [qa1, qa2, qa3, qa4, qa5, qa6, qa7, qa8, qa9, qaA, qaB, qaC, qaD] at hc145'
    refine rc_seq ?_
    refine rc_region ?_
    refine rd_op (v := vb false) (ov_move rfl) ?_
    refine rd_nil ?_
    refine pn_seq ?_
    subst hres
    exact rc_retV (.tmp rfl .nil) (deep_closed rfl) rfl
   ·replace hres := (ite_f hc145).symm.trans hres
    have hc145' := hc145
    try simp only [qa1, qa2, qa3, qa4, qa5, qa6, qa7, qa8, qa9, qaA, qaB, qaC, qaD] at hc145'
    refine rc_skip ?_
    refine pn_blk ?_
    refine pn_seq ?_
    refine rc_region ?_
    refine rd_op (ov_move rfl) ?_
    refine rd_op (ov_bin rfl rfl i_add) ?_
    refine rd_op (ov_move rfl) ?_
    refine rd_nil ?_
    refine pn_again ?_
    have hbd := sl_bound r140
    have hinc : wr (x5_ + 1) = x5_ + 1 := wr_of (by omega) (by omega)
    rw [hinc]
    refine rc_weak ?_ (ih (x5_ + 1)  (by omega) (by omega) hres)
    exact ((sub_cons rfl (sub_cons rfl (sub_nil _))))
  ·exfalso
   try simp only [qa1, qa2, qa3, qa4, qa5, qa6, qa7, qa8, qa9, qaA, qaB, qaC, qaD] at hc141
   omega

theorem law17_Small_L4_ok {S : List Fr} {res : Bool} {x0 : api_Program} {v0 : PV} (r0 : api_Program.t.R x0 v0) (hc116 : ((((((((decide (40 < (x0.Name.length : Int))) || (decide (12 < (x0.Headers.length : Int)))) || (!(law17_fields x0.Metadata))) || (decide (8 < (x0.Registers.length : Int)))) || (decide (20 < (x0.Actions.length : Int)))) || (decide (16 < (x0.Tables.length : Int)))) || (decide (16 < (x0.States.length : Int)))) || (decide (16 < (x0.Deparser.length : Int)))) = false) {K6 : Unit → Bool}
  (hK6 : ∀ (h : Heap) (M0 : Mem h []), K6 () = res → PX Try.prog 6 S (QR Try.prog [(2, none)] (RF14 res)) [(1, .fp v0)] h) :
  ∀ (m : Nat) (x6_ : Int) (hm4 : m = Int.toNat ((x0.Tables.length : Int) - x6_)) (hlo4 : 0 ≤ x6_) (h : Heap) (M0 : Mem h []), law17_Small_L4 x0 K6 m x6_ = res → RC Try.prog (.loop ac14_L4) S (QR Try.prog [(2, none)] (RF14 res)) [(6, vi x6_), (1, .fp v0)] h := by
 have hc116' := hc116
 try simp only [qa1, qa2, qa3, qa4, qa5, qa6, qa7, qa8, qa9, qaA, qaB, qaC, qaD] at hc116'
 intro m
 induction m with
 | zero =>
  intro x6_ hm4 hlo4 h M0 hres
  rw [law17_Small_L4] at hres
  refine rc_loop ?_
  unfold ac14_L4
  refine rc_seq ?_
  refine rc_seq ?_
  refine rc_region ?_
  refine rd_op (ov_move rfl) ?_
  obtain ⟨v147, e147, r147⟩ := api_Program.g_Tables r0
  refine rd_op (ov_faddr rfl e147) ?_
  refine rd_op (ov_load rfl (TR.cnt (tSl api_Table.t) r147) (TR.agg (tSl api_Table.t) r147)) ?_
  refine rd_op (ov_bi rfl (sl_len r147 Try.underlying26 _)) ?_
  refine rd_op (ov_bin rfl rfl i_lss) ?_
  refine rd_nil ?_
  refine pn_seq ?_
  refine rc_cond rfl (fun hc148 => ?_) (fun hc148 => ?_)
  ·exfalso
   try simp only [qa1, qa2, qa3, qa4, qa5, qa6, qa7, qa8, qa9, qaA, qaB, qaC, qaD] at hc148
   omega
  ·have hend := hres
   have hc148' := hc148
   try simp only [qa1, qa2, qa3, qa4, qa5, qa6, qa7, qa8, qa9, qaA, qaB, qaC, qaD] at hc148'
   refine rc_exit ?_
   refine px_seq ?_
   refine px_again ?_
   exact px_weak ((sub_cons rfl (sub_nil _))) (hK6 _ (Mem.sub M0 .slnil) hres)
 | succ m ih =>
  intro x6_ hm4 hlo4 h M0 hres
  rw [law17_Small_L4] at hres
  refine rc_loop ?_
  unfold ac14_L4
  refine rc_seq ?_
  refine rc_seq ?_
  refine rc_region ?_
  refine rd_op (ov_move rfl) ?_
  obtain ⟨v149, e149, r149⟩ := api_Program.g_Tables r0
  refine rd_op (ov_faddr rfl e149) ?_
  refine rd_op (ov_load rfl (TR.cnt (tSl api_Table.t) r149) (TR.agg (tSl api_Table.t) r149)) ?_
  refine rd_op (ov_bi rfl (sl_len r149 Try.underlying26 _)) ?_
  refine rd_op (ov_bin rfl rfl i_lss) ?_
  refine rd_nil ?_
  refine pn_seq ?_
  refine rc_cond rfl (fun hc150 => ?_) (fun hc150 => ?_)
  ·have hgo := hres
   have hc150' := hc150
   try simp only [qa1, qa2, qa3, qa4, qa5, qa6, qa7, qa8, qa9, qaA, qaB, qaC, qaD] at hc150'
   refine rc_skip ?_
   refine pn_seq ?_
   refine rc_seq ?_
   refine rc_block ?_
   refine rc_seq ?_
   refine rc_region ?_
   obtain ⟨v151, e151, r151⟩ := api_Program.g_Tables r0
   refine rd_op (ov_faddr rfl e151) ?_
   refine rd_op (ov_load rfl (TR.cnt (tSl api_Table.t) r151) (TR.agg (tSl api_Table.t) r151)) ?_
   refine rd_op (ov_move rfl) ?_
   obtain ⟨v152, e152, r152⟩ := sl_idx (i := x6_) r151 (by first | omega | (have hk := tck (by assumption) (by assumption); omega) | (have hk := rtck (by assumption) (by assumption); omega) | (have hk := eck (by assumption) (by assumption) (by assumption); omega) | (have hk := tv (by assumption) (by assumption); omega) | (have hk := rtv (by assumption) (by assumption); omega)) (by first | omega | (have hk := tck (by assumption) (by assumption); omega) | (have hk := rtck (by assumption) (by assumption); omega) | (have hk := eck (by assumption) (by assumption) (by assumption); omega) | (have hk := tv (by assumption) (by assumption); omega) | (have hk := rtv (by assumption) (by assumption); omega))
   refine rd_op (ov_iaddr rfl rfl e152) ?_
   refine rd_op (ov_load rfl (TR.cnt api_Table.t r152) (TR.agg api_Table.t r152)) ?_
   refine rd_allocO (x := .agg [vs [], nilS, nilS, vi 0, nilS, vi 0]) M0 rfl rfl (fun i153 w153 h153 M153 => ?_)
   refine rd_storeO (k := 0) (v := v152) M153 rfl rfl rfl (TR.cnt api_Table.t r152) (fun h155 M155 => ?_)
   replace M155 : Mem h155 [⟨.op i153 w153 0, 56, 6, [v152]⟩] := M155
   refine rd_nil ?_
   refine pn_seq ?_
   refine rc_seq ?_
   refine rc_region ?_
   refine rd_op (ov_faddrO rfl) ?_
   refine rd_op (ov_loadf (k := 0) M155 rfl rfl (api_Table.g_Name r152)) ?_
   refine rd_op (ov_bi rfl (str_len Try.underlying9)) ?_
   refine rd_op (ov_bin rfl rfl i_gtr) ?_
   refine rd_op (ov_move rfl) ?_
   refine rd_cut (d := 130) (v := vb ((decide (40 < (((ix x0.Tables x6_).Name).length : Int))) || (decide (10 < (((ix x0.Tables x6_).Keys).length : Int))))) ?_ ?_
   ·intro S Q r
    simp only [ac14_G9, List.cons_append, List.nil_append, List.append_assoc]
    cases hb156 : (decide (40 < (((ix x0.Tables x6_).Name).length : Int)))
    ·intro k
     have hb156' := hb156
     try simp only [qa1, qa2, qa3, qa4, qa5, qa6, qa7, qa8, qa9, qaA, qaB, qaC, qaD] at hb156'
     refine rd_yes rfl rfl (ov_faddrO rfl) ?_
     obtain ⟨v157, e157, r157⟩ := api_Table.g_Keys r152
     refine rd_yes rfl rfl (ov_loadf (k := 0) M155 rfl rfl e157) ?_
     refine rd_yes rfl rfl (ov_bi rfl (sl_len r157 Try.underlying52 _)) ?_
     refine rd_yes rfl rfl (ov_bin rfl rfl i_gtr) ?_
     refine rd_op (v := vb (decide (10 < (((ix x0.Tables x6_).Keys).length : Int)))) (ov_pick rfl rfl rfl rfl) ?_
     exact rd_weak (sub_cons rfl (sub_skip rfl (sub_skip rfl (sub_skip rfl (sub_skip rfl (sub_skip rfl (sub_refl _))))))) k
    ·intro k
     refine rd_skip rfl rfl ?_
     refine rd_skip rfl rfl ?_
     refine rd_skip rfl rfl ?_
     refine rd_skip rfl rfl ?_
     refine rd_op (v := vb true) (ov_pick rfl rfl rfl rfl) ?_
     exact rd_weak (sub_cons rfl (sub_skip rfl (sub_skip rfl (sub_skip rfl (sub_skip rfl (sub_skip rfl (sub_refl _))))))) k
   refine rd_op (ov_move rfl) ?_
   refine rd_cut (d := 136) (v := vb (((decide (40 < (((ix x0.Tables x6_).Name).length : Int))) || (decide (10 < (((ix x0.Tables x6_).Keys).length : Int)))) || (decide (24 < (((ix x0.Tables x6_).Actions).length : Int))))) ?_ ?_
   ·intro S Q r
    simp only [ac14_G10, List.cons_append, List.nil_append, List.append_assoc]
    cases hb158 : ((decide (40 < (((ix x0.Tables x6_).Name).length : Int))) || (decide (10 < (((ix x0.Tables x6_).Keys).length : Int))))
    ·intro k
     have hb158' := hb158
     try simp only [qa1, qa2, qa3, qa4, qa5, qa6, qa7, qa8, qa9, qaA, qaB, qaC, qaD] at hb158'
     refine rd_yes rfl rfl (ov_faddrO rfl) ?_
     obtain ⟨v159, e159, r159⟩ := api_Table.g_Actions r152
     refine rd_yes rfl rfl (ov_loadf (k := 0) M155 rfl rfl e159) ?_
     refine rd_yes rfl rfl (ov_bi rfl (sl_len r159 Try.underlying29 _)) ?_
     refine rd_yes rfl rfl (ov_bin rfl rfl i_gtr) ?_
     refine rd_op (v := vb (decide (24 < (((ix x0.Tables x6_).Actions).length : Int)))) (ov_pick rfl rfl rfl rfl) ?_
     exact rd_weak (sub_cons rfl (sub_skip rfl (sub_skip rfl (sub_skip rfl (sub_skip rfl (sub_skip rfl (sub_refl _))))))) k
    ·intro k
     refine rd_skip rfl rfl ?_
     refine rd_skip rfl rfl ?_
     refine rd_skip rfl rfl ?_
     refine rd_skip rfl rfl ?_
     refine rd_op (v := vb true) (ov_pick rfl rfl rfl rfl) ?_
     exact rd_weak (sub_cons rfl (sub_skip rfl (sub_skip rfl (sub_skip rfl (sub_skip rfl (sub_skip rfl (sub_refl _))))))) k
   refine rd_op (ov_move rfl) ?_
   refine rd_cut (d := 143) (v := vb ((((decide (40 < (((ix x0.Tables x6_).Name).length : Int))) || (decide (10 < (((ix x0.Tables x6_).Keys).length : Int)))) || (decide (24 < (((ix x0.Tables x6_).Actions).length : Int)))) || (decide (10 < ((((ix x0.Tables x6_).Default).Args).length : Int))))) ?_ ?_
   ·intro S Q r
    simp only [ac14_G11, List.cons_append, List.nil_append, List.append_assoc]
    cases hb160 : (((decide (40 < (((ix x0.Tables x6_).Name).length : Int))) || (decide (10 < (((ix x0.Tables x6_).Keys).length : Int)))) || (decide (24 < (((ix x0.Tables x6_).Actions).length : Int))))
    ·intro k
     have hb160' := hb160
     try simp only [qa1, qa2, qa3, qa4, qa5, qa6, qa7, qa8, qa9, qaA, qaB, qaC, qaD] at hb160'
     refine rd_yes rfl rfl (ov_faddrO rfl) ?_
     refine rd_yes rfl rfl (ov_faddrO rfl) ?_
     obtain ⟨v161, e161, r161⟩ := api_Table.g_Default r152
     obtain ⟨v162, e162, r162⟩ := api_ActionCall.g_Args r161
     refine rd_yes rfl rfl (ov_loadf (k := 0) M155 rfl rfl (field_field e161 e162)) ?_
     refine rd_yes rfl rfl (ov_bi rfl (sl_len r162 Try.underlying44 _)) ?_
     refine rd_yes rfl rfl (ov_bin rfl rfl i_gtr) ?_
     refine rd_op (v := vb (decide (10 < ((((ix x0.Tables x6_).Default).Args).length : Int)))) (ov_pick rfl rfl rfl rfl) ?_
     exact rd_weak (sub_cons rfl (sub_skip rfl (sub_skip rfl (sub_skip rfl (sub_skip rfl (sub_skip rfl (sub_skip rfl (sub_refl _)))))))) k
    ·intro k
     refine rd_skip rfl rfl ?_
     refine rd_skip rfl rfl ?_
     refine rd_skip rfl rfl ?_
     refine rd_skip rfl rfl ?_
     refine rd_skip rfl rfl ?_
     refine rd_op (v := vb true) (ov_pick rfl rfl rfl rfl) ?_
     exact rd_weak (sub_cons rfl (sub_skip rfl (sub_skip rfl (sub_skip rfl (sub_skip rfl (sub_skip rfl (sub_skip rfl (sub_refl _)))))))) k
   refine rd_nil ?_
   refine pn_seq ?_
   refine rc_cond rfl (fun hc163 => ?_) (fun hc163 => ?_)
   ·replace hres := (ite_t hc163).symm.trans hres
    have hc163' := hc163
    try simp only [qa1, qa2, qa3, qa4, qa5, qa6, qa7, qa8, qa9, qaA, qaB, qaC, qaD] at hc163'
    refine rc_seq ?_
    refine rc_region ?_
    refine rd_op (v := vb false) (ov_move rfl) ?_
    refine rd_nil ?_
    refine pn_seq ?_
    subst hres
    exact rc_retV (.tmp rfl .nil) (deep_closed rfl) rfl
   ·replace hres := (ite_f hc163).symm.trans hres
    have hc163' := hc163
    try simp only [qa1, qa2, qa3, qa4, qa5, qa6, qa7, qa8, qa9, qaA, qaB, qaC, qaD] at hc163'
    refine rc_skip ?_
    refine pn_blk ?_
    refine pn_seq ?_
    refine rc_region ?_
    refine rd_op (ov_move rfl) ?_
    refine rd_op (ov_bin rfl rfl i_add) ?_
    refine rd_op (ov_move rfl) ?_
    refine rd_nil ?_
    refine pn_again ?_
    have hbd := sl_bound r149
    have hinc : wr (x6_ + 1) = x6_ + 1 := wr_of (by omega) (by omega)
    rw [hinc]
    refine rc_weak ?_ (ih (x6_ + 1)  (by omega) (by omega) _ (Mem.sub M155 (.cons _ .slnil)) hres)
    exact ((sub_cons rfl (sub_cons rfl (sub_nil _))))
  ·exfalso
   try simp only [qa1, qa2, qa3, qa4, qa5, qa6, qa7, qa8, qa9, qaA, qaB, qaC, qaD] at hc150
   omega

theorem law17_Small_L5_ok {S : List Fr} {res : Bool} {x0 : api_Program} {v0 : PV} (r0 : api_Program.t.R x0 v0) (hc116 : ((((((((decide (40 < (x0.Name.length : Int))) || (decide (12 < (x0.Headers.length : Int)))) || (!(law17_fields x0.Metadata))) || (decide (8 < (x0.Registers.length : Int)))) || (decide (20 < (x0.Actions.length : Int)))) || (decide (16 < (x0.Tables.length : Int)))) || (decide (16 < (x0.States.length : Int)))) || (decide (16 < (x0.Deparser.length : Int)))) = false) {K8 : Unit → Bool}
  (hK8 : ∀ (h : Heap) (M0 : Mem h []), K8 () = res → PX Try.prog 8 S (QR Try.prog [(2, none)] (RF14 res)) [] h) :
  ∀ (m : Nat) (x8_ : Int) (hm5 : m = Int.toNat ((x0.States.length : Int) - x8_)) (hlo5 : 0 ≤ x8_) (h : Heap) (M0 : Mem h []), law17_Small_L5 x0 K8 m x8_ = res → RC Try.prog (.loop ac14_L5) S (QR Try.prog [(2, none)] (RF14 res)) [(8, vi x8_), (1, .fp v0)] h := by
 have hc116' := hc116
 try simp only [qa1, qa2, qa3, qa4, qa5, qa6, qa7, qa8, qa9, qaA, qaB, qaC, qaD] at hc116'
 intro m
 induction m with
 | zero =>
  intro x8_ hm5 hlo5 h M0 hres
  rw [law17_Small_L5] at hres
  refine rc_loop ?_
  unfold ac14_L5
  refine rc_seq ?_
  refine rc_seq ?_
  refine rc_region ?_
  refine rd_op (ov_move rfl) ?_
  obtain ⟨v165, e165, r165⟩ := api_Program.g_States r0
  refine rd_op (ov_faddr rfl e165) ?_
  refine rd_op (ov_load rfl (TR.cnt (tSl api_ParserState.t) r165) (TR.agg (tSl api_ParserState.t) r165)) ?_
  refine rd_op (ov_bi rfl (sl_len r165 Try.underlying27 _)) ?_
  refine rd_op (ov_bin rfl rfl i_lss) ?_
  refine rd_nil ?_
  refine pn_seq ?_
  refine rc_cond rfl (fun hc166 => ?_) (fun hc166 => ?_)
  ·exfalso
   try simp only [qa1, qa2, qa3, qa4, qa5, qa6, qa7, qa8, qa9, qaA, qaB, qaC, qaD] at hc166
   omega
  ·have hend := hres
   have hc166' := hc166
   try simp only [qa1, qa2, qa3, qa4, qa5, qa6, qa7, qa8, qa9, qaA, qaB, qaC, qaD] at hc166'
   refine rc_exit ?_
   refine px_seq ?_
   refine px_again ?_
   exact px_weak ((sub_nil _)) (hK8 _ (Mem.sub M0 .slnil) hres)
 | succ m ih =>
  intro x8_ hm5 hlo5 h M0 hres
  rw [law17_Small_L5] at hres
  refine rc_loop ?_
  unfold ac14_L5
  refine rc_seq ?_
  refine rc_seq ?_
  refine rc_region ?_
  refine rd_op (ov_move rfl) ?_
  obtain ⟨v167, e167, r167⟩ := api_Program.g_States r0
  refine rd_op (ov_faddr rfl e167) ?_
  refine rd_op (ov_load rfl (TR.cnt (tSl api_ParserState.t) r167) (TR.agg (tSl api_ParserState.t) r167)) ?_
  refine rd_op (ov_bi rfl (sl_len r167 Try.underlying27 _)) ?_
  refine rd_op (ov_bin rfl rfl i_lss) ?_
  refine rd_nil ?_
  refine pn_seq ?_
  refine rc_cond rfl (fun hc168 => ?_) (fun hc168 => ?_)
  ·have hgo := hres
   have hc168' := hc168
   try simp only [qa1, qa2, qa3, qa4, qa5, qa6, qa7, qa8, qa9, qaA, qaB, qaC, qaD] at hc168'
   refine rc_skip ?_
   refine pn_seq ?_
   refine rc_seq ?_
   refine rc_block ?_
   refine rc_seq ?_
   refine rc_region ?_
   obtain ⟨v169, e169, r169⟩ := api_Program.g_States r0
   refine rd_op (ov_faddr rfl e169) ?_
   refine rd_op (ov_load rfl (TR.cnt (tSl api_ParserState.t) r169) (TR.agg (tSl api_ParserState.t) r169)) ?_
   refine rd_op (ov_move rfl) ?_
   obtain ⟨v170, e170, r170⟩ := sl_idx (i := x8_) r169 (by first | omega | (have hk := tck (by assumption) (by assumption); omega) | (have hk := rtck (by assumption) (by assumption); omega) | (have hk := eck (by assumption) (by assumption) (by assumption); omega) | (have hk := tv (by assumption) (by assumption); omega) | (have hk := rtv (by assumption) (by assumption); omega)) (by first | omega | (have hk := tck (by assumption) (by assumption); omega) | (have hk := rtck (by assumption) (by assumption); omega) | (have hk := eck (by assumption) (by assumption) (by assumption); omega) | (have hk := tv (by assumption) (by assumption); omega) | (have hk := rtv (by assumption) (by assumption); omega))
   refine rd_op (ov_iaddr rfl rfl e170) ?_
   refine rd_op (ov_faddr rfl (api_ParserState.g_Name r170)) ?_
   refine rd_op (ov_load rfl rfl rfl) ?_
   refine rd_op (ov_bi rfl (str_len Try.underlying9)) ?_
   refine rd_op (ov_bin rfl rfl i_gtr) ?_
   refine rd_op (ov_move rfl) ?_
   refine rd_cut (d := 168) (v := vb ((decide (40 < (((ix x0.States x8_).Name).length : Int))) || (decide (8 < (((ix x0.States x8_).Extract).length : Int))))) ?_ ?_
   ·intro S Q r
    simp only [ac14_G12, List.cons_append, List.nil_append, List.append_assoc]
    cases hb171 : (decide (40 < (((ix x0.States x8_).Name).length : Int)))
    ·intro k
     have hb171' := hb171
     try simp only [qa1, qa2, qa3, qa4, qa5, qa6, qa7, qa8, qa9, qaA, qaB, qaC, qaD] at hb171'
     obtain ⟨v172, e172, r172⟩ := api_Program.g_States r0
     refine rd_yes rfl rfl (ov_faddr rfl e172) ?_
     refine rd_yes rfl rfl (ov_load rfl (TR.cnt (tSl api_ParserState.t) r172) (TR.agg (tSl api_ParserState.t) r172)) ?_
     refine rd_yes rfl rfl (ov_move rfl) ?_
     obtain ⟨v173, e173, r173⟩ := sl_idx (i := x8_) r172 (by first | omega | (have hk := tck (by assumption) (by assumption); omega) | (have hk := rtck (by assumption) (by assumption); omega) | (have hk := eck (by assumption) (by assumption) (by assumption); omega) | (have hk := tv (by assumption) (by assumption); omega) | (have hk := rtv (by assumption) (by assumption); omega)) (by first | omega | (have hk := tck (by assumption) (by assumption); omega) | (have hk := rtck (by assumption) (by assumption); omega) | (have hk := eck (by assumption) (by assumption) (by assumption); omega) | (have hk := tv (by assumption) (by assumption); omega) | (have hk := rtv (by assumption) (by assumption); omega))
     refine rd_yes rfl rfl (ov_iaddr rfl rfl e173) ?_
     obtain ⟨v174, e174, r174⟩ := api_ParserState.g_Extract r173
     refine rd_yes rfl rfl (ov_faddr rfl e174) ?_
     refine rd_yes rfl rfl (ov_load rfl (TR.cnt (tSl tI) r174) (TR.agg (tSl tI) r174)) ?_
     refine rd_yes rfl rfl (ov_bi rfl (sl_len r174 Try.underlying29 _)) ?_
     refine rd_yes rfl rfl (ov_bin rfl rfl i_gtr) ?_
     refine rd_op (v := vb (decide (8 < (((ix x0.States x8_).Extract).length : Int)))) (ov_pick rfl rfl rfl rfl) ?_
     exact rd_weak (sub_cons rfl (sub_skip rfl (sub_skip rfl (sub_skip rfl (sub_skip rfl (sub_skip rfl (sub_skip rfl (sub_skip rfl (sub_skip rfl (sub_skip rfl (sub_refl _))))))))))) k
    ·intro k
     refine rd_skip rfl rfl ?_
     refine rd_skip rfl rfl ?_
     refine rd_skip rfl rfl ?_
     refine rd_skip rfl rfl ?_
     refine rd_skip rfl rfl ?_
     refine rd_skip rfl rfl ?_
     refine rd_skip rfl rfl ?_
     refine rd_skip rfl rfl ?_
     refine rd_op (v := vb true) (ov_pick rfl rfl rfl rfl) ?_
     exact rd_weak (sub_cons rfl (sub_skip rfl (sub_skip rfl (sub_skip rfl (sub_skip rfl (sub_skip rfl (sub_skip rfl (sub_skip rfl (sub_skip rfl (sub_skip rfl (sub_refl _))))))))))) k
   refine rd_op (ov_move rfl) ?_
   refine rd_cut (d := 178) (v := vb (((decide (40 < (((ix x0.States x8_).Name).length : Int))) || (decide (8 < (((ix x0.States x8_).Extract).length : Int)))) || (decide (16 < (((ix x0.States x8_).Cases).length : Int))))) ?_ ?_
   ·intro S Q r
    simp only [ac14_G13, List.cons_append, List.nil_append, List.append_assoc]
    cases hb175 : ((decide (40 < (((ix x0.States x8_).Name).length : Int))) || (decide (8 < (((ix x0.States x8_).Extract).length : Int))))
    ·intro k
     have hb175' := hb175
     try simp only [qa1, qa2, qa3, qa4, qa5, qa6, qa7, qa8, qa9, qaA, qaB, qaC, qaD] at hb175'
     obtain ⟨v176, e176, r176⟩ := api_Program.g_States r0
     refine rd_yes rfl rfl (ov_faddr rfl e176) ?_
     refine rd_yes rfl rfl (ov_load rfl (TR.cnt (tSl api_ParserState.t) r176) (TR.agg (tSl api_ParserState.t) r176)) ?_
     refine rd_yes rfl rfl (ov_move rfl) ?_
     obtain ⟨v177, e177, r177⟩ := sl_idx (i := x8_) r176 (by first | omega | (have hk := tck (by assumption) (by assumption); omega) | (have hk := rtck (by assumption) (by assumption); omega) | (have hk := eck (by assumption) (by assumption) (by assumption); omega) | (have hk := tv (by assumption) (by assumption); omega) | (have hk := rtv (by assumption) (by assumption); omega)) (by first | omega | (have hk := tck (by assumption) (by assumption); omega) | (have hk := rtck (by assumption) (by assumption); omega) | (have hk := eck (by assumption) (by assumption) (by assumption); omega) | (have hk := tv (by assumption) (by assumption); omega) | (have hk := rtv (by assumption) (by assumption); omega))
     refine rd_yes rfl rfl (ov_iaddr rfl rfl e177) ?_
     obtain ⟨v178, e178, r178⟩ := api_ParserState.g_Cases r177
     refine rd_yes rfl rfl (ov_faddr rfl e178) ?_
     refine rd_yes rfl rfl (ov_load rfl (TR.cnt (tSl api_SelectCase.t) r178) (TR.agg (tSl api_SelectCase.t) r178)) ?_
     refine rd_yes rfl rfl (ov_bi rfl (sl_len r178 Try.underlying96 _)) ?_
     refine rd_yes rfl rfl (ov_bin rfl rfl i_gtr) ?_
     refine rd_op (v := vb (decide (16 < (((ix x0.States x8_).Cases).length : Int)))) (ov_pick rfl rfl rfl rfl) ?_
     exact rd_weak (sub_cons rfl (sub_skip rfl (sub_skip rfl (sub_skip rfl (sub_skip rfl (sub_skip rfl (sub_skip rfl (sub_skip rfl (sub_skip rfl (sub_skip rfl (sub_refl _))))))))))) k
    ·intro k
     refine rd_skip rfl rfl ?_
     refine rd_skip rfl rfl ?_
     refine rd_skip rfl rfl ?_
     refine rd_skip rfl rfl ?_
     refine rd_skip rfl rfl ?_
     refine rd_skip rfl rfl ?_
     refine rd_skip rfl rfl ?_
     refine rd_skip rfl rfl ?_
     refine rd_op (v := vb true) (ov_pick rfl rfl rfl rfl) ?_
     exact rd_weak (sub_cons rfl (sub_skip rfl (sub_skip rfl (sub_skip rfl (sub_skip rfl (sub_skip rfl (sub_skip rfl (sub_skip rfl (sub_skip rfl (sub_skip rfl (sub_refl _))))))))))) k
   refine rd_nil ?_
   refine pn_seq ?_
   refine rc_cond rfl (fun hc179 => ?_) (fun hc179 => ?_)
   ·replace hres := (ite_t hc179).symm.trans hres
    have hc179' := hc179
    try simp only [qa1, qa2, qa3, qa4, qa5, qa6, qa7, qa8, qa9, qaA, qaB, qaC, qaD] at hc179'
    refine rc_seq ?_
    refine rc_region ?_
    refine rd_op (v := vb false) (ov_move rfl) ?_
    refine rd_nil ?_
    refine pn_seq ?_
    subst hres
    exact rc_retV (.tmp rfl .nil) (deep_closed rfl) rfl
   ·replace hres := (ite_f hc179).symm.trans hres
    have hc179' := hc179
    try simp only [qa1, qa2, qa3, qa4, qa5, qa6, qa7, qa8, qa9, qaA, qaB, qaC, qaD] at hc179'
    refine rc_skip ?_
    refine pn_blk ?_
    refine pn_seq ?_
    refine rc_region ?_
    refine rd_op (ov_move rfl) ?_
    refine rd_op (ov_bin rfl rfl i_add) ?_
    refine rd_op (ov_move rfl) ?_
    refine rd_nil ?_
    refine pn_again ?_
    have hbd := sl_bound r167
    have hinc : wr (x8_ + 1) = x8_ + 1 := wr_of (by omega) (by omega)
    rw [hinc]
    refine rc_weak ?_ (ih (x8_ + 1)  (by omega) (by omega) _ (Mem.sub M0 .slnil) hres)
    exact ((sub_cons rfl (sub_cons rfl (sub_nil _))))
  ·exfalso
   try simp only [qa1, qa2, qa3, qa4, qa5, qa6, qa7, qa8, qa9, qaA, qaB, qaC, qaD] at hc168
   omega

theorem f14_ok {x0 : api_Program} {v0 : PV} (r0 : api_Program.t.R x0 v0) : FnR Try.prog 14 [v0] (vb (law17_Small x0)) := by
 obtain ⟨res, hres⟩ : ∃ res, law17_Small x0 = res := ⟨_, rfl⟩
 suffices H : RC Try.prog ac14 [] (QR Try.prog [(2, none)] (RF14 res)) (argE 0 [v0]) ⟨0, []⟩ by
  obtain ⟨r, h1, h2⟩ := fnE text14 (by simp) H
  rw [hres]
  have h2 : r = vb res := h2
  rw [← h2]; exact h1
 unfold law17_Small at hres
 unfold ac14
 refine rc_seq ?_
 refine rc_region ?_
 refine rd_op (ov_box rfl (TR.cnt api_Program.t r0)) ?_
 refine rd_op (v := vb false) (ov_move rfl) ?_
 refine rd_nil ?_
 refine pn_seq ?_
 refine rc_seq ?_
 refine rc_seq ?_
 refine rc_region ?_
 refine rd_op (ov_faddr rfl (api_Program.g_Name r0)) ?_
 refine rd_op (ov_load rfl rfl rfl) ?_
 refine rd_op (ov_bi rfl (str_len Try.underlying9)) ?_
 refine rd_op (ov_bin rfl rfl i_gtr) ?_
 refine rd_op (ov_move rfl) ?_
 refine rd_cut (d := 18) (v := vb ((decide (40 < (x0.Name.length : Int))) || (decide (12 < (x0.Headers.length : Int))))) ?_ ?_
 ·intro S Q r
  simp only [ac14_G1, List.cons_append, List.nil_append, List.append_assoc]
  cases hb101 : (decide (40 < (x0.Name.length : Int)))
  ·intro k
   have hb101' := hb101
   try simp only [qa1, qa2, qa3, qa4, qa5, qa6, qa7, qa8, qa9, qaA, qaB, qaC, qaD] at hb101'
   obtain ⟨v102, e102, r102⟩ := api_Program.g_Headers r0
   refine rd_yes rfl rfl (ov_faddr rfl e102) ?_
   refine rd_yes rfl rfl (ov_load rfl (TR.cnt (tSl api_Header.t) r102) (TR.agg (tSl api_Header.t) r102)) ?_
   refine rd_yes rfl rfl (ov_bi rfl (sl_len r102 Try.underlying22 _)) ?_
   refine rd_yes rfl rfl (ov_bin rfl rfl i_gtr) ?_
   refine rd_op (v := vb (decide (12 < (x0.Headers.length : Int)))) (ov_pick rfl rfl rfl rfl) ?_
   exact rd_weak (sub_cons rfl (sub_skip rfl (sub_skip rfl (sub_skip rfl (sub_skip rfl (sub_skip rfl (sub_refl _))))))) k
  ·intro k
   refine rd_skip rfl rfl ?_
   refine rd_skip rfl rfl ?_
   refine rd_skip rfl rfl ?_
   refine rd_skip rfl rfl ?_
   refine rd_op (v := vb true) (ov_pick rfl rfl rfl rfl) ?_
   exact rd_weak (sub_cons rfl (sub_skip rfl (sub_skip rfl (sub_skip rfl (sub_skip rfl (sub_skip rfl (sub_refl _))))))) k
 refine rd_op (ov_move rfl) ?_
 refine rd_cut (d := 24) (v := vb (((decide (40 < (x0.Name.length : Int))) || (decide (12 < (x0.Headers.length : Int)))) || (!(law17_fields x0.Metadata)))) ?_ ?_
 ·intro S Q r
  simp only [ac14_G2, List.cons_append, List.nil_append, List.append_assoc]
  cases hb103 : ((decide (40 < (x0.Name.length : Int))) || (decide (12 < (x0.Headers.length : Int))))
  ·intro k
   have hb103' := hb103
   try simp only [qa1, qa2, qa3, qa4, qa5, qa6, qa7, qa8, qa9, qaA, qaB, qaC, qaD] at hb103'
   obtain ⟨v104, e104, r104⟩ := api_Program.g_Metadata r0
   refine rd_yes rfl rfl (ov_faddr rfl e104) ?_
   refine rd_yes rfl rfl (ov_load rfl (TR.cnt (tSl api_Field.t) r104) (TR.agg (tSl api_Field.t) r104)) ?_
   have f105 := f44_ok  r104 
   refine rd_ycall rfl rfl (cv_fn rfl rfl (clL_cons (TR.clo (tSl api_Field.t) r104) clL_nil) f105) ?_
   refine rd_yes rfl rfl (ov_not rfl) ?_
   refine rd_op (v := vb (!(law17_fields x0.Metadata))) (ov_pick rfl rfl rfl rfl) ?_
   exact rd_weak (sub_cons rfl (sub_skip rfl (sub_skip rfl (sub_skip rfl (sub_skip rfl (sub_skip rfl (sub_refl _))))))) k
  ·intro k
   refine rd_skip rfl rfl ?_
   refine rd_skip rfl rfl ?_
   refine rd_skip rfl rfl ?_
   refine rd_skip rfl rfl ?_
   refine rd_op (v := vb true) (ov_pick rfl rfl rfl rfl) ?_
   exact rd_weak (sub_cons rfl (sub_skip rfl (sub_skip rfl (sub_skip rfl (sub_skip rfl (sub_skip rfl (sub_refl _))))))) k
 refine rd_op (ov_move rfl) ?_
 refine rd_cut (d := 30) (v := vb ((((decide (40 < (x0.Name.length : Int))) || (decide (12 < (x0.Headers.length : Int)))) || (!(law17_fields x0.Metadata))) || (decide (8 < (x0.Registers.length : Int))))) ?_ ?_
 ·intro S Q r
  simp only [ac14_G3, List.cons_append, List.nil_append, List.append_assoc]
  cases hb106 : (((decide (40 < (x0.Name.length : Int))) || (decide (12 < (x0.Headers.length : Int)))) || (!(law17_fields x0.Metadata)))
  ·intro k
   have hb106' := hb106
   try simp only [qa1, qa2, qa3, qa4, qa5, qa6, qa7, qa8, qa9, qaA, qaB, qaC, qaD] at hb106'
   obtain ⟨v107, e107, r107⟩ := api_Program.g_Registers r0
   refine rd_yes rfl rfl (ov_faddr rfl e107) ?_
   refine rd_yes rfl rfl (ov_load rfl (TR.cnt (tSl api_Register.t) r107) (TR.agg (tSl api_Register.t) r107)) ?_
   refine rd_yes rfl rfl (ov_bi rfl (sl_len r107 Try.underlying24 _)) ?_
   refine rd_yes rfl rfl (ov_bin rfl rfl i_gtr) ?_
   refine rd_op (v := vb (decide (8 < (x0.Registers.length : Int)))) (ov_pick rfl rfl rfl rfl) ?_
   exact rd_weak (sub_cons rfl (sub_skip rfl (sub_skip rfl (sub_skip rfl (sub_skip rfl (sub_skip rfl (sub_refl _))))))) k
  ·intro k
   refine rd_skip rfl rfl ?_
   refine rd_skip rfl rfl ?_
   refine rd_skip rfl rfl ?_
   refine rd_skip rfl rfl ?_
   refine rd_op (v := vb true) (ov_pick rfl rfl rfl rfl) ?_
   exact rd_weak (sub_cons rfl (sub_skip rfl (sub_skip rfl (sub_skip rfl (sub_skip rfl (sub_skip rfl (sub_refl _))))))) k
 refine rd_op (ov_move rfl) ?_
 refine rd_cut (d := 36) (v := vb (((((decide (40 < (x0.Name.length : Int))) || (decide (12 < (x0.Headers.length : Int)))) || (!(law17_fields x0.Metadata))) || (decide (8 < (x0.Registers.length : Int)))) || (decide (20 < (x0.Actions.length : Int))))) ?_ ?_
 ·intro S Q r
  simp only [ac14_G4, List.cons_append, List.nil_append, List.append_assoc]
  cases hb108 : ((((decide (40 < (x0.Name.length : Int))) || (decide (12 < (x0.Headers.length : Int)))) || (!(law17_fields x0.Metadata))) || (decide (8 < (x0.Registers.length : Int))))
  ·intro k
   have hb108' := hb108
   try simp only [qa1, qa2, qa3, qa4, qa5, qa6, qa7, qa8, qa9, qaA, qaB, qaC, qaD] at hb108'
   obtain ⟨v109, e109, r109⟩ := api_Program.g_Actions r0
   refine rd_yes rfl rfl (ov_faddr rfl e109) ?_
   refine rd_yes rfl rfl (ov_load rfl (TR.cnt (tSl api_Action.t) r109) (TR.agg (tSl api_Action.t) r109)) ?_
   refine rd_yes rfl rfl (ov_bi rfl (sl_len r109 Try.underlying25 _)) ?_
   refine rd_yes rfl rfl (ov_bin rfl rfl i_gtr) ?_
   refine rd_op (v := vb (decide (20 < (x0.Actions.length : Int)))) (ov_pick rfl rfl rfl rfl) ?_
   exact rd_weak (sub_cons rfl (sub_skip rfl (sub_skip rfl (sub_skip rfl (sub_skip rfl (sub_skip rfl (sub_refl _))))))) k
  ·intro k
   refine rd_skip rfl rfl ?_
   refine rd_skip rfl rfl ?_
   refine rd_skip rfl rfl ?_
   refine rd_skip rfl rfl ?_
   refine rd_op (v := vb true) (ov_pick rfl rfl rfl rfl) ?_
   exact rd_weak (sub_cons rfl (sub_skip rfl (sub_skip rfl (sub_skip rfl (sub_skip rfl (sub_skip rfl (sub_refl _))))))) k
 refine rd_op (ov_move rfl) ?_
 refine rd_cut (d := 42) (v := vb ((((((decide (40 < (x0.Name.length : Int))) || (decide (12 < (x0.Headers.length : Int)))) || (!(law17_fields x0.Metadata))) || (decide (8 < (x0.Registers.length : Int)))) || (decide (20 < (x0.Actions.length : Int)))) || (decide (16 < (x0.Tables.length : Int))))) ?_ ?_
 ·intro S Q r
  simp only [ac14_G5, List.cons_append, List.nil_append, List.append_assoc]
  cases hb110 : (((((decide (40 < (x0.Name.length : Int))) || (decide (12 < (x0.Headers.length : Int)))) || (!(law17_fields x0.Metadata))) || (decide (8 < (x0.Registers.length : Int)))) || (decide (20 < (x0.Actions.length : Int))))
  ·intro k
   have hb110' := hb110
   try simp only [qa1, qa2, qa3, qa4, qa5, qa6, qa7, qa8, qa9, qaA, qaB, qaC, qaD] at hb110'
   obtain ⟨v111, e111, r111⟩ := api_Program.g_Tables r0
   refine rd_yes rfl rfl (ov_faddr rfl e111) ?_
   refine rd_yes rfl rfl (ov_load rfl (TR.cnt (tSl api_Table.t) r111) (TR.agg (tSl api_Table.t) r111)) ?_
   refine rd_yes rfl rfl (ov_bi rfl (sl_len r111 Try.underlying26 _)) ?_
   refine rd_yes rfl rfl (ov_bin rfl rfl i_gtr) ?_
   refine rd_op (v := vb (decide (16 < (x0.Tables.length : Int)))) (ov_pick rfl rfl rfl rfl) ?_
   exact rd_weak (sub_cons rfl (sub_skip rfl (sub_skip rfl (sub_skip rfl (sub_skip rfl (sub_skip rfl (sub_refl _))))))) k
  ·intro k
   refine rd_skip rfl rfl ?_
   refine rd_skip rfl rfl ?_
   refine rd_skip rfl rfl ?_
   refine rd_skip rfl rfl ?_
   refine rd_op (v := vb true) (ov_pick rfl rfl rfl rfl) ?_
   exact rd_weak (sub_cons rfl (sub_skip rfl (sub_skip rfl (sub_skip rfl (sub_skip rfl (sub_skip rfl (sub_refl _))))))) k
 refine rd_op (ov_move rfl) ?_
 refine rd_cut (d := 48) (v := vb (((((((decide (40 < (x0.Name.length : Int))) || (decide (12 < (x0.Headers.length : Int)))) || (!(law17_fields x0.Metadata))) || (decide (8 < (x0.Registers.length : Int)))) || (decide (20 < (x0.Actions.length : Int)))) || (decide (16 < (x0.Tables.length : Int)))) || (decide (16 < (x0.States.length : Int))))) ?_ ?_
 ·intro S Q r
  simp only [ac14_G6, List.cons_append, List.nil_append, List.append_assoc]
  cases hb112 : ((((((decide (40 < (x0.Name.length : Int))) || (decide (12 < (x0.Headers.length : Int)))) || (!(law17_fields x0.Metadata))) || (decide (8 < (x0.Registers.length : Int)))) || (decide (20 < (x0.Actions.length : Int)))) || (decide (16 < (x0.Tables.length : Int))))
  ·intro k
   have hb112' := hb112
   try simp only [qa1, qa2, qa3, qa4, qa5, qa6, qa7, qa8, qa9, qaA, qaB, qaC, qaD] at hb112'
   obtain ⟨v113, e113, r113⟩ := api_Program.g_States r0
   refine rd_yes rfl rfl (ov_faddr rfl e113) ?_
   refine rd_yes rfl rfl (ov_load rfl (TR.cnt (tSl api_ParserState.t) r113) (TR.agg (tSl api_ParserState.t) r113)) ?_
   refine rd_yes rfl rfl (ov_bi rfl (sl_len r113 Try.underlying27 _)) ?_
   refine rd_yes rfl rfl (ov_bin rfl rfl i_gtr) ?_
   refine rd_op (v := vb (decide (16 < (x0.States.length : Int)))) (ov_pick rfl rfl rfl rfl) ?_
   exact rd_weak (sub_cons rfl (sub_skip rfl (sub_skip rfl (sub_skip rfl (sub_skip rfl (sub_skip rfl (sub_refl _))))))) k
  ·intro k
   refine rd_skip rfl rfl ?_
   refine rd_skip rfl rfl ?_
   refine rd_skip rfl rfl ?_
   refine rd_skip rfl rfl ?_
   refine rd_op (v := vb true) (ov_pick rfl rfl rfl rfl) ?_
   exact rd_weak (sub_cons rfl (sub_skip rfl (sub_skip rfl (sub_skip rfl (sub_skip rfl (sub_skip rfl (sub_refl _))))))) k
 refine rd_op (ov_move rfl) ?_
 refine rd_cut (d := 54) (v := vb ((((((((decide (40 < (x0.Name.length : Int))) || (decide (12 < (x0.Headers.length : Int)))) || (!(law17_fields x0.Metadata))) || (decide (8 < (x0.Registers.length : Int)))) || (decide (20 < (x0.Actions.length : Int)))) || (decide (16 < (x0.Tables.length : Int)))) || (decide (16 < (x0.States.length : Int)))) || (decide (16 < (x0.Deparser.length : Int))))) ?_ ?_
 ·intro S Q r
  simp only [ac14_G7, List.cons_append, List.nil_append, List.append_assoc]
  cases hb114 : (((((((decide (40 < (x0.Name.length : Int))) || (decide (12 < (x0.Headers.length : Int)))) || (!(law17_fields x0.Metadata))) || (decide (8 < (x0.Registers.length : Int)))) || (decide (20 < (x0.Actions.length : Int)))) || (decide (16 < (x0.Tables.length : Int)))) || (decide (16 < (x0.States.length : Int))))
  ·intro k
   have hb114' := hb114
   try simp only [qa1, qa2, qa3, qa4, qa5, qa6, qa7, qa8, qa9, qaA, qaB, qaC, qaD] at hb114'
   obtain ⟨v115, e115, r115⟩ := api_Program.g_Deparser r0
   refine rd_yes rfl rfl (ov_faddr rfl e115) ?_
   refine rd_yes rfl rfl (ov_load rfl (TR.cnt (tSl tI) r115) (TR.agg (tSl tI) r115)) ?_
   refine rd_yes rfl rfl (ov_bi rfl (sl_len r115 Try.underlying29 _)) ?_
   refine rd_yes rfl rfl (ov_bin rfl rfl i_gtr) ?_
   refine rd_op (v := vb (decide (16 < (x0.Deparser.length : Int)))) (ov_pick rfl rfl rfl rfl) ?_
   exact rd_weak (sub_cons rfl (sub_skip rfl (sub_skip rfl (sub_skip rfl (sub_skip rfl (sub_skip rfl (sub_refl _))))))) k
  ·intro k
   refine rd_skip rfl rfl ?_
   refine rd_skip rfl rfl ?_
   refine rd_skip rfl rfl ?_
   refine rd_skip rfl rfl ?_
   refine rd_op (v := vb true) (ov_pick rfl rfl rfl rfl) ?_
   exact rd_weak (sub_cons rfl (sub_skip rfl (sub_skip rfl (sub_skip rfl (sub_skip rfl (sub_skip rfl (sub_refl _))))))) k
 refine rd_nil ?_
 refine pn_seq ?_
 refine rc_cond rfl (fun hc116 => ?_) (fun hc116 => ?_)
 ·replace hres := (ite_t hc116).symm.trans hres
  have hc116' := hc116
  try simp only [qa1, qa2, qa3, qa4, qa5, qa6, qa7, qa8, qa9, qaA, qaB, qaC, qaD] at hc116'
  refine rc_seq ?_
  refine rc_region ?_
  refine rd_op (v := vb false) (ov_move rfl) ?_
  refine rd_nil ?_
  refine pn_seq ?_
  subst hres
  exact rc_retV (.tmp rfl .nil) (deep_closed rfl) rfl
 ·replace hres := (ite_f hc116).symm.trans hres
  have hc116' := hc116
  try simp only [qa1, qa2, qa3, qa4, qa5, qa6, qa7, qa8, qa9, qaA, qaB, qaC, qaD] at hc116'
  refine rc_skip ?_
  refine pn_seq ?_
  refine rc_seq ?_
  refine rc_seq ?_
  refine rc_region ?_
  refine rd_op (v := vi 0) (ov_move rfl) ?_
  refine rd_nil ?_
  refine pn_seq ?_
  refine rc_block ?_
  refine rc_weak ?_ (law17_Small_L1_ok (x0 := x0) (v0 := v0)  (r0 := r0) (hc116 := hc116) ?_ (Int.toNat ((x0.Headers.length : Int) - 0)) 0 rfl (by omega) hres)
  ·exact ((sub_cons rfl (sub_cons rfl (sub_nil _))))
  ·intro  hres
   refine px_blk ?_
   refine pn_seq ?_
   refine rc_seq ?_
   refine rc_seq ?_
   refine rc_region ?_
   refine rd_op (v := vi 0) (ov_move rfl) ?_
   refine rd_nil ?_
   refine pn_seq ?_
   refine rc_block ?_
   refine rc_weak ?_ (law17_Small_L2_ok (x0 := x0) (v0 := v0)  (r0 := r0) (hc116 := hc116) ?_ (Int.toNat ((x0.Registers.length : Int) - 0)) 0 rfl (by omega) hres)
   ·exact ((sub_cons rfl (sub_cons rfl (sub_nil _))))
   ·intro  hres
    refine px_blk ?_
    refine pn_seq ?_
    refine rc_seq ?_
    refine rc_seq ?_
    refine rc_region ?_
    refine rd_op (v := vi 0) (ov_move rfl) ?_
    refine rd_nil ?_
    refine pn_seq ?_
    refine rc_block ?_
    refine rc_weak ?_ (law17_Small_L3_ok (x0 := x0) (v0 := v0)  (r0 := r0) (hc116 := hc116) ?_ (Int.toNat ((x0.Actions.length : Int) - 0)) 0 rfl (by omega) hres)
    ·exact ((sub_cons rfl (sub_cons rfl (sub_nil _))))
    ·intro  hres
     refine px_blk ?_
     refine pn_seq ?_
     refine rc_seq ?_
     refine rc_seq ?_
     refine rc_region ?_
     refine rd_op (v := vi 0) (ov_move rfl) ?_
     refine rd_nil ?_
     refine pn_seq ?_
     refine rc_block ?_
     refine rc_weak ?_ (law17_Small_L4_ok (x0 := x0) (v0 := v0)  (r0 := r0) (hc116 := hc116) ?_ (Int.toNat ((x0.Tables.length : Int) - 0)) 0 rfl (by omega) _ (Mem.sub (Mem.nil ⟨0, []⟩) .slnil) hres)
     ·exact ((sub_cons rfl (sub_cons rfl (sub_nil _))))
     ·intro h164 M164 hres
      refine px_blk ?_
      refine pn_seq ?_
      refine rc_seq ?_
      refine rc_seq ?_
      refine rc_region ?_
      refine rd_op (v := vi 0) (ov_move rfl) ?_
      refine rd_nil ?_
      refine pn_seq ?_
      refine rc_block ?_
      refine rc_weak ?_ (law17_Small_L5_ok (x0 := x0) (v0 := v0)  (r0 := r0) (hc116 := hc116) ?_ (Int.toNat ((x0.States.length : Int) - 0)) 0 rfl (by omega) _ (Mem.sub M164 .slnil) hres)
      ·exact ((sub_cons rfl (sub_cons rfl (sub_nil _))))
      ·intro h180 M180 hres
       refine px_blk ?_
       refine pn_seq ?_
       refine rc_seq ?_
       refine rc_region ?_
       refine rd_op (v := vb true) (ov_move rfl) ?_
       refine rd_nil ?_
       refine pn_seq ?_
       subst hres
       exact rc_retV (.tmp rfl .nil) (deep_closed rfl) rfl

/-- patchbay/patchbaylaw17.SmallEnv -/
def RF27 (res : Bool) (r : PV) : Prop := r = vb res
theorem law17_SmallEnv_L1_ok {S : List Fr} {res : Bool} {x0 : api_Env} {v0 : PV} (r0 : api_Env.t.R x0 v0) (hc108 : ((((decide (20 < (x0.Valid.length : Int))) || (decide (20 < (x0.Fields.length : Int)))) || (decide (30 < (x0.Metd.length : Int)))) || (decide (300 < (x0.Payload.length : Int)))) = false) {K0 : Unit → Bool}
  (hK0 : K0 () = res → PX Try.prog 0 S (QR Try.prog [(2, none)] (RF27 res)) [] ⟨0, []⟩) :
  ∀ (m : Nat) (x3_ : Int) (hm1 : m = Int.toNat ((x0.Fields.length : Int) - x3_)) (hlo1 : 0 ≤ x3_), law17_SmallEnv_L1 x0 K0 m x3_ = res → RC Try.prog (.loop ac27_L1) S (QR Try.prog [(2, none)] (RF27 res)) [(3, vi x3_), (1, .fp v0)] ⟨0, []⟩ := by
 have hc108' := hc108
 try simp only [qa1, qa2, qa3, qa4, qa5, qa6, qa7, qa8, qa9, qaA, qaB, qaC, qaD] at hc108'
 intro m
 induction m with
 | zero =>
  intro x3_ hm1 hlo1 hres
  rw [law17_SmallEnv_L1] at hres
  refine rc_loop ?_
  unfold ac27_L1
  refine rc_seq ?_
  refine rc_seq ?_
  refine rc_region ?_
  refine rd_op (ov_move rfl) ?_
  obtain ⟨v109, e109, r109⟩ := api_Env.g_Fields r0
  refine rd_op (ov_faddr rfl e109) ?_
  refine rd_op (ov_load rfl (TR.cnt (tSl (tSl tU32)) r109) (TR.agg (tSl (tSl tU32)) r109)) ?_
  refine rd_op (ov_bi rfl (sl_len r109 Try.underlying43 _)) ?_
  refine rd_op (ov_bin rfl rfl i_lss) ?_
  refine rd_nil ?_
  refine pn_seq ?_
  refine rc_cond rfl (fun hc110 => ?_) (fun hc110 => ?_)
  ·exfalso
   try simp only [qa1, qa2, qa3, qa4, qa5, qa6, qa7, qa8, qa9, qaA, qaB, qaC, qaD] at hc110
   omega
  ·have hend := hres
   have hc110' := hc110
   try simp only [qa1, qa2, qa3, qa4, qa5, qa6, qa7, qa8, qa9, qaA, qaB, qaC, qaD] at hc110'
   refine rc_exit ?_
   refine px_seq ?_
   refine px_again ?_
   exact px_weak ((sub_nil _)) (hK0  hres)
 | succ m ih =>
  intro x3_ hm1 hlo1 hres
  rw [law17_SmallEnv_L1] at hres
  refine rc_loop ?_
  unfold ac27_L1
  refine rc_seq ?_
  refine rc_seq ?_
  refine rc_region ?_
  refine rd_op (ov_move rfl) ?_
  obtain ⟨v111, e111, r111⟩ := api_Env.g_Fields r0
  refine rd_op (ov_faddr rfl e111) ?_
  refine rd_op (ov_load rfl (TR.cnt (tSl (tSl tU32)) r111) (TR.agg (tSl (tSl tU32)) r111)) ?_
  refine rd_op (ov_bi rfl (sl_len r111 Try.underlying43 _)) ?_
  refine rd_op (ov_bin rfl rfl i_lss) ?_
  refine rd_nil ?_
  refine pn_seq ?_
  refine rc_cond rfl (fun hc112 => ?_) (fun hc112 => ?_)
  ·have hgo := hres
   have hc112' := hc112
   try simp only [qa1, qa2, qa3, qa4, qa5, qa6, qa7, qa8, qa9, qaA, qaB, qaC, qaD] at hc112'
   refine rc_skip ?_
   refine pn_seq ?_
   refine rc_seq ?_
   refine rc_block ?_
   refine rc_seq ?_
   refine rc_region ?_
   obtain ⟨v113, e113, r113⟩ := api_Env.g_Fields r0
   refine rd_op (ov_faddr rfl e113) ?_
   refine rd_op (ov_load rfl (TR.cnt (tSl (tSl tU32)) r113) (TR.agg (tSl (tSl tU32)) r113)) ?_
   refine rd_op (ov_move rfl) ?_
   obtain ⟨v114, e114, r114⟩ := sl_idx (i := x3_) r113 (by first | omega | (have hk := tck (by assumption) (by assumption); omega) | (have hk := rtck (by assumption) (by assumption); omega) | (have hk := eck (by assumption) (by assumption) (by assumption); omega) | (have hk := tv (by assumption) (by assumption); omega) | (have hk := rtv (by assumption) (by assumption); omega)) (by first | omega | (have hk := tck (by assumption) (by assumption); omega) | (have hk := rtck (by assumption) (by assumption); omega) | (have hk := eck (by assumption) (by assumption) (by assumption); omega) | (have hk := tv (by assumption) (by assumption); omega) | (have hk := rtv (by assumption) (by assumption); omega))
   refine rd_op (ov_iaddr rfl rfl e114) ?_
   refine rd_op (ov_load rfl (TR.cnt (tSl tU32) r114) (TR.agg (tSl tU32) r114)) ?_
   refine rd_op (ov_bi rfl (sl_len r114 Try.underlying44 _)) ?_
   refine rd_op (ov_bin rfl rfl i_gtr) ?_
   refine rd_nil ?_
   refine pn_seq ?_
   refine rc_cond rfl (fun hc115 => ?_) (fun hc115 => ?_)
   ·replace hres := (ite_t hc115).symm.trans hres
    have hc115' := hc115
    try simp only [qa1, qa2, qa3, qa4, qa5, qa6, qa7, qa8, qa9, qaA, qaB, qaC, qaD] at hc115'
    refine rc_seq ?_
    refine rc_region ?_
    refine rd_op (v := vb false) (ov_move rfl) ?_
    refine rd_nil ?_
    refine pn_seq ?_
    subst hres
    exact rc_retV (.tmp rfl .nil) (deep_closed rfl) rfl
   ·replace hres := (ite_f hc115).symm.trans hres
    have hc115' := hc115
    try simp only [qa1, qa2, qa3, qa4, qa5, qa6, qa7, qa8, qa9, qaA, qaB, qaC, qaD] at hc115'
    refine rc_skip ?_
    refine pn_blk ?_
    refine pn_seq ?_
    refine rc_region ?_
    refine rd_op (ov_move rfl) ?_
    refine rd_op (ov_bin rfl rfl i_add) ?_
    refine rd_op (ov_move rfl) ?_
    refine rd_nil ?_
    refine pn_again ?_
    have hbd := sl_bound r111
    have hinc : wr (x3_ + 1) = x3_ + 1 := wr_of (by omega) (by omega)
    rw [hinc]
    refine rc_weak ?_ (ih (x3_ + 1)  (by omega) (by omega) hres)
    exact ((sub_cons rfl (sub_cons rfl (sub_nil _))))
  ·exfalso
   try simp only [qa1, qa2, qa3, qa4, qa5, qa6, qa7, qa8, qa9, qaA, qaB, qaC, qaD] at hc112
   omega

theorem f27_ok {x0 : api_Env} {v0 : PV} (r0 : api_Env.t.R x0 v0) : FnR Try.prog 27 [v0] (vb (law17_SmallEnv x0)) := by
 obtain ⟨res, hres⟩ : ∃ res, law17_SmallEnv x0 = res := ⟨_, rfl⟩
 suffices H : RC Try.prog ac27 [] (QR Try.prog [(2, none)] (RF27 res)) (argE 0 [v0]) ⟨0, []⟩ by
  obtain ⟨r, h1, h2⟩ := fnE text27 (by simp) H
  rw [hres]
  have h2 : r = vb res := h2
  rw [← h2]; exact h1
 unfold law17_SmallEnv at hres
 unfold ac27
 refine rc_seq ?_
 refine rc_region ?_
 refine rd_op (ov_box rfl (TR.cnt api_Env.t r0)) ?_
 refine rd_op (v := vb false) (ov_move rfl) ?_
 refine rd_nil ?_
 refine pn_seq ?_
 refine rc_seq ?_
 refine rc_seq ?_
 refine rc_region ?_
 obtain ⟨v101, e101, r101⟩ := api_Env.g_Valid r0
 refine rd_op (ov_faddr rfl e101) ?_
 refine rd_op (ov_load rfl (TR.cnt (tSl tB) r101) (TR.agg (tSl tB) r101)) ?_
 refine rd_op (ov_bi rfl (sl_len r101 Try.underlying42 _)) ?_
 refine rd_op (ov_bin rfl rfl i_gtr) ?_
 refine rd_op (ov_move rfl) ?_
 refine rd_cut (d := 13) (v := vb ((decide (20 < (x0.Valid.length : Int))) || (decide (20 < (x0.Fields.length : Int))))) ?_ ?_
 ·intro S Q r
  simp only [ac27_G1, List.cons_append, List.nil_append, List.append_assoc]
  cases hb102 : (decide (20 < (x0.Valid.length : Int)))
  ·intro k
   have hb102' := hb102
   try simp only [qa1, qa2, qa3, qa4, qa5, qa6, qa7, qa8, qa9, qaA, qaB, qaC, qaD] at hb102'
   obtain ⟨v103, e103, r103⟩ := api_Env.g_Fields r0
   refine rd_yes rfl rfl (ov_faddr rfl e103) ?_
   refine rd_yes rfl rfl (ov_load rfl (TR.cnt (tSl (tSl tU32)) r103) (TR.agg (tSl (tSl tU32)) r103)) ?_
   refine rd_yes rfl rfl (ov_bi rfl (sl_len r103 Try.underlying43 _)) ?_
   refine rd_yes rfl rfl (ov_bin rfl rfl i_gtr) ?_
   refine rd_op (v := vb (decide (20 < (x0.Fields.length : Int)))) (ov_pick rfl rfl rfl rfl) ?_
   exact rd_weak (sub_cons rfl (sub_skip rfl (sub_skip rfl (sub_skip rfl (sub_skip rfl (sub_skip rfl (sub_refl _))))))) k
  ·intro k
   refine rd_skip rfl rfl ?_
   refine rd_skip rfl rfl ?_
   refine rd_skip rfl rfl ?_
   refine rd_skip rfl rfl ?_
   refine rd_op (v := vb true) (ov_pick rfl rfl rfl rfl) ?_
   exact rd_weak (sub_cons rfl (sub_skip rfl (sub_skip rfl (sub_skip rfl (sub_skip rfl (sub_skip rfl (sub_refl _))))))) k
 refine rd_op (ov_move rfl) ?_
 refine rd_cut (d := 19) (v := vb (((decide (20 < (x0.Valid.length : Int))) || (decide (20 < (x0.Fields.length : Int)))) || (decide (30 < (x0.Metd.length : Int))))) ?_ ?_
 ·intro S Q r
  simp only [ac27_G2, List.cons_append, List.nil_append, List.append_assoc]
  cases hb104 : ((decide (20 < (x0.Valid.length : Int))) || (decide (20 < (x0.Fields.length : Int))))
  ·intro k
   have hb104' := hb104
   try simp only [qa1, qa2, qa3, qa4, qa5, qa6, qa7, qa8, qa9, qaA, qaB, qaC, qaD] at hb104'
   obtain ⟨v105, e105, r105⟩ := api_Env.g_Meta r0
   refine rd_yes rfl rfl (ov_faddr rfl e105) ?_
   refine rd_yes rfl rfl (ov_load rfl (TR.cnt (tSl tU32) r105) (TR.agg (tSl tU32) r105)) ?_
   refine rd_yes rfl rfl (ov_bi rfl (sl_len r105 Try.underlying44 _)) ?_
   refine rd_yes rfl rfl (ov_bin rfl rfl i_gtr) ?_
   refine rd_op (v := vb (decide (30 < (x0.Metd.length : Int)))) (ov_pick rfl rfl rfl rfl) ?_
   exact rd_weak (sub_cons rfl (sub_skip rfl (sub_skip rfl (sub_skip rfl (sub_skip rfl (sub_skip rfl (sub_refl _))))))) k
  ·intro k
   refine rd_skip rfl rfl ?_
   refine rd_skip rfl rfl ?_
   refine rd_skip rfl rfl ?_
   refine rd_skip rfl rfl ?_
   refine rd_op (v := vb true) (ov_pick rfl rfl rfl rfl) ?_
   exact rd_weak (sub_cons rfl (sub_skip rfl (sub_skip rfl (sub_skip rfl (sub_skip rfl (sub_skip rfl (sub_refl _))))))) k
 refine rd_op (ov_move rfl) ?_
 refine rd_cut (d := 25) (v := vb ((((decide (20 < (x0.Valid.length : Int))) || (decide (20 < (x0.Fields.length : Int)))) || (decide (30 < (x0.Metd.length : Int)))) || (decide (300 < (x0.Payload.length : Int))))) ?_ ?_
 ·intro S Q r
  simp only [ac27_G3, List.cons_append, List.nil_append, List.append_assoc]
  cases hb106 : (((decide (20 < (x0.Valid.length : Int))) || (decide (20 < (x0.Fields.length : Int)))) || (decide (30 < (x0.Metd.length : Int))))
  ·intro k
   have hb106' := hb106
   try simp only [qa1, qa2, qa3, qa4, qa5, qa6, qa7, qa8, qa9, qaA, qaB, qaC, qaD] at hb106'
   obtain ⟨v107, e107, r107⟩ := api_Env.g_Payload r0
   refine rd_yes rfl rfl (ov_faddr rfl e107) ?_
   refine rd_yes rfl rfl (ov_load rfl (TR.cnt (tSl tU8) r107) (TR.agg (tSl tU8) r107)) ?_
   refine rd_yes rfl rfl (ov_bi rfl (sl_len r107 Try.underlying45 _)) ?_
   refine rd_yes rfl rfl (ov_bin rfl rfl i_gtr) ?_
   refine rd_op (v := vb (decide (300 < (x0.Payload.length : Int)))) (ov_pick rfl rfl rfl rfl) ?_
   exact rd_weak (sub_cons rfl (sub_skip rfl (sub_skip rfl (sub_skip rfl (sub_skip rfl (sub_skip rfl (sub_refl _))))))) k
  ·intro k
   refine rd_skip rfl rfl ?_
   refine rd_skip rfl rfl ?_
   refine rd_skip rfl rfl ?_
   refine rd_skip rfl rfl ?_
   refine rd_op (v := vb true) (ov_pick rfl rfl rfl rfl) ?_
   exact rd_weak (sub_cons rfl (sub_skip rfl (sub_skip rfl (sub_skip rfl (sub_skip rfl (sub_skip rfl (sub_refl _))))))) k
 refine rd_nil ?_
 refine pn_seq ?_
 refine rc_cond rfl (fun hc108 => ?_) (fun hc108 => ?_)
 ·replace hres := (ite_t hc108).symm.trans hres
  have hc108' := hc108
  try simp only [qa1, qa2, qa3, qa4, qa5, qa6, qa7, qa8, qa9, qaA, qaB, qaC, qaD] at hc108'
  refine rc_seq ?_
  refine rc_region ?_
  refine rd_op (v := vb false) (ov_move rfl) ?_
  refine rd_nil ?_
  refine pn_seq ?_
  subst hres
  exact rc_retV (.tmp rfl .nil) (deep_closed rfl) rfl
 ·replace hres := (ite_f hc108).symm.trans hres
  have hc108' := hc108
  try simp only [qa1, qa2, qa3, qa4, qa5, qa6, qa7, qa8, qa9, qaA, qaB, qaC, qaD] at hc108'
  refine rc_skip ?_
  refine pn_seq ?_
  refine rc_seq ?_
  refine rc_seq ?_
  refine rc_region ?_
  refine rd_op (v := vi 0) (ov_move rfl) ?_
  refine rd_nil ?_
  refine pn_seq ?_
  refine rc_block ?_
  refine rc_weak ?_ (law17_SmallEnv_L1_ok (x0 := x0) (v0 := v0)  (r0 := r0) (hc108 := hc108) ?_ (Int.toNat ((x0.Fields.length : Int) - 0)) 0 rfl (by omega) hres)
  ·exact ((sub_cons rfl (sub_cons rfl (sub_nil _))))
  ·intro  hres
   refine px_blk ?_
   refine pn_seq ?_
   refine rc_seq ?_
   refine rc_region ?_
   refine rd_op (v := vb true) (ov_move rfl) ?_
   refine rd_nil ?_
   refine pn_seq ?_
   subst hres
   exact rc_retV (.tmp rfl .nil) (deep_closed rfl) rfl

/-- patchbay/lexer.isLetter -/
def RF71 (res : Bool) (r : PV) : Prop := r = vb res
theorem f71_ok {x0 : UInt8} : FnR Try.prog 71 [vu8 x0] (vb (lexer_isLetter x0)) := by
 obtain ⟨res, hres⟩ : ∃ res, lexer_isLetter x0 = res := ⟨_, rfl⟩
 suffices H : RC Try.prog ac71 [] (QR Try.prog [(2, none)] (RF71 res)) (argE 0 [vu8 x0]) ⟨0, []⟩ by
  obtain ⟨r, h1, h2⟩ := fnE text71 (by simp) H
  rw [hres]
  have h2 : r = vb res := h2
  rw [← h2]; exact h1
 unfold lexer_isLetter at hres
 unfold ac71
 refine rc_seq ?_
 refine rc_region ?_
 refine rd_op (v := vb false) (ov_move rfl) ?_
 refine rd_nil ?_
 refine pn_seq ?_
 refine rc_seq ?_
 refine rc_region ?_
 refine rd_op (ov_move rfl) ?_
 refine rd_op (ov_bin (a := vu8 x0) (b := vu8 (97 : UInt8)) rfl rfl y_geq) ?_
 refine rd_op (ov_move rfl) ?_
 refine rd_cut (d := 8) (v := vb ((decide ((97 : UInt8) ≤ x0)) && (decide (x0 ≤ (122 : UInt8))))) ?_ ?_
 ·intro S Q r
  simp only [ac71_G1, List.cons_append, List.nil_append, List.append_assoc]
  cases hb101 : (decide ((97 : UInt8) ≤ x0))
  ·intro k
   refine rd_skip rfl rfl ?_
   refine rd_skip rfl rfl ?_
   refine rd_op (v := vb false) (ov_pick rfl rfl rfl rfl) ?_
   exact rd_weak (sub_cons rfl (sub_skip rfl (sub_skip rfl (sub_skip rfl (sub_refl _))))) k
  ·intro k
   have hb101' := hb101
   try simp only [qa1, qa2, qa3, qa4, qa5, qa6, qa7, qa8, qa9, qaA, qaB, qaC, qaD] at hb101'
   refine rd_yes rfl rfl (ov_move rfl) ?_
   refine rd_yes rfl rfl (ov_bin (a := vu8 x0) (b := vu8 (122 : UInt8)) rfl rfl y_leq) ?_
   refine rd_op (v := vb (decide (x0 ≤ (122 : UInt8)))) (ov_pick rfl rfl rfl rfl) ?_
   exact rd_weak (sub_cons rfl (sub_skip rfl (sub_skip rfl (sub_skip rfl (sub_refl _))))) k
 refine rd_op (ov_move rfl) ?_
 refine rd_cut (d := 16) (v := vb (((decide ((97 : UInt8) ≤ x0)) && (decide (x0 ≤ (122 : UInt8)))) || ((decide ((65 : UInt8) ≤ x0)) && (decide (x0 ≤ (90 : UInt8)))))) ?_ ?_
 ·intro S Q r
  simp only [ac71_G2, List.cons_append, List.nil_append, List.append_assoc]
  cases hb102 : ((decide ((97 : UInt8) ≤ x0)) && (decide (x0 ≤ (122 : UInt8))))
  ·intro k
   have hb102' := hb102
   try simp only [qa1, qa2, qa3, qa4, qa5, qa6, qa7, qa8, qa9, qaA, qaB, qaC, qaD] at hb102'
   refine rd_yes rfl rfl (ov_move rfl) ?_
   refine rd_yes rfl rfl (ov_bin (a := vu8 x0) (b := vu8 (65 : UInt8)) rfl rfl y_geq) ?_
   refine rd_yes rfl rfl (ov_move rfl) ?_
   refine rd_cut (d := 15) (v := vb ((decide ((65 : UInt8) ≤ x0)) && (decide (x0 ≤ (90 : UInt8))))) ?_ ?_
   ·intro S Q r
    simp only [ac71_G3, List.cons_append, List.nil_append, List.append_assoc]
    cases hb103 : (decide ((65 : UInt8) ≤ x0))
    ·intro k
     refine rd_skip rfl rfl ?_
     refine rd_skip rfl rfl ?_
     refine rd_yes (v := vb false) rfl rfl (ov_pick rfl rfl rfl rfl) ?_
     exact rd_weak (sub_cons rfl (sub_skip rfl (sub_skip rfl (sub_skip rfl (sub_refl _))))) k
    ·intro k
     have hb103' := hb103
     try simp only [qa1, qa2, qa3, qa4, qa5, qa6, qa7, qa8, qa9, qaA, qaB, qaC, qaD] at hb103'
     refine rd_yes rfl rfl (ov_move rfl) ?_
     refine rd_yes rfl rfl (ov_bin (a := vu8 x0) (b := vu8 (90 : UInt8)) rfl rfl y_leq) ?_
     refine rd_yes (v := vb (decide (x0 ≤ (90 : UInt8)))) rfl rfl (ov_pick rfl rfl rfl rfl) ?_
     exact rd_weak (sub_cons rfl (sub_skip rfl (sub_skip rfl (sub_skip rfl (sub_refl _))))) k
   refine rd_op (v := vb ((decide ((65 : UInt8) ≤ x0)) && (decide (x0 ≤ (90 : UInt8))))) (ov_pick rfl rfl rfl rfl) ?_
   exact rd_weak (sub_cons rfl (sub_skip rfl (sub_skip rfl (sub_skip rfl (sub_skip rfl (sub_skip rfl (sub_refl _))))))) k
  ·intro k
   simp only [ac71_G3, List.cons_append, List.nil_append, List.append_assoc]
   refine rd_skip rfl rfl ?_
   refine rd_skip rfl rfl ?_
   refine rd_skip rfl rfl ?_
   refine rd_skipU rfl ?_
   refine rd_skipU rfl ?_
   refine rd_skip rfl rfl ?_
   refine rd_op (v := vb true) (ov_pick rfl rfl rfl rfl) ?_
   exact rd_weak (sub_cons rfl (sub_skip rfl (sub_skip rfl (sub_skip rfl (sub_skip rfl (sub_skip rfl (sub_skip rfl (sub_skip rfl (sub_refl _))))))))) k
 refine rd_op (ov_move rfl) ?_
 refine rd_nil ?_
 refine pn_seq ?_
 subst hres
 exact rc_retV (.tmp rfl .nil) (deep_closed rfl) rfl

/-- patchbay/lexer.extent -/
def RF72 (res : Int) (r : PV) : Prop := r = vi res
theorem lexer_extent_L1_ok {S : List Fr} {res : Int} {x0 : List UInt8} {x1 : UInt8 → Bool} {v1 : PV} (r1 : (tFn Try.prog tU8 tB).R x1 v1) (hs : x0.length ≤ 1000) {K0 : Int → Int}
  (hK0 : ∀ (x5_ : Int), K0 x5_ = res → PX Try.prog 0 S (QR Try.prog [(4, none)] (RF72 res)) [(5, vi x5_)] ⟨0, []⟩) :
  ∀ (m : Nat) (x5_ : Int) (hm1 : m = Int.toNat ((x0.length : Int) - x5_)) (hlo1 : 0 ≤ x5_), lexer_extent_L1 x0 x1 K0 m x5_ = res → RC Try.prog (.loop ac72_L1) S (QR Try.prog [(4, none)] (RF72 res)) [(5, vi x5_), (1, v1), (0, vs x0)] ⟨0, []⟩ := by
 intro m
 induction m with
 | zero =>
  intro x5_ hm1 hlo1 hres
  rw [lexer_extent_L1] at hres
  refine rc_loop ?_
  unfold ac72_L1
  refine rc_seq ?_
  refine rc_seq ?_
  refine rc_region ?_
  refine rd_op (ov_move rfl) ?_
  refine rd_op (ov_move rfl) ?_
  refine rd_op (ov_bi rfl (str_len Try.underlying9)) ?_
  refine rd_op (ov_bin rfl rfl i_lss) ?_
  refine rd_op (ov_move rfl) ?_
  refine rd_cut (d := 16) (v := vb ((decide (x5_ < (x0.length : Int))) && (x1 (ix x0 x5_)))) ?_ ?_
  ·intro S Q r
   simp only [ac72_G1, List.cons_append, List.nil_append, List.append_assoc]
   cases hb101 : (decide (x5_ < (x0.length : Int)))
   ·intro k
    refine rd_skip rfl rfl ?_
    refine rd_skip rfl rfl ?_
    refine rd_skip rfl rfl ?_
    refine rd_skip rfl rfl ?_
    refine rd_skip rfl rfl ?_
    refine rd_op (v := vb false) (ov_pick rfl rfl rfl rfl) ?_
    exact rd_weak (sub_cons rfl (sub_skip rfl (sub_skip rfl (sub_skip rfl (sub_skip rfl (sub_skip rfl (sub_skip rfl (sub_refl _)))))))) k
   ·intro k
    have hb101' := hb101
    try simp only [qa1, qa2, qa3, qa4, qa5, qa6, qa7, qa8, qa9, qaA, qaB, qaC, qaD] at hb101'
    refine rd_yes rfl rfl (ov_move rfl) ?_
    refine rd_yes rfl rfl (ov_move rfl) ?_
    refine rd_yes rfl rfl (ov_move rfl) ?_
    refine rd_yes rfl rfl (ov_indexS rfl rfl (str_idx Try.underlying9 (by first | omega | (have hk := tck (by assumption) (by assumption); omega) | (have hk := rtck (by assumption) (by assumption); omega) | (have hk := eck (by assumption) (by assumption) (by assumption); omega) | (have hk := tv (by assumption) (by assumption); omega) | (have hk := rtv (by assumption) (by assumption); omega)) (by first | omega | (have hk := tck (by assumption) (by assumption); omega) | (have hk := rtck (by assumption) (by assumption); omega) | (have hk := eck (by assumption) (by assumption) (by assumption); omega) | (have hk := tv (by assumption) (by assumption); omega) | (have hk := rtv (by assumption) (by assumption); omega)))) ?_
    refine rd_ycallF rfl rfl rfl r1 rfl (show tU8.R (ix x0 x5_) (vu8 (ix x0 x5_)) from rfl) (fun v102 r102 => ?_)
    have r102 : v102 = vb (x1 (ix x0 x5_)) := r102; subst r102
    refine rd_op (v := vb (x1 (ix x0 x5_))) (ov_pick rfl rfl rfl rfl) ?_
    exact rd_weak (sub_cons rfl (sub_skip rfl (sub_skip rfl (sub_skip rfl (sub_skip rfl (sub_skip rfl (sub_skip rfl (sub_refl _)))))))) k
  refine rd_nil ?_
  refine pn_seq ?_
  refine rc_cond rfl (fun hc103 => ?_) (fun hc103 => ?_)
  ·exfalso
   try simp only [qa1, qa2, qa3, qa4, qa5, qa6, qa7, qa8, qa9, qaA, qaB, qaC, qaD] at hc103
   omega
  ·have hend := hres
   have hc103' := hc103
   try simp only [qa1, qa2, qa3, qa4, qa5, qa6, qa7, qa8, qa9, qaA, qaB, qaC, qaD] at hc103'
   refine rc_exit ?_
   refine px_seq ?_
   refine px_again ?_
   exact px_weak ((sub_cons rfl (sub_nil _))) (hK0 x5_ hres)
 | succ m ih =>
  intro x5_ hm1 hlo1 hres
  rw [lexer_extent_L1] at hres
  refine rc_loop ?_
  unfold ac72_L1
  refine rc_seq ?_
  refine rc_seq ?_
  refine rc_region ?_
  refine rd_op (ov_move rfl) ?_
  refine rd_op (ov_move rfl) ?_
  refine rd_op (ov_bi rfl (str_len Try.underlying9)) ?_
  refine rd_op (ov_bin rfl rfl i_lss) ?_
  refine rd_op (ov_move rfl) ?_
  refine rd_cut (d := 16) (v := vb ((decide (x5_ < (x0.length : Int))) && (x1 (ix x0 x5_)))) ?_ ?_
  ·intro S Q r
   simp only [ac72_G1, List.cons_append, List.nil_append, List.append_assoc]
   cases hb104 : (decide (x5_ < (x0.length : Int)))
   ·intro k
    refine rd_skip rfl rfl ?_
    refine rd_skip rfl rfl ?_
    refine rd_skip rfl rfl ?_
    refine rd_skip rfl rfl ?_
    refine rd_skip rfl rfl ?_
    refine rd_op (v := vb false) (ov_pick rfl rfl rfl rfl) ?_
    exact rd_weak (sub_cons rfl (sub_skip rfl (sub_skip rfl (sub_skip rfl (sub_skip rfl (sub_skip rfl (sub_skip rfl (sub_refl _)))))))) k
   ·intro k
    have hb104' := hb104
    try simp only [qa1, qa2, qa3, qa4, qa5, qa6, qa7, qa8, qa9, qaA, qaB, qaC, qaD] at hb104'
    refine rd_yes rfl rfl (ov_move rfl) ?_
    refine rd_yes rfl rfl (ov_move rfl) ?_
    refine rd_yes rfl rfl (ov_move rfl) ?_
    refine rd_yes rfl rfl (ov_indexS rfl rfl (str_idx Try.underlying9 (by first | omega | (have hk := tck (by assumption) (by assumption); omega) | (have hk := rtck (by assumption) (by assumption); omega) | (have hk := eck (by assumption) (by assumption) (by assumption); omega) | (have hk := tv (by assumption) (by assumption); omega) | (have hk := rtv (by assumption) (by assumption); omega)) (by first | omega | (have hk := tck (by assumption) (by assumption); omega) | (have hk := rtck (by assumption) (by assumption); omega) | (have hk := eck (by assumption) (by assumption) (by assumption); omega) | (have hk := tv (by assumption) (by assumption); omega) | (have hk := rtv (by assumption) (by assumption); omega)))) ?_
    refine rd_ycallF rfl rfl rfl r1 rfl (show tU8.R (ix x0 x5_) (vu8 (ix x0 x5_)) from rfl) (fun v105 r105 => ?_)
    have r105 : v105 = vb (x1 (ix x0 x5_)) := r105; subst r105
    refine rd_op (v := vb (x1 (ix x0 x5_))) (ov_pick rfl rfl rfl rfl) ?_
    exact rd_weak (sub_cons rfl (sub_skip rfl (sub_skip rfl (sub_skip rfl (sub_skip rfl (sub_skip rfl (sub_skip rfl (sub_refl _)))))))) k
  refine rd_nil ?_
  refine pn_seq ?_
  refine rc_cond rfl (fun hc106 => ?_) (fun hc106 => ?_)
  ·replace hres := (ite_t hc106).symm.trans hres
   have hc106' := hc106
   try simp only [qa1, qa2, qa3, qa4, qa5, qa6, qa7, qa8, qa9, qaA, qaB, qaC, qaD] at hc106'
   refine rc_skip ?_
   refine pn_seq ?_
   refine rc_block ?_
   refine rc_region ?_
   refine rd_op (ov_move rfl) ?_
   refine rd_op (ov_bin rfl rfl i_add) ?_
   refine rd_op (ov_move rfl) ?_
   refine rd_nil ?_
   refine pn_blk ?_
   refine pn_again ?_
   have hinc : wr (x5_ + 1) = x5_ + 1 := wr_of (by omega) (by omega)
   rw [hinc]
   refine rc_weak ?_ (ih (x5_ + 1)  (by omega) (by omega) hres)
   exact ((sub_cons rfl (sub_cons rfl (sub_cons rfl (sub_nil _)))))
  ·replace hres := (ite_f hc106).symm.trans hres
   have hc106' := hc106
   try simp only [qa1, qa2, qa3, qa4, qa5, qa6, qa7, qa8, qa9, qaA, qaB, qaC, qaD] at hc106'
   refine rc_exit ?_
   refine px_seq ?_
   refine px_again ?_
   exact px_weak ((sub_cons rfl (sub_nil _))) (hK0 x5_ hres)

theorem f72_ok {x0 : List UInt8} {x1 : UInt8 → Bool} {v1 : PV} (r1 : (tFn Try.prog tU8 tB).R x1 v1) (hs : x0.length ≤ 1000) : FnR Try.prog 72 [vs x0, v1] (vi (lexer_extent x0 x1)) := by
 obtain ⟨res, hres⟩ : ∃ res, lexer_extent x0 x1 = res := ⟨_, rfl⟩
 suffices H : RC Try.prog ac72 [] (QR Try.prog [(4, none)] (RF72 res)) (argE 0 [vs x0, v1]) ⟨0, []⟩ by
  obtain ⟨r, h1, h2⟩ := fnE text72 (by simp) H
  rw [hres]
  have h2 : r = vi res := h2
  rw [← h2]; exact h1
 unfold lexer_extent at hres
 unfold ac72
 refine rc_seq ?_
 refine rc_region ?_
 refine rd_op (v := vi 0) (ov_move rfl) ?_
 refine rd_nil ?_
 refine pn_seq ?_
 refine rc_seq ?_
 refine rc_region ?_
 refine rd_op (v := vi 0) (ov_move rfl) ?_
 refine rd_nil ?_
 refine pn_seq ?_
 refine rc_seq ?_
 refine rc_block ?_
 refine rc_weak ?_ (lexer_extent_L1_ok (x0 := x0) (x1 := x1) (v1 := v1)  (r1 := r1) (hs := hs) ?_ (Int.toNat ((x0.length : Int) - 0)) 0 rfl (by omega) hres)
 ·exact ((sub_cons rfl (sub_cons rfl (sub_cons rfl (sub_nil _)))))
 ·intro x5_107 hres
  refine px_blk ?_
  refine pn_seq ?_
  refine rc_seq ?_
  refine rc_region ?_
  refine rd_op (ov_move rfl) ?_
  refine rd_op (ov_move rfl) ?_
  refine rd_nil ?_
  refine pn_seq ?_
  subst hres
  exact rc_retV (.tmp rfl .nil) (deep_closed rfl) rfl

end Go.Proofs.Ytklfdkbemkommaa
