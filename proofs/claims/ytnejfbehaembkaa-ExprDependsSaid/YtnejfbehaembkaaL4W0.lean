/-
 The code of each function does what its plain program says.
-/
import Derived.Test.YtnejfbehaembkaaKDef
import Derived.Test.YtnejfbehaembkaaL4Text
import Derived.Test.YtnejfbehaembkaaPbV
import Derived.Test.YtnejfbehaembkaaKPureSemFit
import Derived.Test.YtnejfbehaembkaaKCoFoFc
import Derived.Test.YtnejfbehaembkaaKLy
import Derived.Test.YtnejfbehaembkaaKCoFoFc
import Derived.Test.YtnejfbehaembkaaKRgEd
import Derived.Test.YtnejfbehaembkaaL4Run
set_option linter.unusedVariables false
set_option linter.unusedSimpArgs false
set_option maxRecDepth 100000
namespace Go.Proofs.Ytnejfbehaembkaa
open Go Go.Pb Go.RowKit
theorem qa1 (a b : Bool) : ((a || b) = true) = (a = true ∨ b = true) := Bool.or_eq_true a b
theorem qa2 (a b : Bool) : (a || b) = false ↔ a = false ∧ b = false := Bool.or_eq_false_iff
theorem qa3 (a b : Bool) : ((a && b) = true) = (a = true ∧ b = true) := Bool.and_eq_true a b
theorem qa4 (a b : Bool) : (a && b) = false ↔ (a = true → b = false) := Bool.and_eq_false_imp
theorem qa5 {p : Prop} [Decidable p] : (decide p = true) = p := decide_eq_true_eq
theorem qa6 {p : Prop} [Decidable p] : decide p = false ↔ ¬p := decide_eq_false_iff_not
theorem qa7 {a : Bool} : ((!a) = true) = (a = false) := Bool.not_eq_true' a
theorem qa8 {a : Bool} : ((!a) = false) = (a = true) := Bool.not_eq_false' a
theorem qa9 (a : Bool) : (¬a = true) = (a = false) := Bool.not_eq_true a
theorem qaA (a : Bool) : (¬a = false) = (a = true) := Bool.not_eq_false a
theorem qaB : (!true) = false := Bool.not_true
theorem qaC : (!false) = true := Bool.not_false
theorem qaD {α : Type} (a b : α) : (a ≠ b) = ¬a = b := ne_eq a b
theorem f5_ok : FnR Try.prog 5 [] (vb law13_awake) := run5

/-- cmp.isNaN[int] -/
def RF43 (res : Bool) (r : PV) : Prop := r = vb res
theorem f43_ok {x0 : Int} : FnR Try.prog 43 [vi x0] (vb (cmp_isNaN_int x0)) := by
 obtain ⟨res, hres⟩ : ∃ res, cmp_isNaN_int x0 = res := ⟨_, rfl⟩
 suffices H : RC Try.prog ac43 [] (QR Try.prog [(2, none)] (RF43 res)) (argE 0 [vi x0]) ⟨0, []⟩ by
  obtain ⟨r, h1, h2⟩ := fnE text43 (by simp) H
  rw [hres]
  have h2 : r = vb res := h2
  rw [← h2]; exact h1
 unfold cmp_isNaN_int at hres
 unfold ac43
 refine rc_seq ?_
 refine rc_region ?_
 refine rd_op (v := vb false) (ov_move rfl) ?_
 refine rd_nil ?_
 refine pn_seq ?_
 refine rc_seq ?_
 refine rc_region ?_
 refine rd_op (ov_move rfl) ?_
 refine rd_op (ov_move rfl) ?_
 refine rd_op (ov_bin rfl rfl i_neq) ?_
 refine rd_op (ov_move rfl) ?_
 refine rd_nil ?_
 refine pn_seq ?_
 subst hres
 exact rc_retV (.tmp rfl .nil) (deep_closed rfl) rfl

/-- cmp.Compare[int] -/
def RF28 (res : Int) (r : PV) : Prop := r = vi res
theorem f28_ok {x0 : Int} {x1 : Int} : FnR Try.prog 28 [vi x0, vi x1] (vi (cmp_Compare_int x0 x1)) := by
 obtain ⟨res, hres⟩ : ∃ res, cmp_Compare_int x0 x1 = res := ⟨_, rfl⟩
 suffices H : RC Try.prog ac28 [] (QR Try.prog [(4, none)] (RF28 res)) (argE 0 [vi x0, vi x1]) ⟨0, []⟩ by
  obtain ⟨r, h1, h2⟩ := fnE text28 (by simp) H
  rw [hres]
  have h2 : r = vi res := h2
  rw [← h2]; exact h1
 unfold cmp_Compare_int at hres
 unfold ac28
 refine rc_seq ?_
 refine rc_region ?_
 refine rd_op (v := vi 0) (ov_move rfl) ?_
 refine rd_nil ?_
 refine pn_seq ?_
 refine rc_seq ?_
 refine rc_region ?_
 refine rd_op (ov_move rfl) ?_
 obtain ⟨y101, hw101, hres⟩ := let_ex hres
 have f101 := f43_ok (x0 := x0)  
 rw [hw101] at f101
 refine rd_call (cv_fn rfl rfl (clL_cons rfl clL_nil) f101) ?_
 refine rd_op (ov_move rfl) ?_
 refine rd_nil ?_
 refine pn_seq ?_
 refine rc_seq ?_
 refine rc_region ?_
 refine rd_op (ov_move rfl) ?_
 obtain ⟨y102, hw102, hres⟩ := let_ex hres
 have f102 := f43_ok (x0 := x1)  
 rw [hw102] at f102
 refine rd_call (cv_fn rfl rfl (clL_cons rfl clL_nil) f102) ?_
 refine rd_op (ov_move rfl) ?_
 refine rd_nil ?_
 refine pn_seq ?_
 refine rc_seq ?_
 refine rc_seq ?_
 refine rc_region ?_
 refine rd_op (ov_move rfl) ?_
 refine rd_nil ?_
 refine pn_seq ?_
 refine rc_cond rfl (fun hc103 => ?_) (fun hc103 => ?_)
 ·replace hres := (ite_t hc103).symm.trans hres
  have hc103' := hc103
  try simp only [qa1, qa2, qa3, qa4, qa5, qa6, qa7, qa8, qa9, qaA, qaB, qaC, qaD] at hc103'
  refine rc_seq ?_
  refine rc_seq ?_
  refine rc_region ?_
  refine rd_op (ov_move rfl) ?_
  refine rd_nil ?_
  refine pn_seq ?_
  refine rc_cond rfl (fun hc104 => ?_) (fun hc104 => ?_)
  ·replace hres := (ite_t hc104).symm.trans hres
   have hc104' := hc104
   try simp only [qa1, qa2, qa3, qa4, qa5, qa6, qa7, qa8, qa9, qaA, qaB, qaC, qaD] at hc104'
   refine rc_seq ?_
   refine rc_region ?_
   refine rd_op (v := vi 0) (ov_move rfl) ?_
   refine rd_nil ?_
   refine pn_seq ?_
   subst hres
   exact rc_retV (.tmp rfl .nil) (deep_closed rfl) rfl
  ·replace hres := (ite_f hc104).symm.trans hres
   have hc104' := hc104
   try simp only [qa1, qa2, qa3, qa4, qa5, qa6, qa7, qa8, qa9, qaA, qaB, qaC, qaD] at hc104'
   refine rc_skip ?_
   refine pn_seq ?_
   refine rc_seq ?_
   refine rc_region ?_
   refine rd_op (v := vi (-1)) (ov_move rfl) ?_
   refine rd_nil ?_
   refine pn_seq ?_
   subst hres
   exact rc_retV (.tmp rfl .nil) (deep_closed rfl) rfl
 ·replace hres := (ite_f hc103).symm.trans hres
  have hc103' := hc103
  try simp only [qa1, qa2, qa3, qa4, qa5, qa6, qa7, qa8, qa9, qaA, qaB, qaC, qaD] at hc103'
  refine rc_skip ?_
  refine pn_seq ?_
  refine rc_seq ?_
  refine rc_seq ?_
  refine rc_region ?_
  refine rd_op (ov_move rfl) ?_
  refine rd_nil ?_
  refine pn_seq ?_
  refine rc_cond rfl (fun hc105 => ?_) (fun hc105 => ?_)
  ·replace hres := (ite_t hc105).symm.trans hres
   have hc105' := hc105
   try simp only [qa1, qa2, qa3, qa4, qa5, qa6, qa7, qa8, qa9, qaA, qaB, qaC, qaD] at hc105'
   refine rc_seq ?_
   refine rc_region ?_
   refine rd_op (v := vi 1) (ov_move rfl) ?_
   refine rd_nil ?_
   refine pn_seq ?_
   subst hres
   exact rc_retV (.tmp rfl .nil) (deep_closed rfl) rfl
  ·replace hres := (ite_f hc105).symm.trans hres
   have hc105' := hc105
   try simp only [qa1, qa2, qa3, qa4, qa5, qa6, qa7, qa8, qa9, qaA, qaB, qaC, qaD] at hc105'
   refine rc_skip ?_
   refine pn_seq ?_
   refine rc_seq ?_
   refine rc_seq ?_
   refine rc_region ?_
   refine rd_op (ov_move rfl) ?_
   refine rd_op (ov_move rfl) ?_
   refine rd_op (ov_bin rfl rfl i_lss) ?_
   refine rd_nil ?_
   refine pn_seq ?_
   refine rc_cond rfl (fun hc106 => ?_) (fun hc106 => ?_)
   ·replace hres := (ite_t hc106).symm.trans hres
    have hc106' := hc106
    try simp only [qa1, qa2, qa3, qa4, qa5, qa6, qa7, qa8, qa9, qaA, qaB, qaC, qaD] at hc106'
    refine rc_seq ?_
    refine rc_region ?_
    refine rd_op (v := vi (-1)) (ov_move rfl) ?_
    refine rd_nil ?_
    refine pn_seq ?_
    subst hres
    exact rc_retV (.tmp rfl .nil) (deep_closed rfl) rfl
   ·replace hres := (ite_f hc106).symm.trans hres
    have hc106' := hc106
    try simp only [qa1, qa2, qa3, qa4, qa5, qa6, qa7, qa8, qa9, qaA, qaB, qaC, qaD] at hc106'
    refine rc_skip ?_
    refine pn_seq ?_
    refine rc_seq ?_
    refine rc_seq ?_
    refine rc_region ?_
    refine rd_op (ov_move rfl) ?_
    refine rd_op (ov_move rfl) ?_
    refine rd_op (ov_bin rfl rfl i_gtr) ?_
    refine rd_nil ?_
    refine pn_seq ?_
    refine rc_cond rfl (fun hc107 => ?_) (fun hc107 => ?_)
    ·replace hres := (ite_t hc107).symm.trans hres
     have hc107' := hc107
     try simp only [qa1, qa2, qa3, qa4, qa5, qa6, qa7, qa8, qa9, qaA, qaB, qaC, qaD] at hc107'
     refine rc_seq ?_
     refine rc_region ?_
     refine rd_op (v := vi 1) (ov_move rfl) ?_
     refine rd_nil ?_
     refine pn_seq ?_
     subst hres
     exact rc_retV (.tmp rfl .nil) (deep_closed rfl) rfl
    ·replace hres := (ite_f hc107).symm.trans hres
     have hc107' := hc107
     try simp only [qa1, qa2, qa3, qa4, qa5, qa6, qa7, qa8, qa9, qaA, qaB, qaC, qaD] at hc107'
     refine rc_skip ?_
     refine pn_seq ?_
     refine rc_seq ?_
     refine rc_region ?_
     refine rd_op (v := vi 0) (ov_move rfl) ?_
     refine rd_nil ?_
     refine pn_seq ?_
     subst hres
     exact rc_retV (.tmp rfl .nil) (deep_closed rfl) rfl

/-- cmp.Or[int] -/
def RF27 (res : Int) (r : PV) : Prop := r = vi res
theorem cmp_Or_int_L1_ok {S : List Fr} {res : Int} {x0 : List Int} {v0 : PV} (r0 : (tSl tI).R x0 v0) {K0 : Unit → Int}
  (hK0 : K0 () = res → PX Try.prog 0 S (QR Try.prog [(2, none)] (RF27 res)) [(3, vi 0)] ⟨0, []⟩) :
  ∀ (m : Nat) (x8_ : Int) (hm1 : m = Int.toNat ((x0.length : Int) - x8_)) (hlo1 : 0 ≤ x8_), cmp_Or_int_L1 x0 K0 m x8_ = res → RC Try.prog (.loop ac27_L1) S (QR Try.prog [(2, none)] (RF27 res)) [(8, vi x8_), (7, vi (x0.length : Int)), (6, v0), (3, vi 0)] ⟨0, []⟩ := by
 intro m
 induction m with
 | zero =>
  intro x8_ hm1 hlo1 hres
  rw [cmp_Or_int_L1] at hres
  refine rc_loop ?_
  unfold ac27_L1
  refine rc_seq ?_
  refine rc_region ?_
  refine rd_op (ov_bin rfl rfl i_lss) ?_
  refine rd_nil ?_
  refine pn_seq ?_
  refine rc_seq ?_
  refine rc_cond rfl (fun hc101 => ?_) (fun hc101 => ?_)
  ·exfalso
   try simp only [qa1, qa2, qa3, qa4, qa5, qa6, qa7, qa8, qa9, qaA, qaB, qaC, qaD] at hc101
   omega
  ·have hend := hres
   have hc101' := hc101
   try simp only [qa1, qa2, qa3, qa4, qa5, qa6, qa7, qa8, qa9, qaA, qaB, qaC, qaD] at hc101'
   refine rc_exit ?_
   refine px_seq ?_
   refine px_again ?_
   exact px_weak ((sub_cons rfl (sub_nil _))) (hK0  hres)
 | succ m ih =>
  intro x8_ hm1 hlo1 hres
  rw [cmp_Or_int_L1] at hres
  refine rc_loop ?_
  unfold ac27_L1
  refine rc_seq ?_
  refine rc_region ?_
  refine rd_op (ov_bin rfl rfl i_lss) ?_
  refine rd_nil ?_
  refine pn_seq ?_
  refine rc_seq ?_
  refine rc_cond rfl (fun hc102 => ?_) (fun hc102 => ?_)
  ·have hgo := hres
   have hc102' := hc102
   try simp only [qa1, qa2, qa3, qa4, qa5, qa6, qa7, qa8, qa9, qaA, qaB, qaC, qaD] at hc102'
   refine rc_skip ?_
   refine pn_seq ?_
   refine rc_seq ?_
   refine rc_block ?_
   refine rc_seq ?_
   refine rc_region ?_
   refine rd_op (ov_iaddr rfl rfl (slI r0 (by omega) (by omega))) ?_
   refine rd_op (ov_load rfl rfl rfl) ?_
   refine rd_op (ov_move rfl) ?_
   refine rd_nil ?_
   refine pn_seq ?_
   refine rc_seq ?_
   refine rc_region ?_
   refine rd_op (ov_move rfl) ?_
   refine rd_op (ov_move rfl) ?_
   refine rd_op (ov_bin rfl rfl i_neq) ?_
   refine rd_nil ?_
   refine pn_seq ?_
   refine rc_cond rfl (fun hc103 => ?_) (fun hc103 => ?_)
   ·replace hres := (ite_t hc103).symm.trans hres
    have hc103' := hc103
    try simp only [qa1, qa2, qa3, qa4, qa5, qa6, qa7, qa8, qa9, qaA, qaB, qaC, qaD] at hc103'
    refine rc_seq ?_
    refine rc_region ?_
    refine rd_op (ov_move rfl) ?_
    refine rd_op (ov_move rfl) ?_
    refine rd_nil ?_
    refine pn_seq ?_
    subst hres
    exact rc_retV (.tmp rfl .nil) (deep_closed rfl) rfl
   ·replace hres := (ite_f hc103).symm.trans hres
    have hc103' := hc103
    try simp only [qa1, qa2, qa3, qa4, qa5, qa6, qa7, qa8, qa9, qaA, qaB, qaC, qaD] at hc103'
    refine rc_skip ?_
    refine pn_blk ?_
    refine pn_seq ?_
    refine rc_region ?_
    refine rd_op (ov_bin rfl rfl i_add) ?_
    refine rd_op (ov_move rfl) ?_
    refine rd_nil ?_
    refine pn_again ?_
    have hbd := sl_bound r0
    have hinc : wr (x8_ + 1) = x8_ + 1 := wr_of (by omega) (by omega)
    rw [hinc]
    refine rc_weak ?_ (ih (x8_ + 1)  (by omega) (by omega) hres)
    exact ((sub_cons rfl (sub_cons rfl (sub_cons rfl (sub_cons rfl (sub_nil _))))))
  ·exfalso
   try simp only [qa1, qa2, qa3, qa4, qa5, qa6, qa7, qa8, qa9, qaA, qaB, qaC, qaD] at hc102
   omega

theorem f27_ok {x0 : List Int} {v0 : PV} (r0 : (tSl tI).R x0 v0) : FnR Try.prog 27 [v0] (vi (cmp_Or_int x0)) := by
 obtain ⟨res, hres⟩ : ∃ res, cmp_Or_int x0 = res := ⟨_, rfl⟩
 suffices H : RC Try.prog ac27 [] (QR Try.prog [(2, none)] (RF27 res)) (argE 0 [v0]) ⟨0, []⟩ by
  obtain ⟨r, h1, h2⟩ := fnE text27 (by simp) H
  rw [hres]
  have h2 : r = vi res := h2
  rw [← h2]; exact h1
 unfold cmp_Or_int at hres
 unfold ac27
 refine rc_seq ?_
 refine rc_region ?_
 refine rd_op (v := vi 0) (ov_move rfl) ?_
 refine rd_nil ?_
 refine pn_seq ?_
 refine rc_seq ?_
 refine rc_region ?_
 refine rd_op (v := vi 0) (ov_move rfl) ?_
 refine rd_nil ?_
 refine pn_seq ?_
 refine rc_seq ?_
 refine rc_seq ?_
 refine rc_region ?_
 refine rd_op (ov_move rfl) ?_
 refine rd_op (ov_bi rfl (sl_len r0 Try.underlying29 _)) ?_
 refine rd_op (v := vi 0) (ov_move rfl) ?_
 refine rd_nil ?_
 refine pn_seq ?_
 refine rc_block ?_
 refine rc_weak ?_ (cmp_Or_int_L1_ok (x0 := x0) (v0 := v0)  (r0 := r0) ?_ (Int.toNat ((x0.length : Int) - 0)) 0 rfl (by omega) hres)
 ·exact ((sub_cons rfl (sub_cons rfl (sub_cons rfl (sub_cons rfl (sub_nil _))))))
 ·intro  hres
  refine px_blk ?_
  refine pn_seq ?_
  refine rc_seq ?_
  refine rc_region ?_
  refine rd_op (ov_move rfl) ?_
  refine rd_op (ov_move rfl) ?_
  refine rd_nil ?_
  refine pn_seq ?_
  subst hres
  exact rc_retV (.tmp rfl .nil) (deep_closed rfl) rfl

/-- patchbay/expr.Fields$1 -/
def RF26 (res : Int) (r : PV) : Prop := r = vi res
theorem f26_ok {x0 : api_FieldRef} {x1 : api_FieldRef} {v0 : PV} {v1 : PV} (r0 : api_FieldRef.t.R x0 v0) (r1 : api_FieldRef.t.R x1 v1) : FnR Try.prog 26 [v0, v1] (vi (expr_Fields_1 x0 x1)) := by
 obtain ⟨res, hres⟩ : ∃ res, expr_Fields_1 x0 x1 = res := ⟨_, rfl⟩
 suffices H : RC Try.prog ac26 [] (QR Try.prog [(4, none)] (RF26 res)) (argE 0 [v0, v1]) ⟨0, []⟩ by
  obtain ⟨r, h1, h2⟩ := fnE text26 (by simp) H
  rw [hres]
  have h2 : r = vi res := h2
  rw [← h2]; exact h1
 unfold expr_Fields_1 at hres
 unfold ac26
 refine rc_seq ?_
 refine rc_region ?_
 refine rd_op (ov_box rfl (TR.cnt api_FieldRef.t r0)) ?_
 refine rd_op (ov_box rfl (TR.cnt api_FieldRef.t r1)) ?_
 refine rd_op (v := vi 0) (ov_move rfl) ?_
 refine rd_nil ?_
 refine pn_seq ?_
 refine rc_seq ?_
 refine rc_region ?_
 refine rd_op (ov_faddr rfl (api_FieldRef.g_Header r0)) ?_
 refine rd_op (ov_load rfl rfl rfl) ?_
 refine rd_op (ov_faddr rfl (api_FieldRef.g_Header r1)) ?_
 refine rd_op (ov_load rfl rfl rfl) ?_
 obtain ⟨y101, hw101, hres⟩ := let_ex hres
 have f101 := f28_ok (x0 := x0.Header) (x1 := x1.Header)  
 rw [hw101] at f101
 refine rd_call (cv_fn rfl rfl (clL_cons rfl (clL_cons rfl clL_nil)) f101) ?_
 refine rd_op (ov_faddr rfl (api_FieldRef.g_Field r0)) ?_
 refine rd_op (ov_load rfl rfl rfl) ?_
 refine rd_op (ov_faddr rfl (api_FieldRef.g_Field r1)) ?_
 refine rd_op (ov_load rfl rfl rfl) ?_
 obtain ⟨y102, hw102, hres⟩ := let_ex hres
 have f102 := f28_ok (x0 := x0.Field) (x1 := x1.Field)  
 rw [hw102] at f102
 refine rd_call (cv_fn rfl rfl (clL_cons rfl (clL_cons rfl clL_nil)) f102) ?_
 refine rd_op (v := .fs true [vi y101, vi y102]) (ov_bslice rfl (all_cons rfl (all_cons rfl all_nil))) ?_
 have r103 : (tSl tI).R ([y101, y102] : List Int) (.fs true [vi y101, vi y102]) := sl_fs ⟨rfl, ⟨rfl, trivial⟩⟩ (by simp)
 obtain ⟨y104, hw104, hres⟩ := let_ex hres
 have f104 := f27_ok  r103 
 rw [hw104] at f104
 refine rd_call (cv_fn rfl rfl (clL_cons (TR.clo (tSl tI) r103) clL_nil) f104) ?_
 refine rd_op (ov_move rfl) ?_
 refine rd_nil ?_
 refine pn_seq ?_
 subst hres
 exact rc_retV (.tmp rfl .nil) (deep_closed rfl) rfl

def RF25026 (a0 : PV) (R_ : List Ent) (res : List api_FieldRef) (r : PV) (h : Heap) : Prop := ∃ es : List PV, Mem h (⟨a0, 60, 2, es⟩ :: R_) ∧ All2 api_FieldRef.t.R res es ∧ res.length ≤ 4611686018427387904 ∧ Wri a0 es ∧ r = .tup []
theorem f25026_ok {x0 : List api_FieldRef} {a0 : PV} {es0 : List PV} {R_ : List Ent} {h_ : Heap} (q : All2 api_FieldRef.t.R x0 es0) (ne : isL a0 = true) (hl : x0.length ≤ 4611686018427387904) (wi : Wri a0 es0) (M : Mem h_ (⟨a0, 60, 2, es0⟩ :: R_)) (hb : x0.length ≤ 1000000) : ∃ r h2_, FnX Try.prog 25 [a0, .fn (.func 26) [] []] h_ r h2_ ∧ RF25026 a0 R_ (sortFR x0) r h2_ := by
 obtain ⟨r, h2, X, es', M2, q2, w2, hr⟩ := sort_fn_X (t := api_FieldRef.t) (mk := frmk) (enc := frenc) (cf := expr_Fields_1) text25.enters (fun x v h => h) (fun x => rfl) (fun x => rfl) (fun x => rfl) (fun x u hu => by simp [frenc] at hu; rcases hu with rfl | rfl <;> rfl) (fun x y => f26_ok rfl rfl) (fun blk off cap d w hc hH hb hs => Go.Proofs.Try.sortF_calls frenc (fun x => rfl) (fun x u hu => by simp [frenc] at hu; rcases hu with rfl | rfl <;> rfl) expr_Fields_1 fr_swo fr_total 26 text26.enters blk off cap d w hc hH hb hs) (fun p cap w => Go.Proofs.Try.sortF_none p cap _ w) q ne hb wi M
 exact ⟨r, h2, X, es', M2, q2, by rw [sortFR, List.length_mergeSort]; exact hl, w2, hr⟩

theorem f29_ok {x0 : List api_FieldRef} {a0 : PV} {es0 : List PV} {R_ : List Ent} {h_ : Heap} (q : All2 api_FieldRef.t.R x0 es0) (ne : isL a0 = true) (hl : x0.length ≤ 4611686018427387904) (wi : Wri a0 es0) (M : Mem h_ (⟨a0, 60, 2, es0⟩ :: R_)) : ∃ r h2_, FnX Try.prog 29 [a0] h_ r h2_ ∧ RF29 R_ (slices_Compact__api_FieldRef_api_FieldRef_ x0) r h2_ := f29_cpt q ne hl wi M

/-- patchbay/expr.Fields -/
def RF12 (res : (List api_FieldRef)) (r : PV) : Prop := (tSl api_FieldRef.t).R res r
theorem expr_Fields_L1_ok {S : List Fr} {res : (List api_FieldRef)} {x0 : List api_ExprNode} {v0 : PV} (r0 : (tSl api_ExprNode.t).R x0 v0) (hb : x0.length ≤ 1000) {K0 : (List api_FieldRef) → (List api_FieldRef)}
  (hK0 : ∀ (zE102 : List api_FieldRef) (esE102 : List PV) (aE102 : PV) (qE102 : All2 api_FieldRef.t.R zE102 esE102) (nE102 : isL aE102 = true) (wrE102 : Wri aE102 esE102) (hlE102 : zE102.length ≤ 4611686018427387904) (po0 : zE102.length ≤ 1000) (h : Heap) (M0 : Mem h [⟨aE102, 60, 2, esE102⟩]), K0 zE102 = res → PX Try.prog 0 S (QR Try.prog [(2, none)] (RF12 res)) [(3, aE102)] h) :
  ∀ (m : Nat) (x8_ : Int) (zE102 : List api_FieldRef) (esE102 : List PV) (aE102 : PV) (qE102 : All2 api_FieldRef.t.R zE102 esE102) (nE102 : isL aE102 = true) (wrE102 : Wri aE102 esE102) (hlE102 : zE102.length ≤ 4611686018427387904) (hm1 : m = Int.toNat ((x0.length : Int) - x8_)) (hlo1 : 0 ≤ x8_) (iv1_0 : (zE102.length : Int) ≤ x8_) (iv1_1 : x8_ ≤ (x0.length : Int)) (h : Heap) (M0 : Mem h [⟨aE102, 60, 2, esE102⟩]), expr_Fields_L1 x0 K0 m x8_ zE102 = res → RC Try.prog (.loop ac12_L1) S (QR Try.prog [(2, none)] (RF12 res)) [(8, vi x8_), (7, vi (x0.length : Int)), (6, v0), (3, aE102)] h := by
 have hb' := hb
 try simp only [qa1, qa2, qa3, qa4, qa5, qa6, qa7, qa8, qa9, qaA, qaB, qaC, qaD] at hb'
 intro m
 induction m with
 | zero =>
  intro x8_ zE102 esE102 aE102 qE102 nE102 wrE102 hlE102 hm1 hlo1 iv1_0 iv1_1 h M0 hres
  rw [expr_Fields_L1] at hres
  refine rc_loop ?_
  unfold ac12_L1
  refine rc_seq ?_
  refine rc_region ?_
  refine rd_op (ov_bin rfl rfl i_lss) ?_
  refine rd_nil ?_
  refine pn_seq ?_
  refine rc_seq ?_
  refine rc_cond rfl (fun hc103 => ?_) (fun hc103 => ?_)
  ·exfalso
   try simp only [qa1, qa2, qa3, qa4, qa5, qa6, qa7, qa8, qa9, qaA, qaB, qaC, qaD] at hc103
   omega
  ·have hend := hres
   have hc103' := hc103
   try simp only [qa1, qa2, qa3, qa4, qa5, qa6, qa7, qa8, qa9, qaA, qaB, qaC, qaD] at hc103'
   refine rc_exit ?_
   refine px_seq ?_
   refine px_again ?_
   exact px_weak ((sub_cons rfl (sub_nil _))) (hK0 zE102 esE102 aE102 qE102 nE102 wrE102 hlE102 (by omega) _ (Mem.sub M0 (.cons_cons _ .slnil)) hres)
 | succ m ih =>
  intro x8_ zE102 esE102 aE102 qE102 nE102 wrE102 hlE102 hm1 hlo1 iv1_0 iv1_1 h M0 hres
  rw [expr_Fields_L1] at hres
  refine rc_loop ?_
  unfold ac12_L1
  refine rc_seq ?_
  refine rc_region ?_
  refine rd_op (ov_bin rfl rfl i_lss) ?_
  refine rd_nil ?_
  refine pn_seq ?_
  refine rc_seq ?_
  refine rc_cond rfl (fun hc104 => ?_) (fun hc104 => ?_)
  ·have hgo := hres
   have hc104' := hc104
   try simp only [qa1, qa2, qa3, qa4, qa5, qa6, qa7, qa8, qa9, qaA, qaB, qaC, qaD] at hc104'
   refine rc_skip ?_
   refine pn_seq ?_
   refine rc_seq ?_
   refine rc_block ?_
   refine rc_seq ?_
   refine rc_region ?_
   obtain ⟨v105, e105, r105⟩ := sl_idx (i := x8_) r0 (by omega) (by omega)
   refine rd_op (ov_iaddr rfl rfl e105) ?_
   refine rd_op (ov_load rfl (TR.cnt api_ExprNode.t r105) (TR.agg api_ExprNode.t r105)) ?_
   refine rd_allocO (x := .agg [vi 0, vi 0, vi 0]) M0 rfl rfl (fun i106 w106 h106 M106 => ?_)
   refine rd_storeO (k := 0) (v := v105) M106 rfl rfl rfl (TR.cnt api_ExprNode.t r105) (fun h108 M108 => ?_)
   replace M108 : Mem h108 [⟨.op i106 w106 0, 69, 3, [v105]⟩, ⟨aE102, 60, 2, esE102⟩] := M108
   refine rd_nil ?_
   refine pn_seq ?_
   refine rc_seq ?_
   refine rc_region ?_
   refine rd_op (ov_faddrO rfl) ?_
   refine rd_op (ov_loadf (k := 0) M108 rfl rfl (api_ExprNode.g_Op r105)) ?_
   refine rd_op (ov_bin rfl rfl i_eql) ?_
   refine rd_nil ?_
   refine pn_seq ?_
   refine rc_cond rfl (fun hc109 => ?_) (fun hc109 => ?_)
   ·replace hres := (ite_t hc109).symm.trans hres
    have hc109' := hc109
    try simp only [qa1, qa2, qa3, qa4, qa5, qa6, qa7, qa8, qa9, qaA, qaB, qaC, qaD] at hc109'
    refine rc_region ?_
    refine rd_op (ov_move rfl) ?_
    refine rd_op (ov_faddrO rfl) ?_
    refine rd_op (ov_loadf (k := 0) M108 rfl rfl (api_ExprNode.g_N r105)) ?_
    refine rd_op (ov_faddrO rfl) ?_
    refine rd_op (ov_loadf (k := 0) M108 rfl rfl (api_ExprNode.g_W r105)) ?_
    refine rd_op (v := .agg [vi ((ix x0 x8_).N), vi ((ix x0 x8_).W)]) (ov_build (cs := [vi ((ix x0 x8_).N), vi ((ix x0 x8_).W)]) rfl rfl) ?_
    refine rd_op (v := .fs true [.agg [vi ((ix x0 x8_).N), vi ((ix x0 x8_).W)]]) (ov_bslice rfl (all_cons rfl all_nil)) ?_
    have r110 : (tSl api_FieldRef.t).R ([({ Header := (ix x0 x8_).N, Field := (ix x0 x8_).W } : api_FieldRef)] : List api_FieldRef) (.fs true [.agg [vi ((ix x0 x8_).N), vi ((ix x0 x8_).W)]]) := sl_fs ⟨rfl, trivial⟩ (by simp)
    obtain ⟨nw111, sr111, ar111⟩ := src_of (t := api_FieldRef.t) (h := h108) r110
    have f111 : fits (esE102.length + nw111.length) 16 = true := by rw [All2.length_eq qE102, All2.length_eq ar111]; (try simp only [List.length_cons, List.length_nil]); exact fits_of (by first | omega | (simp only [List.length_append, List.length_cons, List.length_nil]; omega)) (by first | omega | (simp only [List.length_append, List.length_cons, List.length_nil]; omega))
    refine rd_appW (k := 1) (es := esE102) (news := nw111) M108 rfl rfl rfl nE102 wrE102 sr111 f111 (fun a111 h111 n111 wr111 M111 => ?_)
    have q111 : All2 api_FieldRef.t.R (zE102 ++ ([({ Header := (ix x0 x8_).N, Field := (ix x0 x8_).W } : api_FieldRef)] : List api_FieldRef)) (esE102 ++ nw111) := All2.app qE102 ar111
    have hl111 : (zE102 ++ ([({ Header := (ix x0 x8_).N, Field := (ix x0 x8_).W } : api_FieldRef)] : List api_FieldRef)).length ≤ 4611686018427387904 := by rw [← All2.length_eq q111, List.length_append]; exact fits_len f111
    refine rd_op (ov_move rfl) ?_
    refine rd_nil ?_
    refine pn_blk ?_
    refine pn_seq ?_
    refine rc_region ?_
    refine rd_op (ov_bin rfl rfl i_add) ?_
    refine rd_op (ov_move rfl) ?_
    refine rd_nil ?_
    refine pn_again ?_
    have hbd := sl_bound r0
    have hinc : wr (x8_ + 1) = x8_ + 1 := wr_of (by omega) (by omega)
    rw [hinc]
    refine rc_weak ?_ (ih (x8_ + 1) (zE102 ++ ([({ Header := (ix x0 x8_).N, Field := (ix x0 x8_).W } : api_FieldRef)] : List api_FieldRef)) (esE102 ++ nw111) a111 q111 n111 wr111 hl111 (by omega) (by omega) (by first | omega | (simp only [List.length_append, List.length_cons, List.length_nil]; omega)) (by first | omega | (simp only [List.length_append, List.length_cons, List.length_nil]; omega)) _ (Mem.sub M111 (.cons _ (.cons_cons _ .slnil))) hres)
    exact ((sub_cons rfl (sub_cons rfl (sub_cons rfl (sub_cons rfl (sub_nil _))))))
   ·replace hres := (ite_f hc109).symm.trans hres
    have hc109' := hc109
    try simp only [qa1, qa2, qa3, qa4, qa5, qa6, qa7, qa8, qa9, qaA, qaB, qaC, qaD] at hc109'
    refine rc_skip ?_
    refine pn_blk ?_
    refine pn_seq ?_
    refine rc_region ?_
    refine rd_op (ov_bin rfl rfl i_add) ?_
    refine rd_op (ov_move rfl) ?_
    refine rd_nil ?_
    refine pn_again ?_
    have hbd := sl_bound r0
    have hinc : wr (x8_ + 1) = x8_ + 1 := wr_of (by omega) (by omega)
    rw [hinc]
    refine rc_weak ?_ (ih (x8_ + 1) zE102 esE102 aE102 qE102 nE102 wrE102 hlE102 (by omega) (by omega) (by first | omega | (simp only [List.length_append, List.length_cons, List.length_nil]; omega)) (by first | omega | (simp only [List.length_append, List.length_cons, List.length_nil]; omega)) _ (Mem.sub M108 (.cons _ (.cons_cons _ .slnil))) hres)
    exact ((sub_cons rfl (sub_cons rfl (sub_cons rfl (sub_cons rfl (sub_nil _))))))
  ·exfalso
   try simp only [qa1, qa2, qa3, qa4, qa5, qa6, qa7, qa8, qa9, qaA, qaB, qaC, qaD] at hc104
   omega

theorem f12_ok {x0 : List api_ExprNode} {v0 : PV} (r0 : (tSl api_ExprNode.t).R x0 v0) (hb : x0.length ≤ 1000) : ∃ r, FnR Try.prog 12 [v0] r ∧ (tSl api_FieldRef.t).R (expr_Fields x0) r := by
 obtain ⟨res, hres⟩ : ∃ res, expr_Fields x0 = res := ⟨_, rfl⟩
 suffices H : RC Try.prog ac12 [] (QR Try.prog [(2, none)] (RF12 res)) (argE 0 [v0]) ⟨0, []⟩ by
  rw [hres]
  exact fnE text12 (by simp) H
 unfold expr_Fields at hres
 unfold ac12
 refine rc_seq ?_
 refine rc_region ?_
 refine rd_op (v := nilS) (ov_move rfl) ?_
 refine rd_nil ?_
 refine pn_seq ?_
 refine rc_seq ?_
 refine rc_region ?_
 refine rd_op (v := nilS) (ov_move rfl) ?_
 refine rd_nil ?_
 refine pn_seq ?_
 refine rc_seq ?_
 refine rc_seq ?_
 refine rc_region ?_
 refine rd_op (ov_move rfl) ?_
 refine rd_op (ov_bi rfl (sl_len r0 Try.underlying32 _)) ?_
 refine rd_op (v := vi 0) (ov_move rfl) ?_
 refine rd_nil ?_
 refine pn_seq ?_
 refine rc_block ?_
 have M101 := mem_acc (sz := 2) (es := []) (Mem.nil ⟨0, []⟩) 60 (.inl ⟨none, rfl, rfl⟩) (by simp)
 refine rc_weak ?_ (expr_Fields_L1_ok (x0 := x0) (v0 := v0)  (r0 := r0) (hb := hb) ?_ (Int.toNat ((x0.length : Int) - 0)) 0 ([] : List api_FieldRef) ([] : List PV) nilS (show All2 api_FieldRef.t.R ([] : List api_FieldRef) [] from trivial) rfl (.inl rfl) (by first | decide | simp) rfl (by omega) (by first | omega | simp) (by first | omega | simp) _ (Mem.sub M101 (.cons_cons _ .slnil)) hres)
 ·exact ((sub_cons rfl (sub_cons rfl (sub_cons rfl (sub_cons rfl (sub_nil _))))))
 ·intro zE102_112 es112E102 a112E102 q112E102 n112E102 wr112E102 hl112E102 po112_0 h112 M112 hres
  refine px_blk ?_
  refine pn_seq ?_
  refine rc_seq ?_
  refine rc_regionS ?_
  refine rs_step ?_
  refine rd_op (ov_move rfl) ?_
  refine rs_back ?_
  have M113 : Mem h112 [⟨a112E102, 60, 2, es112E102⟩] := (Mem.front (k := 0) M112 rfl)
  obtain ⟨y113, hw113, hres⟩ := let_ex hres
  obtain ⟨vr113, h114, hX113, hZ113⟩ := f25026_ok (x0 := zE102_112) q112E102 n112E102 hl112E102 wr112E102 M113 (by first | assumption | omega | (rw [wr_of (by omega) (by omega)]; omega) | (simp; done) | (simp only [law13_join, List.length_append, List.length_nil, List.length_cons]; omega) | (have hk := (chk_ok (by assumption) (by assumption)).1; omega) | (simp only [List.length_cons, List.length_nil]; omega) | (simp only [List.length_append]; have hk := (chk_ok (by assumption) (by assumption)).1; omega) | (simp only [law13_join, List.length_append, List.length_nil]; have hk := (chk_ok (by assumption) (by assumption)).1; omega))
  rw [hw113] at hZ113
  obtain ⟨es113_p0, M114, qs113_p0, hs113_p0, wi113_p0, hr113⟩ := hZ113
  replace hr113 := hr113.symm; subst hr113
  refine rs_callXc rfl rfl hX113 ?_
  refine rs_nil ?_
  refine pn_seq ?_
  refine rc_seq ?_
  refine rc_regionS ?_
  refine rs_step ?_
  refine rd_op (ov_move rfl) ?_
  refine rs_back ?_
  have M115 : Mem h114 [⟨a112E102, 60, 2, es113_p0⟩] := (Mem.front (k := 0) M114 rfl)
  obtain ⟨y115, hw115, hres⟩ := let_ex hres
  obtain ⟨vr115, h117, hX115, hZ115⟩ := f29_ok (x0 := y113) qs113_p0 n112E102 hs113_p0 wi113_p0 M115 
  rw [hw115] at hZ115
  obtain ⟨as115_0, es115_0, M117, qs115_0, ns115_0, hs115_0, wi115_0, hr115⟩ := hZ115
  replace hr115 := hr115.symm; subst hr115
  refine rs_callXc rfl rfl hX115 ?_
  refine rs_step ?_
  refine rd_op (ov_move rfl) ?_
  refine rs_back ?_
  refine rs_nil ?_
  refine pn_seq ?_
  obtain ⟨v118, d118, r118⟩ := own_sl (P := Try.prog) (k := 0) (t := api_FieldRef.t) M117 rfl ns115_0 qs115_0 (Nat.le_trans hs115_0 (by decide))
  subst hres
  exact rc_retV (.tmp rfl .nil) d118 r118

def RF31 (a0 : PV) (R_ : List Ent) (res : List Int) (r : PV) (h : Heap) : Prop := ∃ es : List PV, Mem h (⟨a0, 3, 1, es⟩ :: R_) ∧ All2 tI.R res es ∧ res.length ≤ 4611686018427387904 ∧ Wri a0 es ∧ r = .tup []
theorem f31_ok {x0 : List Int} {a0 : PV} {es0 : List PV} {R_ : List Ent} {h_ : Heap} (q : All2 tI.R x0 es0) (ne : isL a0 = true) (hl : x0.length ≤ 4611686018427387904) (wi : Wri a0 es0) (M : Mem h_ (⟨a0, 3, 1, es0⟩ :: R_)) (hb : x0.length ≤ 1000000) : ∃ r h2_, FnX Try.prog 31 [a0] h_ r h2_ ∧ RF31 a0 R_ (slices_Sort__int_int_ x0) r h2_ := by
 obtain ⟨r, h2, X, es', M2, q2, w2, hr⟩ := sort_int_X text31.enters Try.sortI_calls Try.sortI_none q ne hb wi M
 exact ⟨r, h2, X, es', M2, q2, by rw [slices_Sort__int_int_, List.length_mergeSort]; exact hl, w2, hr⟩

theorem f32_ok {x0 : List Int} {a0 : PV} {es0 : List PV} {R_ : List Ent} {h_ : Heap} (q : All2 tI.R x0 es0) (ne : isL a0 = true) (hl : x0.length ≤ 4611686018427387904) (wi : Wri a0 es0) (M : Mem h_ (⟨a0, 3, 1, es0⟩ :: R_)) : ∃ r h2_, FnX Try.prog 32 [a0] h_ r h2_ ∧ RF32 R_ (slices_Compact__int_int_ x0) r h2_ := f32_cpt q ne hl wi M

/-- patchbay/expr.Headers -/
def RF15 (res : (List Int)) (r : PV) : Prop := (tSl tI).R res r
theorem expr_Headers_L1_ok {S : List Fr} {res : (List Int)} {x0 : List api_ExprNode} {v0 : PV} (r0 : (tSl api_ExprNode.t).R x0 v0) (hb : x0.length ≤ 1000) {K0 : (List Int) → (List Int)}
  (hK0 : ∀ (zE102 : List Int) (esE102 : List PV) (aE102 : PV) (qE102 : All2 tI.R zE102 esE102) (nE102 : isL aE102 = true) (wrE102 : Wri aE102 esE102) (hlE102 : zE102.length ≤ 4611686018427387904) (po0 : zE102.length ≤ 1000) (h : Heap) (M0 : Mem h [⟨aE102, 3, 1, esE102⟩]), K0 zE102 = res → PX Try.prog 0 S (QR Try.prog [(2, none)] (RF15 res)) [(3, aE102)] h) :
  ∀ (m : Nat) (x8_ : Int) (zE102 : List Int) (esE102 : List PV) (aE102 : PV) (qE102 : All2 tI.R zE102 esE102) (nE102 : isL aE102 = true) (wrE102 : Wri aE102 esE102) (hlE102 : zE102.length ≤ 4611686018427387904) (hm1 : m = Int.toNat ((x0.length : Int) - x8_)) (hlo1 : 0 ≤ x8_) (iv1_0 : (zE102.length : Int) ≤ x8_) (iv1_1 : x8_ ≤ (x0.length : Int)) (h : Heap) (M0 : Mem h [⟨aE102, 3, 1, esE102⟩]), expr_Headers_L1 x0 K0 m x8_ zE102 = res → RC Try.prog (.loop ac15_L1) S (QR Try.prog [(2, none)] (RF15 res)) [(8, vi x8_), (7, vi (x0.length : Int)), (6, v0), (3, aE102)] h := by
 have hb' := hb
 try simp only [qa1, qa2, qa3, qa4, qa5, qa6, qa7, qa8, qa9, qaA, qaB, qaC, qaD] at hb'
 intro m
 induction m with
 | zero =>
  intro x8_ zE102 esE102 aE102 qE102 nE102 wrE102 hlE102 hm1 hlo1 iv1_0 iv1_1 h M0 hres
  rw [expr_Headers_L1] at hres
  refine rc_loop ?_
  unfold ac15_L1
  refine rc_seq ?_
  refine rc_region ?_
  refine rd_op (ov_bin rfl rfl i_lss) ?_
  refine rd_nil ?_
  refine pn_seq ?_
  refine rc_seq ?_
  refine rc_cond rfl (fun hc103 => ?_) (fun hc103 => ?_)
  ·exfalso
   try simp only [qa1, qa2, qa3, qa4, qa5, qa6, qa7, qa8, qa9, qaA, qaB, qaC, qaD] at hc103
   omega
  ·have hend := hres
   have hc103' := hc103
   try simp only [qa1, qa2, qa3, qa4, qa5, qa6, qa7, qa8, qa9, qaA, qaB, qaC, qaD] at hc103'
   refine rc_exit ?_
   refine px_seq ?_
   refine px_again ?_
   exact px_weak ((sub_cons rfl (sub_nil _))) (hK0 zE102 esE102 aE102 qE102 nE102 wrE102 hlE102 (by omega) _ (Mem.sub M0 (.cons_cons _ .slnil)) hres)
 | succ m ih =>
  intro x8_ zE102 esE102 aE102 qE102 nE102 wrE102 hlE102 hm1 hlo1 iv1_0 iv1_1 h M0 hres
  rw [expr_Headers_L1] at hres
  refine rc_loop ?_
  unfold ac15_L1
  refine rc_seq ?_
  refine rc_region ?_
  refine rd_op (ov_bin rfl rfl i_lss) ?_
  refine rd_nil ?_
  refine pn_seq ?_
  refine rc_seq ?_
  refine rc_cond rfl (fun hc104 => ?_) (fun hc104 => ?_)
  ·have hgo := hres
   have hc104' := hc104
   try simp only [qa1, qa2, qa3, qa4, qa5, qa6, qa7, qa8, qa9, qaA, qaB, qaC, qaD] at hc104'
   refine rc_skip ?_
   refine pn_seq ?_
   refine rc_seq ?_
   refine rc_block ?_
   refine rc_seq ?_
   refine rc_region ?_
   obtain ⟨v105, e105, r105⟩ := sl_idx (i := x8_) r0 (by omega) (by omega)
   refine rd_op (ov_iaddr rfl rfl e105) ?_
   refine rd_op (ov_load rfl (TR.cnt api_ExprNode.t r105) (TR.agg api_ExprNode.t r105)) ?_
   refine rd_allocO (x := .agg [vi 0, vi 0, vi 0]) M0 rfl rfl (fun i106 w106 h106 M106 => ?_)
   refine rd_storeO (k := 0) (v := v105) M106 rfl rfl rfl (TR.cnt api_ExprNode.t r105) (fun h108 M108 => ?_)
   replace M108 : Mem h108 [⟨.op i106 w106 0, 69, 3, [v105]⟩, ⟨aE102, 3, 1, esE102⟩] := M108
   refine rd_nil ?_
   refine pn_seq ?_
   refine rc_seq ?_
   refine rc_region ?_
   refine rd_op (ov_faddrO rfl) ?_
   refine rd_op (ov_loadf (k := 0) M108 rfl rfl (api_ExprNode.g_Op r105)) ?_
   refine rd_op (ov_bin rfl rfl i_eql) ?_
   refine rd_nil ?_
   refine pn_seq ?_
   refine rc_cond rfl (fun hc109 => ?_) (fun hc109 => ?_)
   ·replace hres := (ite_t hc109).symm.trans hres
    have hc109' := hc109
    try simp only [qa1, qa2, qa3, qa4, qa5, qa6, qa7, qa8, qa9, qaA, qaB, qaC, qaD] at hc109'
    refine rc_region ?_
    refine rd_op (ov_move rfl) ?_
    refine rd_op (ov_faddrO rfl) ?_
    refine rd_op (ov_loadf (k := 0) M108 rfl rfl (api_ExprNode.g_N r105)) ?_
    refine rd_op (v := .fs true [vi ((ix x0 x8_).N)]) (ov_bslice rfl (all_cons rfl all_nil)) ?_
    have r110 : (tSl tI).R ([(ix x0 x8_).N] : List Int) (.fs true [vi ((ix x0 x8_).N)]) := sl_fs ⟨rfl, trivial⟩ (by simp)
    obtain ⟨nw111, sr111, ar111⟩ := src_of (t := tI) (h := h108) r110
    have f111 : fits (esE102.length + nw111.length) 8 = true := by rw [All2.length_eq qE102, All2.length_eq ar111]; (try simp only [List.length_cons, List.length_nil]); exact fits_of (by first | omega | (simp only [List.length_append, List.length_cons, List.length_nil]; omega)) (by first | omega | (simp only [List.length_append, List.length_cons, List.length_nil]; omega))
    refine rd_appW (k := 1) (es := esE102) (news := nw111) M108 rfl rfl rfl nE102 wrE102 sr111 f111 (fun a111 h111 n111 wr111 M111 => ?_)
    have q111 : All2 tI.R (zE102 ++ ([(ix x0 x8_).N] : List Int)) (esE102 ++ nw111) := All2.app qE102 ar111
    have hl111 : (zE102 ++ ([(ix x0 x8_).N] : List Int)).length ≤ 4611686018427387904 := by rw [← All2.length_eq q111, List.length_append]; exact fits_len f111
    refine rd_op (ov_move rfl) ?_
    refine rd_nil ?_
    refine pn_blk ?_
    refine pn_seq ?_
    refine rc_region ?_
    refine rd_op (ov_bin rfl rfl i_add) ?_
    refine rd_op (ov_move rfl) ?_
    refine rd_nil ?_
    refine pn_again ?_
    have hbd := sl_bound r0
    have hinc : wr (x8_ + 1) = x8_ + 1 := wr_of (by omega) (by omega)
    rw [hinc]
    refine rc_weak ?_ (ih (x8_ + 1) (zE102 ++ ([(ix x0 x8_).N] : List Int)) (esE102 ++ nw111) a111 q111 n111 wr111 hl111 (by omega) (by omega) (by first | omega | (simp only [List.length_append, List.length_cons, List.length_nil]; omega)) (by first | omega | (simp only [List.length_append, List.length_cons, List.length_nil]; omega)) _ (Mem.sub M111 (.cons _ (.cons_cons _ .slnil))) hres)
    exact ((sub_cons rfl (sub_cons rfl (sub_cons rfl (sub_cons rfl (sub_nil _))))))
   ·replace hres := (ite_f hc109).symm.trans hres
    have hc109' := hc109
    try simp only [qa1, qa2, qa3, qa4, qa5, qa6, qa7, qa8, qa9, qaA, qaB, qaC, qaD] at hc109'
    refine rc_skip ?_
    refine pn_blk ?_
    refine pn_seq ?_
    refine rc_region ?_
    refine rd_op (ov_bin rfl rfl i_add) ?_
    refine rd_op (ov_move rfl) ?_
    refine rd_nil ?_
    refine pn_again ?_
    have hbd := sl_bound r0
    have hinc : wr (x8_ + 1) = x8_ + 1 := wr_of (by omega) (by omega)
    rw [hinc]
    refine rc_weak ?_ (ih (x8_ + 1) zE102 esE102 aE102 qE102 nE102 wrE102 hlE102 (by omega) (by omega) (by first | omega | (simp only [List.length_append, List.length_cons, List.length_nil]; omega)) (by first | omega | (simp only [List.length_append, List.length_cons, List.length_nil]; omega)) _ (Mem.sub M108 (.cons _ (.cons_cons _ .slnil))) hres)
    exact ((sub_cons rfl (sub_cons rfl (sub_cons rfl (sub_cons rfl (sub_nil _))))))
  ·exfalso
   try simp only [qa1, qa2, qa3, qa4, qa5, qa6, qa7, qa8, qa9, qaA, qaB, qaC, qaD] at hc104
   omega

theorem f15_ok {x0 : List api_ExprNode} {v0 : PV} (r0 : (tSl api_ExprNode.t).R x0 v0) (hb : x0.length ≤ 1000) : ∃ r, FnR Try.prog 15 [v0] r ∧ (tSl tI).R (expr_Headers x0) r := by
 obtain ⟨res, hres⟩ : ∃ res, expr_Headers x0 = res := ⟨_, rfl⟩
 suffices H : RC Try.prog ac15 [] (QR Try.prog [(2, none)] (RF15 res)) (argE 0 [v0]) ⟨0, []⟩ by
  rw [hres]
  exact fnE text15 (by simp) H
 unfold expr_Headers at hres
 unfold ac15
 refine rc_seq ?_
 refine rc_region ?_
 refine rd_op (v := nilS) (ov_move rfl) ?_
 refine rd_nil ?_
 refine pn_seq ?_
 refine rc_seq ?_
 refine rc_region ?_
 refine rd_op (v := nilS) (ov_move rfl) ?_
 refine rd_nil ?_
 refine pn_seq ?_
 refine rc_seq ?_
 refine rc_seq ?_
 refine rc_region ?_
 refine rd_op (ov_move rfl) ?_
 refine rd_op (ov_bi rfl (sl_len r0 Try.underlying32 _)) ?_
 refine rd_op (v := vi 0) (ov_move rfl) ?_
 refine rd_nil ?_
 refine pn_seq ?_
 refine rc_block ?_
 have M101 := mem_acc (sz := 1) (es := []) (Mem.nil ⟨0, []⟩) 3 (.inl ⟨none, rfl, rfl⟩) (by simp)
 refine rc_weak ?_ (expr_Headers_L1_ok (x0 := x0) (v0 := v0)  (r0 := r0) (hb := hb) ?_ (Int.toNat ((x0.length : Int) - 0)) 0 ([] : List Int) ([] : List PV) nilS (show All2 tI.R ([] : List Int) [] from trivial) rfl (.inl rfl) (by first | decide | simp) rfl (by omega) (by first | omega | simp) (by first | omega | simp) _ (Mem.sub M101 (.cons_cons _ .slnil)) hres)
 ·exact ((sub_cons rfl (sub_cons rfl (sub_cons rfl (sub_cons rfl (sub_nil _))))))
 ·intro zE102_112 es112E102 a112E102 q112E102 n112E102 wr112E102 hl112E102 po112_0 h112 M112 hres
  refine px_blk ?_
  refine pn_seq ?_
  refine rc_seq ?_
  refine rc_regionS ?_
  refine rs_step ?_
  refine rd_op (ov_move rfl) ?_
  refine rs_back ?_
  have M113 : Mem h112 [⟨a112E102, 3, 1, es112E102⟩] := (Mem.front (k := 0) M112 rfl)
  obtain ⟨y113, hw113, hres⟩ := let_ex hres
  obtain ⟨vr113, h114, hX113, hZ113⟩ := f31_ok (x0 := zE102_112) q112E102 n112E102 hl112E102 wr112E102 M113 (by first | assumption | omega | (rw [wr_of (by omega) (by omega)]; omega) | (simp; done) | (simp only [law13_join, List.length_append, List.length_nil, List.length_cons]; omega) | (have hk := (chk_ok (by assumption) (by assumption)).1; omega) | (simp only [List.length_cons, List.length_nil]; omega) | (simp only [List.length_append]; have hk := (chk_ok (by assumption) (by assumption)).1; omega) | (simp only [law13_join, List.length_append, List.length_nil]; have hk := (chk_ok (by assumption) (by assumption)).1; omega))
  rw [hw113] at hZ113
  obtain ⟨es113_p0, M114, qs113_p0, hs113_p0, wi113_p0, hr113⟩ := hZ113
  replace hr113 := hr113.symm; subst hr113
  refine rs_callXc rfl rfl hX113 ?_
  refine rs_nil ?_
  refine pn_seq ?_
  refine rc_seq ?_
  refine rc_regionS ?_
  refine rs_step ?_
  refine rd_op (ov_move rfl) ?_
  refine rs_back ?_
  have M115 : Mem h114 [⟨a112E102, 3, 1, es113_p0⟩] := (Mem.front (k := 0) M114 rfl)
  obtain ⟨y115, hw115, hres⟩ := let_ex hres
  obtain ⟨vr115, h117, hX115, hZ115⟩ := f32_ok (x0 := y113) qs113_p0 n112E102 hs113_p0 wi113_p0 M115 
  rw [hw115] at hZ115
  obtain ⟨as115_0, es115_0, M117, qs115_0, ns115_0, hs115_0, wi115_0, hr115⟩ := hZ115
  replace hr115 := hr115.symm; subst hr115
  refine rs_callXc rfl rfl hX115 ?_
  refine rs_step ?_
  refine rd_op (ov_move rfl) ?_
  refine rs_back ?_
  refine rs_nil ?_
  refine pn_seq ?_
  obtain ⟨v118, d118, r118⟩ := own_sl (P := Try.prog) (k := 0) (t := tI) M117 rfl ns115_0 qs115_0 (Nat.le_trans hs115_0 (by decide))
  subst hres
  exact rc_retV (.tmp rfl .nil) d118 r118

/-- patchbay/patchbayref12.element -/
def RF34 (res : Bool) (r : PV) : Prop := r = vb res
theorem f34_ok {x0 : api_Env} {x1 : api_FieldRef} {v0 : PV} {v1 : PV} (r0 : api_Env.t.R x0 v0) (r1 : api_FieldRef.t.R x1 v1) : FnR Try.prog 34 [v0, v1] (vb (ref12_element x0 x1)) := by
 obtain ⟨res, hres⟩ : ∃ res, ref12_element x0 x1 = res := ⟨_, rfl⟩
 suffices H : RC Try.prog ac34 [] (QR Try.prog [(4, none)] (RF34 res)) (argE 0 [v0, v1]) ⟨0, []⟩ by
  obtain ⟨r, h1, h2⟩ := fnE text34 (by simp) H
  rw [hres]
  have h2 : r = vb res := h2
  rw [← h2]; exact h1
 unfold ref12_element at hres
 unfold ac34
 refine rc_seq ?_
 refine rc_region ?_
 refine rd_op (ov_box rfl (TR.cnt api_Env.t r0)) ?_
 refine rd_op (ov_box rfl (TR.cnt api_FieldRef.t r1)) ?_
 refine rd_op (v := vb false) (ov_move rfl) ?_
 refine rd_nil ?_
 refine pn_seq ?_
 refine rc_seq ?_
 refine rc_seq ?_
 refine rc_region ?_
 refine rd_op (ov_faddr rfl (api_FieldRef.g_Header r1)) ?_
 refine rd_op (ov_load rfl rfl rfl) ?_
 refine rd_op (ov_bin rfl rfl i_eql) ?_
 refine rd_nil ?_
 refine pn_seq ?_
 refine rc_cond rfl (fun hc101 => ?_) (fun hc101 => ?_)
 ·replace hres := (ite_t hc101).symm.trans hres
  have hc101' := hc101
  try simp only [qa1, qa2, qa3, qa4, qa5, qa6, qa7, qa8, qa9, qaA, qaB, qaC, qaD] at hc101'
  refine rc_seq ?_
  refine rc_region ?_
  refine rd_op (ov_faddr rfl (api_FieldRef.g_Field r1)) ?_
  refine rd_op (ov_load rfl rfl rfl) ?_
  refine rd_op (ov_bin rfl rfl i_geq) ?_
  refine rd_op (ov_move rfl) ?_
  refine rd_cut (d := 18) (v := vb ((decide (0 ≤ x1.Field)) && (decide (x1.Field < (x0.Metd.length : Int))))) ?_ ?_
  ·intro S Q r
   simp only [ac34_G1, List.cons_append, List.nil_append, List.append_assoc]
   cases hb102 : (decide (0 ≤ x1.Field))
   ·intro k
    refine rd_skip rfl rfl ?_
    refine rd_skip rfl rfl ?_
    refine rd_skip rfl rfl ?_
    refine rd_skip rfl rfl ?_
    refine rd_skip rfl rfl ?_
    refine rd_skip rfl rfl ?_
    refine rd_op (v := vb false) (ov_pick rfl rfl rfl rfl) ?_
    exact rd_weak (sub_cons rfl (sub_skip rfl (sub_skip rfl (sub_skip rfl (sub_skip rfl (sub_skip rfl (sub_skip rfl (sub_skip rfl (sub_refl _))))))))) k
   ·intro k
    have hb102' := hb102
    try simp only [qa1, qa2, qa3, qa4, qa5, qa6, qa7, qa8, qa9, qaA, qaB, qaC, qaD] at hb102'
    refine rd_yes rfl rfl (ov_faddr rfl (api_FieldRef.g_Field r1)) ?_
    refine rd_yes rfl rfl (ov_load rfl rfl rfl) ?_
    obtain ⟨v103, e103, r103⟩ := api_Env.g_Meta r0
    refine rd_yes rfl rfl (ov_faddr rfl e103) ?_
    refine rd_yes rfl rfl (ov_load rfl (TR.cnt (tSl tU32) r103) (TR.agg (tSl tU32) r103)) ?_
    refine rd_yes rfl rfl (ov_bi rfl (sl_len r103 Try.underlying35 _)) ?_
    refine rd_yes rfl rfl (ov_bin rfl rfl i_lss) ?_
    refine rd_op (v := vb (decide (x1.Field < (x0.Metd.length : Int)))) (ov_pick rfl rfl rfl rfl) ?_
    exact rd_weak (sub_cons rfl (sub_skip rfl (sub_skip rfl (sub_skip rfl (sub_skip rfl (sub_skip rfl (sub_skip rfl (sub_skip rfl (sub_refl _))))))))) k
  refine rd_op (ov_move rfl) ?_
  refine rd_nil ?_
  refine pn_seq ?_
  subst hres
  exact rc_retV (.tmp rfl .nil) (deep_closed rfl) rfl
 ·replace hres := (ite_f hc101).symm.trans hres
  have hc101' := hc101
  try simp only [qa1, qa2, qa3, qa4, qa5, qa6, qa7, qa8, qa9, qaA, qaB, qaC, qaD] at hc101'
  refine rc_skip ?_
  refine pn_seq ?_
  refine rc_seq ?_
  refine rc_region ?_
  refine rd_op (ov_faddr rfl (api_FieldRef.g_Header r1)) ?_
  refine rd_op (ov_load rfl rfl rfl) ?_
  refine rd_op (ov_bin rfl rfl i_geq) ?_
  refine rd_op (ov_move rfl) ?_
  refine rd_cut (d := 29) (v := vb ((decide (0 ≤ x1.Header)) && (decide (x1.Header < (x0.Fields.length : Int))))) ?_ ?_
  ·intro S Q r
   simp only [ac34_G2, List.cons_append, List.nil_append, List.append_assoc]
   cases hb104 : (decide (0 ≤ x1.Header))
   ·intro k
    refine rd_skip rfl rfl ?_
    refine rd_skip rfl rfl ?_
    refine rd_skip rfl rfl ?_
    refine rd_skip rfl rfl ?_
    refine rd_skip rfl rfl ?_
    refine rd_skip rfl rfl ?_
    refine rd_op (v := vb false) (ov_pick rfl rfl rfl rfl) ?_
    exact rd_weak (sub_cons rfl (sub_skip rfl (sub_skip rfl (sub_skip rfl (sub_skip rfl (sub_skip rfl (sub_skip rfl (sub_skip rfl (sub_refl _))))))))) k
   ·intro k
    have hb104' := hb104
    try simp only [qa1, qa2, qa3, qa4, qa5, qa6, qa7, qa8, qa9, qaA, qaB, qaC, qaD] at hb104'
    refine rd_yes rfl rfl (ov_faddr rfl (api_FieldRef.g_Header r1)) ?_
    refine rd_yes rfl rfl (ov_load rfl rfl rfl) ?_
    obtain ⟨v105, e105, r105⟩ := api_Env.g_Fields r0
    refine rd_yes rfl rfl (ov_faddr rfl e105) ?_
    refine rd_yes rfl rfl (ov_load rfl (TR.cnt (tSl (tSl tU32)) r105) (TR.agg (tSl (tSl tU32)) r105)) ?_
    refine rd_yes rfl rfl (ov_bi rfl (sl_len r105 Try.underlying34 _)) ?_
    refine rd_yes rfl rfl (ov_bin rfl rfl i_lss) ?_
    refine rd_op (v := vb (decide (x1.Header < (x0.Fields.length : Int)))) (ov_pick rfl rfl rfl rfl) ?_
    exact rd_weak (sub_cons rfl (sub_skip rfl (sub_skip rfl (sub_skip rfl (sub_skip rfl (sub_skip rfl (sub_skip rfl (sub_skip rfl (sub_refl _))))))))) k
  refine rd_op (ov_move rfl) ?_
  refine rd_cut (d := 34) (v := vb (((decide (0 ≤ x1.Header)) && (decide (x1.Header < (x0.Fields.length : Int)))) && (decide (0 ≤ x1.Field)))) ?_ ?_
  ·intro S Q r
   simp only [ac34_G3, List.cons_append, List.nil_append, List.append_assoc]
   cases hb106 : ((decide (0 ≤ x1.Header)) && (decide (x1.Header < (x0.Fields.length : Int))))
   ·intro k
    refine rd_skip rfl rfl ?_
    refine rd_skip rfl rfl ?_
    refine rd_skip rfl rfl ?_
    refine rd_op (v := vb false) (ov_pick rfl rfl rfl rfl) ?_
    exact rd_weak (sub_cons rfl (sub_skip rfl (sub_skip rfl (sub_skip rfl (sub_skip rfl (sub_refl _)))))) k
   ·intro k
    have hb106' := hb106
    try simp only [qa1, qa2, qa3, qa4, qa5, qa6, qa7, qa8, qa9, qaA, qaB, qaC, qaD] at hb106'
    refine rd_yes rfl rfl (ov_faddr rfl (api_FieldRef.g_Field r1)) ?_
    refine rd_yes rfl rfl (ov_load rfl rfl rfl) ?_
    refine rd_yes rfl rfl (ov_bin rfl rfl i_geq) ?_
    refine rd_op (v := vb (decide (0 ≤ x1.Field))) (ov_pick rfl rfl rfl rfl) ?_
    exact rd_weak (sub_cons rfl (sub_skip rfl (sub_skip rfl (sub_skip rfl (sub_skip rfl (sub_refl _)))))) k
  refine rd_op (ov_move rfl) ?_
  refine rd_cut (d := 46) (v := vb ((((decide (0 ≤ x1.Header)) && (decide (x1.Header < (x0.Fields.length : Int)))) && (decide (0 ≤ x1.Field))) && (decide (x1.Field < ((ix x0.Fields x1.Header).length : Int))))) ?_ ?_
  ·intro S Q r
   simp only [ac34_G4, List.cons_append, List.nil_append, List.append_assoc]
   cases hb107 : (((decide (0 ≤ x1.Header)) && (decide (x1.Header < (x0.Fields.length : Int)))) && (decide (0 ≤ x1.Field)))
   ·intro k
    refine rd_skip rfl rfl ?_
    refine rd_skip rfl rfl ?_
    refine rd_skip rfl rfl ?_
    refine rd_skip rfl rfl ?_
    refine rd_skip rfl rfl ?_
    refine rd_skip rfl rfl ?_
    refine rd_skip rfl rfl ?_
    refine rd_skip rfl rfl ?_
    refine rd_skip rfl rfl ?_
    refine rd_skip rfl rfl ?_
    refine rd_op (v := vb false) (ov_pick rfl rfl rfl rfl) ?_
    exact rd_weak (sub_cons rfl (sub_skip rfl (sub_skip rfl (sub_skip rfl (sub_skip rfl (sub_skip rfl (sub_skip rfl (sub_skip rfl (sub_skip rfl (sub_skip rfl (sub_skip rfl (sub_skip rfl (sub_refl _))))))))))))) k
   ·intro k
    have hb107' := hb107
    try simp only [qa1, qa2, qa3, qa4, qa5, qa6, qa7, qa8, qa9, qaA, qaB, qaC, qaD] at hb107'
    refine rd_yes rfl rfl (ov_faddr rfl (api_FieldRef.g_Field r1)) ?_
    refine rd_yes rfl rfl (ov_load rfl rfl rfl) ?_
    obtain ⟨v108, e108, r108⟩ := api_Env.g_Fields r0
    refine rd_yes rfl rfl (ov_faddr rfl e108) ?_
    refine rd_yes rfl rfl (ov_load rfl (TR.cnt (tSl (tSl tU32)) r108) (TR.agg (tSl (tSl tU32)) r108)) ?_
    refine rd_yes rfl rfl (ov_faddr rfl (api_FieldRef.g_Header r1)) ?_
    refine rd_yes rfl rfl (ov_load rfl rfl rfl) ?_
    obtain ⟨v109, e109, r109⟩ := sl_idx (i := x1.Header) r108 (by omega) (by omega)
    refine rd_yes rfl rfl (ov_iaddr rfl rfl e109) ?_
    refine rd_yes rfl rfl (ov_load rfl (TR.cnt (tSl tU32) r109) (TR.agg (tSl tU32) r109)) ?_
    refine rd_yes rfl rfl (ov_bi rfl (sl_len r109 Try.underlying35 _)) ?_
    refine rd_yes rfl rfl (ov_bin rfl rfl i_lss) ?_
    refine rd_op (v := vb (decide (x1.Field < ((ix x0.Fields x1.Header).length : Int)))) (ov_pick rfl rfl rfl rfl) ?_
    exact rd_weak (sub_cons rfl (sub_skip rfl (sub_skip rfl (sub_skip rfl (sub_skip rfl (sub_skip rfl (sub_skip rfl (sub_skip rfl (sub_skip rfl (sub_skip rfl (sub_skip rfl (sub_skip rfl (sub_refl _))))))))))))) k
  refine rd_op (ov_move rfl) ?_
  refine rd_nil ?_
  refine pn_seq ?_
  subst hres
  exact rc_retV (.tmp rfl .nil) (deep_closed rfl) rfl

/-- patchbay/patchbayref12.Has -/
def RF35 (res : Bool) (r : PV) : Prop := r = vb res
theorem f35_ok {x0 : api_Env} {x1 : Int} {v0 : PV} (r0 : api_Env.t.R x0 v0) : FnR Try.prog 35 [v0, vi x1] (vb (ref12_Has x0 x1)) := by
 obtain ⟨res, hres⟩ : ∃ res, ref12_Has x0 x1 = res := ⟨_, rfl⟩
 suffices H : RC Try.prog ac35 [] (QR Try.prog [(4, none)] (RF35 res)) (argE 0 [v0, vi x1]) ⟨0, []⟩ by
  obtain ⟨r, h1, h2⟩ := fnE text35 (by simp) H
  rw [hres]
  have h2 : r = vb res := h2
  rw [← h2]; exact h1
 unfold ref12_Has at hres
 unfold ac35
 refine rc_seq ?_
 refine rc_region ?_
 refine rd_op (ov_box rfl (TR.cnt api_Env.t r0)) ?_
 refine rd_op (v := vb false) (ov_move rfl) ?_
 refine rd_nil ?_
 refine pn_seq ?_
 refine rc_seq ?_
 refine rc_region ?_
 refine rd_op (ov_move rfl) ?_
 refine rd_op (ov_bin rfl rfl i_geq) ?_
 refine rd_op (ov_move rfl) ?_
 refine rd_cut (d := 13) (v := vb ((decide (0 ≤ x1)) && (decide (x1 < (x0.Valid.length : Int))))) ?_ ?_
 ·intro S Q r
  simp only [ac35_G1, List.cons_append, List.nil_append, List.append_assoc]
  cases hb101 : (decide (0 ≤ x1))
  ·intro k
   refine rd_skip rfl rfl ?_
   refine rd_skip rfl rfl ?_
   refine rd_skip rfl rfl ?_
   refine rd_skip rfl rfl ?_
   refine rd_skip rfl rfl ?_
   refine rd_op (v := vb false) (ov_pick rfl rfl rfl rfl) ?_
   exact rd_weak (sub_cons rfl (sub_skip rfl (sub_skip rfl (sub_skip rfl (sub_skip rfl (sub_skip rfl (sub_skip rfl (sub_refl _)))))))) k
  ·intro k
   have hb101' := hb101
   try simp only [qa1, qa2, qa3, qa4, qa5, qa6, qa7, qa8, qa9, qaA, qaB, qaC, qaD] at hb101'
   refine rd_yes rfl rfl (ov_move rfl) ?_
   obtain ⟨v102, e102, r102⟩ := api_Env.g_Valid r0
   refine rd_yes rfl rfl (ov_faddr rfl e102) ?_
   refine rd_yes rfl rfl (ov_load rfl (TR.cnt (tSl tB) r102) (TR.agg (tSl tB) r102)) ?_
   refine rd_yes rfl rfl (ov_bi rfl (sl_len r102 Try.underlying33 _)) ?_
   refine rd_yes rfl rfl (ov_bin rfl rfl i_lss) ?_
   refine rd_op (v := vb (decide (x1 < (x0.Valid.length : Int)))) (ov_pick rfl rfl rfl rfl) ?_
   exact rd_weak (sub_cons rfl (sub_skip rfl (sub_skip rfl (sub_skip rfl (sub_skip rfl (sub_skip rfl (sub_skip rfl (sub_refl _)))))))) k
 refine rd_op (ov_move rfl) ?_
 refine rd_cut (d := 20) (v := vb (((decide (0 ≤ x1)) && (decide (x1 < (x0.Valid.length : Int)))) && (ix x0.Valid x1))) ?_ ?_
 ·intro S Q r
  simp only [ac35_G2, List.cons_append, List.nil_append, List.append_assoc]
  cases hb103 : ((decide (0 ≤ x1)) && (decide (x1 < (x0.Valid.length : Int))))
  ·intro k
   refine rd_skip rfl rfl ?_
   refine rd_skip rfl rfl ?_
   refine rd_skip rfl rfl ?_
   refine rd_skip rfl rfl ?_
   refine rd_skip rfl rfl ?_
   refine rd_op (v := vb false) (ov_pick rfl rfl rfl rfl) ?_
   exact rd_weak (sub_cons rfl (sub_skip rfl (sub_skip rfl (sub_skip rfl (sub_skip rfl (sub_skip rfl (sub_skip rfl (sub_refl _)))))))) k
  ·intro k
   have hb103' := hb103
   try simp only [qa1, qa2, qa3, qa4, qa5, qa6, qa7, qa8, qa9, qaA, qaB, qaC, qaD] at hb103'
   obtain ⟨v104, e104, r104⟩ := api_Env.g_Valid r0
   refine rd_yes rfl rfl (ov_faddr rfl e104) ?_
   refine rd_yes rfl rfl (ov_load rfl (TR.cnt (tSl tB) r104) (TR.agg (tSl tB) r104)) ?_
   refine rd_yes rfl rfl (ov_move rfl) ?_
   refine rd_yes rfl rfl (ov_iaddr rfl rfl (slB r104 (by omega) (by omega))) ?_
   refine rd_yes rfl rfl (ov_load rfl rfl rfl) ?_
   refine rd_op (v := vb (ix x0.Valid x1)) (ov_pick rfl rfl rfl rfl) ?_
   exact rd_weak (sub_cons rfl (sub_skip rfl (sub_skip rfl (sub_skip rfl (sub_skip rfl (sub_skip rfl (sub_skip rfl (sub_refl _)))))))) k
 refine rd_op (ov_move rfl) ?_
 refine rd_nil ?_
 refine pn_seq ?_
 subst hres
 exact rc_retV (.tmp rfl .nil) (deep_closed rfl) rfl

/-- patchbay/patchbayref12.Get -/
def RF17 (res : (BitVec 32)) (r : PV) : Prop := r = vu32 res
theorem f17_ok {x0 : api_Env} {x1 : api_FieldRef} {v0 : PV} {v1 : PV} (r0 : api_Env.t.R x0 v0) (r1 : api_FieldRef.t.R x1 v1) : FnR Try.prog 17 [v0, v1] (vu32 (ref12_Get x0 x1)) := by
 obtain ⟨res, hres⟩ : ∃ res, ref12_Get x0 x1 = res := ⟨_, rfl⟩
 suffices H : RC Try.prog ac17 [] (QR Try.prog [(4, none)] (RF17 res)) (argE 0 [v0, v1]) ⟨0, []⟩ by
  obtain ⟨r, h1, h2⟩ := fnE text17 (by simp) H
  rw [hres]
  have h2 : r = vu32 res := h2
  rw [← h2]; exact h1
 unfold ref12_Get at hres
 unfold ac17
 refine rc_seq ?_
 refine rc_region ?_
 refine rd_op (ov_box rfl (TR.cnt api_Env.t r0)) ?_
 refine rd_op (ov_box rfl (TR.cnt api_FieldRef.t r1)) ?_
 refine rd_op (v := vu32 0#32) (ov_move rfl) ?_
 refine rd_nil ?_
 refine pn_seq ?_
 refine rc_seq ?_
 refine rc_seq ?_
 refine rc_region ?_
 refine rd_op (ov_load rfl (TR.cnt api_Env.t r0) (TR.agg api_Env.t r0)) ?_
 refine rd_op (ov_load rfl (TR.cnt api_FieldRef.t r1) (TR.agg api_FieldRef.t r1)) ?_
 obtain ⟨y101, hw101, hres⟩ := let_ex hres
 have f101 := f34_ok  r0 r1 
 rw [hw101] at f101
 refine rd_call (cv_fn rfl rfl (clL_cons (TR.clo api_Env.t r0) (clL_cons (TR.clo api_FieldRef.t r1) clL_nil)) f101) ?_
 refine rd_op (ov_not rfl) ?_
 refine rd_nil ?_
 refine pn_seq ?_
 refine rc_cond rfl (fun hc102 => ?_) (fun hc102 => ?_)
 ·replace hres := (ite_t hc102).symm.trans hres
  have hc102' := hc102
  try simp only [qa1, qa2, qa3, qa4, qa5, qa6, qa7, qa8, qa9, qaA, qaB, qaC, qaD] at hc102'
  refine rc_seq ?_
  refine rc_region ?_
  refine rd_op (v := vu32 0#32) (ov_move rfl) ?_
  refine rd_nil ?_
  refine pn_seq ?_
  subst hres
  exact rc_retV (.tmp rfl .nil) (deep_closed rfl) rfl
 ·replace hres := (ite_f hc102).symm.trans hres
  have hc102' := hc102
  try simp only [qa1, qa2, qa3, qa4, qa5, qa6, qa7, qa8, qa9, qaA, qaB, qaC, qaD] at hc102'
  refine rc_skip ?_
  refine pn_seq ?_
  refine rc_seq ?_
  refine rc_seq ?_
  refine rc_region ?_
  refine rd_op (ov_faddr rfl (api_FieldRef.g_Header r1)) ?_
  refine rd_op (ov_load rfl rfl rfl) ?_
  refine rd_op (ov_bin rfl rfl i_eql) ?_
  refine rd_nil ?_
  refine pn_seq ?_
  refine rc_cond rfl (fun hc103 => ?_) (fun hc103 => ?_)
  ·replace hres := (ite_t hc103).symm.trans hres
   have hc103' := hc103
   try simp only [qa1, qa2, qa3, qa4, qa5, qa6, qa7, qa8, qa9, qaA, qaB, qaC, qaD] at hc103'
   refine rc_seq ?_
   refine rc_region ?_
   obtain ⟨v104, e104, r104⟩ := api_Env.g_Meta r0
   refine rd_op (ov_faddr rfl e104) ?_
   refine rd_op (ov_load rfl (TR.cnt (tSl tU32) r104) (TR.agg (tSl tU32) r104)) ?_
   refine rd_op (ov_faddr rfl (api_FieldRef.g_Field r1)) ?_
   refine rd_op (ov_load rfl rfl rfl) ?_
   refine rd_op (ov_iaddr rfl rfl (slU32 r104 (by first | omega | (have hk := rel_m (by assumption) (by assumption) (by assumption); omega) | (have hk := rel_h (by assumption) (by assumption) (by assumption); omega)) (by first | omega | (have hk := rel_m (by assumption) (by assumption) (by assumption); omega) | (have hk := rel_h (by assumption) (by assumption) (by assumption); omega)))) ?_
   refine rd_op (ov_load rfl rfl rfl) ?_
   refine rd_op (ov_move rfl) ?_
   refine rd_nil ?_
   refine pn_seq ?_
   subst hres
   exact rc_retV (.tmp rfl .nil) (deep_closed rfl) rfl
  ·replace hres := (ite_f hc103).symm.trans hres
   have hc103' := hc103
   try simp only [qa1, qa2, qa3, qa4, qa5, qa6, qa7, qa8, qa9, qaA, qaB, qaC, qaD] at hc103'
   refine rc_skip ?_
   refine pn_seq ?_
   refine rc_seq ?_
   refine rc_seq ?_
   refine rc_region ?_
   refine rd_op (ov_load rfl (TR.cnt api_Env.t r0) (TR.agg api_Env.t r0)) ?_
   refine rd_op (ov_faddr rfl (api_FieldRef.g_Header r1)) ?_
   refine rd_op (ov_load rfl rfl rfl) ?_
   obtain ⟨y105, hw105, hres⟩ := let_ex hres
   have f105 := f35_ok (x1 := x1.Header) r0 
   rw [hw105] at f105
   refine rd_call (cv_fn rfl rfl (clL_cons (TR.clo api_Env.t r0) (clL_cons rfl clL_nil)) f105) ?_
   refine rd_op (ov_not rfl) ?_
   refine rd_nil ?_
   refine pn_seq ?_
   refine rc_cond rfl (fun hc106 => ?_) (fun hc106 => ?_)
   ·replace hres := (ite_t hc106).symm.trans hres
    have hc106' := hc106
    try simp only [qa1, qa2, qa3, qa4, qa5, qa6, qa7, qa8, qa9, qaA, qaB, qaC, qaD] at hc106'
    refine rc_seq ?_
    refine rc_region ?_
    refine rd_op (v := vu32 0#32) (ov_move rfl) ?_
    refine rd_nil ?_
    refine pn_seq ?_
    subst hres
    exact rc_retV (.tmp rfl .nil) (deep_closed rfl) rfl
   ·replace hres := (ite_f hc106).symm.trans hres
    have hc106' := hc106
    try simp only [qa1, qa2, qa3, qa4, qa5, qa6, qa7, qa8, qa9, qaA, qaB, qaC, qaD] at hc106'
    refine rc_skip ?_
    refine pn_seq ?_
    refine rc_seq ?_
    refine rc_region ?_
    obtain ⟨v107, e107, r107⟩ := api_Env.g_Fields r0
    refine rd_op (ov_faddr rfl e107) ?_
    refine rd_op (ov_load rfl (TR.cnt (tSl (tSl tU32)) r107) (TR.agg (tSl (tSl tU32)) r107)) ?_
    refine rd_op (ov_faddr rfl (api_FieldRef.g_Header r1)) ?_
    refine rd_op (ov_load rfl rfl rfl) ?_
    obtain ⟨v108, e108, r108⟩ := sl_idx (i := x1.Header) r107 (by first | omega | (have hk := rel_m (by assumption) (by assumption) (by assumption); omega) | (have hk := rel_h (by assumption) (by assumption) (by assumption); omega)) (by first | omega | (have hk := rel_m (by assumption) (by assumption) (by assumption); omega) | (have hk := rel_h (by assumption) (by assumption) (by assumption); omega))
    refine rd_op (ov_iaddr rfl rfl e108) ?_
    refine rd_op (ov_load rfl (TR.cnt (tSl tU32) r108) (TR.agg (tSl tU32) r108)) ?_
    refine rd_op (ov_faddr rfl (api_FieldRef.g_Field r1)) ?_
    refine rd_op (ov_load rfl rfl rfl) ?_
    refine rd_op (ov_iaddr rfl rfl (slU32 r108 (by first | omega | (have hk := rel_m (by assumption) (by assumption) (by assumption); omega) | (have hk := rel_h (by assumption) (by assumption) (by assumption); omega)) (by first | omega | (have hk := rel_m (by assumption) (by assumption) (by assumption); omega) | (have hk := rel_h (by assumption) (by assumption) (by assumption); omega)))) ?_
    refine rd_op (ov_load rfl rfl rfl) ?_
    refine rd_op (ov_move rfl) ?_
    refine rd_nil ?_
    refine pn_seq ?_
    subst hres
    exact rc_retV (.tmp rfl .nil) (deep_closed rfl) rfl

/-- patchbay/patchbaylaw13.valid -/
def RF18 (res : Bool) (r : PV) : Prop := r = vb res
theorem f18_ok {x0 : api_Env} {x1 : Int} {v0 : PV} (r0 : api_Env.t.R x0 v0) : FnR Try.prog 18 [v0, vi x1] (vb (law13_valid x0 x1)) := by
 obtain ⟨res, hres⟩ : ∃ res, law13_valid x0 x1 = res := ⟨_, rfl⟩
 suffices H : RC Try.prog ac18 [] (QR Try.prog [(4, none)] (RF18 res)) (argE 0 [v0, vi x1]) ⟨0, []⟩ by
  obtain ⟨r, h1, h2⟩ := fnE text18 (by simp) H
  rw [hres]
  have h2 : r = vb res := h2
  rw [← h2]; exact h1
 unfold law13_valid at hres
 unfold ac18
 refine rc_seq ?_
 refine rc_region ?_
 refine rd_op (ov_box rfl (TR.cnt api_Env.t r0)) ?_
 refine rd_op (v := vb false) (ov_move rfl) ?_
 refine rd_nil ?_
 refine pn_seq ?_
 refine rc_seq ?_
 refine rc_region ?_
 refine rd_op (ov_move rfl) ?_
 refine rd_op (ov_bin rfl rfl i_geq) ?_
 refine rd_op (ov_move rfl) ?_
 refine rd_cut (d := 13) (v := vb ((decide (0 ≤ x1)) && (decide (x1 < (x0.Valid.length : Int))))) ?_ ?_
 ·intro S Q r
  simp only [ac18_G1, List.cons_append, List.nil_append, List.append_assoc]
  cases hb101 : (decide (0 ≤ x1))
  ·intro k
   refine rd_skip rfl rfl ?_
   refine rd_skip rfl rfl ?_
   refine rd_skip rfl rfl ?_
   refine rd_skip rfl rfl ?_
   refine rd_skip rfl rfl ?_
   refine rd_op (v := vb false) (ov_pick rfl rfl rfl rfl) ?_
   exact rd_weak (sub_cons rfl (sub_skip rfl (sub_skip rfl (sub_skip rfl (sub_skip rfl (sub_skip rfl (sub_skip rfl (sub_refl _)))))))) k
  ·intro k
   have hb101' := hb101
   try simp only [qa1, qa2, qa3, qa4, qa5, qa6, qa7, qa8, qa9, qaA, qaB, qaC, qaD] at hb101'
   refine rd_yes rfl rfl (ov_move rfl) ?_
   obtain ⟨v102, e102, r102⟩ := api_Env.g_Valid r0
   refine rd_yes rfl rfl (ov_faddr rfl e102) ?_
   refine rd_yes rfl rfl (ov_load rfl (TR.cnt (tSl tB) r102) (TR.agg (tSl tB) r102)) ?_
   refine rd_yes rfl rfl (ov_bi rfl (sl_len r102 Try.underlying33 _)) ?_
   refine rd_yes rfl rfl (ov_bin rfl rfl i_lss) ?_
   refine rd_op (v := vb (decide (x1 < (x0.Valid.length : Int)))) (ov_pick rfl rfl rfl rfl) ?_
   exact rd_weak (sub_cons rfl (sub_skip rfl (sub_skip rfl (sub_skip rfl (sub_skip rfl (sub_skip rfl (sub_skip rfl (sub_refl _)))))))) k
 refine rd_op (ov_move rfl) ?_
 refine rd_cut (d := 20) (v := vb (((decide (0 ≤ x1)) && (decide (x1 < (x0.Valid.length : Int)))) && (ix x0.Valid x1))) ?_ ?_
 ·intro S Q r
  simp only [ac18_G2, List.cons_append, List.nil_append, List.append_assoc]
  cases hb103 : ((decide (0 ≤ x1)) && (decide (x1 < (x0.Valid.length : Int))))
  ·intro k
   refine rd_skip rfl rfl ?_
   refine rd_skip rfl rfl ?_
   refine rd_skip rfl rfl ?_
   refine rd_skip rfl rfl ?_
   refine rd_skip rfl rfl ?_
   refine rd_op (v := vb false) (ov_pick rfl rfl rfl rfl) ?_
   exact rd_weak (sub_cons rfl (sub_skip rfl (sub_skip rfl (sub_skip rfl (sub_skip rfl (sub_skip rfl (sub_skip rfl (sub_refl _)))))))) k
  ·intro k
   have hb103' := hb103
   try simp only [qa1, qa2, qa3, qa4, qa5, qa6, qa7, qa8, qa9, qaA, qaB, qaC, qaD] at hb103'
   obtain ⟨v104, e104, r104⟩ := api_Env.g_Valid r0
   refine rd_yes rfl rfl (ov_faddr rfl e104) ?_
   refine rd_yes rfl rfl (ov_load rfl (TR.cnt (tSl tB) r104) (TR.agg (tSl tB) r104)) ?_
   refine rd_yes rfl rfl (ov_move rfl) ?_
   refine rd_yes rfl rfl (ov_iaddr rfl rfl (slB r104 (by omega) (by omega))) ?_
   refine rd_yes rfl rfl (ov_load rfl rfl rfl) ?_
   refine rd_op (v := vb (ix x0.Valid x1)) (ov_pick rfl rfl rfl rfl) ?_
   exact rd_weak (sub_cons rfl (sub_skip rfl (sub_skip rfl (sub_skip rfl (sub_skip rfl (sub_skip rfl (sub_skip rfl (sub_refl _)))))))) k
 refine rd_op (ov_move rfl) ?_
 refine rd_nil ?_
 refine pn_seq ?_
 subst hres
 exact rc_retV (.tmp rfl .nil) (deep_closed rfl) rfl

/-- (patchbay/patchbaylaw13.Args).scope -/
def RF7 (res : expr_Scope) (r : PV) : Prop := expr_Scope.t.R res r
theorem f7_ok {x0 : law13_Args} {v0 : PV} (r0 : law13_Args.t.R x0 v0) : ∃ r, FnR Try.prog 7 [v0] r ∧ expr_Scope.t.R (m1_law13_Args__scope x0) r := by
 obtain ⟨res, hres⟩ : ∃ res, m1_law13_Args__scope x0 = res := ⟨_, rfl⟩
 suffices H : RC Try.prog ac7 [] (QR Try.prog [(2, some (10, true))] (RF7 res)) (argE 0 [v0]) ⟨0, []⟩ by
  rw [hres]
  exact fnE text7 (by simp) H
 unfold m1_law13_Args__scope at hres
 unfold ac7
 refine rc_seq ?_
 refine rc_region ?_
 refine rd_op (ov_box rfl (TR.cnt law13_Args.t r0)) ?_
 refine rd_allocO (x := .agg [vs [], nilS, nilS, nilS, nilS, nilS, nilS, nilS, nilS, nilS]) (Mem.nil ⟨0, []⟩) rfl rfl (fun i101 w101 h101 M101 => ?_)
 refine rd_nil ?_
 refine pn_seq ?_
 refine rc_seq ?_
 refine rc_region ?_
 obtain ⟨v103, e103, r103⟩ := law13_Args.g_P r0
 refine rd_op (ov_faddr rfl e103) ?_
 refine rd_op (ov_load rfl (TR.cnt api_Program.t r103) (TR.agg api_Program.t r103)) ?_
 obtain ⟨v104, e104, r104⟩ := law13_Args.g_Params r0
 refine rd_op (ov_faddr rfl e104) ?_
 refine rd_op (ov_load rfl (TR.cnt (tSl api_Field.t) r104) (TR.agg (tSl api_Field.t) r104)) ?_
 obtain ⟨v105_c1, v105_c2, v105_c3, v105_c4, v105_c5, v105_c6, v105_c7, v105_c8, e105, r105_c1, r105_c2, r105_c3, r105_c4, r105_c5, r105_c6, r105_c7, r105_c8⟩ := r103
 subst e105
 refine rd_op (v := .agg [vs x0.P.Name, v105_c1, v105_c2, v105_c3, v105_c4, v105_c5, v105_c6, v105_c7, v105_c8, v104]) (ov_build (cs := [vs x0.P.Name, v105_c1, v105_c2, v105_c3, v105_c4, v105_c5, v105_c6, v105_c7, v105_c8, v104]) rfl (by simp only [buildV, cells_one (TR.cnt (tSl api_Field.t) r104) (TR.agg (tSl api_Field.t) r104)]; rfl)) ?_
 refine rd_storeO (k := 0) (v := .agg [vs x0.P.Name, v105_c1, v105_c2, v105_c3, v105_c4, v105_c5, v105_c6, v105_c7, v105_c8, v104]) M101 rfl rfl rfl rfl (fun h106 M106 => ?_)
 replace M106 : Mem h106 [⟨.op i101 w101 0, 46, 10, [.agg [vs x0.P.Name, v105_c1, v105_c2, v105_c3, v105_c4, v105_c5, v105_c6, v105_c7, v105_c8, v104]]⟩] := M106
 refine rd_nil ?_
 refine pn_seq ?_
 subst hres
 exact rc_retV (.cell rfl (load_whole (k := 0) M106 rfl rfl) .nil) (deep_closed (TR.clo expr_Scope.t (show expr_Scope.t.R ({ Program := x0.P, Params := x0.Params } : expr_Scope) (.agg [vs x0.P.Name, v105_c1, v105_c2, v105_c3, v105_c4, v105_c5, v105_c6, v105_c7, v105_c8, v104]) from ⟨v105_c1, v105_c2, v105_c3, v105_c4, v105_c5, v105_c6, v105_c7, v105_c8, v104, rfl, r105_c1, r105_c2, r105_c3, r105_c4, r105_c5, r105_c6, r105_c7, r105_c8, r104⟩))) (show expr_Scope.t.R ({ Program := x0.P, Params := x0.Params } : expr_Scope) (.agg [vs x0.P.Name, v105_c1, v105_c2, v105_c3, v105_c4, v105_c5, v105_c6, v105_c7, v105_c8, v104]) from ⟨v105_c1, v105_c2, v105_c3, v105_c4, v105_c5, v105_c6, v105_c7, v105_c8, v104, rfl, r105_c1, r105_c2, r105_c3, r105_c4, r105_c5, r105_c6, r105_c7, r105_c8, r104⟩)

/-- patchbay/expr.arity -/
def RF23 (res : Int) (r : PV) : Prop := r = vi res
theorem f23_ok {x0 : Int} : FnR Try.prog 23 [vi x0] (vi (expr_arity x0)) := by
 obtain ⟨res, hres⟩ : ∃ res, expr_arity x0 = res := ⟨_, rfl⟩
 suffices H : RC Try.prog ac23 [] (QR Try.prog [(2, none)] (RF23 res)) (argE 0 [vi x0]) ⟨0, []⟩ by
  obtain ⟨r, h1, h2⟩ := fnE text23 (by simp) H
  rw [hres]
  have h2 : r = vi res := h2
  rw [← h2]; exact h1
 unfold expr_arity at hres
 unfold ac23
 refine rc_seq ?_
 refine rc_region ?_
 refine rd_op (v := vi 0) (ov_move rfl) ?_
 refine rd_nil ?_
 refine pn_seq ?_
 refine rc_seq ?_
 refine rc_seq ?_
 refine rc_region ?_
 refine rd_op (ov_move rfl) ?_
 refine rd_nil ?_
 refine pn_seq ?_
 refine rc_block ?_
 refine rc_seq ?_
 refine rc_seq ?_
 refine rc_region ?_
 refine rd_op (ov_bin rfl rfl i_eql) ?_
 refine rd_op (ov_move rfl) ?_
 refine rd_nil ?_
 refine pn_seq ?_
 obtain ⟨k104, hk104, hres⟩ := let_ex hres
 refine rc_join (F := fun b S Q => ∀ (x4_104 : Bool), k104 x4_104 = res → RC Try.prog b S Q [(4, vb x4_104), (3, vi x0)] ⟨0, []⟩) ?_ ?_
 ·intro x4_104  hres
  rw [← hk104] at hres
  refine rc_cond rfl (fun hc105 => ?_) (fun hc105 => ?_)
  ·replace hres := (ite_t hc105).symm.trans hres
   have hc105' := hc105
   try simp only [qa1, qa2, qa3, qa4, qa5, qa6, qa7, qa8, qa9, qaA, qaB, qaC, qaD] at hc105'
   refine rc_seq ?_
   refine rc_region ?_
   refine rd_op (v := vi 0) (ov_move rfl) ?_
   refine rd_nil ?_
   refine pn_seq ?_
   subst hres
   exact rc_retV (.tmp rfl .nil) (deep_closed rfl) rfl
  ·replace hres := (ite_f hc105).symm.trans hres
   have hc105' := hc105
   try simp only [qa1, qa2, qa3, qa4, qa5, qa6, qa7, qa8, qa9, qaA, qaB, qaC, qaD] at hc105'
   refine rc_seq ?_
   refine rc_seq ?_
   refine rc_region ?_
   refine rd_op (ov_bin rfl rfl i_eql) ?_
   refine rd_op (ov_move rfl) ?_
   refine rd_nil ?_
   refine pn_seq ?_
   obtain ⟨k109, hk109, hres⟩ := let_ex hres
   refine rc_join (F := fun b S Q => ∀ (x9_109 : Bool), k109 x9_109 = res → RC Try.prog b S Q [(9, vb x9_109), (3, vi x0)] ⟨0, []⟩) ?_ ?_
   ·intro x9_109  hres
    rw [← hk109] at hres
    refine rc_cond rfl (fun hc110 => ?_) (fun hc110 => ?_)
    ·replace hres := (ite_t hc110).symm.trans hres
     have hc110' := hc110
     try simp only [qa1, qa2, qa3, qa4, qa5, qa6, qa7, qa8, qa9, qaA, qaB, qaC, qaD] at hc110'
     refine rc_seq ?_
     refine rc_region ?_
     refine rd_op (v := vi 1) (ov_move rfl) ?_
     refine rd_nil ?_
     refine pn_seq ?_
     subst hres
     exact rc_retV (.tmp rfl .nil) (deep_closed rfl) rfl
    ·replace hres := (ite_f hc110).symm.trans hres
     have hc110' := hc110
     try simp only [qa1, qa2, qa3, qa4, qa5, qa6, qa7, qa8, qa9, qaA, qaB, qaC, qaD] at hc110'
     refine rc_seq ?_
     refine rc_seq ?_
     refine rc_region ?_
     refine rd_op (ov_bin rfl rfl i_eql) ?_
     refine rd_op (ov_move rfl) ?_
     refine rd_nil ?_
     refine pn_seq ?_
     obtain ⟨k118, hk118, hres⟩ := let_ex hres
     refine rc_join (F := fun b S Q => ∀ (x14_118 : Bool), k118 x14_118 = res → RC Try.prog b S Q [(14, vb x14_118), (3, vi x0)] ⟨0, []⟩) ?_ ?_
     ·intro x14_118  hres
      rw [← hk118] at hres
      refine rc_cond rfl (fun hc119 => ?_) (fun hc119 => ?_)
      ·replace hres := (ite_t hc119).symm.trans hres
       have hc119' := hc119
       try simp only [qa1, qa2, qa3, qa4, qa5, qa6, qa7, qa8, qa9, qaA, qaB, qaC, qaD] at hc119'
       refine rc_seq ?_
       refine rc_region ?_
       refine rd_op (v := vi 2) (ov_move rfl) ?_
       refine rd_nil ?_
       refine pn_seq ?_
       subst hres
       exact rc_retV (.tmp rfl .nil) (deep_closed rfl) rfl
      ·replace hres := (ite_f hc119).symm.trans hres
       have hc119' := hc119
       try simp only [qa1, qa2, qa3, qa4, qa5, qa6, qa7, qa8, qa9, qaA, qaB, qaC, qaD] at hc119'
       refine rc_seq ?_
       refine rc_region ?_
       refine rd_op (ov_bin rfl rfl i_eql) ?_
       refine rd_op (ov_move rfl) ?_
       refine rd_nil ?_
       refine pn_seq ?_
       refine rc_cond rfl (fun hc120 => ?_) (fun hc120 => ?_)
       ·replace hres := (ite_t hc120).symm.trans hres
        have hc120' := hc120
        try simp only [qa1, qa2, qa3, qa4, qa5, qa6, qa7, qa8, qa9, qaA, qaB, qaC, qaD] at hc120'
        refine rc_seq ?_
        refine rc_region ?_
        refine rd_op (v := vi 3) (ov_move rfl) ?_
        refine rd_nil ?_
        refine pn_seq ?_
        subst hres
        exact rc_retV (.tmp rfl .nil) (deep_closed rfl) rfl
       ·replace hres := (ite_f hc120).symm.trans hres
        have hc120' := hc120
        try simp only [qa1, qa2, qa3, qa4, qa5, qa6, qa7, qa8, qa9, qaA, qaB, qaC, qaD] at hc120'
        refine rc_skip ?_
        refine pn_blk ?_
        refine pn_seq ?_
        refine rc_seq ?_
        refine rc_region ?_
        refine rd_op (v := vi (-1)) (ov_move rfl) ?_
        refine rd_nil ?_
        refine pn_seq ?_
        subst hres
        exact rc_retV (.tmp rfl .nil) (deep_closed rfl) rfl
     ·intro J
      refine rc_cond rfl (fun hc121 => ?_) (fun hc121 => ?_)
      ·replace hres := (ite_t hc121).symm.trans hres
       have hc121' := hc121
       try simp only [qa1, qa2, qa3, qa4, qa5, qa6, qa7, qa8, qa9, qaA, qaB, qaC, qaD] at hc121'
       refine rc_skip ?_
       refine pn_seq (rc_weak ((sub_cons rfl (sub_cons rfl (sub_nil _)))) (J _  hres))
      ·replace hres := (ite_f hc121).symm.trans hres
       have hc121' := hc121
       try simp only [qa1, qa2, qa3, qa4, qa5, qa6, qa7, qa8, qa9, qaA, qaB, qaC, qaD] at hc121'
       refine rc_seq ?_
       refine rc_region ?_
       refine rd_op (ov_bin rfl rfl i_eql) ?_
       refine rd_op (ov_move rfl) ?_
       refine rd_nil ?_
       refine pn_seq ?_
       refine rc_cond rfl (fun hc122 => ?_) (fun hc122 => ?_)
       ·replace hres := (ite_t hc122).symm.trans hres
        have hc122' := hc122
        try simp only [qa1, qa2, qa3, qa4, qa5, qa6, qa7, qa8, qa9, qaA, qaB, qaC, qaD] at hc122'
        refine rc_skip ?_
        refine pn_seq (rc_weak ((sub_cons rfl (sub_cons rfl (sub_nil _)))) (J _  hres))
       ·replace hres := (ite_f hc122).symm.trans hres
        have hc122' := hc122
        try simp only [qa1, qa2, qa3, qa4, qa5, qa6, qa7, qa8, qa9, qaA, qaB, qaC, qaD] at hc122'
        refine rc_seq ?_
        refine rc_region ?_
        refine rd_op (ov_bin rfl rfl i_eql) ?_
        refine rd_op (ov_move rfl) ?_
        refine rd_nil ?_
        refine pn_seq ?_
        refine rc_cond rfl (fun hc123 => ?_) (fun hc123 => ?_)
        ·replace hres := (ite_t hc123).symm.trans hres
         have hc123' := hc123
         try simp only [qa1, qa2, qa3, qa4, qa5, qa6, qa7, qa8, qa9, qaA, qaB, qaC, qaD] at hc123'
         refine rc_skip ?_
         refine pn_seq (rc_weak ((sub_cons rfl (sub_cons rfl (sub_nil _)))) (J _  hres))
        ·replace hres := (ite_f hc123).symm.trans hres
         have hc123' := hc123
         try simp only [qa1, qa2, qa3, qa4, qa5, qa6, qa7, qa8, qa9, qaA, qaB, qaC, qaD] at hc123'
         refine rc_seq ?_
         refine rc_region ?_
         refine rd_op (ov_bin rfl rfl i_eql) ?_
         refine rd_op (ov_move rfl) ?_
         refine rd_nil ?_
         refine pn_seq ?_
         refine rc_cond rfl (fun hc124 => ?_) (fun hc124 => ?_)
         ·replace hres := (ite_t hc124).symm.trans hres
          have hc124' := hc124
          try simp only [qa1, qa2, qa3, qa4, qa5, qa6, qa7, qa8, qa9, qaA, qaB, qaC, qaD] at hc124'
          refine rc_skip ?_
          refine pn_seq (rc_weak ((sub_cons rfl (sub_cons rfl (sub_nil _)))) (J _  hres))
         ·replace hres := (ite_f hc124).symm.trans hres
          have hc124' := hc124
          try simp only [qa1, qa2, qa3, qa4, qa5, qa6, qa7, qa8, qa9, qaA, qaB, qaC, qaD] at hc124'
          refine rc_seq ?_
          refine rc_region ?_
          refine rd_op (ov_bin rfl rfl i_eql) ?_
          refine rd_op (ov_move rfl) ?_
          refine rd_nil ?_
          refine pn_seq ?_
          refine rc_cond rfl (fun hc125 => ?_) (fun hc125 => ?_)
          ·replace hres := (ite_t hc125).symm.trans hres
           have hc125' := hc125
           try simp only [qa1, qa2, qa3, qa4, qa5, qa6, qa7, qa8, qa9, qaA, qaB, qaC, qaD] at hc125'
           refine rc_skip ?_
           refine pn_seq (rc_weak ((sub_cons rfl (sub_cons rfl (sub_nil _)))) (J _  hres))
          ·replace hres := (ite_f hc125).symm.trans hres
           have hc125' := hc125
           try simp only [qa1, qa2, qa3, qa4, qa5, qa6, qa7, qa8, qa9, qaA, qaB, qaC, qaD] at hc125'
           refine rc_seq ?_
           refine rc_region ?_
           refine rd_op (ov_bin rfl rfl i_eql) ?_
           refine rd_op (ov_move rfl) ?_
           refine rd_nil ?_
           refine pn_seq ?_
           refine rc_cond rfl (fun hc126 => ?_) (fun hc126 => ?_)
           ·replace hres := (ite_t hc126).symm.trans hres
            have hc126' := hc126
            try simp only [qa1, qa2, qa3, qa4, qa5, qa6, qa7, qa8, qa9, qaA, qaB, qaC, qaD] at hc126'
            refine rc_skip ?_
            refine pn_seq (rc_weak ((sub_cons rfl (sub_cons rfl (sub_nil _)))) (J _  hres))
           ·replace hres := (ite_f hc126).symm.trans hres
            have hc126' := hc126
            try simp only [qa1, qa2, qa3, qa4, qa5, qa6, qa7, qa8, qa9, qaA, qaB, qaC, qaD] at hc126'
            refine rc_seq ?_
            refine rc_region ?_
            refine rd_op (ov_bin rfl rfl i_eql) ?_
            refine rd_op (ov_move rfl) ?_
            refine rd_nil ?_
            refine pn_seq ?_
            refine rc_cond rfl (fun hc127 => ?_) (fun hc127 => ?_)
            ·replace hres := (ite_t hc127).symm.trans hres
             have hc127' := hc127
             try simp only [qa1, qa2, qa3, qa4, qa5, qa6, qa7, qa8, qa9, qaA, qaB, qaC, qaD] at hc127'
             refine rc_skip ?_
             refine pn_seq (rc_weak ((sub_cons rfl (sub_cons rfl (sub_nil _)))) (J _  hres))
            ·replace hres := (ite_f hc127).symm.trans hres
             have hc127' := hc127
             try simp only [qa1, qa2, qa3, qa4, qa5, qa6, qa7, qa8, qa9, qaA, qaB, qaC, qaD] at hc127'
             refine rc_region ?_
             refine rd_op (ov_bin rfl rfl i_eql) ?_
             refine rd_op (ov_move rfl) ?_
             refine rd_nil ?_
             refine pn_seq (rc_weak ((sub_cons rfl (sub_cons rfl (sub_nil _)))) (J _  hres))
   ·intro J
    refine rc_cond rfl (fun hc128 => ?_) (fun hc128 => ?_)
    ·replace hres := (ite_t hc128).symm.trans hres
     have hc128' := hc128
     try simp only [qa1, qa2, qa3, qa4, qa5, qa6, qa7, qa8, qa9, qaA, qaB, qaC, qaD] at hc128'
     refine rc_skip ?_
     refine pn_seq (rc_weak ((sub_cons rfl (sub_cons rfl (sub_nil _)))) (J _  hres))
    ·replace hres := (ite_f hc128).symm.trans hres
     have hc128' := hc128
     try simp only [qa1, qa2, qa3, qa4, qa5, qa6, qa7, qa8, qa9, qaA, qaB, qaC, qaD] at hc128'
     refine rc_seq ?_
     refine rc_region ?_
     refine rd_op (ov_bin rfl rfl i_eql) ?_
     refine rd_op (ov_move rfl) ?_
     refine rd_nil ?_
     refine pn_seq ?_
     refine rc_cond rfl (fun hc129 => ?_) (fun hc129 => ?_)
     ·replace hres := (ite_t hc129).symm.trans hres
      have hc129' := hc129
      try simp only [qa1, qa2, qa3, qa4, qa5, qa6, qa7, qa8, qa9, qaA, qaB, qaC, qaD] at hc129'
      refine rc_skip ?_
      refine pn_seq (rc_weak ((sub_cons rfl (sub_cons rfl (sub_nil _)))) (J _  hres))
     ·replace hres := (ite_f hc129).symm.trans hres
      have hc129' := hc129
      try simp only [qa1, qa2, qa3, qa4, qa5, qa6, qa7, qa8, qa9, qaA, qaB, qaC, qaD] at hc129'
      refine rc_seq ?_
      refine rc_region ?_
      refine rd_op (ov_bin rfl rfl i_eql) ?_
      refine rd_op (ov_move rfl) ?_
      refine rd_nil ?_
      refine pn_seq ?_
      refine rc_cond rfl (fun hc130 => ?_) (fun hc130 => ?_)
      ·replace hres := (ite_t hc130).symm.trans hres
       have hc130' := hc130
       try simp only [qa1, qa2, qa3, qa4, qa5, qa6, qa7, qa8, qa9, qaA, qaB, qaC, qaD] at hc130'
       refine rc_skip ?_
       refine pn_seq (rc_weak ((sub_cons rfl (sub_cons rfl (sub_nil _)))) (J _  hres))
      ·replace hres := (ite_f hc130).symm.trans hres
       have hc130' := hc130
       try simp only [qa1, qa2, qa3, qa4, qa5, qa6, qa7, qa8, qa9, qaA, qaB, qaC, qaD] at hc130'
       refine rc_region ?_
       refine rd_op (ov_bin rfl rfl i_eql) ?_
       refine rd_op (ov_move rfl) ?_
       refine rd_nil ?_
       refine pn_seq (rc_weak ((sub_cons rfl (sub_cons rfl (sub_nil _)))) (J _  hres))
 ·intro J
  refine rc_cond rfl (fun hc131 => ?_) (fun hc131 => ?_)
  ·replace hres := (ite_t hc131).symm.trans hres
   have hc131' := hc131
   try simp only [qa1, qa2, qa3, qa4, qa5, qa6, qa7, qa8, qa9, qaA, qaB, qaC, qaD] at hc131'
   refine rc_skip ?_
   refine pn_seq (rc_weak ((sub_cons rfl (sub_cons rfl (sub_nil _)))) (J _  hres))
  ·replace hres := (ite_f hc131).symm.trans hres
   have hc131' := hc131
   try simp only [qa1, qa2, qa3, qa4, qa5, qa6, qa7, qa8, qa9, qaA, qaB, qaC, qaD] at hc131'
   refine rc_seq ?_
   refine rc_region ?_
   refine rd_op (ov_bin rfl rfl i_eql) ?_
   refine rd_op (ov_move rfl) ?_
   refine rd_nil ?_
   refine pn_seq ?_
   refine rc_cond rfl (fun hc132 => ?_) (fun hc132 => ?_)
   ·replace hres := (ite_t hc132).symm.trans hres
    have hc132' := hc132
    try simp only [qa1, qa2, qa3, qa4, qa5, qa6, qa7, qa8, qa9, qaA, qaB, qaC, qaD] at hc132'
    refine rc_skip ?_
    refine pn_seq (rc_weak ((sub_cons rfl (sub_cons rfl (sub_nil _)))) (J _  hres))
   ·replace hres := (ite_f hc132).symm.trans hres
    have hc132' := hc132
    try simp only [qa1, qa2, qa3, qa4, qa5, qa6, qa7, qa8, qa9, qaA, qaB, qaC, qaD] at hc132'
    refine rc_seq ?_
    refine rc_region ?_
    refine rd_op (ov_bin rfl rfl i_eql) ?_
    refine rd_op (ov_move rfl) ?_
    refine rd_nil ?_
    refine pn_seq ?_
    refine rc_cond rfl (fun hc133 => ?_) (fun hc133 => ?_)
    ·replace hres := (ite_t hc133).symm.trans hres
     have hc133' := hc133
     try simp only [qa1, qa2, qa3, qa4, qa5, qa6, qa7, qa8, qa9, qaA, qaB, qaC, qaD] at hc133'
     refine rc_skip ?_
     refine pn_seq (rc_weak ((sub_cons rfl (sub_cons rfl (sub_nil _)))) (J _  hres))
    ·replace hres := (ite_f hc133).symm.trans hres
     have hc133' := hc133
     try simp only [qa1, qa2, qa3, qa4, qa5, qa6, qa7, qa8, qa9, qaA, qaB, qaC, qaD] at hc133'
     refine rc_region ?_
     refine rd_op (ov_bin rfl rfl i_eql) ?_
     refine rd_op (ov_move rfl) ?_
     refine rd_nil ?_
     refine pn_seq (rc_weak ((sub_cons rfl (sub_cons rfl (sub_nil _)))) (J _  hres))

/-- patchbay/expr.wide -/
def RF49 (res : Int × Int) (r : PV) : Prop := r = .tup [vi res.1, vi res.2]
theorem f49_ok {x0 : Int} : FnR Try.prog 49 [vi x0] (.tup [vi ((expr_wide x0).1), vi ((expr_wide x0).2)]) := by
 obtain ⟨res, hres⟩ : ∃ res, expr_wide x0 = res := ⟨_, rfl⟩
 suffices H : RC Try.prog ac49 [] (QR Try.prog [(2, none), (3, none)] (RF49 res)) (argE 0 [vi x0]) ⟨0, []⟩ by
  obtain ⟨r, h1, h2⟩ := fnE text49 (by simp) H
  rw [hres]
  have h2 : r = .tup [vi res.1, vi res.2] := h2
  rw [← h2]; exact h1
 unfold expr_wide at hres
 unfold ac49
 refine rc_seq ?_
 refine rc_region ?_
 refine rd_op (v := vi 0) (ov_move rfl) ?_
 refine rd_op (v := vi 0) (ov_move rfl) ?_
 refine rd_nil ?_
 refine pn_seq ?_
 refine rc_seq ?_
 refine rc_seq ?_
 refine rc_region ?_
 refine rd_op (ov_move rfl) ?_
 refine rd_op (ov_bin rfl rfl i_lss) ?_
 refine rd_op (ov_move rfl) ?_
 refine rd_cut (d := 9) (v := vb ((decide (x0 < 1)) || (decide (32 < x0)))) ?_ ?_
 ·intro S Q r
  simp only [ac49_G1, List.cons_append, List.nil_append, List.append_assoc]
  cases hb101 : (decide (x0 < 1))
  ·intro k
   have hb101' := hb101
   try simp only [qa1, qa2, qa3, qa4, qa5, qa6, qa7, qa8, qa9, qaA, qaB, qaC, qaD] at hb101'
   refine rd_yes rfl rfl (ov_move rfl) ?_
   refine rd_yes rfl rfl (ov_bin rfl rfl i_gtr) ?_
   refine rd_op (v := vb (decide (32 < x0))) (ov_pick rfl rfl rfl rfl) ?_
   exact rd_weak (sub_cons rfl (sub_skip rfl (sub_skip rfl (sub_skip rfl (sub_refl _))))) k
  ·intro k
   refine rd_skip rfl rfl ?_
   refine rd_skip rfl rfl ?_
   refine rd_op (v := vb true) (ov_pick rfl rfl rfl rfl) ?_
   exact rd_weak (sub_cons rfl (sub_skip rfl (sub_skip rfl (sub_skip rfl (sub_refl _))))) k
 refine rd_nil ?_
 refine pn_seq ?_
 refine rc_cond rfl (fun hc102 => ?_) (fun hc102 => ?_)
 ·replace hres := (ite_t hc102).symm.trans hres
  have hc102' := hc102
  try simp only [qa1, qa2, qa3, qa4, qa5, qa6, qa7, qa8, qa9, qaA, qaB, qaC, qaD] at hc102'
  refine rc_seq ?_
  refine rc_region ?_
  refine rd_op (v := vi 0) (ov_move rfl) ?_
  refine rd_op (v := vi 10) (ov_move rfl) ?_
  refine rd_nil ?_
  refine pn_seq ?_
  subst hres
  exact rc_retV (.tmp rfl (.tmp rfl .nil)) (deep_closed (show closed (.tup _) = true from (clL_cons rfl (clL_cons rfl clL_nil)))) rfl
 ·replace hres := (ite_f hc102).symm.trans hres
  have hc102' := hc102
  try simp only [qa1, qa2, qa3, qa4, qa5, qa6, qa7, qa8, qa9, qaA, qaB, qaC, qaD] at hc102'
  refine rc_skip ?_
  refine pn_seq ?_
  refine rc_seq ?_
  refine rc_region ?_
  refine rd_op (ov_move rfl) ?_
  refine rd_op (ov_move rfl) ?_
  refine rd_op (v := vi 0) (ov_move rfl) ?_
  refine rd_nil ?_
  refine pn_seq ?_
  subst hres
  exact rc_retV (.tmp rfl (.tmp rfl .nil)) (deep_closed (show closed (.tup _) = true from (clL_cons rfl (clL_cons rfl clL_nil)))) rfl

/-- patchbay/bitvec.valid -/
def RF83 (res : Bool) (r : PV) : Prop := r = vb res
theorem bitvec_valid_L1_ok {S : List Fr} {res : Bool} {x0 : List Int} {v0 : PV} (r0 : (tSl tI).R x0 v0) {K0 : Unit → Bool}
  (hK0 : K0 () = res → PX Try.prog 0 S (QR Try.prog [(2, none)] (RF83 res)) [] ⟨0, []⟩) :
  ∀ (m : Nat) (x7_ : Int) (hm1 : m = Int.toNat ((x0.length : Int) - x7_)) (hlo1 : 0 ≤ x7_), bitvec_valid_L1 x0 K0 m x7_ = res → RC Try.prog (.loop ac83_L1) S (QR Try.prog [(2, none)] (RF83 res)) [(7, vi x7_), (6, vi (x0.length : Int)), (5, v0)] ⟨0, []⟩ := by
 intro m
 induction m with
 | zero =>
  intro x7_ hm1 hlo1 hres
  rw [bitvec_valid_L1] at hres
  refine rc_loop ?_
  unfold ac83_L1
  refine rc_seq ?_
  refine rc_region ?_
  refine rd_op (ov_bin rfl rfl i_lss) ?_
  refine rd_nil ?_
  refine pn_seq ?_
  refine rc_seq ?_
  refine rc_cond rfl (fun hc101 => ?_) (fun hc101 => ?_)
  ·exfalso
   try simp only [qa1, qa2, qa3, qa4, qa5, qa6, qa7, qa8, qa9, qaA, qaB, qaC, qaD] at hc101
   omega
  ·have hend := hres
   have hc101' := hc101
   try simp only [qa1, qa2, qa3, qa4, qa5, qa6, qa7, qa8, qa9, qaA, qaB, qaC, qaD] at hc101'
   refine rc_exit ?_
   refine px_seq ?_
   refine px_again ?_
   exact px_weak ((sub_nil _)) (hK0  hres)
 | succ m ih =>
  intro x7_ hm1 hlo1 hres
  rw [bitvec_valid_L1] at hres
  refine rc_loop ?_
  unfold ac83_L1
  refine rc_seq ?_
  refine rc_region ?_
  refine rd_op (ov_bin rfl rfl i_lss) ?_
  refine rd_nil ?_
  refine pn_seq ?_
  refine rc_seq ?_
  refine rc_cond rfl (fun hc102 => ?_) (fun hc102 => ?_)
  ·have hgo := hres
   have hc102' := hc102
   try simp only [qa1, qa2, qa3, qa4, qa5, qa6, qa7, qa8, qa9, qaA, qaB, qaC, qaD] at hc102'
   refine rc_skip ?_
   refine pn_seq ?_
   refine rc_seq ?_
   refine rc_block ?_
   refine rc_seq ?_
   refine rc_region ?_
   refine rd_op (ov_iaddr rfl rfl (slI r0 (by omega) (by omega))) ?_
   refine rd_op (ov_load rfl rfl rfl) ?_
   refine rd_op (ov_move rfl) ?_
   refine rd_nil ?_
   refine pn_seq ?_
   refine rc_seq ?_
   refine rc_region ?_
   refine rd_op (ov_move rfl) ?_
   refine rd_op (ov_bin rfl rfl i_lss) ?_
   refine rd_op (ov_move rfl) ?_
   refine rd_cut (d := 16) (v := vb ((decide ((ix x0 x7_) < 1)) || (decide (32 < (ix x0 x7_))))) ?_ ?_
   ·intro S Q r
    simp only [ac83_G1, List.cons_append, List.nil_append, List.append_assoc]
    cases hb103 : (decide ((ix x0 x7_) < 1))
    ·intro k
     have hb103' := hb103
     try simp only [qa1, qa2, qa3, qa4, qa5, qa6, qa7, qa8, qa9, qaA, qaB, qaC, qaD] at hb103'
     refine rd_yes rfl rfl (ov_move rfl) ?_
     refine rd_yes rfl rfl (ov_bin rfl rfl i_gtr) ?_
     refine rd_op (v := vb (decide (32 < (ix x0 x7_)))) (ov_pick rfl rfl rfl rfl) ?_
     exact rd_weak (sub_cons rfl (sub_skip rfl (sub_skip rfl (sub_skip rfl (sub_refl _))))) k
    ·intro k
     refine rd_skip rfl rfl ?_
     refine rd_skip rfl rfl ?_
     refine rd_op (v := vb true) (ov_pick rfl rfl rfl rfl) ?_
     exact rd_weak (sub_cons rfl (sub_skip rfl (sub_skip rfl (sub_skip rfl (sub_refl _))))) k
   refine rd_nil ?_
   refine pn_seq ?_
   refine rc_cond rfl (fun hc104 => ?_) (fun hc104 => ?_)
   ·replace hres := (ite_t hc104).symm.trans hres
    have hc104' := hc104
    try simp only [qa1, qa2, qa3, qa4, qa5, qa6, qa7, qa8, qa9, qaA, qaB, qaC, qaD] at hc104'
    refine rc_seq ?_
    refine rc_region ?_
    refine rd_op (v := vb false) (ov_move rfl) ?_
    refine rd_nil ?_
    refine pn_seq ?_
    subst hres
    exact rc_retV (.tmp rfl .nil) (deep_closed rfl) rfl
   ·replace hres := (ite_f hc104).symm.trans hres
    have hc104' := hc104
    try simp only [qa1, qa2, qa3, qa4, qa5, qa6, qa7, qa8, qa9, qaA, qaB, qaC, qaD] at hc104'
    refine rc_skip ?_
    refine pn_blk ?_
    refine pn_seq ?_
    refine rc_region ?_
    refine rd_op (ov_bin rfl rfl i_add) ?_
    refine rd_op (ov_move rfl) ?_
    refine rd_nil ?_
    refine pn_again ?_
    have hbd := sl_bound r0
    have hinc : wr (x7_ + 1) = x7_ + 1 := wr_of (by omega) (by omega)
    rw [hinc]
    refine rc_weak ?_ (ih (x7_ + 1)  (by omega) (by omega) hres)
    exact ((sub_cons rfl (sub_cons rfl (sub_cons rfl (sub_nil _)))))
  ·exfalso
   try simp only [qa1, qa2, qa3, qa4, qa5, qa6, qa7, qa8, qa9, qaA, qaB, qaC, qaD] at hc102
   omega

theorem f83_ok {x0 : List Int} {v0 : PV} (r0 : (tSl tI).R x0 v0) : FnR Try.prog 83 [v0] (vb (bitvec_valid x0)) := by
 obtain ⟨res, hres⟩ : ∃ res, bitvec_valid x0 = res := ⟨_, rfl⟩
 suffices H : RC Try.prog ac83 [] (QR Try.prog [(2, none)] (RF83 res)) (argE 0 [v0]) ⟨0, []⟩ by
  obtain ⟨r, h1, h2⟩ := fnE text83 (by simp) H
  rw [hres]
  have h2 : r = vb res := h2
  rw [← h2]; exact h1
 unfold bitvec_valid at hres
 unfold ac83
 refine rc_seq ?_
 refine rc_region ?_
 refine rd_op (v := vb false) (ov_move rfl) ?_
 refine rd_nil ?_
 refine pn_seq ?_
 refine rc_seq ?_
 refine rc_seq ?_
 refine rc_region ?_
 refine rd_op (ov_move rfl) ?_
 refine rd_op (ov_bi rfl (sl_len r0 Try.underlying29 _)) ?_
 refine rd_op (v := vi 0) (ov_move rfl) ?_
 refine rd_nil ?_
 refine pn_seq ?_
 refine rc_block ?_
 refine rc_weak ?_ (bitvec_valid_L1_ok (x0 := x0) (v0 := v0)  (r0 := r0) ?_ (Int.toNat ((x0.length : Int) - 0)) 0 rfl (by omega) hres)
 ·exact ((sub_cons rfl (sub_cons rfl (sub_cons rfl (sub_nil _)))))
 ·intro  hres
  refine px_blk ?_
  refine pn_seq ?_
  refine rc_seq ?_
  refine rc_region ?_
  refine rd_op (v := vb true) (ov_move rfl) ?_
  refine rd_nil ?_
  refine pn_seq ?_
  subst hres
  exact rc_retV (.tmp rfl .nil) (deep_closed rfl) rfl

end Go.Proofs.Ytnejfbehaembkaa
