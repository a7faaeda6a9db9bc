/-
 The code of each function does what its plain program says.
-/
import Derived.Test.YtklfdkbemkommaaL8W5
set_option linter.unusedVariables false
set_option linter.unusedSimpArgs false
set_option maxRecDepth 100000
namespace Go.Proofs.Ytklfdkbemkommaa
open Go Go.Pb Go.RowKit
/-- patchbay/patchbayref05.letter -/
def RF75 (res : Bool) (r : PV) : Prop := r = vb res
theorem f75_ok {x0 : UInt8} : FnR Try.prog 75 [vu8 x0] (vb (ref05_letter x0)) := by
 obtain ⟨res, hres⟩ : ∃ res, ref05_letter x0 = res := ⟨_, rfl⟩
 suffices H : RC Try.prog ac75 [] (QR Try.prog [(2, none)] (RF75 res)) (argE 0 [vu8 x0]) ⟨0, []⟩ by
  obtain ⟨r, h1, h2⟩ := fnE text75 (by simp) H
  rw [hres]
  have h2 : r = vb res := h2
  rw [← h2]; exact h1
 unfold ref05_letter at hres
 unfold ac75
 refine rc_seq ?_
 refine rc_region ?_
 refine rd_op (v := vb false) (ov_move rfl) ?_
 refine rd_nil ?_
 refine pn_seq ?_
 refine rc_seq ?_
 refine rc_region ?_
 refine rd_op (ov_move rfl) ?_
 refine rd_op (ov_bin (a := vu8 x0) (b := vu8 (97 : UInt8)) rfl rfl y_geq) ?_
 refine rd_op (ov_move rfl) ?_
 refine rd_cut (d := 8) (v := vb ((decide ((97 : UInt8) ≤ x0)) && (decide (x0 ≤ (122 : UInt8))))) ?_ ?_
 ·intro S Q r
  simp only [ac75_G1, List.cons_append, List.nil_append, List.append_assoc]
  cases hb101 : (decide ((97 : UInt8) ≤ x0))
  ·intro k
   refine rd_skip rfl rfl ?_
   refine rd_skip rfl rfl ?_
   refine rd_op (v := vb false) (ov_pick rfl rfl rfl rfl) ?_
   exact rd_weak (sub_cons rfl (sub_skip rfl (sub_skip rfl (sub_skip rfl (sub_refl _))))) k
  ·intro k
   have hb101' := hb101
   try simp only [qa1, qa2, qa3, qa4, qa5, qa6, qa7, qa8, qa9, qaA, qaB, qaC, qaD] at hb101'
   refine rd_yes rfl rfl (ov_move rfl) ?_
   refine rd_yes rfl rfl (ov_bin (a := vu8 x0) (b := vu8 (122 : UInt8)) rfl rfl y_leq) ?_
   refine rd_op (v := vb (decide (x0 ≤ (122 : UInt8)))) (ov_pick rfl rfl rfl rfl) ?_
   exact rd_weak (sub_cons rfl (sub_skip rfl (sub_skip rfl (sub_skip rfl (sub_refl _))))) k
 refine rd_op (ov_move rfl) ?_
 refine rd_cut (d := 16) (v := vb (((decide ((97 : UInt8) ≤ x0)) && (decide (x0 ≤ (122 : UInt8)))) || ((decide ((65 : UInt8) ≤ x0)) && (decide (x0 ≤ (90 : UInt8)))))) ?_ ?_
 ·intro S Q r
  simp only [ac75_G2, List.cons_append, List.nil_append, List.append_assoc]
  cases hb102 : ((decide ((97 : UInt8) ≤ x0)) && (decide (x0 ≤ (122 : UInt8))))
  ·intro k
   have hb102' := hb102
   try simp only [qa1, qa2, qa3, qa4, qa5, qa6, qa7, qa8, qa9, qaA, qaB, qaC, qaD] at hb102'
   refine rd_yes rfl rfl (ov_move rfl) ?_
   refine rd_yes rfl rfl (ov_bin (a := vu8 x0) (b := vu8 (65 : UInt8)) rfl rfl y_geq) ?_
   refine rd_yes rfl rfl (ov_move rfl) ?_
   refine rd_cut (d := 15) (v := vb ((decide ((65 : UInt8) ≤ x0)) && (decide (x0 ≤ (90 : UInt8))))) ?_ ?_
   ·intro S Q r
    simp only [ac75_G3, List.cons_append, List.nil_append, List.append_assoc]
    cases hb103 : (decide ((65 : UInt8) ≤ x0))
    ·intro k
     refine rd_skip rfl rfl ?_
     refine rd_skip rfl rfl ?_
     refine rd_yes (v := vb false) rfl rfl (ov_pick rfl rfl rfl rfl) ?_
     exact rd_weak (sub_cons rfl (sub_skip rfl (sub_skip rfl (sub_skip rfl (sub_refl _))))) k
    ·intro k
     have hb103' := hb103
     try simp only [qa1, qa2, qa3, qa4, qa5, qa6, qa7, qa8, qa9, qaA, qaB, qaC, qaD] at hb103'
     refine rd_yes rfl rfl (ov_move rfl) ?_
     refine rd_yes rfl rfl (ov_bin (a := vu8 x0) (b := vu8 (90 : UInt8)) rfl rfl y_leq) ?_
     refine rd_yes (v := vb (decide (x0 ≤ (90 : UInt8)))) rfl rfl (ov_pick rfl rfl rfl rfl) ?_
     exact rd_weak (sub_cons rfl (sub_skip rfl (sub_skip rfl (sub_skip rfl (sub_refl _))))) k
   refine rd_op (v := vb ((decide ((65 : UInt8) ≤ x0)) && (decide (x0 ≤ (90 : UInt8))))) (ov_pick rfl rfl rfl rfl) ?_
   exact rd_weak (sub_cons rfl (sub_skip rfl (sub_skip rfl (sub_skip rfl (sub_skip rfl (sub_skip rfl (sub_refl _))))))) k
  ·intro k
   simp only [ac75_G3, List.cons_append, List.nil_append, List.append_assoc]
   refine rd_skip rfl rfl ?_
   refine rd_skip rfl rfl ?_
   refine rd_skip rfl rfl ?_
   refine rd_skipU rfl ?_
   refine rd_skipU rfl ?_
   refine rd_skip rfl rfl ?_
   refine rd_op (v := vb true) (ov_pick rfl rfl rfl rfl) ?_
   exact rd_weak (sub_cons rfl (sub_skip rfl (sub_skip rfl (sub_skip rfl (sub_skip rfl (sub_skip rfl (sub_skip rfl (sub_skip rfl (sub_refl _))))))))) k
 refine rd_op (ov_move rfl) ?_
 refine rd_nil ?_
 refine pn_seq ?_
 subst hres
 exact rc_retV (.tmp rfl .nil) (deep_closed rfl) rfl

/-- patchbay/patchbayref05.digit -/
def RF76 (res : Bool) (r : PV) : Prop := r = vb res
theorem f76_ok {x0 : UInt8} : FnR Try.prog 76 [vu8 x0] (vb (ref05_digit x0)) := by
 obtain ⟨res, hres⟩ : ∃ res, ref05_digit x0 = res := ⟨_, rfl⟩
 suffices H : RC Try.prog ac76 [] (QR Try.prog [(2, none)] (RF76 res)) (argE 0 [vu8 x0]) ⟨0, []⟩ by
  obtain ⟨r, h1, h2⟩ := fnE text76 (by simp) H
  rw [hres]
  have h2 : r = vb res := h2
  rw [← h2]; exact h1
 unfold ref05_digit at hres
 unfold ac76
 refine rc_seq ?_
 refine rc_region ?_
 refine rd_op (v := vb false) (ov_move rfl) ?_
 refine rd_nil ?_
 refine pn_seq ?_
 refine rc_seq ?_
 refine rc_region ?_
 refine rd_op (ov_move rfl) ?_
 refine rd_op (ov_bin (a := vu8 x0) (b := vu8 (48 : UInt8)) rfl rfl y_geq) ?_
 refine rd_op (ov_move rfl) ?_
 refine rd_cut (d := 8) (v := vb ((decide ((48 : UInt8) ≤ x0)) && (decide (x0 ≤ (57 : UInt8))))) ?_ ?_
 ·intro S Q r
  simp only [ac76_G1, List.cons_append, List.nil_append, List.append_assoc]
  cases hb101 : (decide ((48 : UInt8) ≤ x0))
  ·intro k
   refine rd_skip rfl rfl ?_
   refine rd_skip rfl rfl ?_
   refine rd_op (v := vb false) (ov_pick rfl rfl rfl rfl) ?_
   exact rd_weak (sub_cons rfl (sub_skip rfl (sub_skip rfl (sub_skip rfl (sub_refl _))))) k
  ·intro k
   have hb101' := hb101
   try simp only [qa1, qa2, qa3, qa4, qa5, qa6, qa7, qa8, qa9, qaA, qaB, qaC, qaD] at hb101'
   refine rd_yes rfl rfl (ov_move rfl) ?_
   refine rd_yes rfl rfl (ov_bin (a := vu8 x0) (b := vu8 (57 : UInt8)) rfl rfl y_leq) ?_
   refine rd_op (v := vb (decide (x0 ≤ (57 : UInt8)))) (ov_pick rfl rfl rfl rfl) ?_
   exact rd_weak (sub_cons rfl (sub_skip rfl (sub_skip rfl (sub_skip rfl (sub_refl _))))) k
 refine rd_op (ov_move rfl) ?_
 refine rd_nil ?_
 refine pn_seq ?_
 subst hres
 exact rc_retV (.tmp rfl .nil) (deep_closed rfl) rfl

/-- patchbay/patchbayref05.IsIdentifier -/
def RF49 (res : Bool) (r : PV) : Prop := r = vb res
theorem ref05_IsIdentifier_L1_ok {S : List Fr} {res : Bool} {x0 : List UInt8} (hc104 : (((decide (x0 = ([] : List UInt8))) || (decide (16 < (x0.length : Int)))) || (!(ref05_letter (ix x0 0)))) = false) {K0 : Unit → Bool}
  (hK0 : K0 () = res → PX Try.prog 0 S (QR Try.prog [(2, none)] (RF49 res)) [] ⟨0, []⟩) :
  ∀ (m : Nat) (x3_ : Int) (hm1 : m = Int.toNat ((x0.length : Int) - x3_)) (hlo1 : 0 ≤ x3_), ref05_IsIdentifier_L1 x0 K0 m x3_ = res → RC Try.prog (.loop ac49_L1) S (QR Try.prog [(2, none)] (RF49 res)) [(3, vi x3_), (0, vs x0)] ⟨0, []⟩ := by
 have hc104' := hc104
 try simp only [qa1, qa2, qa3, qa4, qa5, qa6, qa7, qa8, qa9, qaA, qaB, qaC, qaD] at hc104'
 intro m
 induction m with
 | zero =>
  intro x3_ hm1 hlo1 hres
  rw [ref05_IsIdentifier_L1] at hres
  refine rc_loop ?_
  unfold ac49_L1
  refine rc_seq ?_
  refine rc_seq ?_
  refine rc_region ?_
  refine rd_op (ov_move rfl) ?_
  refine rd_op (ov_move rfl) ?_
  refine rd_op (ov_bi rfl (str_len Try.underlying9)) ?_
  refine rd_op (ov_bin rfl rfl i_lss) ?_
  refine rd_nil ?_
  refine pn_seq ?_
  refine rc_cond rfl (fun hc105 => ?_) (fun hc105 => ?_)
  ·exfalso
   try simp only [qa1, qa2, qa3, qa4, qa5, qa6, qa7, qa8, qa9, qaA, qaB, qaC, qaD] at hc105
   omega
  ·have hend := hres
   have hc105' := hc105
   try simp only [qa1, qa2, qa3, qa4, qa5, qa6, qa7, qa8, qa9, qaA, qaB, qaC, qaD] at hc105'
   refine rc_exit ?_
   refine px_seq ?_
   refine px_again ?_
   exact px_weak ((sub_nil _)) (hK0  hres)
 | succ m ih =>
  intro x3_ hm1 hlo1 hres
  rw [ref05_IsIdentifier_L1] at hres
  refine rc_loop ?_
  unfold ac49_L1
  refine rc_seq ?_
  refine rc_seq ?_
  refine rc_region ?_
  refine rd_op (ov_move rfl) ?_
  refine rd_op (ov_move rfl) ?_
  refine rd_op (ov_bi rfl (str_len Try.underlying9)) ?_
  refine rd_op (ov_bin rfl rfl i_lss) ?_
  refine rd_nil ?_
  refine pn_seq ?_
  refine rc_cond rfl (fun hc106 => ?_) (fun hc106 => ?_)
  ·have hgo := hres
   have hc106' := hc106
   try simp only [qa1, qa2, qa3, qa4, qa5, qa6, qa7, qa8, qa9, qaA, qaB, qaC, qaD] at hc106'
   refine rc_skip ?_
   refine pn_seq ?_
   refine rc_seq ?_
   refine rc_block ?_
   refine rc_seq ?_
   refine rc_region ?_
   refine rd_op (ov_move rfl) ?_
   refine rd_op (ov_move rfl) ?_
   refine rd_op (ov_indexS rfl rfl (str_idx Try.underlying9 (by first | omega | (have hp := List.length_pos_iff.2 (And.left (by assumption : ¬x0 = [] ∧ _)); omega)) (by first | omega | (have hp := List.length_pos_iff.2 (And.left (by assumption : ¬x0 = [] ∧ _)); omega)))) ?_
   obtain ⟨y107, hw107, hres⟩ := let_ex hres
   have f107 := f75_ok (x0 := (ix x0 x3_))  
   rw [hw107] at f107
   refine rd_call (cv_fn rfl rfl (clL_cons rfl clL_nil) f107) ?_
   refine rd_op (ov_not rfl) ?_
   refine rd_op (ov_move rfl) ?_
   refine rd_cut (d := 34) (v := vb ((!y107) && (!(ref05_digit (ix x0 x3_))))) ?_ ?_
   ·intro S Q r
    simp only [ac49_G3, List.cons_append, List.nil_append, List.append_assoc]
    cases hb108 : (!y107)
    ·intro k
     refine rd_skip rfl rfl ?_
     refine rd_skip rfl rfl ?_
     refine rd_skip rfl rfl ?_
     refine rd_skip rfl rfl ?_
     refine rd_skip rfl rfl ?_
     refine rd_op (v := vb false) (ov_pick rfl rfl rfl rfl) ?_
     exact rd_weak (sub_cons rfl (sub_skip rfl (sub_skip rfl (sub_skip rfl (sub_skip rfl (sub_skip rfl (sub_skip rfl (sub_refl _)))))))) k
    ·intro k
     have hb108' := hb108
     try simp only [qa1, qa2, qa3, qa4, qa5, qa6, qa7, qa8, qa9, qaA, qaB, qaC, qaD] at hb108'
     refine rd_yes rfl rfl (ov_move rfl) ?_
     refine rd_yes rfl rfl (ov_move rfl) ?_
     refine rd_yes rfl rfl (ov_indexS rfl rfl (str_idx Try.underlying9 (by first | omega | (have hp := List.length_pos_iff.2 (And.left (by assumption : ¬x0 = [] ∧ _)); omega)) (by first | omega | (have hp := List.length_pos_iff.2 (And.left (by assumption : ¬x0 = [] ∧ _)); omega)))) ?_
     have f109 := f76_ok (x0 := (ix x0 x3_))  
     refine rd_ycall rfl rfl (cv_fn rfl rfl (clL_cons rfl clL_nil) f109) ?_
     refine rd_yes rfl rfl (ov_not rfl) ?_
     refine rd_op (v := vb (!(ref05_digit (ix x0 x3_)))) (ov_pick rfl rfl rfl rfl) ?_
     exact rd_weak (sub_cons rfl (sub_skip rfl (sub_skip rfl (sub_skip rfl (sub_skip rfl (sub_skip rfl (sub_skip rfl (sub_refl _)))))))) k
   refine rd_op (ov_move rfl) ?_
   refine rd_cut (d := 40) (v := vb (((!y107) && (!(ref05_digit (ix x0 x3_)))) && (!decide ((ix x0 x3_) = (95 : UInt8))))) ?_ ?_
   ·intro S Q r
    simp only [ac49_G4, List.cons_append, List.nil_append, List.append_assoc]
    cases hb110 : ((!y107) && (!(ref05_digit (ix x0 x3_))))
    ·intro k
     refine rd_skip rfl rfl ?_
     refine rd_skip rfl rfl ?_
     refine rd_skip rfl rfl ?_
     refine rd_skip rfl rfl ?_
     refine rd_op (v := vb false) (ov_pick rfl rfl rfl rfl) ?_
     exact rd_weak (sub_cons rfl (sub_skip rfl (sub_skip rfl (sub_skip rfl (sub_skip rfl (sub_skip rfl (sub_refl _))))))) k
    ·intro k
     have hb110' := hb110
     try simp only [qa1, qa2, qa3, qa4, qa5, qa6, qa7, qa8, qa9, qaA, qaB, qaC, qaD] at hb110'
     refine rd_yes rfl rfl (ov_move rfl) ?_
     refine rd_yes rfl rfl (ov_move rfl) ?_
     refine rd_yes rfl rfl (ov_indexS rfl rfl (str_idx Try.underlying9 (by first | omega | (have hp := List.length_pos_iff.2 (And.left (by assumption : ¬x0 = [] ∧ _)); omega)) (by first | omega | (have hp := List.length_pos_iff.2 (And.left (by assumption : ¬x0 = [] ∧ _)); omega)))) ?_
     refine rd_yes rfl rfl (ov_bin (a := vu8 (ix x0 x3_)) (b := vu8 (95 : UInt8)) rfl rfl y_neq) ?_
     refine rd_op (v := vb (!decide ((ix x0 x3_) = (95 : UInt8)))) (ov_pick rfl rfl rfl rfl) ?_
     exact rd_weak (sub_cons rfl (sub_skip rfl (sub_skip rfl (sub_skip rfl (sub_skip rfl (sub_skip rfl (sub_refl _))))))) k
   refine rd_nil ?_
   refine pn_seq ?_
   refine rc_cond rfl (fun hc111 => ?_) (fun hc111 => ?_)
   ·replace hres := (ite_t hc111).symm.trans hres
    have hc111' := hc111
    try simp only [qa1, qa2, qa3, qa4, qa5, qa6, qa7, qa8, qa9, qaA, qaB, qaC, qaD] at hc111'
    refine rc_seq ?_
    refine rc_region ?_
    refine rd_op (v := vb false) (ov_move rfl) ?_
    refine rd_nil ?_
    refine pn_seq ?_
    subst hres
    exact rc_retV (.tmp rfl .nil) (deep_closed rfl) rfl
   ·replace hres := (ite_f hc111).symm.trans hres
    have hc111' := hc111
    try simp only [qa1, qa2, qa3, qa4, qa5, qa6, qa7, qa8, qa9, qaA, qaB, qaC, qaD] at hc111'
    refine rc_skip ?_
    refine pn_blk ?_
    refine pn_seq ?_
    refine rc_region ?_
    refine rd_op (ov_move rfl) ?_
    refine rd_op (ov_bin rfl rfl i_add) ?_
    refine rd_op (ov_move rfl) ?_
    refine rd_nil ?_
    refine pn_again ?_
    have hinc : wr (x3_ + 1) = x3_ + 1 := wr_of (by omega) (by omega)
    rw [hinc]
    refine rc_weak ?_ (ih (x3_ + 1)  (by omega) (by omega) hres)
    exact ((sub_cons rfl (sub_cons rfl (sub_nil _))))
  ·exfalso
   try simp only [qa1, qa2, qa3, qa4, qa5, qa6, qa7, qa8, qa9, qaA, qaB, qaC, qaD] at hc106
   omega

theorem f49_ok {x0 : List UInt8} : FnR Try.prog 49 [vs x0] (vb (ref05_IsIdentifier x0)) := by
 obtain ⟨res, hres⟩ : ∃ res, ref05_IsIdentifier x0 = res := ⟨_, rfl⟩
 suffices H : RC Try.prog ac49 [] (QR Try.prog [(2, none)] (RF49 res)) (argE 0 [vs x0]) ⟨0, []⟩ by
  obtain ⟨r, h1, h2⟩ := fnE text49 (by simp) H
  rw [hres]
  have h2 : r = vb res := h2
  rw [← h2]; exact h1
 unfold ref05_IsIdentifier at hres
 unfold ac49
 refine rc_seq ?_
 refine rc_region ?_
 refine rd_op (v := vb false) (ov_move rfl) ?_
 refine rd_nil ?_
 refine pn_seq ?_
 refine rc_seq ?_
 refine rc_seq ?_
 refine rc_region ?_
 refine rd_op (ov_move rfl) ?_
 refine rd_op (ov_bin (a := vs x0) (b := vs ([] : List UInt8)) rfl rfl str_eql) ?_
 refine rd_op (ov_move rfl) ?_
 refine rd_cut (d := 10) (v := vb ((decide (x0 = ([] : List UInt8))) || (decide (16 < (x0.length : Int))))) ?_ ?_
 ·intro S Q r
  simp only [ac49_G1, List.cons_append, List.nil_append, List.append_assoc]
  cases hb101 : (decide (x0 = ([] : List UInt8)))
  ·intro k
   have hb101' := hb101
   try simp only [qa1, qa2, qa3, qa4, qa5, qa6, qa7, qa8, qa9, qaA, qaB, qaC, qaD] at hb101'
   refine rd_yes rfl rfl (ov_move rfl) ?_
   refine rd_yes rfl rfl (ov_bi rfl (str_len Try.underlying9)) ?_
   refine rd_yes rfl rfl (ov_bin rfl rfl i_gtr) ?_
   refine rd_op (v := vb (decide (16 < (x0.length : Int)))) (ov_pick rfl rfl rfl rfl) ?_
   exact rd_weak (sub_cons rfl (sub_skip rfl (sub_skip rfl (sub_skip rfl (sub_skip rfl (sub_refl _)))))) k
  ·intro k
   refine rd_skip rfl rfl ?_
   refine rd_skip rfl rfl ?_
   refine rd_skip rfl rfl ?_
   refine rd_op (v := vb true) (ov_pick rfl rfl rfl rfl) ?_
   exact rd_weak (sub_cons rfl (sub_skip rfl (sub_skip rfl (sub_skip rfl (sub_skip rfl (sub_refl _)))))) k
 refine rd_op (ov_move rfl) ?_
 refine rd_cut (d := 16) (v := vb (((decide (x0 = ([] : List UInt8))) || (decide (16 < (x0.length : Int)))) || (!(ref05_letter (ix x0 0))))) ?_ ?_
 ·intro S Q r
  simp only [ac49_G2, List.cons_append, List.nil_append, List.append_assoc]
  cases hb102 : ((decide (x0 = ([] : List UInt8))) || (decide (16 < (x0.length : Int))))
  ·intro k
   have hb102' := hb102
   try simp only [qa1, qa2, qa3, qa4, qa5, qa6, qa7, qa8, qa9, qaA, qaB, qaC, qaD] at hb102'
   refine rd_yes rfl rfl (ov_move rfl) ?_
   refine rd_yes rfl rfl (ov_indexS rfl rfl (str_idx Try.underlying9 (by first | omega | (have hp := List.length_pos_iff.2 (And.left (by assumption : ¬x0 = [] ∧ _)); omega)) (by first | omega | (have hp := List.length_pos_iff.2 (And.left (by assumption : ¬x0 = [] ∧ _)); omega)))) ?_
   have f103 := f75_ok (x0 := (ix x0 0))  
   refine rd_ycall rfl rfl (cv_fn rfl rfl (clL_cons rfl clL_nil) f103) ?_
   refine rd_yes rfl rfl (ov_not rfl) ?_
   refine rd_op (v := vb (!(ref05_letter (ix x0 0)))) (ov_pick rfl rfl rfl rfl) ?_
   exact rd_weak (sub_cons rfl (sub_skip rfl (sub_skip rfl (sub_skip rfl (sub_skip rfl (sub_skip rfl (sub_refl _))))))) k
  ·intro k
   refine rd_skip rfl rfl ?_
   refine rd_skip rfl rfl ?_
   refine rd_skip rfl rfl ?_
   refine rd_skip rfl rfl ?_
   refine rd_op (v := vb true) (ov_pick rfl rfl rfl rfl) ?_
   exact rd_weak (sub_cons rfl (sub_skip rfl (sub_skip rfl (sub_skip rfl (sub_skip rfl (sub_skip rfl (sub_refl _))))))) k
 refine rd_nil ?_
 refine pn_seq ?_
 refine rc_cond rfl (fun hc104 => ?_) (fun hc104 => ?_)
 ·replace hres := (ite_t hc104).symm.trans hres
  have hc104' := hc104
  try simp only [qa1, qa2, qa3, qa4, qa5, qa6, qa7, qa8, qa9, qaA, qaB, qaC, qaD] at hc104'
  refine rc_seq ?_
  refine rc_region ?_
  refine rd_op (v := vb false) (ov_move rfl) ?_
  refine rd_nil ?_
  refine pn_seq ?_
  subst hres
  exact rc_retV (.tmp rfl .nil) (deep_closed rfl) rfl
 ·replace hres := (ite_f hc104).symm.trans hres
  have hc104' := hc104
  try simp only [qa1, qa2, qa3, qa4, qa5, qa6, qa7, qa8, qa9, qaA, qaB, qaC, qaD] at hc104'
  refine rc_skip ?_
  refine pn_seq ?_
  refine rc_seq ?_
  refine rc_seq ?_
  refine rc_region ?_
  refine rd_op (v := vi 0) (ov_move rfl) ?_
  refine rd_nil ?_
  refine pn_seq ?_
  refine rc_block ?_
  refine rc_weak ?_ (ref05_IsIdentifier_L1_ok (x0 := x0)   (hc104 := hc104) ?_ (Int.toNat ((x0.length : Int) - 0)) 0 rfl (by omega) hres)
  ·exact ((sub_cons rfl (sub_cons rfl (sub_nil _))))
  ·intro  hres
   refine px_blk ?_
   refine pn_seq ?_
   refine rc_seq ?_
   refine rc_region ?_
   refine rd_op (v := vb true) (ov_move rfl) ?_
   refine rd_nil ?_
   refine pn_seq ?_
   subst hres
   exact rc_retV (.tmp rfl .nil) (deep_closed rfl) rfl

/-- patchbay/patchbayref17.width -/
def RF55 (res : Int) (r : PV) : Prop := r = vi res
theorem f55_ok {x0 : api_Program} {x1 : api_FieldRef} {v0 v1 : PV} (r0 : api_Program.t.R x0 v0) (r1 : api_FieldRef.t.R x1 v1) : FnR Try.prog 55 [v0, v1] (vi (ref17_width x0 x1)) := by
 obtain ⟨res, hres⟩ : ∃ res, ref17_width x0 x1 = res := ⟨_, rfl⟩
 suffices H : RC Try.prog ac55 [] (QR Try.prog [(4, none)] (RF55 res)) (argE 0 [v0, v1]) ⟨0, []⟩ by
  obtain ⟨r, h1, h2⟩ := fnE text55 (by simp) H
  rw [hres]
  have h2 : r = vi res := h2
  rw [← h2]; exact h1
 unfold ref17_width at hres
 unfold ac55
 refine rc_seq ?_
 refine rc_region ?_
 refine rd_op (ov_box rfl (TR.cnt api_Program.t r0)) ?_
 refine rd_op (ov_box rfl (TR.cnt api_FieldRef.t r1)) ?_
 refine rd_op (v := vi 0) (ov_move rfl) ?_
 refine rd_nil ?_
 refine pn_seq ?_
 refine rc_seq ?_
 refine rc_region ?_
 obtain ⟨v101, e101, r101⟩ := api_Program.g_Metadata r0
 refine rd_op (ov_faddr rfl e101) ?_
 refine rd_op (ov_load rfl (TR.cnt (tSl api_Field.t) r101) (TR.agg (tSl api_Field.t) r101)) ?_
 refine rd_op (ov_move rfl) ?_
 refine rd_nil ?_
 refine pn_seq ?_
 refine rc_seq ?_
 refine rc_seq ?_
 refine rc_region ?_
 refine rd_op (ov_faddr rfl (api_FieldRef.g_Header r1)) ?_
 refine rd_op (ov_load rfl rfl rfl) ?_
 refine rd_op (ov_bin rfl rfl i_geq) ?_
 refine rd_nil ?_
 refine pn_seq ?_
 obtain ⟨k108, hk108, hres⟩ := let_ex hres
 refine rc_join (F := fun b S Q => ∀ (x5_108 : List api_Field) (u5_108 : PV) (r5_108 : (tSl api_Field.t).R x5_108 u5_108) (hj108 : Heap) (Mj108 : Mem hj108 []), k108 x5_108 = res → RC Try.prog b S Q [(5, u5_108), (3, .fp v1)] hj108) ?_ ?_
 ·intro x5_108 u5_108 r5_108 hj108 Mj108 hres
  rw [← hk108] at hres
  refine rc_seq ?_
  refine rc_seq ?_
  refine rc_region ?_
  refine rd_op (ov_faddr rfl (api_FieldRef.g_Header r1)) ?_
  refine rd_op (ov_load rfl rfl rfl) ?_
  refine rd_op (ov_bin rfl rfl i_lss) ?_
  refine rd_op (ov_move rfl) ?_
  refine rd_cut (d := 31) (v := vb ((decide (x1.Header < (-1))) || (decide (x1.Field < 0)))) ?_ ?_
  ·intro S Q r
   simp only [ac55_G1, List.cons_append, List.nil_append, List.append_assoc]
   cases hb109 : (decide (x1.Header < (-1)))
   ·intro k
    have hb109' := hb109
    try simp only [qa1, qa2, qa3, qa4, qa5, qa6, qa7, qa8, qa9, qaA, qaB, qaC, qaD] at hb109'
    refine rd_yes rfl rfl (ov_faddr rfl (api_FieldRef.g_Field r1)) ?_
    refine rd_yes rfl rfl (ov_load rfl rfl rfl) ?_
    refine rd_yes rfl rfl (ov_bin rfl rfl i_lss) ?_
    refine rd_op (v := vb (decide (x1.Field < 0))) (ov_pick rfl rfl rfl rfl) ?_
    exact rd_weak (sub_cons rfl (sub_skip rfl (sub_skip rfl (sub_skip rfl (sub_skip rfl (sub_refl _)))))) k
   ·intro k
    refine rd_skip rfl rfl ?_
    refine rd_skip rfl rfl ?_
    refine rd_skip rfl rfl ?_
    refine rd_op (v := vb true) (ov_pick rfl rfl rfl rfl) ?_
    exact rd_weak (sub_cons rfl (sub_skip rfl (sub_skip rfl (sub_skip rfl (sub_skip rfl (sub_refl _)))))) k
  refine rd_op (ov_move rfl) ?_
  refine rd_cut (d := 38) (v := vb (((decide (x1.Header < (-1))) || (decide (x1.Field < 0))) || (decide ((x5_108.length : Int) ≤ x1.Field)))) ?_ ?_
  ·intro S Q r
   simp only [ac55_G2, List.cons_append, List.nil_append, List.append_assoc]
   cases hb110 : ((decide (x1.Header < (-1))) || (decide (x1.Field < 0)))
   ·intro k
    have hb110' := hb110
    try simp only [qa1, qa2, qa3, qa4, qa5, qa6, qa7, qa8, qa9, qaA, qaB, qaC, qaD] at hb110'
    refine rd_yes rfl rfl (ov_faddr rfl (api_FieldRef.g_Field r1)) ?_
    refine rd_yes rfl rfl (ov_load rfl rfl rfl) ?_
    refine rd_yes rfl rfl (ov_move rfl) ?_
    refine rd_yes rfl rfl (ov_bi rfl (sl_len r5_108 Try.underlying23 _)) ?_
    refine rd_yes rfl rfl (ov_bin rfl rfl i_geq) ?_
    refine rd_op (v := vb (decide ((x5_108.length : Int) ≤ x1.Field))) (ov_pick rfl rfl rfl rfl) ?_
    exact rd_weak (sub_cons rfl (sub_skip rfl (sub_skip rfl (sub_skip rfl (sub_skip rfl (sub_skip rfl (sub_skip rfl (sub_refl _)))))))) k
   ·intro k
    refine rd_skip rfl rfl ?_
    refine rd_skip rfl rfl ?_
    refine rd_skip rfl rfl ?_
    refine rd_skip rfl rfl ?_
    refine rd_skip rfl rfl ?_
    refine rd_op (v := vb true) (ov_pick rfl rfl rfl rfl) ?_
    exact rd_weak (sub_cons rfl (sub_skip rfl (sub_skip rfl (sub_skip rfl (sub_skip rfl (sub_skip rfl (sub_skip rfl (sub_refl _)))))))) k
  refine rd_op (ov_move rfl) ?_
  refine rd_cut (d := 47) (v := vb ((((decide (x1.Header < (-1))) || (decide (x1.Field < 0))) || (decide ((x5_108.length : Int) ≤ x1.Field))) || (decide (((ix x5_108 x1.Field).Width) < 1)))) ?_ ?_
  ·intro S Q r
   simp only [ac55_G3, List.cons_append, List.nil_append, List.append_assoc]
   cases hb111 : (((decide (x1.Header < (-1))) || (decide (x1.Field < 0))) || (decide ((x5_108.length : Int) ≤ x1.Field)))
   ·intro k
    have hb111' := hb111
    try simp only [qa1, qa2, qa3, qa4, qa5, qa6, qa7, qa8, qa9, qaA, qaB, qaC, qaD] at hb111'
    refine rd_yes rfl rfl (ov_move rfl) ?_
    refine rd_yes rfl rfl (ov_faddr rfl (api_FieldRef.g_Field r1)) ?_
    refine rd_yes rfl rfl (ov_load rfl rfl rfl) ?_
    obtain ⟨v112, e112, r112⟩ := sl_idx (i := x1.Field) r5_108 (by first | omega | (have hk := tck (by assumption) (by assumption); omega) | (have hk := rtck (by assumption) (by assumption); omega) | (have hk := eck (by assumption) (by assumption) (by assumption); omega) | (have hk := tv (by assumption) (by assumption); omega) | (have hk := rtv (by assumption) (by assumption); omega)) (by first | omega | (have hk := tck (by assumption) (by assumption); omega) | (have hk := rtck (by assumption) (by assumption); omega) | (have hk := eck (by assumption) (by assumption) (by assumption); omega) | (have hk := tv (by assumption) (by assumption); omega) | (have hk := rtv (by assumption) (by assumption); omega))
    refine rd_yes rfl rfl (ov_iaddr rfl rfl e112) ?_
    refine rd_yes rfl rfl (ov_faddr rfl (api_Field.g_Width r112)) ?_
    refine rd_yes rfl rfl (ov_load rfl rfl rfl) ?_
    refine rd_yes rfl rfl (ov_bin rfl rfl i_lss) ?_
    refine rd_op (v := vb (decide (((ix x5_108 x1.Field).Width) < 1))) (ov_pick rfl rfl rfl rfl) ?_
    exact rd_weak (sub_cons rfl (sub_skip rfl (sub_skip rfl (sub_skip rfl (sub_skip rfl (sub_skip rfl (sub_skip rfl (sub_skip rfl (sub_skip rfl (sub_refl _)))))))))) k
   ·intro k
    refine rd_skip rfl rfl ?_
    refine rd_skip rfl rfl ?_
    refine rd_skip rfl rfl ?_
    refine rd_skip rfl rfl ?_
    refine rd_skip rfl rfl ?_
    refine rd_skip rfl rfl ?_
    refine rd_skip rfl rfl ?_
    refine rd_op (v := vb true) (ov_pick rfl rfl rfl rfl) ?_
    exact rd_weak (sub_cons rfl (sub_skip rfl (sub_skip rfl (sub_skip rfl (sub_skip rfl (sub_skip rfl (sub_skip rfl (sub_skip rfl (sub_skip rfl (sub_refl _)))))))))) k
  refine rd_op (ov_move rfl) ?_
  refine rd_cut (d := 56) (v := vb (((((decide (x1.Header < (-1))) || (decide (x1.Field < 0))) || (decide ((x5_108.length : Int) ≤ x1.Field))) || (decide (((ix x5_108 x1.Field).Width) < 1))) || (decide (32 < ((ix x5_108 x1.Field).Width))))) ?_ ?_
  ·intro S Q r
   simp only [ac55_G4, List.cons_append, List.nil_append, List.append_assoc]
   cases hb113 : ((((decide (x1.Header < (-1))) || (decide (x1.Field < 0))) || (decide ((x5_108.length : Int) ≤ x1.Field))) || (decide (((ix x5_108 x1.Field).Width) < 1)))
   ·intro k
    have hb113' := hb113
    try simp only [qa1, qa2, qa3, qa4, qa5, qa6, qa7, qa8, qa9, qaA, qaB, qaC, qaD] at hb113'
    refine rd_yes rfl rfl (ov_move rfl) ?_
    refine rd_yes rfl rfl (ov_faddr rfl (api_FieldRef.g_Field r1)) ?_
    refine rd_yes rfl rfl (ov_load rfl rfl rfl) ?_
    obtain ⟨v114, e114, r114⟩ := sl_idx (i := x1.Field) r5_108 (by first | omega | (have hk := tck (by assumption) (by assumption); omega) | (have hk := rtck (by assumption) (by assumption); omega) | (have hk := eck (by assumption) (by assumption) (by assumption); omega) | (have hk := tv (by assumption) (by assumption); omega) | (have hk := rtv (by assumption) (by assumption); omega)) (by first | omega | (have hk := tck (by assumption) (by assumption); omega) | (have hk := rtck (by assumption) (by assumption); omega) | (have hk := eck (by assumption) (by assumption) (by assumption); omega) | (have hk := tv (by assumption) (by assumption); omega) | (have hk := rtv (by assumption) (by assumption); omega))
    refine rd_yes rfl rfl (ov_iaddr rfl rfl e114) ?_
    refine rd_yes rfl rfl (ov_faddr rfl (api_Field.g_Width r114)) ?_
    refine rd_yes rfl rfl (ov_load rfl rfl rfl) ?_
    refine rd_yes rfl rfl (ov_bin rfl rfl i_gtr) ?_
    refine rd_op (v := vb (decide (32 < ((ix x5_108 x1.Field).Width)))) (ov_pick rfl rfl rfl rfl) ?_
    exact rd_weak (sub_cons rfl (sub_skip rfl (sub_skip rfl (sub_skip rfl (sub_skip rfl (sub_skip rfl (sub_skip rfl (sub_skip rfl (sub_skip rfl (sub_refl _)))))))))) k
   ·intro k
    refine rd_skip rfl rfl ?_
    refine rd_skip rfl rfl ?_
    refine rd_skip rfl rfl ?_
    refine rd_skip rfl rfl ?_
    refine rd_skip rfl rfl ?_
    refine rd_skip rfl rfl ?_
    refine rd_skip rfl rfl ?_
    refine rd_op (v := vb true) (ov_pick rfl rfl rfl rfl) ?_
    exact rd_weak (sub_cons rfl (sub_skip rfl (sub_skip rfl (sub_skip rfl (sub_skip rfl (sub_skip rfl (sub_skip rfl (sub_skip rfl (sub_skip rfl (sub_refl _)))))))))) k
  refine rd_nil ?_
  refine pn_seq ?_
  refine rc_cond rfl (fun hc115 => ?_) (fun hc115 => ?_)
  ·replace hres := (ite_t hc115).symm.trans hres
   have hc115' := hc115
   try simp only [qa1, qa2, qa3, qa4, qa5, qa6, qa7, qa8, qa9, qaA, qaB, qaC, qaD] at hc115'
   refine rc_seq ?_
   refine rc_region ?_
   refine rd_op (v := vi 0) (ov_move rfl) ?_
   refine rd_nil ?_
   refine pn_seq ?_
   subst hres
   exact rc_retV (.tmp rfl .nil) (deep_closed rfl) rfl
  ·replace hres := (ite_f hc115).symm.trans hres
   have hc115' := hc115
   try simp only [qa1, qa2, qa3, qa4, qa5, qa6, qa7, qa8, qa9, qaA, qaB, qaC, qaD] at hc115'
   refine rc_skip ?_
   refine pn_seq ?_
   refine rc_seq ?_
   refine rc_region ?_
   refine rd_op (ov_move rfl) ?_
   refine rd_op (ov_faddr rfl (api_FieldRef.g_Field r1)) ?_
   refine rd_op (ov_load rfl rfl rfl) ?_
   obtain ⟨v116, e116, r116⟩ := sl_idx (i := x1.Field) r5_108 (by first | omega | (have hk := tck (by assumption) (by assumption); omega) | (have hk := rtck (by assumption) (by assumption); omega) | (have hk := eck (by assumption) (by assumption) (by assumption); omega) | (have hk := tv (by assumption) (by assumption); omega) | (have hk := rtv (by assumption) (by assumption); omega)) (by first | omega | (have hk := tck (by assumption) (by assumption); omega) | (have hk := rtck (by assumption) (by assumption); omega) | (have hk := eck (by assumption) (by assumption) (by assumption); omega) | (have hk := tv (by assumption) (by assumption); omega) | (have hk := rtv (by assumption) (by assumption); omega))
   refine rd_op (ov_iaddr rfl rfl e116) ?_
   refine rd_op (ov_faddr rfl (api_Field.g_Width r116)) ?_
   refine rd_op (ov_load rfl rfl rfl) ?_
   refine rd_op (ov_move rfl) ?_
   refine rd_nil ?_
   refine pn_seq ?_
   subst hres
   exact rc_retV (.tmp rfl .nil) (deep_closed rfl) rfl
 ·intro J
  refine rc_cond rfl (fun hc117 => ?_) (fun hc117 => ?_)
  ·replace hres := (ite_t hc117).symm.trans hres
   have hc117' := hc117
   try simp only [qa1, qa2, qa3, qa4, qa5, qa6, qa7, qa8, qa9, qaA, qaB, qaC, qaD] at hc117'
   refine rc_seq ?_
   refine rc_seq ?_
   refine rc_region ?_
   refine rd_op (ov_faddr rfl (api_FieldRef.g_Header r1)) ?_
   refine rd_op (ov_load rfl rfl rfl) ?_
   obtain ⟨v118, e118, r118⟩ := api_Program.g_Headers r0
   refine rd_op (ov_faddr rfl e118) ?_
   refine rd_op (ov_load rfl (TR.cnt (tSl api_Header.t) r118) (TR.agg (tSl api_Header.t) r118)) ?_
   refine rd_op (ov_bi rfl (sl_len r118 Try.underlying22 _)) ?_
   refine rd_op (ov_bin rfl rfl i_geq) ?_
   refine rd_nil ?_
   refine pn_seq ?_
   refine rc_cond rfl (fun hc119 => ?_) (fun hc119 => ?_)
   ·replace hres := (ite_t hc119).symm.trans hres
    have hc119' := hc119
    try simp only [qa1, qa2, qa3, qa4, qa5, qa6, qa7, qa8, qa9, qaA, qaB, qaC, qaD] at hc119'
    refine rc_seq ?_
    refine rc_region ?_
    refine rd_op (v := vi 0) (ov_move rfl) ?_
    refine rd_nil ?_
    refine pn_seq ?_
    subst hres
    exact rc_retV (.tmp rfl .nil) (deep_closed rfl) rfl
   ·replace hres := (ite_f hc119).symm.trans hres
    have hc119' := hc119
    try simp only [qa1, qa2, qa3, qa4, qa5, qa6, qa7, qa8, qa9, qaA, qaB, qaC, qaD] at hc119'
    refine rc_skip ?_
    refine pn_seq ?_
    refine rc_region ?_
    obtain ⟨v120, e120, r120⟩ := api_Program.g_Headers r0
    refine rd_op (ov_faddr rfl e120) ?_
    refine rd_op (ov_load rfl (TR.cnt (tSl api_Header.t) r120) (TR.agg (tSl api_Header.t) r120)) ?_
    refine rd_op (ov_faddr rfl (api_FieldRef.g_Header r1)) ?_
    refine rd_op (ov_load rfl rfl rfl) ?_
    obtain ⟨v121, e121, r121⟩ := sl_idx (i := x1.Header) r120 (by first | omega | (have hk := tck (by assumption) (by assumption); omega) | (have hk := rtck (by assumption) (by assumption); omega) | (have hk := eck (by assumption) (by assumption) (by assumption); omega) | (have hk := tv (by assumption) (by assumption); omega) | (have hk := rtv (by assumption) (by assumption); omega)) (by first | omega | (have hk := tck (by assumption) (by assumption); omega) | (have hk := rtck (by assumption) (by assumption); omega) | (have hk := eck (by assumption) (by assumption) (by assumption); omega) | (have hk := tv (by assumption) (by assumption); omega) | (have hk := rtv (by assumption) (by assumption); omega))
    refine rd_op (ov_iaddr rfl rfl e121) ?_
    obtain ⟨v122, e122, r122⟩ := api_Header.g_Fields r121
    refine rd_op (ov_faddr rfl e122) ?_
    refine rd_op (ov_load rfl (TR.cnt (tSl api_Field.t) r122) (TR.agg (tSl api_Field.t) r122)) ?_
    refine rd_op (ov_move rfl) ?_
    refine rd_nil ?_
    refine pn_seq (rc_weak ((sub_cons rfl (sub_cons rfl (sub_nil _)))) (J _ _ r122 _ (Mem.sub (Mem.nil ⟨0, []⟩) .slnil) hres))
  ·replace hres := (ite_f hc117).symm.trans hres
   have hc117' := hc117
   try simp only [qa1, qa2, qa3, qa4, qa5, qa6, qa7, qa8, qa9, qaA, qaB, qaC, qaD] at hc117'
   refine rc_skip ?_
   refine pn_seq (rc_weak ((sub_cons rfl (sub_cons rfl (sub_nil _)))) (J _ _ r101 _ (Mem.sub (Mem.nil ⟨0, []⟩) .slnil) hres))

/-- patchbay/patchbayref17.keys -/
def RF50 (res : Int × Int) (r : PV) : Prop := r = .tup [vi res.1, vi res.2]
theorem ref17_keys_L1_ok {S : List Fr} {res : Int × Int} {x0 : api_Program} {x1 : api_Table} {v0 : PV} {v1 : PV} (r0 : api_Program.t.R x0 v0) (r1 : api_Table.t.R x1 v1) {K0 : Int → Int → (Int × Int)}
  (hK0 : ∀ (x6_ : Int) (x7_ : Int), K0 x6_ x7_ = res → PX Try.prog 0 S (QR Try.prog [(4, none), (5, none)] (RF50 res)) [(6, vi x6_), (7, vi x7_)] ⟨0, []⟩) :
  ∀ (m : Nat) (x6_ : Int) (x7_ : Int) (x8_ : Int) (hm1 : m = Int.toNat ((x1.Keys.length : Int) - x8_)) (hlo1 : 0 ≤ x8_), ref17_keys_L1 x0 x1 K0 m x6_ x7_ x8_ = res → RC Try.prog (.loop ac50_L1) S (QR Try.prog [(4, none), (5, none)] (RF50 res)) [(8, vi x8_), (7, vi x7_), (6, vi x6_), (3, .fp v1), (2, .fp v0)] ⟨0, []⟩ := by
 intro m
 induction m with
 | zero =>
  intro x6_ x7_ x8_ hm1 hlo1 hres
  rw [ref17_keys_L1] at hres
  refine rc_loop ?_
  unfold ac50_L1
  refine rc_seq ?_
  refine rc_seq ?_
  refine rc_region ?_
  refine rd_op (ov_move rfl) ?_
  obtain ⟨v101, e101, r101⟩ := api_Table.g_Keys r1
  refine rd_op (ov_faddr rfl e101) ?_
  refine rd_op (ov_load rfl (TR.cnt (tSl api_TableKey.t) r101) (TR.agg (tSl api_TableKey.t) r101)) ?_
  refine rd_op (ov_bi rfl (sl_len r101 Try.underlying52 _)) ?_
  refine rd_op (ov_bin rfl rfl i_lss) ?_
  refine rd_nil ?_
  refine pn_seq ?_
  refine rc_cond rfl (fun hc102 => ?_) (fun hc102 => ?_)
  ·exfalso
   try simp only [qa1, qa2, qa3, qa4, qa5, qa6, qa7, qa8, qa9, qaA, qaB, qaC, qaD] at hc102
   omega
  ·have hend := hres
   have hc102' := hc102
   try simp only [qa1, qa2, qa3, qa4, qa5, qa6, qa7, qa8, qa9, qaA, qaB, qaC, qaD] at hc102'
   refine rc_exit ?_
   refine px_seq ?_
   refine px_again ?_
   exact px_weak ((sub_cons rfl (sub_cons rfl (sub_nil _)))) (hK0 x6_ x7_ hres)
 | succ m ih =>
  intro x6_ x7_ x8_ hm1 hlo1 hres
  rw [ref17_keys_L1] at hres
  refine rc_loop ?_
  unfold ac50_L1
  refine rc_seq ?_
  refine rc_seq ?_
  refine rc_region ?_
  refine rd_op (ov_move rfl) ?_
  obtain ⟨v103, e103, r103⟩ := api_Table.g_Keys r1
  refine rd_op (ov_faddr rfl e103) ?_
  refine rd_op (ov_load rfl (TR.cnt (tSl api_TableKey.t) r103) (TR.agg (tSl api_TableKey.t) r103)) ?_
  refine rd_op (ov_bi rfl (sl_len r103 Try.underlying52 _)) ?_
  refine rd_op (ov_bin rfl rfl i_lss) ?_
  refine rd_nil ?_
  refine pn_seq ?_
  refine rc_cond rfl (fun hc104 => ?_) (fun hc104 => ?_)
  ·have hgo := hres
   have hc104' := hc104
   try simp only [qa1, qa2, qa3, qa4, qa5, qa6, qa7, qa8, qa9, qaA, qaB, qaC, qaD] at hc104'
   refine rc_skip ?_
   refine pn_seq ?_
   refine rc_seq ?_
   refine rc_block ?_
   refine rc_seq ?_
   refine rc_region ?_
   refine rd_op (ov_load rfl (TR.cnt api_Program.t r0) (TR.agg api_Program.t r0)) ?_
   obtain ⟨v105, e105, r105⟩ := api_Table.g_Keys r1
   refine rd_op (ov_faddr rfl e105) ?_
   refine rd_op (ov_load rfl (TR.cnt (tSl api_TableKey.t) r105) (TR.agg (tSl api_TableKey.t) r105)) ?_
   refine rd_op (ov_move rfl) ?_
   obtain ⟨v106, e106, r106⟩ := sl_idx (i := x8_) r105 (by first | omega | (have hk := tck (by assumption) (by assumption); omega) | (have hk := rtck (by assumption) (by assumption); omega) | (have hk := eck (by assumption) (by assumption) (by assumption); omega) | (have hk := tv (by assumption) (by assumption); omega) | (have hk := rtv (by assumption) (by assumption); omega)) (by first | omega | (have hk := tck (by assumption) (by assumption); omega) | (have hk := rtck (by assumption) (by assumption); omega) | (have hk := eck (by assumption) (by assumption) (by assumption); omega) | (have hk := tv (by assumption) (by assumption); omega) | (have hk := rtv (by assumption) (by assumption); omega))
   refine rd_op (ov_iaddr rfl rfl e106) ?_
   obtain ⟨v107, e107, r107⟩ := api_TableKey.g_Field r106
   refine rd_op (ov_faddr rfl e107) ?_
   refine rd_op (ov_load rfl (TR.cnt api_FieldRef.t r107) (TR.agg api_FieldRef.t r107)) ?_
   obtain ⟨y108, hw108, hres⟩ := let_ex hres
   have f108 := f55_ok  r0 r107 
   rw [hw108] at f108
   refine rd_call (cv_fn rfl rfl (clL_cons (TR.clo api_Program.t r0) (clL_cons (TR.clo api_FieldRef.t r107) clL_nil)) f108) ?_
   refine rd_op (ov_move rfl) ?_
   refine rd_nil ?_
   refine pn_seq ?_
   refine rc_seq ?_
   refine rc_region ?_
   obtain ⟨v109, e109, r109⟩ := api_Table.g_Keys r1
   refine rd_op (ov_faddr rfl e109) ?_
   refine rd_op (ov_load rfl (TR.cnt (tSl api_TableKey.t) r109) (TR.agg (tSl api_TableKey.t) r109)) ?_
   refine rd_op (ov_move rfl) ?_
   obtain ⟨v110, e110, r110⟩ := sl_idx (i := x8_) r109 (by first | omega | (have hk := tck (by assumption) (by assumption); omega) | (have hk := rtck (by assumption) (by assumption); omega) | (have hk := eck (by assumption) (by assumption) (by assumption); omega) | (have hk := tv (by assumption) (by assumption); omega) | (have hk := rtv (by assumption) (by assumption); omega)) (by first | omega | (have hk := tck (by assumption) (by assumption); omega) | (have hk := rtck (by assumption) (by assumption); omega) | (have hk := eck (by assumption) (by assumption) (by assumption); omega) | (have hk := tv (by assumption) (by assumption); omega) | (have hk := rtv (by assumption) (by assumption); omega))
   refine rd_op (ov_iaddr rfl rfl e110) ?_
   refine rd_op (ov_faddr rfl (api_TableKey.g_Kind r110)) ?_
   refine rd_op (ov_load rfl rfl rfl) ?_
   refine rd_op (ov_move rfl) ?_
   refine rd_nil ?_
   refine pn_seq ?_
   refine rc_seq ?_
   refine rc_block ?_
   refine rc_seq ?_
   refine rc_region ?_
   refine rd_op (ov_move rfl) ?_
   refine rd_op (ov_bin rfl rfl i_eql) ?_
   refine rd_op (ov_move rfl) ?_
   refine rd_nil ?_
   refine pn_seq ?_
   refine rc_cond rfl (fun hc111 => ?_) (fun hc111 => ?_)
   ·replace hres := (ite_t hc111).symm.trans hres
    have hc111' := hc111
    try simp only [qa1, qa2, qa3, qa4, qa5, qa6, qa7, qa8, qa9, qaA, qaB, qaC, qaD] at hc111'
    refine rc_seq ?_
    refine rc_region ?_
    refine rd_op (ov_move rfl) ?_
    refine rd_op (ov_move rfl) ?_
    refine rd_op (v := vi 8) (ov_move rfl) ?_
    refine rd_nil ?_
    refine pn_seq ?_
    subst hres
    exact rc_retV (.tmp rfl (.tmp rfl .nil)) (deep_closed (show closed (.tup _) = true from (clL_cons rfl (clL_cons rfl clL_nil)))) rfl
   ·replace hres := (ite_f hc111).symm.trans hres
    have hc111' := hc111
    try simp only [qa1, qa2, qa3, qa4, qa5, qa6, qa7, qa8, qa9, qaA, qaB, qaC, qaD] at hc111'
    refine rc_seq ?_
    refine rc_region ?_
    refine rd_op (ov_move rfl) ?_
    refine rd_op (ov_bin rfl rfl i_neq) ?_
    refine rd_op (ov_move rfl) ?_
    refine rd_cut (d := 42) (v := vb ((!decide (((ix x1.Keys x8_).Kind) = 1)) && (!decide (((ix x1.Keys x8_).Kind) = 2)))) ?_ ?_
    ·intro S Q r
     simp only [ac50_G1, List.cons_append, List.nil_append, List.append_assoc]
     cases hb112 : (!decide (((ix x1.Keys x8_).Kind) = 1))
     ·intro k
      refine rd_skip rfl rfl ?_
      refine rd_skip rfl rfl ?_
      refine rd_op (v := vb false) (ov_pick rfl rfl rfl rfl) ?_
      exact rd_weak (sub_cons rfl (sub_skip rfl (sub_skip rfl (sub_skip rfl (sub_refl _))))) k
     ·intro k
      have hb112' := hb112
      try simp only [qa1, qa2, qa3, qa4, qa5, qa6, qa7, qa8, qa9, qaA, qaB, qaC, qaD] at hb112'
      refine rd_yes rfl rfl (ov_move rfl) ?_
      refine rd_yes rfl rfl (ov_bin rfl rfl i_neq) ?_
      refine rd_op (v := vb (!decide (((ix x1.Keys x8_).Kind) = 2))) (ov_pick rfl rfl rfl rfl) ?_
      exact rd_weak (sub_cons rfl (sub_skip rfl (sub_skip rfl (sub_skip rfl (sub_refl _))))) k
    refine rd_op (ov_move rfl) ?_
    refine rd_cut (d := 46) (v := vb (((!decide (((ix x1.Keys x8_).Kind) = 1)) && (!decide (((ix x1.Keys x8_).Kind) = 2))) && (!decide (((ix x1.Keys x8_).Kind) = 3)))) ?_ ?_
    ·intro S Q r
     simp only [ac50_G2, List.cons_append, List.nil_append, List.append_assoc]
     cases hb113 : ((!decide (((ix x1.Keys x8_).Kind) = 1)) && (!decide (((ix x1.Keys x8_).Kind) = 2)))
     ·intro k
      refine rd_skip rfl rfl ?_
      refine rd_skip rfl rfl ?_
      refine rd_op (v := vb false) (ov_pick rfl rfl rfl rfl) ?_
      exact rd_weak (sub_cons rfl (sub_skip rfl (sub_skip rfl (sub_skip rfl (sub_refl _))))) k
     ·intro k
      have hb113' := hb113
      try simp only [qa1, qa2, qa3, qa4, qa5, qa6, qa7, qa8, qa9, qaA, qaB, qaC, qaD] at hb113'
      refine rd_yes rfl rfl (ov_move rfl) ?_
      refine rd_yes rfl rfl (ov_bin rfl rfl i_neq) ?_
      refine rd_op (v := vb (!decide (((ix x1.Keys x8_).Kind) = 3))) (ov_pick rfl rfl rfl rfl) ?_
      exact rd_weak (sub_cons rfl (sub_skip rfl (sub_skip rfl (sub_skip rfl (sub_refl _))))) k
    refine rd_op (ov_move rfl) ?_
    refine rd_nil ?_
    refine pn_seq ?_
    refine rc_cond rfl (fun hc114 => ?_) (fun hc114 => ?_)
    ·replace hres := (ite_t hc114).symm.trans hres
     have hc114' := hc114
     try simp only [qa1, qa2, qa3, qa4, qa5, qa6, qa7, qa8, qa9, qaA, qaB, qaC, qaD] at hc114'
     refine rc_seq ?_
     refine rc_region ?_
     refine rd_op (ov_move rfl) ?_
     refine rd_op (ov_move rfl) ?_
     refine rd_op (v := vi 11) (ov_move rfl) ?_
     refine rd_nil ?_
     refine pn_seq ?_
     subst hres
     exact rc_retV (.tmp rfl (.tmp rfl .nil)) (deep_closed (show closed (.tup _) = true from (clL_cons rfl (clL_cons rfl clL_nil)))) rfl
    ·replace hres := (ite_f hc114).symm.trans hres
     have hc114' := hc114
     try simp only [qa1, qa2, qa3, qa4, qa5, qa6, qa7, qa8, qa9, qaA, qaB, qaC, qaD] at hc114'
     refine rc_seq ?_
     refine rc_region ?_
     refine rd_op (ov_move rfl) ?_
     refine rd_op (ov_bin rfl rfl i_eql) ?_
     refine rd_op (ov_move rfl) ?_
     refine rd_nil ?_
     refine pn_seq ?_
     refine rc_cond rfl (fun hc115 => ?_) (fun hc115 => ?_)
     ·replace hres := (ite_t hc115).symm.trans hres
      have hc115' := hc115
      try simp only [qa1, qa2, qa3, qa4, qa5, qa6, qa7, qa8, qa9, qaA, qaB, qaC, qaD] at hc115'
      refine rc_region ?_
      refine rd_op (ov_move rfl) ?_
      refine rd_op (ov_bin rfl rfl i_add) ?_
      refine rd_op (ov_move rfl) ?_
      refine rd_nil ?_
      refine pn_blk ?_
      refine pn_seq ?_
      refine rc_region ?_
      refine rd_op (ov_move rfl) ?_
      refine rd_op (ov_move rfl) ?_
      refine rd_op (ov_bin rfl rfl i_add) ?_
      refine rd_op (ov_move rfl) ?_
      refine rd_nil ?_
      refine pn_blk ?_
      refine pn_seq ?_
      refine rc_region ?_
      refine rd_op (ov_move rfl) ?_
      refine rd_op (ov_bin rfl rfl i_add) ?_
      refine rd_op (ov_move rfl) ?_
      refine rd_nil ?_
      refine pn_again ?_
      have hbd := sl_bound r103
      have hinc : wr (x8_ + 1) = x8_ + 1 := wr_of (by omega) (by omega)
      rw [hinc]
      refine rc_weak ?_ (ih (wr (x6_ + y108)) (wr (x7_ + 1)) (x8_ + 1)  (by omega) (by omega) hres)
      exact ((sub_cons rfl (sub_cons rfl (sub_cons rfl (sub_cons rfl (sub_cons rfl (sub_nil _)))))))
     ·replace hres := (ite_f hc115).symm.trans hres
      have hc115' := hc115
      try simp only [qa1, qa2, qa3, qa4, qa5, qa6, qa7, qa8, qa9, qaA, qaB, qaC, qaD] at hc115'
      refine rc_skip ?_
      refine pn_blk ?_
      refine pn_seq ?_
      refine rc_region ?_
      refine rd_op (ov_move rfl) ?_
      refine rd_op (ov_move rfl) ?_
      refine rd_op (ov_bin rfl rfl i_add) ?_
      refine rd_op (ov_move rfl) ?_
      refine rd_nil ?_
      refine pn_blk ?_
      refine pn_seq ?_
      refine rc_region ?_
      refine rd_op (ov_move rfl) ?_
      refine rd_op (ov_bin rfl rfl i_add) ?_
      refine rd_op (ov_move rfl) ?_
      refine rd_nil ?_
      refine pn_again ?_
      have hbd := sl_bound r103
      have hinc : wr (x8_ + 1) = x8_ + 1 := wr_of (by omega) (by omega)
      rw [hinc]
      refine rc_weak ?_ (ih (wr (x6_ + y108)) x7_ (x8_ + 1)  (by omega) (by omega) hres)
      exact ((sub_cons rfl (sub_cons rfl (sub_cons rfl (sub_cons rfl (sub_cons rfl (sub_nil _)))))))
  ·exfalso
   try simp only [qa1, qa2, qa3, qa4, qa5, qa6, qa7, qa8, qa9, qaA, qaB, qaC, qaD] at hc104
   omega

theorem f50_ok {x0 : api_Program} {x1 : api_Table} {v0 v1 : PV} (r0 : api_Program.t.R x0 v0) (r1 : api_Table.t.R x1 v1) : FnR Try.prog 50 [v0, v1] (.tup [vi ((ref17_keys x0 x1).1), vi ((ref17_keys x0 x1).2)]) := by
 obtain ⟨res, hres⟩ : ∃ res, ref17_keys x0 x1 = res := ⟨_, rfl⟩
 suffices H : RC Try.prog ac50 [] (QR Try.prog [(4, none), (5, none)] (RF50 res)) (argE 0 [v0, v1]) ⟨0, []⟩ by
  obtain ⟨r, h1, h2⟩ := fnE text50 (by simp) H
  rw [hres]
  have h2 : r = .tup [vi res.1, vi res.2] := h2
  rw [← h2]; exact h1
 unfold ref17_keys at hres
 unfold ac50
 refine rc_seq ?_
 refine rc_region ?_
 refine rd_op (ov_box rfl (TR.cnt api_Program.t r0)) ?_
 refine rd_op (ov_box rfl (TR.cnt api_Table.t r1)) ?_
 refine rd_op (v := vi 0) (ov_move rfl) ?_
 refine rd_op (v := vi 0) (ov_move rfl) ?_
 refine rd_nil ?_
 refine pn_seq ?_
 refine rc_seq ?_
 refine rc_region ?_
 refine rd_op (v := vi 0) (ov_move rfl) ?_
 refine rd_nil ?_
 refine pn_seq ?_
 refine rc_seq ?_
 refine rc_region ?_
 refine rd_op (v := vi 0) (ov_move rfl) ?_
 refine rd_nil ?_
 refine pn_seq ?_
 refine rc_seq ?_
 refine rc_seq ?_
 refine rc_region ?_
 refine rd_op (v := vi 0) (ov_move rfl) ?_
 refine rd_nil ?_
 refine pn_seq ?_
 refine rc_block ?_
 refine rc_weak ?_ (ref17_keys_L1_ok (x0 := x0) (x1 := x1) (v0 := v0) (v1 := v1)  (r0 := r0) (r1 := r1) ?_ (Int.toNat ((x1.Keys.length : Int) - 0)) 0 0 0 rfl (by omega) hres)
 ·exact ((sub_cons rfl (sub_cons rfl (sub_cons rfl (sub_cons rfl (sub_cons rfl (sub_nil _)))))))
 ·intro x6_116 x7_116 hres
  refine px_blk ?_
  refine pn_seq ?_
  refine rc_seq ?_
  refine rc_block ?_
  refine rc_seq ?_
  refine rc_region ?_
  refine rd_op (ov_move rfl) ?_
  refine rd_op (ov_bin rfl rfl i_gtr) ?_
  refine rd_op (ov_move rfl) ?_
  refine rd_nil ?_
  refine pn_seq ?_
  refine rc_cond rfl (fun hc117 => ?_) (fun hc117 => ?_)
  ·replace hres := (ite_t hc117).symm.trans hres
   have hc117' := hc117
   try simp only [qa1, qa2, qa3, qa4, qa5, qa6, qa7, qa8, qa9, qaA, qaB, qaC, qaD] at hc117'
   refine rc_seq ?_
   refine rc_region ?_
   refine rd_op (v := vi (-2)) (ov_move rfl) ?_
   refine rd_op (v := vi 7) (ov_move rfl) ?_
   refine rd_nil ?_
   refine pn_seq ?_
   subst hres
   exact rc_retV (.tmp rfl (.tmp rfl .nil)) (deep_closed (show closed (.tup _) = true from (clL_cons rfl (clL_cons rfl clL_nil)))) rfl
  ·replace hres := (ite_f hc117).symm.trans hres
   have hc117' := hc117
   try simp only [qa1, qa2, qa3, qa4, qa5, qa6, qa7, qa8, qa9, qaA, qaB, qaC, qaD] at hc117'
   refine rc_seq ?_
   refine rc_region ?_
   refine rd_op (ov_move rfl) ?_
   refine rd_op (ov_bin rfl rfl i_gtr) ?_
   refine rd_op (ov_move rfl) ?_
   refine rd_nil ?_
   refine pn_seq ?_
   refine rc_cond rfl (fun hc118 => ?_) (fun hc118 => ?_)
   ·replace hres := (ite_t hc118).symm.trans hres
    have hc118' := hc118
    try simp only [qa1, qa2, qa3, qa4, qa5, qa6, qa7, qa8, qa9, qaA, qaB, qaC, qaD] at hc118'
    refine rc_seq ?_
    refine rc_region ?_
    refine rd_op (v := vi (-2)) (ov_move rfl) ?_
    refine rd_op (v := vi 10) (ov_move rfl) ?_
    refine rd_nil ?_
    refine pn_seq ?_
    subst hres
    exact rc_retV (.tmp rfl (.tmp rfl .nil)) (deep_closed (show closed (.tup _) = true from (clL_cons rfl (clL_cons rfl clL_nil)))) rfl
   ·replace hres := (ite_f hc118).symm.trans hres
    have hc118' := hc118
    try simp only [qa1, qa2, qa3, qa4, qa5, qa6, qa7, qa8, qa9, qaA, qaB, qaC, qaD] at hc118'
    refine rc_skip ?_
    refine pn_blk ?_
    refine pn_seq ?_
    refine rc_seq ?_
    refine rc_region ?_
    refine rd_op (v := vi 0) (ov_move rfl) ?_
    refine rd_op (v := vi 0) (ov_move rfl) ?_
    refine rd_nil ?_
    refine pn_seq ?_
    subst hres
    exact rc_retV (.tmp rfl (.tmp rfl .nil)) (deep_closed (show closed (.tup _) = true from (clL_cons rfl (clL_cons rfl clL_nil)))) rfl

/-- patchbay/patchbayref17.index -/
def RF56 (res : Int) (r : PV) : Prop := r = vi res
theorem ref17_index_L1_ok {S : List Fr} {res : Int} {x0 : List Int} {x1 : Int} {v0 : PV} (r0 : (tSl tI).R x0 v0) {K0 : Unit → Int}
  (hK0 : K0 () = res → PX Try.prog 0 S (QR Try.prog [(4, none)] (RF56 res)) [] ⟨0, []⟩) :
  ∀ (m : Nat) (x5_ : Int) (hm1 : m = Int.toNat ((x0.length : Int) - x5_)) (hlo1 : 0 ≤ x5_), ref17_index_L1 x0 x1 K0 m x5_ = res → RC Try.prog (.loop ac56_L1) S (QR Try.prog [(4, none)] (RF56 res)) [(5, vi x5_), (1, vi x1), (0, v0)] ⟨0, []⟩ := by
 intro m
 induction m with
 | zero =>
  intro x5_ hm1 hlo1 hres
  rw [ref17_index_L1] at hres
  refine rc_loop ?_
  unfold ac56_L1
  refine rc_seq ?_
  refine rc_seq ?_
  refine rc_region ?_
  refine rd_op (ov_move rfl) ?_
  refine rd_op (ov_move rfl) ?_
  refine rd_op (ov_bi rfl (sl_len r0 Try.underlying29 _)) ?_
  refine rd_op (ov_bin rfl rfl i_lss) ?_
  refine rd_nil ?_
  refine pn_seq ?_
  refine rc_cond rfl (fun hc101 => ?_) (fun hc101 => ?_)
  ·exfalso
   try simp only [qa1, qa2, qa3, qa4, qa5, qa6, qa7, qa8, qa9, qaA, qaB, qaC, qaD] at hc101
   omega
  ·have hend := hres
   have hc101' := hc101
   try simp only [qa1, qa2, qa3, qa4, qa5, qa6, qa7, qa8, qa9, qaA, qaB, qaC, qaD] at hc101'
   refine rc_exit ?_
   refine px_seq ?_
   refine px_again ?_
   exact px_weak ((sub_nil _)) (hK0  hres)
 | succ m ih =>
  intro x5_ hm1 hlo1 hres
  rw [ref17_index_L1] at hres
  refine rc_loop ?_
  unfold ac56_L1
  refine rc_seq ?_
  refine rc_seq ?_
  refine rc_region ?_
  refine rd_op (ov_move rfl) ?_
  refine rd_op (ov_move rfl) ?_
  refine rd_op (ov_bi rfl (sl_len r0 Try.underlying29 _)) ?_
  refine rd_op (ov_bin rfl rfl i_lss) ?_
  refine rd_nil ?_
  refine pn_seq ?_
  refine rc_cond rfl (fun hc102 => ?_) (fun hc102 => ?_)
  ·have hgo := hres
   have hc102' := hc102
   try simp only [qa1, qa2, qa3, qa4, qa5, qa6, qa7, qa8, qa9, qaA, qaB, qaC, qaD] at hc102'
   refine rc_skip ?_
   refine pn_seq ?_
   refine rc_seq ?_
   refine rc_block ?_
   refine rc_seq ?_
   refine rc_region ?_
   refine rd_op (ov_move rfl) ?_
   refine rd_op (ov_move rfl) ?_
   refine rd_op (ov_iaddr rfl rfl (slI r0 (by first | omega | (have hk := tck (by assumption) (by assumption); omega) | (have hk := rtck (by assumption) (by assumption); omega) | (have hk := eck (by assumption) (by assumption) (by assumption); omega) | (have hk := tv (by assumption) (by assumption); omega) | (have hk := rtv (by assumption) (by assumption); omega)) (by first | omega | (have hk := tck (by assumption) (by assumption); omega) | (have hk := rtck (by assumption) (by assumption); omega) | (have hk := eck (by assumption) (by assumption) (by assumption); omega) | (have hk := tv (by assumption) (by assumption); omega) | (have hk := rtv (by assumption) (by assumption); omega)))) ?_
   refine rd_op (ov_load rfl rfl rfl) ?_
   refine rd_op (ov_move rfl) ?_
   refine rd_op (ov_bin rfl rfl i_eql) ?_
   refine rd_nil ?_
   refine pn_seq ?_
   refine rc_cond rfl (fun hc103 => ?_) (fun hc103 => ?_)
   ·replace hres := (ite_t hc103).symm.trans hres
    have hc103' := hc103
    try simp only [qa1, qa2, qa3, qa4, qa5, qa6, qa7, qa8, qa9, qaA, qaB, qaC, qaD] at hc103'
    refine rc_seq ?_
    refine rc_region ?_
    refine rd_op (ov_move rfl) ?_
    refine rd_op (ov_move rfl) ?_
    refine rd_nil ?_
    refine pn_seq ?_
    subst hres
    exact rc_retV (.tmp rfl .nil) (deep_closed rfl) rfl
   ·replace hres := (ite_f hc103).symm.trans hres
    have hc103' := hc103
    try simp only [qa1, qa2, qa3, qa4, qa5, qa6, qa7, qa8, qa9, qaA, qaB, qaC, qaD] at hc103'
    refine rc_skip ?_
    refine pn_blk ?_
    refine pn_seq ?_
    refine rc_region ?_
    refine rd_op (ov_move rfl) ?_
    refine rd_op (ov_bin rfl rfl i_add) ?_
    refine rd_op (ov_move rfl) ?_
    refine rd_nil ?_
    refine pn_again ?_
    have hbd := sl_bound r0
    have hinc : wr (x5_ + 1) = x5_ + 1 := wr_of (by omega) (by omega)
    rw [hinc]
    refine rc_weak ?_ (ih (x5_ + 1)  (by omega) (by omega) hres)
    exact ((sub_cons rfl (sub_cons rfl (sub_cons rfl (sub_nil _)))))
  ·exfalso
   try simp only [qa1, qa2, qa3, qa4, qa5, qa6, qa7, qa8, qa9, qaA, qaB, qaC, qaD] at hc102
   omega

theorem f56_ok {x0 : List Int} {x1 : Int} {v0 : PV} (r0 : (tSl tI).R x0 v0) : FnR Try.prog 56 [v0, vi x1] (vi (ref17_index x0 x1)) := by
 obtain ⟨res, hres⟩ : ∃ res, ref17_index x0 x1 = res := ⟨_, rfl⟩
 suffices H : RC Try.prog ac56 [] (QR Try.prog [(4, none)] (RF56 res)) (argE 0 [v0, vi x1]) ⟨0, []⟩ by
  obtain ⟨r, h1, h2⟩ := fnE text56 (by simp) H
  rw [hres]
  have h2 : r = vi res := h2
  rw [← h2]; exact h1
 unfold ref17_index at hres
 unfold ac56
 refine rc_seq ?_
 refine rc_region ?_
 refine rd_op (v := vi 0) (ov_move rfl) ?_
 refine rd_nil ?_
 refine pn_seq ?_
 refine rc_seq ?_
 refine rc_seq ?_
 refine rc_region ?_
 refine rd_op (v := vi 0) (ov_move rfl) ?_
 refine rd_nil ?_
 refine pn_seq ?_
 refine rc_block ?_
 refine rc_weak ?_ (ref17_index_L1_ok (x0 := x0) (x1 := x1) (v0 := v0)  (r0 := r0) ?_ (Int.toNat ((x0.length : Int) - 0)) 0 rfl (by omega) hres)
 ·exact ((sub_cons rfl (sub_cons rfl (sub_cons rfl (sub_nil _)))))
 ·intro  hres
  refine px_blk ?_
  refine pn_seq ?_
  refine rc_seq ?_
  refine rc_region ?_
  refine rd_op (v := vi (-1)) (ov_move rfl) ?_
  refine rd_nil ?_
  refine pn_seq ?_
  subst hres
  exact rc_retV (.tmp rfl .nil) (deep_closed rfl) rfl

end Go.Proofs.Ytklfdkbemkommaa
