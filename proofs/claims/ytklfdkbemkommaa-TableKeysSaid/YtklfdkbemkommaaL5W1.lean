/-
 The code of each function does what its plain program says.
-/
import Derived.Test.YtklfdkbemkommaaL5W0
set_option linter.unusedVariables false
set_option linter.unusedSimpArgs false
set_option maxRecDepth 100000
namespace Go.Proofs.Ytklfdkbemkommaa
open Go Go.Pb Go.RowKit
/-- patchbay/patchbaylaw17.SmallEnv -/
def RF27 (res : Bool) (r : PV) : Prop := r = vb res
theorem law17_SmallEnv_L1_ok {S : List Fr} {res : Bool} {x0 : api_Env} {v0 : PV} (r0 : api_Env.t.R x0 v0) (hc108 : ((((decide (20 < (x0.Valid.length : Int))) || (decide (20 < (x0.Fields.length : Int)))) || (decide (30 < (x0.Metd.length : Int)))) || (decide (300 < (x0.Payload.length : Int)))) = false) {K0 : Unit → Bool}
  (hK0 : K0 () = res → PX Try.prog 0 S (QR Try.prog [(2, none)] (RF27 res)) [] ⟨0, []⟩) :
  ∀ (m : Nat) (x3_ : Int) (hm1 : m = Int.toNat ((x0.Fields.length : Int) - x3_)) (hlo1 : 0 ≤ x3_), law17_SmallEnv_L1 x0 K0 m x3_ = res → RC Try.prog (.loop ac27_L1) S (QR Try.prog [(2, none)] (RF27 res)) [(3, vi x3_), (1, .fp v0)] ⟨0, []⟩ := by
 have hc108' := hc108
 try simp only [qa1, qa2, qa3, qa4, qa5, qa6, qa7, qa8, qa9, qaA, qaB, qaC, qaD] at hc108'
 intro m
 induction m with
 | zero =>
  intro x3_ hm1 hlo1 hres
  rw [law17_SmallEnv_L1] at hres
  refine rc_loop ?_
  unfold ac27_L1
  refine rc_seq ?_
  refine rc_seq ?_
  refine rc_region ?_
  refine rd_op (ov_move rfl) ?_
  obtain ⟨v109, e109, r109⟩ := api_Env.g_Fields r0
  refine rd_op (ov_faddr rfl e109) ?_
  refine rd_op (ov_load rfl (TR.cnt (tSl (tSl tU32)) r109) (TR.agg (tSl (tSl tU32)) r109)) ?_
  refine rd_op (ov_bi rfl (sl_len r109 Try.underlying43 _)) ?_
  refine rd_op (ov_bin rfl rfl i_lss) ?_
  refine rd_nil ?_
  refine pn_seq ?_
  refine rc_cond rfl (fun hc110 => ?_) (fun hc110 => ?_)
  ·exfalso
   try simp only [qa1, qa2, qa3, qa4, qa5, qa6, qa7, qa8, qa9, qaA, qaB, qaC, qaD] at hc110
   omega
  ·have hend := hres
   have hc110' := hc110
   try simp only [qa1, qa2, qa3, qa4, qa5, qa6, qa7, qa8, qa9, qaA, qaB, qaC, qaD] at hc110'
   refine rc_exit ?_
   refine px_seq ?_
   refine px_again ?_
   exact px_weak ((sub_nil _)) (hK0  hres)
 | succ m ih =>
  intro x3_ hm1 hlo1 hres
  rw [law17_SmallEnv_L1] at hres
  refine rc_loop ?_
  unfold ac27_L1
  refine rc_seq ?_
  refine rc_seq ?_
  refine rc_region ?_
  refine rd_op (ov_move rfl) ?_
  obtain ⟨v111, e111, r111⟩ := api_Env.g_Fields r0
  refine rd_op (ov_faddr rfl e111) ?_
  refine rd_op (ov_load rfl (TR.cnt (tSl (tSl tU32)) r111) (TR.agg (tSl (tSl tU32)) r111)) ?_
  refine rd_op (ov_bi rfl (sl_len r111 Try.underlying43 _)) ?_
  refine rd_op (ov_bin rfl rfl i_lss) ?_
  refine rd_nil ?_
  refine pn_seq ?_
  refine rc_cond rfl (fun hc112 => ?_) (fun hc112 => ?_)
  ·have hgo := hres
   have hc112' := hc112
   try simp only [qa1, qa2, qa3, qa4, qa5, qa6, qa7, qa8, qa9, qaA, qaB, qaC, qaD] at hc112'
   refine rc_skip ?_
   refine pn_seq ?_
   refine rc_seq ?_
   refine rc_block ?_
   refine rc_seq ?_
   refine rc_region ?_
   obtain ⟨v113, e113, r113⟩ := api_Env.g_Fields r0
   refine rd_op (ov_faddr rfl e113) ?_
   refine rd_op (ov_load rfl (TR.cnt (tSl (tSl tU32)) r113) (TR.agg (tSl (tSl tU32)) r113)) ?_
   refine rd_op (ov_move rfl) ?_
   obtain ⟨v114, e114, r114⟩ := sl_idx (i := x3_) r113 (by first | omega | (have hk := tck (by assumption) (by assumption); omega) | (have hk := rtck (by assumption) (by assumption); omega) | (have hk := eck (by assumption) (by assumption) (by assumption); omega) | (have hk := tv (by assumption) (by assumption); omega) | (have hk := rtv (by assumption) (by assumption); omega)) (by first | omega | (have hk := tck (by assumption) (by assumption); omega) | (have hk := rtck (by assumption) (by assumption); omega) | (have hk := eck (by assumption) (by assumption) (by assumption); omega) | (have hk := tv (by assumption) (by assumption); omega) | (have hk := rtv (by assumption) (by assumption); omega))
   refine rd_op (ov_iaddr rfl rfl e114) ?_
   refine rd_op (ov_load rfl (TR.cnt (tSl tU32) r114) (TR.agg (tSl tU32) r114)) ?_
   refine rd_op (ov_bi rfl (sl_len r114 Try.underlying44 _)) ?_
   refine rd_op (ov_bin rfl rfl i_gtr) ?_
   refine rd_nil ?_
   refine pn_seq ?_
   refine rc_cond rfl (fun hc115 => ?_) (fun hc115 => ?_)
   ·replace hres := (ite_t hc115).symm.trans hres
    have hc115' := hc115
    try simp only [qa1, qa2, qa3, qa4, qa5, qa6, qa7, qa8, qa9, qaA, qaB, qaC, qaD] at hc115'
    refine rc_seq ?_
    refine rc_region ?_
    refine rd_op (v := vb false) (ov_move rfl) ?_
    refine rd_nil ?_
    refine pn_seq ?_
    subst hres
    exact rc_retV (.tmp rfl .nil) (deep_closed rfl) rfl
   ·replace hres := (ite_f hc115).symm.trans hres
    have hc115' := hc115
    try simp only [qa1, qa2, qa3, qa4, qa5, qa6, qa7, qa8, qa9, qaA, qaB, qaC, qaD] at hc115'
    refine rc_skip ?_
    refine pn_blk ?_
    refine pn_seq ?_
    refine rc_region ?_
    refine rd_op (ov_move rfl) ?_
    refine rd_op (ov_bin rfl rfl i_add) ?_
    refine rd_op (ov_move rfl) ?_
    refine rd_nil ?_
    refine pn_again ?_
    have hbd := sl_bound r111
    have hinc : wr (x3_ + 1) = x3_ + 1 := wr_of (by omega) (by omega)
    rw [hinc]
    refine rc_weak ?_ (ih (x3_ + 1)  (by omega) (by omega) hres)
    exact ((sub_cons rfl (sub_cons rfl (sub_nil _))))
  ·exfalso
   try simp only [qa1, qa2, qa3, qa4, qa5, qa6, qa7, qa8, qa9, qaA, qaB, qaC, qaD] at hc112
   omega

theorem f27_ok {x0 : api_Env} {v0 : PV} (r0 : api_Env.t.R x0 v0) : FnR Try.prog 27 [v0] (vb (law17_SmallEnv x0)) := by
 obtain ⟨res, hres⟩ : ∃ res, law17_SmallEnv x0 = res := ⟨_, rfl⟩
 suffices H : RC Try.prog ac27 [] (QR Try.prog [(2, none)] (RF27 res)) (argE 0 [v0]) ⟨0, []⟩ by
  obtain ⟨r, h1, h2⟩ := fnE text27 (by simp) H
  rw [hres]
  have h2 : r = vb res := h2
  rw [← h2]; exact h1
 unfold law17_SmallEnv at hres
 unfold ac27
 refine rc_seq ?_
 refine rc_region ?_
 refine rd_op (ov_box rfl (TR.cnt api_Env.t r0)) ?_
 refine rd_op (v := vb false) (ov_move rfl) ?_
 refine rd_nil ?_
 refine pn_seq ?_
 refine rc_seq ?_
 refine rc_seq ?_
 refine rc_region ?_
 obtain ⟨v101, e101, r101⟩ := api_Env.g_Valid r0
 refine rd_op (ov_faddr rfl e101) ?_
 refine rd_op (ov_load rfl (TR.cnt (tSl tB) r101) (TR.agg (tSl tB) r101)) ?_
 refine rd_op (ov_bi rfl (sl_len r101 Try.underlying42 _)) ?_
 refine rd_op (ov_bin rfl rfl i_gtr) ?_
 refine rd_op (ov_move rfl) ?_
 refine rd_cut (d := 13) (v := vb ((decide (20 < (x0.Valid.length : Int))) || (decide (20 < (x0.Fields.length : Int))))) ?_ ?_
 ·intro S Q r
  simp only [ac27_G1, List.cons_append, List.nil_append, List.append_assoc]
  cases hb102 : (decide (20 < (x0.Valid.length : Int)))
  ·intro k
   have hb102' := hb102
   try simp only [qa1, qa2, qa3, qa4, qa5, qa6, qa7, qa8, qa9, qaA, qaB, qaC, qaD] at hb102'
   obtain ⟨v103, e103, r103⟩ := api_Env.g_Fields r0
   refine rd_yes rfl rfl (ov_faddr rfl e103) ?_
   refine rd_yes rfl rfl (ov_load rfl (TR.cnt (tSl (tSl tU32)) r103) (TR.agg (tSl (tSl tU32)) r103)) ?_
   refine rd_yes rfl rfl (ov_bi rfl (sl_len r103 Try.underlying43 _)) ?_
   refine rd_yes rfl rfl (ov_bin rfl rfl i_gtr) ?_
   refine rd_op (v := vb (decide (20 < (x0.Fields.length : Int)))) (ov_pick rfl rfl rfl rfl) ?_
   exact rd_weak (sub_cons rfl (sub_skip rfl (sub_skip rfl (sub_skip rfl (sub_skip rfl (sub_skip rfl (sub_refl _))))))) k
  ·intro k
   refine rd_skip rfl rfl ?_
   refine rd_skip rfl rfl ?_
   refine rd_skip rfl rfl ?_
   refine rd_skip rfl rfl ?_
   refine rd_op (v := vb true) (ov_pick rfl rfl rfl rfl) ?_
   exact rd_weak (sub_cons rfl (sub_skip rfl (sub_skip rfl (sub_skip rfl (sub_skip rfl (sub_skip rfl (sub_refl _))))))) k
 refine rd_op (ov_move rfl) ?_
 refine rd_cut (d := 19) (v := vb (((decide (20 < (x0.Valid.length : Int))) || (decide (20 < (x0.Fields.length : Int)))) || (decide (30 < (x0.Metd.length : Int))))) ?_ ?_
 ·intro S Q r
  simp only [ac27_G2, List.cons_append, List.nil_append, List.append_assoc]
  cases hb104 : ((decide (20 < (x0.Valid.length : Int))) || (decide (20 < (x0.Fields.length : Int))))
  ·intro k
   have hb104' := hb104
   try simp only [qa1, qa2, qa3, qa4, qa5, qa6, qa7, qa8, qa9, qaA, qaB, qaC, qaD] at hb104'
   obtain ⟨v105, e105, r105⟩ := api_Env.g_Meta r0
   refine rd_yes rfl rfl (ov_faddr rfl e105) ?_
   refine rd_yes rfl rfl (ov_load rfl (TR.cnt (tSl tU32) r105) (TR.agg (tSl tU32) r105)) ?_
   refine rd_yes rfl rfl (ov_bi rfl (sl_len r105 Try.underlying44 _)) ?_
   refine rd_yes rfl rfl (ov_bin rfl rfl i_gtr) ?_
   refine rd_op (v := vb (decide (30 < (x0.Metd.length : Int)))) (ov_pick rfl rfl rfl rfl) ?_
   exact rd_weak (sub_cons rfl (sub_skip rfl (sub_skip rfl (sub_skip rfl (sub_skip rfl (sub_skip rfl (sub_refl _))))))) k
  ·intro k
   refine rd_skip rfl rfl ?_
   refine rd_skip rfl rfl ?_
   refine rd_skip rfl rfl ?_
   refine rd_skip rfl rfl ?_
   refine rd_op (v := vb true) (ov_pick rfl rfl rfl rfl) ?_
   exact rd_weak (sub_cons rfl (sub_skip rfl (sub_skip rfl (sub_skip rfl (sub_skip rfl (sub_skip rfl (sub_refl _))))))) k
 refine rd_op (ov_move rfl) ?_
 refine rd_cut (d := 25) (v := vb ((((decide (20 < (x0.Valid.length : Int))) || (decide (20 < (x0.Fields.length : Int)))) || (decide (30 < (x0.Metd.length : Int)))) || (decide (300 < (x0.Payload.length : Int))))) ?_ ?_
 ·intro S Q r
  simp only [ac27_G3, List.cons_append, List.nil_append, List.append_assoc]
  cases hb106 : (((decide (20 < (x0.Valid.length : Int))) || (decide (20 < (x0.Fields.length : Int)))) || (decide (30 < (x0.Metd.length : Int))))
  ·intro k
   have hb106' := hb106
   try simp only [qa1, qa2, qa3, qa4, qa5, qa6, qa7, qa8, qa9, qaA, qaB, qaC, qaD] at hb106'
   obtain ⟨v107, e107, r107⟩ := api_Env.g_Payload r0
   refine rd_yes rfl rfl (ov_faddr rfl e107) ?_
   refine rd_yes rfl rfl (ov_load rfl (TR.cnt (tSl tU8) r107) (TR.agg (tSl tU8) r107)) ?_
   refine rd_yes rfl rfl (ov_bi rfl (sl_len r107 Try.underlying45 _)) ?_
   refine rd_yes rfl rfl (ov_bin rfl rfl i_gtr) ?_
   refine rd_op (v := vb (decide (300 < (x0.Payload.length : Int)))) (ov_pick rfl rfl rfl rfl) ?_
   exact rd_weak (sub_cons rfl (sub_skip rfl (sub_skip rfl (sub_skip rfl (sub_skip rfl (sub_skip rfl (sub_refl _))))))) k
  ·intro k
   refine rd_skip rfl rfl ?_
   refine rd_skip rfl rfl ?_
   refine rd_skip rfl rfl ?_
   refine rd_skip rfl rfl ?_
   refine rd_op (v := vb true) (ov_pick rfl rfl rfl rfl) ?_
   exact rd_weak (sub_cons rfl (sub_skip rfl (sub_skip rfl (sub_skip rfl (sub_skip rfl (sub_skip rfl (sub_refl _))))))) k
 refine rd_nil ?_
 refine pn_seq ?_
 refine rc_cond rfl (fun hc108 => ?_) (fun hc108 => ?_)
 ·replace hres := (ite_t hc108).symm.trans hres
  have hc108' := hc108
  try simp only [qa1, qa2, qa3, qa4, qa5, qa6, qa7, qa8, qa9, qaA, qaB, qaC, qaD] at hc108'
  refine rc_seq ?_
  refine rc_region ?_
  refine rd_op (v := vb false) (ov_move rfl) ?_
  refine rd_nil ?_
  refine pn_seq ?_
  subst hres
  exact rc_retV (.tmp rfl .nil) (deep_closed rfl) rfl
 ·replace hres := (ite_f hc108).symm.trans hres
  have hc108' := hc108
  try simp only [qa1, qa2, qa3, qa4, qa5, qa6, qa7, qa8, qa9, qaA, qaB, qaC, qaD] at hc108'
  refine rc_skip ?_
  refine pn_seq ?_
  refine rc_seq ?_
  refine rc_seq ?_
  refine rc_region ?_
  refine rd_op (v := vi 0) (ov_move rfl) ?_
  refine rd_nil ?_
  refine pn_seq ?_
  refine rc_block ?_
  refine rc_weak ?_ (law17_SmallEnv_L1_ok (x0 := x0) (v0 := v0)  (r0 := r0) (hc108 := hc108) ?_ (Int.toNat ((x0.Fields.length : Int) - 0)) 0 rfl (by omega) hres)
  ·exact ((sub_cons rfl (sub_cons rfl (sub_nil _))))
  ·intro  hres
   refine px_blk ?_
   refine pn_seq ?_
   refine rc_seq ?_
   refine rc_region ?_
   refine rd_op (v := vb true) (ov_move rfl) ?_
   refine rd_nil ?_
   refine pn_seq ?_
   subst hres
   exact rc_retV (.tmp rfl .nil) (deep_closed rfl) rfl

/-- patchbay/lexer.isLetter -/
def RF71 (res : Bool) (r : PV) : Prop := r = vb res
theorem f71_ok {x0 : UInt8} : FnR Try.prog 71 [vu8 x0] (vb (lexer_isLetter x0)) := by
 obtain ⟨res, hres⟩ : ∃ res, lexer_isLetter x0 = res := ⟨_, rfl⟩
 suffices H : RC Try.prog ac71 [] (QR Try.prog [(2, none)] (RF71 res)) (argE 0 [vu8 x0]) ⟨0, []⟩ by
  obtain ⟨r, h1, h2⟩ := fnE text71 (by simp) H
  rw [hres]
  have h2 : r = vb res := h2
  rw [← h2]; exact h1
 unfold lexer_isLetter at hres
 unfold ac71
 refine rc_seq ?_
 refine rc_region ?_
 refine rd_op (v := vb false) (ov_move rfl) ?_
 refine rd_nil ?_
 refine pn_seq ?_
 refine rc_seq ?_
 refine rc_region ?_
 refine rd_op (ov_move rfl) ?_
 refine rd_op (ov_bin (a := vu8 x0) (b := vu8 (97 : UInt8)) rfl rfl y_geq) ?_
 refine rd_op (ov_move rfl) ?_
 refine rd_cut (d := 8) (v := vb ((decide ((97 : UInt8) ≤ x0)) && (decide (x0 ≤ (122 : UInt8))))) ?_ ?_
 ·intro S Q r
  simp only [ac71_G1, List.cons_append, List.nil_append, List.append_assoc]
  cases hb101 : (decide ((97 : UInt8) ≤ x0))
  ·intro k
   refine rd_skip rfl rfl ?_
   refine rd_skip rfl rfl ?_
   refine rd_op (v := vb false) (ov_pick rfl rfl rfl rfl) ?_
   exact rd_weak (sub_cons rfl (sub_skip rfl (sub_skip rfl (sub_skip rfl (sub_refl _))))) k
  ·intro k
   have hb101' := hb101
   try simp only [qa1, qa2, qa3, qa4, qa5, qa6, qa7, qa8, qa9, qaA, qaB, qaC, qaD] at hb101'
   refine rd_yes rfl rfl (ov_move rfl) ?_
   refine rd_yes rfl rfl (ov_bin (a := vu8 x0) (b := vu8 (122 : UInt8)) rfl rfl y_leq) ?_
   refine rd_op (v := vb (decide (x0 ≤ (122 : UInt8)))) (ov_pick rfl rfl rfl rfl) ?_
   exact rd_weak (sub_cons rfl (sub_skip rfl (sub_skip rfl (sub_skip rfl (sub_refl _))))) k
 refine rd_op (ov_move rfl) ?_
 refine rd_cut (d := 16) (v := vb (((decide ((97 : UInt8) ≤ x0)) && (decide (x0 ≤ (122 : UInt8)))) || ((decide ((65 : UInt8) ≤ x0)) && (decide (x0 ≤ (90 : UInt8)))))) ?_ ?_
 ·intro S Q r
  simp only [ac71_G2, List.cons_append, List.nil_append, List.append_assoc]
  cases hb102 : ((decide ((97 : UInt8) ≤ x0)) && (decide (x0 ≤ (122 : UInt8))))
  ·intro k
   have hb102' := hb102
   try simp only [qa1, qa2, qa3, qa4, qa5, qa6, qa7, qa8, qa9, qaA, qaB, qaC, qaD] at hb102'
   refine rd_yes rfl rfl (ov_move rfl) ?_
   refine rd_yes rfl rfl (ov_bin (a := vu8 x0) (b := vu8 (65 : UInt8)) rfl rfl y_geq) ?_
   refine rd_yes rfl rfl (ov_move rfl) ?_
   refine rd_cut (d := 15) (v := vb ((decide ((65 : UInt8) ≤ x0)) && (decide (x0 ≤ (90 : UInt8))))) ?_ ?_
   ·intro S Q r
    simp only [ac71_G3, List.cons_append, List.nil_append, List.append_assoc]
    cases hb103 : (decide ((65 : UInt8) ≤ x0))
    ·intro k
     refine rd_skip rfl rfl ?_
     refine rd_skip rfl rfl ?_
     refine rd_yes (v := vb false) rfl rfl (ov_pick rfl rfl rfl rfl) ?_
     exact rd_weak (sub_cons rfl (sub_skip rfl (sub_skip rfl (sub_skip rfl (sub_refl _))))) k
    ·intro k
     have hb103' := hb103
     try simp only [qa1, qa2, qa3, qa4, qa5, qa6, qa7, qa8, qa9, qaA, qaB, qaC, qaD] at hb103'
     refine rd_yes rfl rfl (ov_move rfl) ?_
     refine rd_yes rfl rfl (ov_bin (a := vu8 x0) (b := vu8 (90 : UInt8)) rfl rfl y_leq) ?_
     refine rd_yes (v := vb (decide (x0 ≤ (90 : UInt8)))) rfl rfl (ov_pick rfl rfl rfl rfl) ?_
     exact rd_weak (sub_cons rfl (sub_skip rfl (sub_skip rfl (sub_skip rfl (sub_refl _))))) k
   refine rd_op (v := vb ((decide ((65 : UInt8) ≤ x0)) && (decide (x0 ≤ (90 : UInt8))))) (ov_pick rfl rfl rfl rfl) ?_
   exact rd_weak (sub_cons rfl (sub_skip rfl (sub_skip rfl (sub_skip rfl (sub_skip rfl (sub_skip rfl (sub_refl _))))))) k
  ·intro k
   simp only [ac71_G3, List.cons_append, List.nil_append, List.append_assoc]
   refine rd_skip rfl rfl ?_
   refine rd_skip rfl rfl ?_
   refine rd_skip rfl rfl ?_
   refine rd_skipU rfl ?_
   refine rd_skipU rfl ?_
   refine rd_skip rfl rfl ?_
   refine rd_op (v := vb true) (ov_pick rfl rfl rfl rfl) ?_
   exact rd_weak (sub_cons rfl (sub_skip rfl (sub_skip rfl (sub_skip rfl (sub_skip rfl (sub_skip rfl (sub_skip rfl (sub_skip rfl (sub_refl _))))))))) k
 refine rd_op (ov_move rfl) ?_
 refine rd_nil ?_
 refine pn_seq ?_
 subst hres
 exact rc_retV (.tmp rfl .nil) (deep_closed rfl) rfl

/-- patchbay/lexer.extent -/
def RF72 (res : Int) (r : PV) : Prop := r = vi res
theorem lexer_extent_L1_ok {S : List Fr} {res : Int} {x0 : List UInt8} {x1 : UInt8 → Bool} {v1 : PV} (r1 : (tFn Try.prog tU8 tB).R x1 v1) (hs : x0.length ≤ 1000) {K0 : Int → Int}
  (hK0 : ∀ (x5_ : Int), K0 x5_ = res → PX Try.prog 0 S (QR Try.prog [(4, none)] (RF72 res)) [(5, vi x5_)] ⟨0, []⟩) :
  ∀ (m : Nat) (x5_ : Int) (hm1 : m = Int.toNat ((x0.length : Int) - x5_)) (hlo1 : 0 ≤ x5_), lexer_extent_L1 x0 x1 K0 m x5_ = res → RC Try.prog (.loop ac72_L1) S (QR Try.prog [(4, none)] (RF72 res)) [(5, vi x5_), (1, v1), (0, vs x0)] ⟨0, []⟩ := by
 intro m
 induction m with
 | zero =>
  intro x5_ hm1 hlo1 hres
  rw [lexer_extent_L1] at hres
  refine rc_loop ?_
  unfold ac72_L1
  refine rc_seq ?_
  refine rc_seq ?_
  refine rc_region ?_
  refine rd_op (ov_move rfl) ?_
  refine rd_op (ov_move rfl) ?_
  refine rd_op (ov_bi rfl (str_len Try.underlying9)) ?_
  refine rd_op (ov_bin rfl rfl i_lss) ?_
  refine rd_op (ov_move rfl) ?_
  refine rd_cut (d := 16) (v := vb ((decide (x5_ < (x0.length : Int))) && (x1 (ix x0 x5_)))) ?_ ?_
  ·intro S Q r
   simp only [ac72_G1, List.cons_append, List.nil_append, List.append_assoc]
   cases hb101 : (decide (x5_ < (x0.length : Int)))
   ·intro k
    refine rd_skip rfl rfl ?_
    refine rd_skip rfl rfl ?_
    refine rd_skip rfl rfl ?_
    refine rd_skip rfl rfl ?_
    refine rd_skip rfl rfl ?_
    refine rd_op (v := vb false) (ov_pick rfl rfl rfl rfl) ?_
    exact rd_weak (sub_cons rfl (sub_skip rfl (sub_skip rfl (sub_skip rfl (sub_skip rfl (sub_skip rfl (sub_skip rfl (sub_refl _)))))))) k
   ·intro k
    have hb101' := hb101
    try simp only [qa1, qa2, qa3, qa4, qa5, qa6, qa7, qa8, qa9, qaA, qaB, qaC, qaD] at hb101'
    refine rd_yes rfl rfl (ov_move rfl) ?_
    refine rd_yes rfl rfl (ov_move rfl) ?_
    refine rd_yes rfl rfl (ov_move rfl) ?_
    refine rd_yes rfl rfl (ov_indexS rfl rfl (str_idx Try.underlying9 (by first | omega | (have hk := tck (by assumption) (by assumption); omega) | (have hk := rtck (by assumption) (by assumption); omega) | (have hk := eck (by assumption) (by assumption) (by assumption); omega) | (have hk := tv (by assumption) (by assumption); omega) | (have hk := rtv (by assumption) (by assumption); omega)) (by first | omega | (have hk := tck (by assumption) (by assumption); omega) | (have hk := rtck (by assumption) (by assumption); omega) | (have hk := eck (by assumption) (by assumption) (by assumption); omega) | (have hk := tv (by assumption) (by assumption); omega) | (have hk := rtv (by assumption) (by assumption); omega)))) ?_
    refine rd_ycallF rfl rfl rfl r1 rfl (show tU8.R (ix x0 x5_) (vu8 (ix x0 x5_)) from rfl) (fun v102 r102 => ?_)
    have r102 : v102 = vb (x1 (ix x0 x5_)) := r102; subst r102
    refine rd_op (v := vb (x1 (ix x0 x5_))) (ov_pick rfl rfl rfl rfl) ?_
    exact rd_weak (sub_cons rfl (sub_skip rfl (sub_skip rfl (sub_skip rfl (sub_skip rfl (sub_skip rfl (sub_skip rfl (sub_refl _)))))))) k
  refine rd_nil ?_
  refine pn_seq ?_
  refine rc_cond rfl (fun hc103 => ?_) (fun hc103 => ?_)
  ·exfalso
   try simp only [qa1, qa2, qa3, qa4, qa5, qa6, qa7, qa8, qa9, qaA, qaB, qaC, qaD] at hc103
   omega
  ·have hend := hres
   have hc103' := hc103
   try simp only [qa1, qa2, qa3, qa4, qa5, qa6, qa7, qa8, qa9, qaA, qaB, qaC, qaD] at hc103'
   refine rc_exit ?_
   refine px_seq ?_
   refine px_again ?_
   exact px_weak ((sub_cons rfl (sub_nil _))) (hK0 x5_ hres)
 | succ m ih =>
  intro x5_ hm1 hlo1 hres
  rw [lexer_extent_L1] at hres
  refine rc_loop ?_
  unfold ac72_L1
  refine rc_seq ?_
  refine rc_seq ?_
  refine rc_region ?_
  refine rd_op (ov_move rfl) ?_
  refine rd_op (ov_move rfl) ?_
  refine rd_op (ov_bi rfl (str_len Try.underlying9)) ?_
  refine rd_op (ov_bin rfl rfl i_lss) ?_
  refine rd_op (ov_move rfl) ?_
  refine rd_cut (d := 16) (v := vb ((decide (x5_ < (x0.length : Int))) && (x1 (ix x0 x5_)))) ?_ ?_
  ·intro S Q r
   simp only [ac72_G1, List.cons_append, List.nil_append, List.append_assoc]
   cases hb104 : (decide (x5_ < (x0.length : Int)))
   ·intro k
    refine rd_skip rfl rfl ?_
    refine rd_skip rfl rfl ?_
    refine rd_skip rfl rfl ?_
    refine rd_skip rfl rfl ?_
    refine rd_skip rfl rfl ?_
    refine rd_op (v := vb false) (ov_pick rfl rfl rfl rfl) ?_
    exact rd_weak (sub_cons rfl (sub_skip rfl (sub_skip rfl (sub_skip rfl (sub_skip rfl (sub_skip rfl (sub_skip rfl (sub_refl _)))))))) k
   ·intro k
    have hb104' := hb104
    try simp only [qa1, qa2, qa3, qa4, qa5, qa6, qa7, qa8, qa9, qaA, qaB, qaC, qaD] at hb104'
    refine rd_yes rfl rfl (ov_move rfl) ?_
    refine rd_yes rfl rfl (ov_move rfl) ?_
    refine rd_yes rfl rfl (ov_move rfl) ?_
    refine rd_yes rfl rfl (ov_indexS rfl rfl (str_idx Try.underlying9 (by first | omega | (have hk := tck (by assumption) (by assumption); omega) | (have hk := rtck (by assumption) (by assumption); omega) | (have hk := eck (by assumption) (by assumption) (by assumption); omega) | (have hk := tv (by assumption) (by assumption); omega) | (have hk := rtv (by assumption) (by assumption); omega)) (by first | omega | (have hk := tck (by assumption) (by assumption); omega) | (have hk := rtck (by assumption) (by assumption); omega) | (have hk := eck (by assumption) (by assumption) (by assumption); omega) | (have hk := tv (by assumption) (by assumption); omega) | (have hk := rtv (by assumption) (by assumption); omega)))) ?_
    refine rd_ycallF rfl rfl rfl r1 rfl (show tU8.R (ix x0 x5_) (vu8 (ix x0 x5_)) from rfl) (fun v105 r105 => ?_)
    have r105 : v105 = vb (x1 (ix x0 x5_)) := r105; subst r105
    refine rd_op (v := vb (x1 (ix x0 x5_))) (ov_pick rfl rfl rfl rfl) ?_
    exact rd_weak (sub_cons rfl (sub_skip rfl (sub_skip rfl (sub_skip rfl (sub_skip rfl (sub_skip rfl (sub_skip rfl (sub_refl _)))))))) k
  refine rd_nil ?_
  refine pn_seq ?_
  refine rc_cond rfl (fun hc106 => ?_) (fun hc106 => ?_)
  ·replace hres := (ite_t hc106).symm.trans hres
   have hc106' := hc106
   try simp only [qa1, qa2, qa3, qa4, qa5, qa6, qa7, qa8, qa9, qaA, qaB, qaC, qaD] at hc106'
   refine rc_skip ?_
   refine pn_seq ?_
   refine rc_block ?_
   refine rc_region ?_
   refine rd_op (ov_move rfl) ?_
   refine rd_op (ov_bin rfl rfl i_add) ?_
   refine rd_op (ov_move rfl) ?_
   refine rd_nil ?_
   refine pn_blk ?_
   refine pn_again ?_
   have hinc : wr (x5_ + 1) = x5_ + 1 := wr_of (by omega) (by omega)
   rw [hinc]
   refine rc_weak ?_ (ih (x5_ + 1)  (by omega) (by omega) hres)
   exact ((sub_cons rfl (sub_cons rfl (sub_cons rfl (sub_nil _)))))
  ·replace hres := (ite_f hc106).symm.trans hres
   have hc106' := hc106
   try simp only [qa1, qa2, qa3, qa4, qa5, qa6, qa7, qa8, qa9, qaA, qaB, qaC, qaD] at hc106'
   refine rc_exit ?_
   refine px_seq ?_
   refine px_again ?_
   exact px_weak ((sub_cons rfl (sub_nil _))) (hK0 x5_ hres)

theorem f72_ok {x0 : List UInt8} {x1 : UInt8 → Bool} {v1 : PV} (r1 : (tFn Try.prog tU8 tB).R x1 v1) (hs : x0.length ≤ 1000) : FnR Try.prog 72 [vs x0, v1] (vi (lexer_extent x0 x1)) := by
 obtain ⟨res, hres⟩ : ∃ res, lexer_extent x0 x1 = res := ⟨_, rfl⟩
 suffices H : RC Try.prog ac72 [] (QR Try.prog [(4, none)] (RF72 res)) (argE 0 [vs x0, v1]) ⟨0, []⟩ by
  obtain ⟨r, h1, h2⟩ := fnE text72 (by simp) H
  rw [hres]
  have h2 : r = vi res := h2
  rw [← h2]; exact h1
 unfold lexer_extent at hres
 unfold ac72
 refine rc_seq ?_
 refine rc_region ?_
 refine rd_op (v := vi 0) (ov_move rfl) ?_
 refine rd_nil ?_
 refine pn_seq ?_
 refine rc_seq ?_
 refine rc_region ?_
 refine rd_op (v := vi 0) (ov_move rfl) ?_
 refine rd_nil ?_
 refine pn_seq ?_
 refine rc_seq ?_
 refine rc_block ?_
 refine rc_weak ?_ (lexer_extent_L1_ok (x0 := x0) (x1 := x1) (v1 := v1)  (r1 := r1) (hs := hs) ?_ (Int.toNat ((x0.length : Int) - 0)) 0 rfl (by omega) hres)
 ·exact ((sub_cons rfl (sub_cons rfl (sub_cons rfl (sub_nil _)))))
 ·intro x5_107 hres
  refine px_blk ?_
  refine pn_seq ?_
  refine rc_seq ?_
  refine rc_region ?_
  refine rd_op (ov_move rfl) ?_
  refine rd_op (ov_move rfl) ?_
  refine rd_nil ?_
  refine pn_seq ?_
  subst hres
  exact rc_retV (.tmp rfl .nil) (deep_closed rfl) rfl

/-- patchbay/lexer.isDigit -/
def RF74 (res : Bool) (r : PV) : Prop := r = vb res
theorem f74_ok {x0 : UInt8} : FnR Try.prog 74 [vu8 x0] (vb (lexer_isDigit x0)) := by
 obtain ⟨res, hres⟩ : ∃ res, lexer_isDigit x0 = res := ⟨_, rfl⟩
 suffices H : RC Try.prog ac74 [] (QR Try.prog [(2, none)] (RF74 res)) (argE 0 [vu8 x0]) ⟨0, []⟩ by
  obtain ⟨r, h1, h2⟩ := fnE text74 (by simp) H
  rw [hres]
  have h2 : r = vb res := h2
  rw [← h2]; exact h1
 unfold lexer_isDigit at hres
 unfold ac74
 refine rc_seq ?_
 refine rc_region ?_
 refine rd_op (v := vb false) (ov_move rfl) ?_
 refine rd_nil ?_
 refine pn_seq ?_
 refine rc_seq ?_
 refine rc_region ?_
 refine rd_op (ov_move rfl) ?_
 refine rd_op (ov_bin (a := vu8 x0) (b := vu8 (48 : UInt8)) rfl rfl y_geq) ?_
 refine rd_op (ov_move rfl) ?_
 refine rd_cut (d := 8) (v := vb ((decide ((48 : UInt8) ≤ x0)) && (decide (x0 ≤ (57 : UInt8))))) ?_ ?_
 ·intro S Q r
  simp only [ac74_G1, List.cons_append, List.nil_append, List.append_assoc]
  cases hb101 : (decide ((48 : UInt8) ≤ x0))
  ·intro k
   refine rd_skip rfl rfl ?_
   refine rd_skip rfl rfl ?_
   refine rd_op (v := vb false) (ov_pick rfl rfl rfl rfl) ?_
   exact rd_weak (sub_cons rfl (sub_skip rfl (sub_skip rfl (sub_skip rfl (sub_refl _))))) k
  ·intro k
   have hb101' := hb101
   try simp only [qa1, qa2, qa3, qa4, qa5, qa6, qa7, qa8, qa9, qaA, qaB, qaC, qaD] at hb101'
   refine rd_yes rfl rfl (ov_move rfl) ?_
   refine rd_yes rfl rfl (ov_bin (a := vu8 x0) (b := vu8 (57 : UInt8)) rfl rfl y_leq) ?_
   refine rd_op (v := vb (decide (x0 ≤ (57 : UInt8)))) (ov_pick rfl rfl rfl rfl) ?_
   exact rd_weak (sub_cons rfl (sub_skip rfl (sub_skip rfl (sub_skip rfl (sub_refl _))))) k
 refine rd_op (ov_move rfl) ?_
 refine rd_nil ?_
 refine pn_seq ?_
 subst hres
 exact rc_retV (.tmp rfl .nil) (deep_closed rfl) rfl

/-- patchbay/lexer.IsIdentifier$1 -/
def RF73 (res : Bool) (r : PV) : Prop := r = vb res
theorem f73_ok {x0 : UInt8} : FnR Try.prog 73 [vu8 x0] (vb (lexer_IsIdentifier_1 x0)) := by
 obtain ⟨res, hres⟩ : ∃ res, lexer_IsIdentifier_1 x0 = res := ⟨_, rfl⟩
 suffices H : RC Try.prog ac73 [] (QR Try.prog [(2, none)] (RF73 res)) (argE 0 [vu8 x0]) ⟨0, []⟩ by
  obtain ⟨r, h1, h2⟩ := fnE text73 (by simp) H
  rw [hres]
  have h2 : r = vb res := h2
  rw [← h2]; exact h1
 unfold lexer_IsIdentifier_1 at hres
 unfold ac73
 refine rc_seq ?_
 refine rc_region ?_
 refine rd_op (v := vb false) (ov_move rfl) ?_
 refine rd_nil ?_
 refine pn_seq ?_
 refine rc_seq ?_
 refine rc_region ?_
 refine rd_op (ov_move rfl) ?_
 obtain ⟨y101, hw101, hres⟩ := let_ex hres
 have f101 := f71_ok (x0 := x0)  
 rw [hw101] at f101
 refine rd_call (cv_fn rfl rfl (clL_cons rfl clL_nil) f101) ?_
 refine rd_op (ov_move rfl) ?_
 refine rd_cut (d := 8) (v := vb (y101 || (lexer_isDigit x0))) ?_ ?_
 ·intro S Q r
  simp only [ac73_G1, List.cons_append, List.nil_append, List.append_assoc]
  cases hb102 : y101
  ·intro k
   have hb102' := hb102
   try simp only [qa1, qa2, qa3, qa4, qa5, qa6, qa7, qa8, qa9, qaA, qaB, qaC, qaD] at hb102'
   refine rd_yes rfl rfl (ov_move rfl) ?_
   have f103 := f74_ok (x0 := x0)  
   refine rd_ycall rfl rfl (cv_fn rfl rfl (clL_cons rfl clL_nil) f103) ?_
   refine rd_op (v := vb (lexer_isDigit x0)) (ov_pick rfl rfl rfl rfl) ?_
   exact rd_weak (sub_cons rfl (sub_skip rfl (sub_skip rfl (sub_skip rfl (sub_refl _))))) k
  ·intro k
   refine rd_skip rfl rfl ?_
   refine rd_skip rfl rfl ?_
   refine rd_op (v := vb true) (ov_pick rfl rfl rfl rfl) ?_
   exact rd_weak (sub_cons rfl (sub_skip rfl (sub_skip rfl (sub_skip rfl (sub_refl _))))) k
 refine rd_op (ov_move rfl) ?_
 refine rd_cut (d := 12) (v := vb ((y101 || (lexer_isDigit x0)) || (decide (x0 = (95 : UInt8))))) ?_ ?_
 ·intro S Q r
  simp only [ac73_G2, List.cons_append, List.nil_append, List.append_assoc]
  cases hb104 : (y101 || (lexer_isDigit x0))
  ·intro k
   have hb104' := hb104
   try simp only [qa1, qa2, qa3, qa4, qa5, qa6, qa7, qa8, qa9, qaA, qaB, qaC, qaD] at hb104'
   refine rd_yes rfl rfl (ov_move rfl) ?_
   refine rd_yes rfl rfl (ov_bin (a := vu8 x0) (b := vu8 (95 : UInt8)) rfl rfl y_eql) ?_
   refine rd_op (v := vb (decide (x0 = (95 : UInt8)))) (ov_pick rfl rfl rfl rfl) ?_
   exact rd_weak (sub_cons rfl (sub_skip rfl (sub_skip rfl (sub_skip rfl (sub_refl _))))) k
  ·intro k
   refine rd_skip rfl rfl ?_
   refine rd_skip rfl rfl ?_
   refine rd_op (v := vb true) (ov_pick rfl rfl rfl rfl) ?_
   exact rd_weak (sub_cons rfl (sub_skip rfl (sub_skip rfl (sub_skip rfl (sub_refl _))))) k
 refine rd_op (ov_move rfl) ?_
 refine rd_nil ?_
 refine pn_seq ?_
 subst hres
 exact rc_retV (.tmp rfl .nil) (deep_closed rfl) rfl

theorem tfn73 : (tFn Try.prog tU8 tB).R lexer_IsIdentifier_1 (.fn (.func 73) [] []) := tFn_of fun a va ra => by obtain rfl := ra; exact ⟨_, f73_ok, rfl⟩

/-- patchbay/lexer.IsIdentifier -/
def RF46 (res : Bool) (r : PV) : Prop := r = vb res
theorem f46_ok {x0 : List UInt8} : FnR Try.prog 46 [vs x0] (vb (lexer_IsIdentifier x0)) := by
 obtain ⟨res, hres⟩ : ∃ res, lexer_IsIdentifier x0 = res := ⟨_, rfl⟩
 suffices H : RC Try.prog ac46 [] (QR Try.prog [(2, none)] (RF46 res)) (argE 0 [vs x0]) ⟨0, []⟩ by
  obtain ⟨r, h1, h2⟩ := fnE text46 (by simp) H
  rw [hres]
  have h2 : r = vb res := h2
  rw [← h2]; exact h1
 unfold lexer_IsIdentifier at hres
 unfold ac46
 refine rc_seq ?_
 refine rc_region ?_
 refine rd_op (v := vb false) (ov_move rfl) ?_
 refine rd_nil ?_
 refine pn_seq ?_
 refine rc_seq ?_
 refine rc_seq ?_
 refine rc_region ?_
 refine rd_op (ov_move rfl) ?_
 refine rd_op (ov_bi rfl (str_len Try.underlying9)) ?_
 refine rd_op (ov_bin rfl rfl i_eql) ?_
 refine rd_op (ov_move rfl) ?_
 refine rd_cut (d := 10) (v := vb ((decide ((x0.length : Int) = 0)) || (decide (16 < (x0.length : Int))))) ?_ ?_
 ·intro S Q r
  simp only [ac46_G1, List.cons_append, List.nil_append, List.append_assoc]
  cases hb101 : (decide ((x0.length : Int) = 0))
  ·intro k
   have hb101' := hb101
   try simp only [qa1, qa2, qa3, qa4, qa5, qa6, qa7, qa8, qa9, qaA, qaB, qaC, qaD] at hb101'
   refine rd_yes rfl rfl (ov_move rfl) ?_
   refine rd_yes rfl rfl (ov_bi rfl (str_len Try.underlying9)) ?_
   refine rd_yes rfl rfl (ov_bin rfl rfl i_gtr) ?_
   refine rd_op (v := vb (decide (16 < (x0.length : Int)))) (ov_pick rfl rfl rfl rfl) ?_
   exact rd_weak (sub_cons rfl (sub_skip rfl (sub_skip rfl (sub_skip rfl (sub_skip rfl (sub_refl _)))))) k
  ·intro k
   refine rd_skip rfl rfl ?_
   refine rd_skip rfl rfl ?_
   refine rd_skip rfl rfl ?_
   refine rd_op (v := vb true) (ov_pick rfl rfl rfl rfl) ?_
   exact rd_weak (sub_cons rfl (sub_skip rfl (sub_skip rfl (sub_skip rfl (sub_skip rfl (sub_refl _)))))) k
 refine rd_op (ov_move rfl) ?_
 refine rd_cut (d := 16) (v := vb (((decide ((x0.length : Int) = 0)) || (decide (16 < (x0.length : Int)))) || (!(lexer_isLetter (ix x0 0))))) ?_ ?_
 ·intro S Q r
  simp only [ac46_G2, List.cons_append, List.nil_append, List.append_assoc]
  cases hb102 : ((decide ((x0.length : Int) = 0)) || (decide (16 < (x0.length : Int))))
  ·intro k
   have hb102' := hb102
   try simp only [qa1, qa2, qa3, qa4, qa5, qa6, qa7, qa8, qa9, qaA, qaB, qaC, qaD] at hb102'
   refine rd_yes rfl rfl (ov_move rfl) ?_
   refine rd_yes rfl rfl (ov_indexS rfl rfl (str_idx Try.underlying9 (by first | omega | (have hk := tck (by assumption) (by assumption); omega) | (have hk := rtck (by assumption) (by assumption); omega) | (have hk := eck (by assumption) (by assumption) (by assumption); omega) | (have hk := tv (by assumption) (by assumption); omega) | (have hk := rtv (by assumption) (by assumption); omega)) (by first | omega | (have hk := tck (by assumption) (by assumption); omega) | (have hk := rtck (by assumption) (by assumption); omega) | (have hk := eck (by assumption) (by assumption) (by assumption); omega) | (have hk := tv (by assumption) (by assumption); omega) | (have hk := rtv (by assumption) (by assumption); omega)))) ?_
   have f103 := f71_ok (x0 := (ix x0 0))  
   refine rd_ycall rfl rfl (cv_fn rfl rfl (clL_cons rfl clL_nil) f103) ?_
   refine rd_yes rfl rfl (ov_not rfl) ?_
   refine rd_op (v := vb (!(lexer_isLetter (ix x0 0)))) (ov_pick rfl rfl rfl rfl) ?_
   exact rd_weak (sub_cons rfl (sub_skip rfl (sub_skip rfl (sub_skip rfl (sub_skip rfl (sub_skip rfl (sub_refl _))))))) k
  ·intro k
   refine rd_skip rfl rfl ?_
   refine rd_skip rfl rfl ?_
   refine rd_skip rfl rfl ?_
   refine rd_skip rfl rfl ?_
   refine rd_op (v := vb true) (ov_pick rfl rfl rfl rfl) ?_
   exact rd_weak (sub_cons rfl (sub_skip rfl (sub_skip rfl (sub_skip rfl (sub_skip rfl (sub_skip rfl (sub_refl _))))))) k
 refine rd_nil ?_
 refine pn_seq ?_
 refine rc_cond rfl (fun hc104 => ?_) (fun hc104 => ?_)
 ·replace hres := (ite_t hc104).symm.trans hres
  have hc104' := hc104
  try simp only [qa1, qa2, qa3, qa4, qa5, qa6, qa7, qa8, qa9, qaA, qaB, qaC, qaD] at hc104'
  refine rc_seq ?_
  refine rc_region ?_
  refine rd_op (v := vb false) (ov_move rfl) ?_
  refine rd_nil ?_
  refine pn_seq ?_
  subst hres
  exact rc_retV (.tmp rfl .nil) (deep_closed rfl) rfl
 ·replace hres := (ite_f hc104).symm.trans hres
  have hc104' := hc104
  try simp only [qa1, qa2, qa3, qa4, qa5, qa6, qa7, qa8, qa9, qaA, qaB, qaC, qaD] at hc104'
  refine rc_skip ?_
  refine pn_seq ?_
  refine rc_seq ?_
  refine rc_region ?_
  refine rd_op (ov_move rfl) ?_
  obtain ⟨y105, hw105, hres⟩ := let_ex hres
  have f105 := f72_ok (x0 := x0) tfn73 (by first | assumption | omega | (have := rv (by assumption) (by assumption); omega))
  rw [hw105] at f105
  refine rd_call (cv_fn rfl rfl (clL_cons rfl (clL_cons rfl clL_nil)) f105) ?_
  refine rd_op (ov_move rfl) ?_
  refine rd_op (ov_bi rfl (str_len Try.underlying9)) ?_
  refine rd_op (ov_bin rfl rfl i_eql) ?_
  refine rd_op (ov_move rfl) ?_
  refine rd_nil ?_
  refine pn_seq ?_
  subst hres
  exact rc_retV (.tmp rfl .nil) (deep_closed rfl) rfl

/-- patchbay/env.at[patchbay/api.Header] -/
def RF89 (res : api_Header) (r : PV) : Prop := api_Header.t.R res r
theorem f89_ok {x0 : List api_Header} {x1 : Int} {v0 : PV} (r0 : (tSl api_Header.t).R x0 v0) : ∃ r, FnR Try.prog 89 [v0, vi x1] r ∧ api_Header.t.R (env_at_api_Header x0 x1) r := by
 obtain ⟨res, hres⟩ : ∃ res, env_at_api_Header x0 x1 = res := ⟨_, rfl⟩
 suffices H : RC Try.prog ac89 [] (QR Try.prog [(4, some (2, true))] (RF89 res)) (argE 0 [v0, vi x1]) ⟨0, []⟩ by
  rw [hres]
  exact fnE text89 (by simp) H
 unfold env_at_api_Header at hres
 unfold ac89
 refine rc_seq ?_
 refine rc_region ?_
 refine rd_allocO (x := .agg [vs [], nilS]) (Mem.nil ⟨0, []⟩) rfl rfl (fun i101 w101 h101 M101 => ?_)
 refine rd_nil ?_
 refine pn_seq ?_
 refine rc_seq ?_
 refine rc_region ?_
 refine rd_op (ov_allocv (x := .agg [vs [], nilS]) rfl rfl) ?_
 refine rd_nil ?_
 refine pn_seq ?_
 refine rc_seq ?_
 refine rc_seq ?_
 refine rc_region ?_
 refine rd_op (ov_move rfl) ?_
 refine rd_op (ov_bin rfl rfl i_lss) ?_
 refine rd_op (ov_move rfl) ?_
 refine rd_cut (d := 13) (v := vb ((decide (x1 < 0)) || (decide ((x0.length : Int) ≤ x1)))) ?_ ?_
 ·intro S Q r
  simp only [ac89_G1, List.cons_append, List.nil_append, List.append_assoc]
  cases hb103 : (decide (x1 < 0))
  ·intro k
   have hb103' := hb103
   try simp only [qa1, qa2, qa3, qa4, qa5, qa6, qa7, qa8, qa9, qaA, qaB, qaC, qaD] at hb103'
   refine rd_yes rfl rfl (ov_move rfl) ?_
   refine rd_yes rfl rfl (ov_move rfl) ?_
   refine rd_yes rfl rfl (ov_bi rfl (sl_len r0 Try.underlying22 _)) ?_
   refine rd_yes rfl rfl (ov_bin rfl rfl i_geq) ?_
   refine rd_op (v := vb (decide ((x0.length : Int) ≤ x1))) (ov_pick rfl rfl rfl rfl) ?_
   exact rd_weak (sub_cons rfl (sub_skip rfl (sub_skip rfl (sub_skip rfl (sub_skip rfl (sub_skip rfl (sub_refl _))))))) k
  ·intro k
   refine rd_skip rfl rfl ?_
   refine rd_skip rfl rfl ?_
   refine rd_skip rfl rfl ?_
   refine rd_skip rfl rfl ?_
   refine rd_op (v := vb true) (ov_pick rfl rfl rfl rfl) ?_
   exact rd_weak (sub_cons rfl (sub_skip rfl (sub_skip rfl (sub_skip rfl (sub_skip rfl (sub_skip rfl (sub_refl _))))))) k
 refine rd_nil ?_
 refine pn_seq ?_
 refine rc_cond rfl (fun hc104 => ?_) (fun hc104 => ?_)
 ·replace hres := (ite_t hc104).symm.trans hres
  have hc104' := hc104
  try simp only [qa1, qa2, qa3, qa4, qa5, qa6, qa7, qa8, qa9, qaA, qaB, qaC, qaD] at hc104'
  refine rc_seq ?_
  refine rc_region ?_
  refine rd_op (ov_load rfl rfl rfl) ?_
  refine rd_storeO (k := 0) (v := .agg [vs [], nilS]) M101 rfl rfl rfl rfl (fun h105 M105 => ?_)
  replace M105 : Mem h105 [⟨.op i101 w101 0, 89, 2, [.agg [vs [], nilS]]⟩] := M105
  refine rd_nil ?_
  refine pn_seq ?_
  subst hres
  exact rc_retV (.cell rfl (load_whole (k := 0) M105 rfl rfl) .nil) (deep_closed (TR.clo api_Header.t (show api_Header.t.R ({ Name := ([] : List UInt8), Fields := ([] : List api_Field) } : api_Header) (.agg [vs [], nilS]) from ⟨nilS, rfl, sl_nil⟩))) (show api_Header.t.R ({ Name := ([] : List UInt8), Fields := ([] : List api_Field) } : api_Header) (.agg [vs [], nilS]) from ⟨nilS, rfl, sl_nil⟩)
 ·replace hres := (ite_f hc104).symm.trans hres
  have hc104' := hc104
  try simp only [qa1, qa2, qa3, qa4, qa5, qa6, qa7, qa8, qa9, qaA, qaB, qaC, qaD] at hc104'
  refine rc_skip ?_
  refine pn_seq ?_
  refine rc_seq ?_
  refine rc_region ?_
  refine rd_op (ov_move rfl) ?_
  refine rd_op (ov_move rfl) ?_
  obtain ⟨v106, e106, r106⟩ := sl_idx (i := x1) r0 (by first | omega | (have hk := tck (by assumption) (by assumption); omega) | (have hk := rtck (by assumption) (by assumption); omega) | (have hk := eck (by assumption) (by assumption) (by assumption); omega) | (have hk := tv (by assumption) (by assumption); omega) | (have hk := rtv (by assumption) (by assumption); omega)) (by first | omega | (have hk := tck (by assumption) (by assumption); omega) | (have hk := rtck (by assumption) (by assumption); omega) | (have hk := eck (by assumption) (by assumption) (by assumption); omega) | (have hk := tv (by assumption) (by assumption); omega) | (have hk := rtv (by assumption) (by assumption); omega))
  refine rd_op (ov_iaddr rfl rfl e106) ?_
  refine rd_op (ov_load rfl (TR.cnt api_Header.t r106) (TR.agg api_Header.t r106)) ?_
  refine rd_storeO (k := 0) (v := v106) M101 rfl rfl rfl (TR.cnt api_Header.t r106) (fun h107 M107 => ?_)
  replace M107 : Mem h107 [⟨.op i101 w101 0, 89, 2, [v106]⟩] := M107
  refine rd_nil ?_
  refine pn_seq ?_
  subst hres
  exact rc_retV (.cell rfl (load_whole (k := 0) M107 rfl (TR.agg api_Header.t r106)) .nil) (deep_closed (TR.clo api_Header.t r106)) r106

/-- patchbay/env.fields -/
def RF78 (res : (List api_Field)) (r : PV) : Prop := (tSl api_Field.t).R res r
theorem f78_ok {x0 : api_Program} {x1 : Int} {v0 : PV} (r0 : api_Program.t.R x0 v0) : ∃ r, FnR Try.prog 78 [v0, vi x1] r ∧ (tSl api_Field.t).R (env_fields x0 x1) r := by
 obtain ⟨res, hres⟩ : ∃ res, env_fields x0 x1 = res := ⟨_, rfl⟩
 suffices H : RC Try.prog ac78 [] (QR Try.prog [(4, none)] (RF78 res)) (argE 0 [v0, vi x1]) ⟨0, []⟩ by
  rw [hres]
  exact fnE text78 (by simp) H
 unfold env_fields at hres
 unfold ac78
 refine rc_seq ?_
 refine rc_region ?_
 refine rd_op (ov_box rfl (TR.cnt api_Program.t r0)) ?_
 refine rd_op (v := nilS) (ov_move rfl) ?_
 refine rd_nil ?_
 refine pn_seq ?_
 refine rc_seq ?_
 refine rc_seq ?_
 refine rc_region ?_
 refine rd_op (ov_move rfl) ?_
 refine rd_op (ov_bin rfl rfl i_eql) ?_
 refine rd_nil ?_
 refine pn_seq ?_
 refine rc_cond rfl (fun hc101 => ?_) (fun hc101 => ?_)
 ·replace hres := (ite_t hc101).symm.trans hres
  have hc101' := hc101
  try simp only [qa1, qa2, qa3, qa4, qa5, qa6, qa7, qa8, qa9, qaA, qaB, qaC, qaD] at hc101'
  refine rc_seq ?_
  refine rc_region ?_
  obtain ⟨v102, e102, r102⟩ := api_Program.g_Metadata r0
  refine rd_op (ov_faddr rfl e102) ?_
  refine rd_op (ov_load rfl (TR.cnt (tSl api_Field.t) r102) (TR.agg (tSl api_Field.t) r102)) ?_
  refine rd_op (ov_move rfl) ?_
  refine rd_nil ?_
  refine pn_seq ?_
  subst hres
  exact rc_retV (.tmp rfl .nil) (deep_closed (TR.clo (tSl api_Field.t) r102)) r102
 ·replace hres := (ite_f hc101).symm.trans hres
  have hc101' := hc101
  try simp only [qa1, qa2, qa3, qa4, qa5, qa6, qa7, qa8, qa9, qaA, qaB, qaC, qaD] at hc101'
  refine rc_skip ?_
  refine pn_seq ?_
  refine rc_seq ?_
  refine rc_region ?_
  obtain ⟨v103, e103, r103⟩ := api_Program.g_Headers r0
  refine rd_op (ov_faddr rfl e103) ?_
  refine rd_op (ov_load rfl (TR.cnt (tSl api_Header.t) r103) (TR.agg (tSl api_Header.t) r103)) ?_
  refine rd_op (ov_move rfl) ?_
  obtain ⟨y104, hw104, hres⟩ := let_ex hres
  obtain ⟨v105, f104, r105⟩ := f89_ok (x1 := x1) r103 
  rw [hw104] at r105
  refine rd_call (cv_fn rfl rfl (clL_cons (TR.clo (tSl api_Header.t) r103) (clL_cons rfl clL_nil)) f104) ?_
  obtain ⟨v106, e106, r106⟩ := api_Header.g_Fields r105
  refine rd_op (ov_field rfl e106) ?_
  refine rd_op (ov_move rfl) ?_
  refine rd_nil ?_
  refine pn_seq ?_
  subst hres
  exact rc_retV (.tmp rfl .nil) (deep_closed (TR.clo (tSl api_Field.t) r106)) r106

/-- patchbay/env.at[patchbay/api.Field] -/
def RF77 (res : api_Field) (r : PV) : Prop := api_Field.t.R res r
theorem f77_ok {x0 : List api_Field} {x1 : Int} {v0 : PV} (r0 : (tSl api_Field.t).R x0 v0) : ∃ r, FnR Try.prog 77 [v0, vi x1] r ∧ api_Field.t.R (env_at_api_Field x0 x1) r := by
 obtain ⟨res, hres⟩ : ∃ res, env_at_api_Field x0 x1 = res := ⟨_, rfl⟩
 suffices H : RC Try.prog ac77 [] (QR Try.prog [(4, some (2, true))] (RF77 res)) (argE 0 [v0, vi x1]) ⟨0, []⟩ by
  rw [hres]
  exact fnE text77 (by simp) H
 unfold env_at_api_Field at hres
 unfold ac77
 refine rc_seq ?_
 refine rc_region ?_
 refine rd_allocO (x := .agg [vs [], vi 0]) (Mem.nil ⟨0, []⟩) rfl rfl (fun i101 w101 h101 M101 => ?_)
 refine rd_nil ?_
 refine pn_seq ?_
 refine rc_seq ?_
 refine rc_region ?_
 refine rd_op (ov_allocv (x := .agg [vs [], vi 0]) rfl rfl) ?_
 refine rd_nil ?_
 refine pn_seq ?_
 refine rc_seq ?_
 refine rc_seq ?_
 refine rc_region ?_
 refine rd_op (ov_move rfl) ?_
 refine rd_op (ov_bin rfl rfl i_lss) ?_
 refine rd_op (ov_move rfl) ?_
 refine rd_cut (d := 13) (v := vb ((decide (x1 < 0)) || (decide ((x0.length : Int) ≤ x1)))) ?_ ?_
 ·intro S Q r
  simp only [ac77_G1, List.cons_append, List.nil_append, List.append_assoc]
  cases hb103 : (decide (x1 < 0))
  ·intro k
   have hb103' := hb103
   try simp only [qa1, qa2, qa3, qa4, qa5, qa6, qa7, qa8, qa9, qaA, qaB, qaC, qaD] at hb103'
   refine rd_yes rfl rfl (ov_move rfl) ?_
   refine rd_yes rfl rfl (ov_move rfl) ?_
   refine rd_yes rfl rfl (ov_bi rfl (sl_len r0 Try.underlying23 _)) ?_
   refine rd_yes rfl rfl (ov_bin rfl rfl i_geq) ?_
   refine rd_op (v := vb (decide ((x0.length : Int) ≤ x1))) (ov_pick rfl rfl rfl rfl) ?_
   exact rd_weak (sub_cons rfl (sub_skip rfl (sub_skip rfl (sub_skip rfl (sub_skip rfl (sub_skip rfl (sub_refl _))))))) k
  ·intro k
   refine rd_skip rfl rfl ?_
   refine rd_skip rfl rfl ?_
   refine rd_skip rfl rfl ?_
   refine rd_skip rfl rfl ?_
   refine rd_op (v := vb true) (ov_pick rfl rfl rfl rfl) ?_
   exact rd_weak (sub_cons rfl (sub_skip rfl (sub_skip rfl (sub_skip rfl (sub_skip rfl (sub_skip rfl (sub_refl _))))))) k
 refine rd_nil ?_
 refine pn_seq ?_
 refine rc_cond rfl (fun hc104 => ?_) (fun hc104 => ?_)
 ·replace hres := (ite_t hc104).symm.trans hres
  have hc104' := hc104
  try simp only [qa1, qa2, qa3, qa4, qa5, qa6, qa7, qa8, qa9, qaA, qaB, qaC, qaD] at hc104'
  refine rc_seq ?_
  refine rc_region ?_
  refine rd_op (ov_load rfl rfl rfl) ?_
  refine rd_storeO (k := 0) (v := .agg [vs [], vi 0]) M101 rfl rfl rfl rfl (fun h105 M105 => ?_)
  replace M105 : Mem h105 [⟨.op i101 w101 0, 65, 2, [.agg [vs [], vi 0]]⟩] := M105
  refine rd_nil ?_
  refine pn_seq ?_
  subst hres
  exact rc_retV (.cell rfl (load_whole (k := 0) M105 rfl rfl) .nil) (deep_closed (TR.clo api_Field.t (show api_Field.t.R ({ Name := ([] : List UInt8), Width := 0 } : api_Field) (.agg [vs [], vi 0]) from rfl))) (show api_Field.t.R ({ Name := ([] : List UInt8), Width := 0 } : api_Field) (.agg [vs [], vi 0]) from rfl)
 ·replace hres := (ite_f hc104).symm.trans hres
  have hc104' := hc104
  try simp only [qa1, qa2, qa3, qa4, qa5, qa6, qa7, qa8, qa9, qaA, qaB, qaC, qaD] at hc104'
  refine rc_skip ?_
  refine pn_seq ?_
  refine rc_seq ?_
  refine rc_region ?_
  refine rd_op (ov_move rfl) ?_
  refine rd_op (ov_move rfl) ?_
  obtain ⟨v106, e106, r106⟩ := sl_idx (i := x1) r0 (by first | omega | (have hk := tck (by assumption) (by assumption); omega) | (have hk := rtck (by assumption) (by assumption); omega) | (have hk := eck (by assumption) (by assumption) (by assumption); omega) | (have hk := tv (by assumption) (by assumption); omega) | (have hk := rtv (by assumption) (by assumption); omega)) (by first | omega | (have hk := tck (by assumption) (by assumption); omega) | (have hk := rtck (by assumption) (by assumption); omega) | (have hk := eck (by assumption) (by assumption) (by assumption); omega) | (have hk := tv (by assumption) (by assumption); omega) | (have hk := rtv (by assumption) (by assumption); omega))
  refine rd_op (ov_iaddr rfl rfl e106) ?_
  refine rd_op (ov_load rfl (TR.cnt api_Field.t r106) (TR.agg api_Field.t r106)) ?_
  refine rd_storeO (k := 0) (v := v106) M101 rfl rfl rfl (TR.cnt api_Field.t r106) (fun h107 M107 => ?_)
  replace M107 : Mem h107 [⟨.op i101 w101 0, 65, 2, [v106]⟩] := M107
  refine rd_nil ?_
  refine pn_seq ?_
  subst hres
  exact rc_retV (.cell rfl (load_whole (k := 0) M107 rfl (TR.agg api_Field.t r106)) .nil) (deep_closed (TR.clo api_Field.t r106)) r106

/-- patchbay/bitvec.valid -/
def RF80 (res : Bool) (r : PV) : Prop := r = vb res
theorem bitvec_valid_L1_ok {S : List Fr} {res : Bool} {x0 : List Int} {v0 : PV} (r0 : (tSl tI).R x0 v0) {K0 : Unit → Bool}
  (hK0 : K0 () = res → PX Try.prog 0 S (QR Try.prog [(2, none)] (RF80 res)) [] ⟨0, []⟩) :
  ∀ (m : Nat) (x7_ : Int) (hm1 : m = Int.toNat ((x0.length : Int) - x7_)) (hlo1 : 0 ≤ x7_), bitvec_valid_L1 x0 K0 m x7_ = res → RC Try.prog (.loop ac80_L1) S (QR Try.prog [(2, none)] (RF80 res)) [(7, vi x7_), (6, vi (x0.length : Int)), (5, v0)] ⟨0, []⟩ := by
 intro m
 induction m with
 | zero =>
  intro x7_ hm1 hlo1 hres
  rw [bitvec_valid_L1] at hres
  refine rc_loop ?_
  unfold ac80_L1
  refine rc_seq ?_
  refine rc_region ?_
  refine rd_op (ov_bin rfl rfl i_lss) ?_
  refine rd_nil ?_
  refine pn_seq ?_
  refine rc_seq ?_
  refine rc_cond rfl (fun hc101 => ?_) (fun hc101 => ?_)
  ·exfalso
   try simp only [qa1, qa2, qa3, qa4, qa5, qa6, qa7, qa8, qa9, qaA, qaB, qaC, qaD] at hc101
   omega
  ·have hend := hres
   have hc101' := hc101
   try simp only [qa1, qa2, qa3, qa4, qa5, qa6, qa7, qa8, qa9, qaA, qaB, qaC, qaD] at hc101'
   refine rc_exit ?_
   refine px_seq ?_
   refine px_again ?_
   exact px_weak ((sub_nil _)) (hK0  hres)
 | succ m ih =>
  intro x7_ hm1 hlo1 hres
  rw [bitvec_valid_L1] at hres
  refine rc_loop ?_
  unfold ac80_L1
  refine rc_seq ?_
  refine rc_region ?_
  refine rd_op (ov_bin rfl rfl i_lss) ?_
  refine rd_nil ?_
  refine pn_seq ?_
  refine rc_seq ?_
  refine rc_cond rfl (fun hc102 => ?_) (fun hc102 => ?_)
  ·have hgo := hres
   have hc102' := hc102
   try simp only [qa1, qa2, qa3, qa4, qa5, qa6, qa7, qa8, qa9, qaA, qaB, qaC, qaD] at hc102'
   refine rc_skip ?_
   refine pn_seq ?_
   refine rc_seq ?_
   refine rc_block ?_
   refine rc_seq ?_
   refine rc_region ?_
   refine rd_op (ov_iaddr rfl rfl (slI r0 (by first | omega | (have hk := tck (by assumption) (by assumption); omega) | (have hk := rtck (by assumption) (by assumption); omega) | (have hk := eck (by assumption) (by assumption) (by assumption); omega) | (have hk := tv (by assumption) (by assumption); omega) | (have hk := rtv (by assumption) (by assumption); omega)) (by first | omega | (have hk := tck (by assumption) (by assumption); omega) | (have hk := rtck (by assumption) (by assumption); omega) | (have hk := eck (by assumption) (by assumption) (by assumption); omega) | (have hk := tv (by assumption) (by assumption); omega) | (have hk := rtv (by assumption) (by assumption); omega)))) ?_
   refine rd_op (ov_load rfl rfl rfl) ?_
   refine rd_op (ov_move rfl) ?_
   refine rd_nil ?_
   refine pn_seq ?_
   refine rc_seq ?_
   refine rc_region ?_
   refine rd_op (ov_move rfl) ?_
   refine rd_op (ov_bin rfl rfl i_lss) ?_
   refine rd_op (ov_move rfl) ?_
   refine rd_cut (d := 16) (v := vb ((decide ((ix x0 x7_) < 1)) || (decide (32 < (ix x0 x7_))))) ?_ ?_
   ·intro S Q r
    simp only [ac80_G1, List.cons_append, List.nil_append, List.append_assoc]
    cases hb103 : (decide ((ix x0 x7_) < 1))
    ·intro k
     have hb103' := hb103
     try simp only [qa1, qa2, qa3, qa4, qa5, qa6, qa7, qa8, qa9, qaA, qaB, qaC, qaD] at hb103'
     refine rd_yes rfl rfl (ov_move rfl) ?_
     refine rd_yes rfl rfl (ov_bin rfl rfl i_gtr) ?_
     refine rd_op (v := vb (decide (32 < (ix x0 x7_)))) (ov_pick rfl rfl rfl rfl) ?_
     exact rd_weak (sub_cons rfl (sub_skip rfl (sub_skip rfl (sub_skip rfl (sub_refl _))))) k
    ·intro k
     refine rd_skip rfl rfl ?_
     refine rd_skip rfl rfl ?_
     refine rd_op (v := vb true) (ov_pick rfl rfl rfl rfl) ?_
     exact rd_weak (sub_cons rfl (sub_skip rfl (sub_skip rfl (sub_skip rfl (sub_refl _))))) k
   refine rd_nil ?_
   refine pn_seq ?_
   refine rc_cond rfl (fun hc104 => ?_) (fun hc104 => ?_)
   ·replace hres := (ite_t hc104).symm.trans hres
    have hc104' := hc104
    try simp only [qa1, qa2, qa3, qa4, qa5, qa6, qa7, qa8, qa9, qaA, qaB, qaC, qaD] at hc104'
    refine rc_seq ?_
    refine rc_region ?_
    refine rd_op (v := vb false) (ov_move rfl) ?_
    refine rd_nil ?_
    refine pn_seq ?_
    subst hres
    exact rc_retV (.tmp rfl .nil) (deep_closed rfl) rfl
   ·replace hres := (ite_f hc104).symm.trans hres
    have hc104' := hc104
    try simp only [qa1, qa2, qa3, qa4, qa5, qa6, qa7, qa8, qa9, qaA, qaB, qaC, qaD] at hc104'
    refine rc_skip ?_
    refine pn_blk ?_
    refine pn_seq ?_
    refine rc_region ?_
    refine rd_op (ov_bin rfl rfl i_add) ?_
    refine rd_op (ov_move rfl) ?_
    refine rd_nil ?_
    refine pn_again ?_
    have hbd := sl_bound r0
    have hinc : wr (x7_ + 1) = x7_ + 1 := wr_of (by omega) (by omega)
    rw [hinc]
    refine rc_weak ?_ (ih (x7_ + 1)  (by omega) (by omega) hres)
    exact ((sub_cons rfl (sub_cons rfl (sub_cons rfl (sub_nil _)))))
  ·exfalso
   try simp only [qa1, qa2, qa3, qa4, qa5, qa6, qa7, qa8, qa9, qaA, qaB, qaC, qaD] at hc102
   omega

theorem f80_ok {x0 : List Int} {v0 : PV} (r0 : (tSl tI).R x0 v0) : FnR Try.prog 80 [v0] (vb (bitvec_valid x0)) := by
 obtain ⟨res, hres⟩ : ∃ res, bitvec_valid x0 = res := ⟨_, rfl⟩
 suffices H : RC Try.prog ac80 [] (QR Try.prog [(2, none)] (RF80 res)) (argE 0 [v0]) ⟨0, []⟩ by
  obtain ⟨r, h1, h2⟩ := fnE text80 (by simp) H
  rw [hres]
  have h2 : r = vb res := h2
  rw [← h2]; exact h1
 unfold bitvec_valid at hres
 unfold ac80
 refine rc_seq ?_
 refine rc_region ?_
 refine rd_op (v := vb false) (ov_move rfl) ?_
 refine rd_nil ?_
 refine pn_seq ?_
 refine rc_seq ?_
 refine rc_seq ?_
 refine rc_region ?_
 refine rd_op (ov_move rfl) ?_
 refine rd_op (ov_bi rfl (sl_len r0 Try.underlying29 _)) ?_
 refine rd_op (v := vi 0) (ov_move rfl) ?_
 refine rd_nil ?_
 refine pn_seq ?_
 refine rc_block ?_
 refine rc_weak ?_ (bitvec_valid_L1_ok (x0 := x0) (v0 := v0)  (r0 := r0) ?_ (Int.toNat ((x0.length : Int) - 0)) 0 rfl (by omega) hres)
 ·exact ((sub_cons rfl (sub_cons rfl (sub_cons rfl (sub_nil _)))))
 ·intro  hres
  refine px_blk ?_
  refine pn_seq ?_
  refine rc_seq ?_
  refine rc_region ?_
  refine rd_op (v := vb true) (ov_move rfl) ?_
  refine rd_nil ?_
  refine pn_seq ?_
  subst hres
  exact rc_retV (.tmp rfl .nil) (deep_closed rfl) rfl

end Go.Proofs.Ytklfdkbemkommaa
