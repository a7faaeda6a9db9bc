/-
  The code of each function does what its plain program says.
-/
import Derived.Test.YtklfdkbemkommaaL12W5
set_option linter.unusedVariables false
set_option linter.unusedSimpArgs false
set_option maxRecDepth 100000
namespace Go.Proofs.Ytklfdkbemkommaa
open Go Go.Pb Go.RowKit
/-- patchbay/patchbaylaw23.Small -/
def RF32 (res : Bool) (r : PV) : Prop := r = vb res
theorem f32_ok {x0 : api_Entry} {v0 : PV} (r0 : api_Entry.t.R x0 v0) : FnR Try.prog 32 [v0] (vb (law23_Small x0)) := by
  obtain ⟨res, hres⟩ : ∃ res, law23_Small x0 = res := ⟨_, rfl⟩
  suffices H : RC Try.prog ac32 [] (QR Try.prog [(2, none)] (RF32 res)) (argE 0 [v0]) ⟨0, []⟩ by
    obtain ⟨r, h1, h2⟩ := fnE text32 (by simp) H
    rw [hres]
    have h2 : r = vb res := h2
    rw [← h2]; exact h1
  unfold law23_Small at hres
  unfold ac32
  refine rc_seq ?_
  refine rc_region ?_
  refine rd_op (ov_box rfl (TR.cnt api_Entry.t r0)) ?_
  refine rd_op (v := vb false) (ov_move rfl) ?_
  refine rd_nil ?_
  refine pn_seq ?_
  refine rc_seq ?_
  refine rc_region ?_
  obtain ⟨v101, e101, r101⟩ := api_Entry.g_Keys r0
  refine rd_op (ov_faddr rfl e101) ?_
  refine rd_op (ov_load rfl (TR.cnt (tSl api_KeyMatch.t) r101) (TR.agg (tSl api_KeyMatch.t) r101)) ?_
  refine rd_op (ov_bi rfl (sl_len r101 Try.underlying67 _)) ?_
  refine rd_op (ov_bin rfl rfl i_leq) ?_
  refine rd_op (ov_move rfl) ?_
  refine rd_cut (d := 13) (v := vb ((decide ((x0.Keys.length : Int) ≤ 10)) && (decide ((x0.Call.Args.length : Int) ≤ 10)))) ?_ ?_
  · intro S Q r
    simp only [ac32_G1, List.cons_append, List.nil_append, List.append_assoc]
    cases hb102 : (decide ((x0.Keys.length : Int) ≤ 10))
    · intro k
      refine rd_skip rfl rfl ?_
      refine rd_skip rfl rfl ?_
      refine rd_skip rfl rfl ?_
      refine rd_skip rfl rfl ?_
      refine rd_skip rfl rfl ?_
      refine rd_op (v := vb false) (ov_pick rfl rfl rfl rfl) ?_
      exact rd_weak (sub_cons rfl (sub_skip rfl (sub_skip rfl (sub_skip rfl (sub_skip rfl (sub_skip rfl (sub_skip rfl (sub_refl _)))))))) k
    · intro k
      have hb102' := hb102
      try simp only [Bool.or_eq_true, Bool.or_eq_false_iff, Bool.and_eq_true, Bool.and_eq_false_imp, decide_eq_true_eq, decide_eq_false_iff_not, Bool.not_eq_true', Bool.not_eq_false', Bool.not_eq_true, Bool.not_eq_false, Bool.not_true, Bool.not_false, ne_eq] at hb102'
      obtain ⟨v103, e103, r103⟩ := api_Entry.g_Call r0
      refine rd_yes rfl rfl (ov_faddr rfl e103) ?_
      obtain ⟨v104, e104, r104⟩ := api_ActionCall.g_Args r103
      refine rd_yes rfl rfl (ov_faddr rfl e104) ?_
      refine rd_yes rfl rfl (ov_load rfl (TR.cnt (tSl tU32) r104) (TR.agg (tSl tU32) r104)) ?_
      refine rd_yes rfl rfl (ov_bi rfl (sl_len r104 Try.underlying44 _)) ?_
      refine rd_yes rfl rfl (ov_bin rfl rfl i_leq) ?_
      refine rd_op (v := vb (decide ((x0.Call.Args.length : Int) ≤ 10))) (ov_pick rfl rfl rfl rfl) ?_
      exact rd_weak (sub_cons rfl (sub_skip rfl (sub_skip rfl (sub_skip rfl (sub_skip rfl (sub_skip rfl (sub_skip rfl (sub_refl _)))))))) k
  refine rd_op (ov_move rfl) ?_
  refine rd_nil ?_
  refine pn_seq ?_
  subst hres
  exact rc_retV (.tmp rfl .nil) (deep_closed rfl) rfl

/-- patchbay/patchbaylaw23.EntryOrder -/
def RF12 (res : Bool) (r : PV) : Prop := r = vb res
theorem law23_EntryOrder_L1_ok {S : List Fr} {res : Bool} {x0 : api_Program} {x1 : Int} {x2 : List api_Row} {y101 : Bool} {v0 : PV} {v2 : PV} (r2 : (tAr 3 api_Row.t).R x2 v2) (hw101 : law17_Small x0 = y101) (hc102 : (!y101) = false) {K0 : Unit → Bool}
    (hK0 : K0 () = res → PX Try.prog 0 S (QR Try.prog [(6, none)] (RF12 res)) [(1, vi x1), (3, .fp v0), (5, .fp v2)] ⟨0, []⟩) :
    ∀ (m : Nat) (x7_ : Int) (hm1 : m = Int.toNat (3 - x7_)) (hlo1 : 0 ≤ x7_), law23_EntryOrder_L1 x2 K0 m x7_ = res → RC Try.prog (.loop ac12_L1) S (QR Try.prog [(6, none)] (RF12 res)) [(7, vi x7_), (5, .fp v2), (3, .fp v0), (1, vi x1)] ⟨0, []⟩ := by
  have hc102' := hc102
  try simp only [Bool.or_eq_true, Bool.or_eq_false_iff, Bool.and_eq_true, Bool.and_eq_false_imp, decide_eq_true_eq, decide_eq_false_iff_not, Bool.not_eq_true', Bool.not_eq_false', Bool.not_eq_true, Bool.not_eq_false, Bool.not_true, Bool.not_false, ne_eq] at hc102'
  intro m
  induction m with
  | zero =>
    intro x7_ hm1 hlo1 hres
    rw [law23_EntryOrder_L1] at hres
    refine rc_loop ?_
    unfold ac12_L1
    refine rc_seq ?_
    refine rc_seq ?_
    refine rc_region ?_
    refine rd_op (ov_move rfl) ?_
    refine rd_op (ov_bin rfl rfl i_lss) ?_
    refine rd_nil ?_
    refine pn_seq ?_
    refine rc_cond rfl (fun hc104 => ?_) (fun hc104 => ?_)
    · exfalso
      try simp only [Bool.or_eq_true, Bool.or_eq_false_iff, Bool.and_eq_true, Bool.and_eq_false_imp, decide_eq_true_eq, decide_eq_false_iff_not, Bool.not_eq_true', Bool.not_eq_false', Bool.not_eq_true, Bool.not_eq_false, Bool.not_true, Bool.not_false, ne_eq] at hc104
      omega
    · have hend := hres
      have hc104' := hc104
      try simp only [Bool.or_eq_true, Bool.or_eq_false_iff, Bool.and_eq_true, Bool.and_eq_false_imp, decide_eq_true_eq, decide_eq_false_iff_not, Bool.not_eq_true', Bool.not_eq_false', Bool.not_eq_true, Bool.not_eq_false, Bool.not_true, Bool.not_false, ne_eq] at hc104'
      refine rc_exit ?_
      refine px_seq ?_
      refine px_again ?_
      exact px_weak ((sub_cons rfl (sub_cons rfl (sub_cons rfl (sub_nil _))))) (hK0  hres)
  | succ m ih =>
    intro x7_ hm1 hlo1 hres
    rw [law23_EntryOrder_L1] at hres
    refine rc_loop ?_
    unfold ac12_L1
    refine rc_seq ?_
    refine rc_seq ?_
    refine rc_region ?_
    refine rd_op (ov_move rfl) ?_
    refine rd_op (ov_bin rfl rfl i_lss) ?_
    refine rd_nil ?_
    refine pn_seq ?_
    refine rc_cond rfl (fun hc105 => ?_) (fun hc105 => ?_)
    · have hgo := hres
      have hc105' := hc105
      try simp only [Bool.or_eq_true, Bool.or_eq_false_iff, Bool.and_eq_true, Bool.and_eq_false_imp, decide_eq_true_eq, decide_eq_false_iff_not, Bool.not_eq_true', Bool.not_eq_false', Bool.not_eq_true, Bool.not_eq_false, Bool.not_true, Bool.not_false, ne_eq] at hc105'
      refine rc_skip ?_
      refine pn_seq ?_
      refine rc_seq ?_
      refine rc_block ?_
      refine rc_seq ?_
      refine rc_region ?_
      refine rd_op (ov_move rfl) ?_
      obtain ⟨v106, e106, r106⟩ := arr_addr (t := api_Row.t) r2 (i := x7_) (by first | omega | (rw [wr_of (by omega) (by omega), Int.tmod_eq_emod_of_nonneg (by omega)]; omega)) (by first | omega | (rw [wr_of (by omega) (by omega), Int.tmod_eq_emod_of_nonneg (by omega)]; omega))
      refine rd_op (ov_iaddrA rfl rfl e106) ?_
      obtain ⟨v107, e107, r107⟩ := api_Row.g_Entry r106
      refine rd_op (ov_faddr rfl e107) ?_
      refine rd_op (ov_load rfl (TR.cnt api_Entry.t r107) (TR.agg api_Entry.t r107)) ?_
      obtain ⟨y108, hw108, hres⟩ := let_ex hres
      have f108 := f32_ok  r107 
      rw [hw108] at f108
      refine rd_call (cv_fn rfl rfl (clL_cons (TR.clo api_Entry.t r107) clL_nil) f108) ?_
      refine rd_op (ov_not rfl) ?_
      refine rd_nil ?_
      refine pn_seq ?_
      refine rc_cond rfl (fun hc109 => ?_) (fun hc109 => ?_)
      · replace hres := (ite_t hc109).symm.trans hres
        have hc109' := hc109
        try simp only [Bool.or_eq_true, Bool.or_eq_false_iff, Bool.and_eq_true, Bool.and_eq_false_imp, decide_eq_true_eq, decide_eq_false_iff_not, Bool.not_eq_true', Bool.not_eq_false', Bool.not_eq_true, Bool.not_eq_false, Bool.not_true, Bool.not_false, ne_eq] at hc109'
        refine rc_seq ?_
        refine rc_region ?_
        obtain ⟨y110, hw110, hres⟩ := let_ex hres
        have f110 := f33_ok   
        rw [hw110] at f110
        refine rd_call (cv_fn rfl rfl clL_nil f110) ?_
        refine rd_op (ov_move rfl) ?_
        refine rd_nil ?_
        refine pn_seq ?_
        subst hres
        exact rc_retV (.tmp rfl .nil) (deep_closed rfl) rfl
      · replace hres := (ite_f hc109).symm.trans hres
        have hc109' := hc109
        try simp only [Bool.or_eq_true, Bool.or_eq_false_iff, Bool.and_eq_true, Bool.and_eq_false_imp, decide_eq_true_eq, decide_eq_false_iff_not, Bool.not_eq_true', Bool.not_eq_false', Bool.not_eq_true, Bool.not_eq_false, Bool.not_true, Bool.not_false, ne_eq] at hc109'
        refine rc_skip ?_
        refine pn_blk ?_
        refine pn_seq ?_
        refine rc_region ?_
        refine rd_op (ov_move rfl) ?_
        refine rd_op (ov_bin rfl rfl i_add) ?_
        refine rd_op (ov_move rfl) ?_
        refine rd_nil ?_
        refine pn_again ?_
        have hinc : wr (x7_ + 1) = x7_ + 1 := wr_of (by omega) (by omega)
        rw [hinc]
        refine rc_weak ?_ (ih (x7_ + 1)  (by omega) (by omega) hres)
        exact ((sub_cons rfl (sub_cons rfl (sub_cons rfl (sub_cons rfl (sub_nil _))))))
    · exfalso
      try simp only [Bool.or_eq_true, Bool.or_eq_false_iff, Bool.and_eq_true, Bool.and_eq_false_imp, decide_eq_true_eq, decide_eq_false_iff_not, Bool.not_eq_true', Bool.not_eq_false', Bool.not_eq_true, Bool.not_eq_false, Bool.not_true, Bool.not_false, ne_eq] at hc105
      omega

theorem law23_EntryOrder_L2_ok {S : List Fr} {res : Bool} {x0 : api_Program} {x1 : Int} {x2 : List api_Row} {y101 : Bool} {v0 : PV} {v2 : PV} (r0 : api_Program.t.R x0 v0) (r2 : (tAr 3 api_Row.t).R x2 v2) (hw101 : law17_Small x0 = y101) (hc102 : (!y101) = false) {K2 : Unit → Bool}
    (hK2 : ∀ (h : Heap) (M0 : Mem h []), K2 () = res → PX Try.prog 2 S (QR Try.prog [(6, none)] (RF12 res)) [] h) :
    ∀ (m : Nat) (x8_ : Int) (hm2 : m = Int.toNat (3 - x8_)) (hlo2 : 0 ≤ x8_) (h : Heap) (M0 : Mem h []), law23_EntryOrder_L2 x0 x1 x2 K2 m x8_ = res → RC Try.prog (.loop ac12_L2) S (QR Try.prog [(6, none)] (RF12 res)) [(8, vi x8_), (5, .fp v2), (3, .fp v0), (1, vi x1)] h := by
  have hc102' := hc102
  try simp only [Bool.or_eq_true, Bool.or_eq_false_iff, Bool.and_eq_true, Bool.and_eq_false_imp, decide_eq_true_eq, decide_eq_false_iff_not, Bool.not_eq_true', Bool.not_eq_false', Bool.not_eq_true, Bool.not_eq_false, Bool.not_true, Bool.not_false, ne_eq] at hc102'
  intro m
  induction m with
  | zero =>
    intro x8_ hm2 hlo2 h M0 hres
    rw [law23_EntryOrder_L2] at hres
    refine rc_loop ?_
    unfold ac12_L2
    refine rc_seq ?_
    refine rc_seq ?_
    refine rc_region ?_
    refine rd_op (ov_move rfl) ?_
    refine rd_op (ov_bin rfl rfl i_lss) ?_
    refine rd_nil ?_
    refine pn_seq ?_
    refine rc_cond rfl (fun hc112 => ?_) (fun hc112 => ?_)
    · exfalso
      try simp only [Bool.or_eq_true, Bool.or_eq_false_iff, Bool.and_eq_true, Bool.and_eq_false_imp, decide_eq_true_eq, decide_eq_false_iff_not, Bool.not_eq_true', Bool.not_eq_false', Bool.not_eq_true, Bool.not_eq_false, Bool.not_true, Bool.not_false, ne_eq] at hc112
      omega
    · have hend := hres
      have hc112' := hc112
      try simp only [Bool.or_eq_true, Bool.or_eq_false_iff, Bool.and_eq_true, Bool.and_eq_false_imp, decide_eq_true_eq, decide_eq_false_iff_not, Bool.not_eq_true', Bool.not_eq_false', Bool.not_eq_true, Bool.not_eq_false, Bool.not_true, Bool.not_false, ne_eq] at hc112'
      refine rc_exit ?_
      refine px_seq ?_
      refine px_again ?_
      exact px_weak ((sub_nil _)) (hK2 _ (Mem.sub M0 .slnil) hres)
  | succ m ih =>
    intro x8_ hm2 hlo2 h M0 hres
    rw [law23_EntryOrder_L2] at hres
    refine rc_loop ?_
    unfold ac12_L2
    refine rc_seq ?_
    refine rc_seq ?_
    refine rc_region ?_
    refine rd_op (ov_move rfl) ?_
    refine rd_op (ov_bin rfl rfl i_lss) ?_
    refine rd_nil ?_
    refine pn_seq ?_
    refine rc_cond rfl (fun hc113 => ?_) (fun hc113 => ?_)
    · have hgo := hres
      have hc113' := hc113
      try simp only [Bool.or_eq_true, Bool.or_eq_false_iff, Bool.and_eq_true, Bool.and_eq_false_imp, decide_eq_true_eq, decide_eq_false_iff_not, Bool.not_eq_true', Bool.not_eq_false', Bool.not_eq_true, Bool.not_eq_false, Bool.not_true, Bool.not_false, ne_eq] at hc113'
      refine rc_skip ?_
      refine pn_seq ?_
      refine rc_seq ?_
      refine rc_block ?_
      refine rc_seq ?_
      refine rc_seq ?_
      refine rc_region ?_
      refine rd_op (ov_load rfl (TR.cnt api_Program.t r0) (TR.agg api_Program.t r0)) ?_
      refine rd_op (ov_move rfl) ?_
      refine rd_op (ov_move rfl) ?_
      obtain ⟨v114, e114, r114⟩ := arr_addr (t := api_Row.t) r2 (i := x8_) (by first | omega | (rw [wr_of (by omega) (by omega), Int.tmod_eq_emod_of_nonneg (by omega)]; omega)) (by first | omega | (rw [wr_of (by omega) (by omega), Int.tmod_eq_emod_of_nonneg (by omega)]; omega))
      refine rd_op (ov_iaddrA rfl rfl e114) ?_
      refine rd_op (ov_load rfl (TR.cnt api_Row.t r114) (TR.agg api_Row.t r114)) ?_
      refine rd_op (ov_move rfl) ?_
      obtain ⟨v115, e115, r115⟩ := arr_addr (t := api_Row.t) r2 (i := x8_) (by first | omega | (rw [wr_of (by omega) (by omega), Int.tmod_eq_emod_of_nonneg (by omega)]; omega)) (by first | omega | (rw [wr_of (by omega) (by omega), Int.tmod_eq_emod_of_nonneg (by omega)]; omega))
      refine rd_op (ov_iaddrA rfl rfl e115) ?_
      refine rd_op (ov_load rfl (TR.cnt api_Row.t r115) (TR.agg api_Row.t r115)) ?_
      obtain ⟨y116, hw116, hres⟩ := let_ex hres
      have f116 := f38_ok (x1 := x1) r0 r114 r115 
      rw [hw116] at f116
      refine rd_call (cv_fn rfl rfl (clL_cons (TR.clo api_Program.t r0) (clL_cons rfl (clL_cons (TR.clo api_Row.t r114) (clL_cons (TR.clo api_Row.t r115) clL_nil)))) f116) ?_
      refine rd_nil ?_
      refine pn_seq ?_
      refine rc_cond rfl (fun hc117 => ?_) (fun hc117 => ?_)
      · replace hres := (ite_t hc117).symm.trans hres
        have hc117' := hc117
        try simp only [Bool.or_eq_true, Bool.or_eq_false_iff, Bool.and_eq_true, Bool.and_eq_false_imp, decide_eq_true_eq, decide_eq_false_iff_not, Bool.not_eq_true', Bool.not_eq_false', Bool.not_eq_true, Bool.not_eq_false, Bool.not_true, Bool.not_false, ne_eq] at hc117'
        refine rc_seq ?_
        refine rc_region ?_
        refine rd_op (v := vb false) (ov_move rfl) ?_
        refine rd_nil ?_
        refine pn_seq ?_
        subst hres
        exact rc_retV (.tmp rfl .nil) (deep_closed rfl) rfl
      · replace hres := (ite_f hc117).symm.trans hres
        have hc117' := hc117
        try simp only [Bool.or_eq_true, Bool.or_eq_false_iff, Bool.and_eq_true, Bool.and_eq_false_imp, decide_eq_true_eq, decide_eq_false_iff_not, Bool.not_eq_true', Bool.not_eq_false', Bool.not_eq_true, Bool.not_eq_false, Bool.not_true, Bool.not_false, ne_eq] at hc117'
        refine rc_skip ?_
        refine pn_seq ?_
        refine rc_seq ?_
        refine rc_region ?_
        refine rd_op (ov_move rfl) ?_
        obtain ⟨v118, e118, r118⟩ := arr_addr (t := api_Row.t) r2 (i := x8_) (by first | omega | (rw [wr_of (by omega) (by omega), Int.tmod_eq_emod_of_nonneg (by omega)]; omega)) (by first | omega | (rw [wr_of (by omega) (by omega), Int.tmod_eq_emod_of_nonneg (by omega)]; omega))
        refine rd_op (ov_iaddrA rfl rfl e118) ?_
        refine rd_op (ov_load rfl (TR.cnt api_Row.t r118) (TR.agg api_Row.t r118)) ?_
        refine rd_op (ov_move rfl) ?_
        refine rd_op (ov_bin rfl rfl i_add) ?_
        refine rd_op (ov_bin rfl rfl (i_rem (by decide))) ?_
        obtain ⟨v119, e119, r119⟩ := arr_addr (t := api_Row.t) r2 (i := (Int.tmod (wr (x8_ + 1)) 3)) (by first | omega | (rw [wr_of (by omega) (by omega), Int.tmod_eq_emod_of_nonneg (by omega)]; omega)) (by first | omega | (rw [wr_of (by omega) (by omega), Int.tmod_eq_emod_of_nonneg (by omega)]; omega))
        refine rd_op (ov_iaddrA rfl rfl e119) ?_
        refine rd_op (ov_load rfl (TR.cnt api_Row.t r119) (TR.agg api_Row.t r119)) ?_
        refine rd_op (ov_move rfl) ?_
        refine rd_op (ov_bin rfl rfl i_add) ?_
        refine rd_op (ov_bin rfl rfl (i_rem (by decide))) ?_
        obtain ⟨v120, e120, r120⟩ := arr_addr (t := api_Row.t) r2 (i := (Int.tmod (wr (x8_ + 2)) 3)) (by first | omega | (rw [wr_of (by omega) (by omega), Int.tmod_eq_emod_of_nonneg (by omega)]; omega)) (by first | omega | (rw [wr_of (by omega) (by omega), Int.tmod_eq_emod_of_nonneg (by omega)]; omega))
        refine rd_op (ov_iaddrA rfl rfl e120) ?_
        refine rd_op (ov_load rfl (TR.cnt api_Row.t r120) (TR.agg api_Row.t r120)) ?_
        refine rd_allocO (x := .agg [vi 0, nilS, vi 0, vi 0, nilS]) M0 rfl rfl (fun i121 w121 h121 M121 => ?_)
        refine rd_allocO (x := .agg [vi 0, nilS, vi 0, vi 0, nilS]) M121 rfl rfl (fun i123 w123 h123 M123 => ?_)
        refine rd_allocO (x := .agg [vi 0, nilS, vi 0, vi 0, nilS]) M123 rfl rfl (fun i125 w125 h125 M125 => ?_)
        refine rd_storeO (k := 2) (v := v118) M125 rfl rfl rfl (TR.cnt api_Row.t r118) (fun h127 M127 => ?_)
        replace M127 : Mem h127 [⟨.op i125 w125 0, 75, 5, [.agg [vi 0, nilS, vi 0, vi 0, nilS]]⟩, ⟨.op i123 w123 0, 75, 5, [.agg [vi 0, nilS, vi 0, vi 0, nilS]]⟩, ⟨.op i121 w121 0, 75, 5, [v118]⟩] := M127
        refine rd_storeO (k := 1) (v := v119) M127 rfl rfl rfl (TR.cnt api_Row.t r119) (fun h128 M128 => ?_)
        replace M128 : Mem h128 [⟨.op i125 w125 0, 75, 5, [.agg [vi 0, nilS, vi 0, vi 0, nilS]]⟩, ⟨.op i123 w123 0, 75, 5, [v119]⟩, ⟨.op i121 w121 0, 75, 5, [v118]⟩] := M128
        refine rd_storeO (k := 0) (v := v120) M128 rfl rfl rfl (TR.cnt api_Row.t r120) (fun h129 M129 => ?_)
        replace M129 : Mem h129 [⟨.op i125 w125 0, 75, 5, [v120]⟩, ⟨.op i123 w123 0, 75, 5, [v119]⟩, ⟨.op i121 w121 0, 75, 5, [v118]⟩] := M129
        refine rd_nil ?_
        refine pn_seq ?_
        refine rc_seq ?_
        refine rc_seq ?_
        refine rc_region ?_
        refine rd_op (ov_faddrO rfl) ?_
        refine rd_op (ov_loadf (k := 2) M129 rfl rfl (api_Row.g_ID r118)) ?_
        refine rd_op (ov_faddrO rfl) ?_
        refine rd_op (ov_loadf (k := 1) M129 rfl rfl (api_Row.g_ID r119)) ?_
        refine rd_op (ov_bin rfl rfl i_neq) ?_
        refine rd_op (ov_move rfl) ?_
        refine rd_cut (d := 70) (v := vb ((!decide (((ix x2 x8_).ID) = ((ix x2 (Int.tmod (wr (x8_ + 1)) 3)).ID))) && (decide ((entry_Precedes x0 x1 (ix x2 x8_) (ix x2 (Int.tmod (wr (x8_ + 1)) 3))) = (entry_Precedes x0 x1 (ix x2 (Int.tmod (wr (x8_ + 1)) 3)) (ix x2 x8_)))))) ?_ ?_
        · intro S Q r
          simp only [ac12_G1, List.cons_append, List.nil_append, List.append_assoc]
          cases hb130 : (!decide (((ix x2 x8_).ID) = ((ix x2 (Int.tmod (wr (x8_ + 1)) 3)).ID)))
          · intro k
            refine rd_skip rfl rfl ?_
            refine rd_skip rfl rfl ?_
            refine rd_skip rfl rfl ?_
            refine rd_skip rfl rfl ?_
            refine rd_skip rfl rfl ?_
            refine rd_skip rfl rfl ?_
            refine rd_skip rfl rfl ?_
            refine rd_skip rfl rfl ?_
            refine rd_skip rfl rfl ?_
            refine rd_skip rfl rfl ?_
            refine rd_skip rfl rfl ?_
            refine rd_op (v := vb false) (ov_pick rfl rfl rfl rfl) ?_
            exact rd_weak (sub_cons rfl (sub_skip rfl (sub_skip rfl (sub_skip rfl (sub_skip rfl (sub_skip rfl (sub_skip rfl (sub_skip rfl (sub_skip rfl (sub_skip rfl (sub_skip rfl (sub_skip rfl (sub_skip rfl (sub_refl _)))))))))))))) k
          · intro k
            have hb130' := hb130
            try simp only [Bool.or_eq_true, Bool.or_eq_false_iff, Bool.and_eq_true, Bool.and_eq_false_imp, decide_eq_true_eq, decide_eq_false_iff_not, Bool.not_eq_true', Bool.not_eq_false', Bool.not_eq_true, Bool.not_eq_false, Bool.not_true, Bool.not_false, ne_eq] at hb130'
            refine rd_yes rfl rfl (ov_load rfl (TR.cnt api_Program.t r0) (TR.agg api_Program.t r0)) ?_
            refine rd_yes rfl rfl (ov_move rfl) ?_
            refine rd_yes rfl rfl (ov_load0 (k := 2) M129 rfl rfl (TR.agg api_Row.t r118)) ?_
            refine rd_yes rfl rfl (ov_load0 (k := 1) M129 rfl rfl (TR.agg api_Row.t r119)) ?_
            have f131 := f38_ok (x1 := x1) r0 r118 r119 
            refine rd_ycall rfl rfl (cv_fn rfl rfl (clL_cons (TR.clo api_Program.t r0) (clL_cons rfl (clL_cons (TR.clo api_Row.t r118) (clL_cons (TR.clo api_Row.t r119) clL_nil)))) f131) ?_
            refine rd_yes rfl rfl (ov_load rfl (TR.cnt api_Program.t r0) (TR.agg api_Program.t r0)) ?_
            refine rd_yes rfl rfl (ov_move rfl) ?_
            refine rd_yes rfl rfl (ov_load0 (k := 1) M129 rfl rfl (TR.agg api_Row.t r119)) ?_
            refine rd_yes rfl rfl (ov_load0 (k := 2) M129 rfl rfl (TR.agg api_Row.t r118)) ?_
            have f132 := f38_ok (x1 := x1) r0 r119 r118 
            refine rd_ycall rfl rfl (cv_fn rfl rfl (clL_cons (TR.clo api_Program.t r0) (clL_cons rfl (clL_cons (TR.clo api_Row.t r119) (clL_cons (TR.clo api_Row.t r118) clL_nil)))) f132) ?_
            refine rd_yes rfl rfl (ov_bin rfl rfl (bin_eqlb (by rw [Try.underlying4]; rfl))) ?_
            refine rd_op (v := vb (decide ((entry_Precedes x0 x1 (ix x2 x8_) (ix x2 (Int.tmod (wr (x8_ + 1)) 3))) = (entry_Precedes x0 x1 (ix x2 (Int.tmod (wr (x8_ + 1)) 3)) (ix x2 x8_))))) (ov_pick rfl rfl rfl rfl) ?_
            exact rd_weak (sub_cons rfl (sub_skip rfl (sub_skip rfl (sub_skip rfl (sub_skip rfl (sub_skip rfl (sub_skip rfl (sub_skip rfl (sub_skip rfl (sub_skip rfl (sub_skip rfl (sub_skip rfl (sub_skip rfl (sub_refl _)))))))))))))) k
        refine rd_nil ?_
        refine pn_seq ?_
        refine rc_cond rfl (fun hc133 => ?_) (fun hc133 => ?_)
        · replace hres := (ite_t hc133).symm.trans hres
          have hc133' := hc133
          try simp only [Bool.or_eq_true, Bool.or_eq_false_iff, Bool.and_eq_true, Bool.and_eq_false_imp, decide_eq_true_eq, decide_eq_false_iff_not, Bool.not_eq_true', Bool.not_eq_false', Bool.not_eq_true, Bool.not_eq_false, Bool.not_true, Bool.not_false, ne_eq] at hc133'
          refine rc_seq ?_
          refine rc_region ?_
          refine rd_op (v := vb false) (ov_move rfl) ?_
          refine rd_nil ?_
          refine pn_seq ?_
          subst hres
          exact rc_retV (.tmp rfl .nil) (deep_closed rfl) rfl
        · replace hres := (ite_f hc133).symm.trans hres
          have hc133' := hc133
          try simp only [Bool.or_eq_true, Bool.or_eq_false_iff, Bool.and_eq_true, Bool.and_eq_false_imp, decide_eq_true_eq, decide_eq_false_iff_not, Bool.not_eq_true', Bool.not_eq_false', Bool.not_eq_true, Bool.not_eq_false, Bool.not_true, Bool.not_false, ne_eq] at hc133'
          refine rc_skip ?_
          refine pn_seq ?_
          refine rc_seq ?_
          refine rc_region ?_
          refine rd_op (ov_load rfl (TR.cnt api_Program.t r0) (TR.agg api_Program.t r0)) ?_
          refine rd_op (ov_move rfl) ?_
          refine rd_op (ov_load0 (k := 2) M129 rfl rfl (TR.agg api_Row.t r118)) ?_
          refine rd_op (ov_load0 (k := 1) M129 rfl rfl (TR.agg api_Row.t r119)) ?_
          obtain ⟨y134, hw134, hres⟩ := let_ex hres
          have f134 := f38_ok (x1 := x1) r0 r118 r119 
          rw [hw134] at f134
          refine rd_call (cv_fn rfl rfl (clL_cons (TR.clo api_Program.t r0) (clL_cons rfl (clL_cons (TR.clo api_Row.t r118) (clL_cons (TR.clo api_Row.t r119) clL_nil)))) f134) ?_
          refine rd_op (ov_move rfl) ?_
          refine rd_cut (d := 82) (v := vb (y134 && (entry_Precedes x0 x1 (ix x2 (Int.tmod (wr (x8_ + 1)) 3)) (ix x2 (Int.tmod (wr (x8_ + 2)) 3))))) ?_ ?_
          · intro S Q r
            simp only [ac12_G2, List.cons_append, List.nil_append, List.append_assoc]
            cases hb135 : y134
            · intro k
              refine rd_skip rfl rfl ?_
              refine rd_skip rfl rfl ?_
              refine rd_skip rfl rfl ?_
              refine rd_skip rfl rfl ?_
              refine rd_skip rfl rfl ?_
              refine rd_op (v := vb false) (ov_pick rfl rfl rfl rfl) ?_
              exact rd_weak (sub_cons rfl (sub_skip rfl (sub_skip rfl (sub_skip rfl (sub_skip rfl (sub_skip rfl (sub_skip rfl (sub_refl _)))))))) k
            · intro k
              have hb135' := hb135
              try simp only [Bool.or_eq_true, Bool.or_eq_false_iff, Bool.and_eq_true, Bool.and_eq_false_imp, decide_eq_true_eq, decide_eq_false_iff_not, Bool.not_eq_true', Bool.not_eq_false', Bool.not_eq_true, Bool.not_eq_false, Bool.not_true, Bool.not_false, ne_eq] at hb135'
              refine rd_yes rfl rfl (ov_load rfl (TR.cnt api_Program.t r0) (TR.agg api_Program.t r0)) ?_
              refine rd_yes rfl rfl (ov_move rfl) ?_
              refine rd_yes rfl rfl (ov_load0 (k := 1) M129 rfl rfl (TR.agg api_Row.t r119)) ?_
              refine rd_yes rfl rfl (ov_load0 (k := 0) M129 rfl rfl (TR.agg api_Row.t r120)) ?_
              have f136 := f38_ok (x1 := x1) r0 r119 r120 
              refine rd_ycall rfl rfl (cv_fn rfl rfl (clL_cons (TR.clo api_Program.t r0) (clL_cons rfl (clL_cons (TR.clo api_Row.t r119) (clL_cons (TR.clo api_Row.t r120) clL_nil)))) f136) ?_
              refine rd_op (v := vb (entry_Precedes x0 x1 (ix x2 (Int.tmod (wr (x8_ + 1)) 3)) (ix x2 (Int.tmod (wr (x8_ + 2)) 3)))) (ov_pick rfl rfl rfl rfl) ?_
              exact rd_weak (sub_cons rfl (sub_skip rfl (sub_skip rfl (sub_skip rfl (sub_skip rfl (sub_skip rfl (sub_skip rfl (sub_refl _)))))))) k
          refine rd_op (ov_move rfl) ?_
          refine rd_cut (d := 90) (v := vb ((y134 && (entry_Precedes x0 x1 (ix x2 (Int.tmod (wr (x8_ + 1)) 3)) (ix x2 (Int.tmod (wr (x8_ + 2)) 3)))) && (!(entry_Precedes x0 x1 (ix x2 x8_) (ix x2 (Int.tmod (wr (x8_ + 2)) 3)))))) ?_ ?_
          · intro S Q r
            simp only [ac12_G3, List.cons_append, List.nil_append, List.append_assoc]
            cases hb137 : (y134 && (entry_Precedes x0 x1 (ix x2 (Int.tmod (wr (x8_ + 1)) 3)) (ix x2 (Int.tmod (wr (x8_ + 2)) 3))))
            · intro k
              refine rd_skip rfl rfl ?_
              refine rd_skip rfl rfl ?_
              refine rd_skip rfl rfl ?_
              refine rd_skip rfl rfl ?_
              refine rd_skip rfl rfl ?_
              refine rd_skip rfl rfl ?_
              refine rd_op (v := vb false) (ov_pick rfl rfl rfl rfl) ?_
              exact rd_weak (sub_cons rfl (sub_skip rfl (sub_skip rfl (sub_skip rfl (sub_skip rfl (sub_skip rfl (sub_skip rfl (sub_skip rfl (sub_refl _))))))))) k
            · intro k
              have hb137' := hb137
              try simp only [Bool.or_eq_true, Bool.or_eq_false_iff, Bool.and_eq_true, Bool.and_eq_false_imp, decide_eq_true_eq, decide_eq_false_iff_not, Bool.not_eq_true', Bool.not_eq_false', Bool.not_eq_true, Bool.not_eq_false, Bool.not_true, Bool.not_false, ne_eq] at hb137'
              refine rd_yes rfl rfl (ov_load rfl (TR.cnt api_Program.t r0) (TR.agg api_Program.t r0)) ?_
              refine rd_yes rfl rfl (ov_move rfl) ?_
              refine rd_yes rfl rfl (ov_load0 (k := 2) M129 rfl rfl (TR.agg api_Row.t r118)) ?_
              refine rd_yes rfl rfl (ov_load0 (k := 0) M129 rfl rfl (TR.agg api_Row.t r120)) ?_
              have f138 := f38_ok (x1 := x1) r0 r118 r120 
              refine rd_ycall rfl rfl (cv_fn rfl rfl (clL_cons (TR.clo api_Program.t r0) (clL_cons rfl (clL_cons (TR.clo api_Row.t r118) (clL_cons (TR.clo api_Row.t r120) clL_nil)))) f138) ?_
              refine rd_yes rfl rfl (ov_not rfl) ?_
              refine rd_op (v := vb (!(entry_Precedes x0 x1 (ix x2 x8_) (ix x2 (Int.tmod (wr (x8_ + 2)) 3))))) (ov_pick rfl rfl rfl rfl) ?_
              exact rd_weak (sub_cons rfl (sub_skip rfl (sub_skip rfl (sub_skip rfl (sub_skip rfl (sub_skip rfl (sub_skip rfl (sub_skip rfl (sub_refl _))))))))) k
          refine rd_nil ?_
          refine pn_seq ?_
          refine rc_cond rfl (fun hc139 => ?_) (fun hc139 => ?_)
          · replace hres := (ite_t hc139).symm.trans hres
            have hc139' := hc139
            try simp only [Bool.or_eq_true, Bool.or_eq_false_iff, Bool.and_eq_true, Bool.and_eq_false_imp, decide_eq_true_eq, decide_eq_false_iff_not, Bool.not_eq_true', Bool.not_eq_false', Bool.not_eq_true, Bool.not_eq_false, Bool.not_true, Bool.not_false, ne_eq] at hc139'
            refine rc_seq ?_
            refine rc_region ?_
            refine rd_op (v := vb false) (ov_move rfl) ?_
            refine rd_nil ?_
            refine pn_seq ?_
            subst hres
            exact rc_retV (.tmp rfl .nil) (deep_closed rfl) rfl
          · replace hres := (ite_f hc139).symm.trans hres
            have hc139' := hc139
            try simp only [Bool.or_eq_true, Bool.or_eq_false_iff, Bool.and_eq_true, Bool.and_eq_false_imp, decide_eq_true_eq, decide_eq_false_iff_not, Bool.not_eq_true', Bool.not_eq_false', Bool.not_eq_true, Bool.not_eq_false, Bool.not_true, Bool.not_false, ne_eq] at hc139'
            refine rc_skip ?_
            refine pn_blk ?_
            refine pn_seq ?_
            refine rc_region ?_
            refine rd_op (ov_move rfl) ?_
            refine rd_op (ov_bin rfl rfl i_add) ?_
            refine rd_op (ov_move rfl) ?_
            refine rd_nil ?_
            refine pn_again ?_
            have hinc : wr (x8_ + 1) = x8_ + 1 := wr_of (by omega) (by omega)
            rw [hinc]
            refine rc_weak ?_ (ih (x8_ + 1)  (by omega) (by omega) _ (Mem.sub M129 (.cons _ (.cons _ (.cons _ .slnil)))) hres)
            exact ((sub_cons rfl (sub_cons rfl (sub_cons rfl (sub_cons rfl (sub_nil _))))))
    · exfalso
      try simp only [Bool.or_eq_true, Bool.or_eq_false_iff, Bool.and_eq_true, Bool.and_eq_false_imp, decide_eq_true_eq, decide_eq_false_iff_not, Bool.not_eq_true', Bool.not_eq_false', Bool.not_eq_true, Bool.not_eq_false, Bool.not_true, Bool.not_false, ne_eq] at hc113
      omega

theorem f12_ok {x0 : api_Program} {x1 : Int} {x2 : List api_Row} {v0 v2 : PV} (r0 : api_Program.t.R x0 v0) (r2 : (tAr 3 api_Row.t).R x2 v2) : FnR Try.prog 12 [v0, vi x1, v2] (vb (law23_EntryOrder x0 x1 x2)) := by
  obtain ⟨res, hres⟩ : ∃ res, law23_EntryOrder x0 x1 x2 = res := ⟨_, rfl⟩
  suffices H : RC Try.prog ac12 [] (QR Try.prog [(6, none)] (RF12 res)) (argE 0 [v0, vi x1, v2]) ⟨0, []⟩ by
    obtain ⟨r, h1, h2⟩ := fnE text12 (by simp) H
    rw [hres]
    have h2 : r = vb res := h2
    rw [← h2]; exact h1
  unfold law23_EntryOrder at hres
  unfold ac12
  refine rc_seq ?_
  refine rc_region ?_
  refine rd_op (ov_box rfl (TR.cnt api_Program.t r0)) ?_
  refine rd_op (ov_box rfl (TR.cnt (tAr 3 api_Row.t) r2)) ?_
  refine rd_op (v := vb false) (ov_move rfl) ?_
  refine rd_nil ?_
  refine pn_seq ?_
  refine rc_seq ?_
  refine rc_seq ?_
  refine rc_region ?_
  refine rd_op (ov_load rfl (TR.cnt api_Program.t r0) (TR.agg api_Program.t r0)) ?_
  obtain ⟨y101, hw101, hres⟩ := let_ex hres
  have f101 := f14_ok  r0 
  rw [hw101] at f101
  refine rd_call (cv_fn rfl rfl (clL_cons (TR.clo api_Program.t r0) clL_nil) f101) ?_
  refine rd_op (ov_not rfl) ?_
  refine rd_nil ?_
  refine pn_seq ?_
  refine rc_cond rfl (fun hc102 => ?_) (fun hc102 => ?_)
  · replace hres := (ite_t hc102).symm.trans hres
    have hc102' := hc102
    try simp only [Bool.or_eq_true, Bool.or_eq_false_iff, Bool.and_eq_true, Bool.and_eq_false_imp, decide_eq_true_eq, decide_eq_false_iff_not, Bool.not_eq_true', Bool.not_eq_false', Bool.not_eq_true, Bool.not_eq_false, Bool.not_true, Bool.not_false, ne_eq] at hc102'
    refine rc_seq ?_
    refine rc_region ?_
    obtain ⟨y103, hw103, hres⟩ := let_ex hres
    have f103 := f33_ok   
    rw [hw103] at f103
    refine rd_call (cv_fn rfl rfl clL_nil f103) ?_
    refine rd_op (ov_move rfl) ?_
    refine rd_nil ?_
    refine pn_seq ?_
    subst hres
    exact rc_retV (.tmp rfl .nil) (deep_closed rfl) rfl
  · replace hres := (ite_f hc102).symm.trans hres
    have hc102' := hc102
    try simp only [Bool.or_eq_true, Bool.or_eq_false_iff, Bool.and_eq_true, Bool.and_eq_false_imp, decide_eq_true_eq, decide_eq_false_iff_not, Bool.not_eq_true', Bool.not_eq_false', Bool.not_eq_true, Bool.not_eq_false, Bool.not_true, Bool.not_false, ne_eq] at hc102'
    refine rc_skip ?_
    refine pn_seq ?_
    refine rc_seq ?_
    refine rc_seq ?_
    refine rc_region ?_
    refine rd_op (v := vi 0) (ov_move rfl) ?_
    refine rd_nil ?_
    refine pn_seq ?_
    refine rc_block ?_
    refine rc_weak ?_ (law23_EntryOrder_L1_ok (x0 := x0) (x1 := x1) (x2 := x2) (y101 := y101) (v0 := v0) (v2 := v2)  (r2 := r2) (hw101 := hw101) (hc102 := hc102) ?_ (Int.toNat (3 - 0)) 0 rfl (by omega) hres)
    · exact ((sub_cons rfl (sub_cons rfl (sub_cons rfl (sub_cons rfl (sub_nil _))))))
    · intro  hres
      refine px_blk ?_
      refine pn_seq ?_
      refine rc_seq ?_
      refine rc_seq ?_
      refine rc_region ?_
      refine rd_op (v := vi 0) (ov_move rfl) ?_
      refine rd_nil ?_
      refine pn_seq ?_
      refine rc_block ?_
      refine rc_weak ?_ (law23_EntryOrder_L2_ok (x0 := x0) (x1 := x1) (x2 := x2) (y101 := y101) (v0 := v0) (v2 := v2)  (r0 := r0) (r2 := r2) (hw101 := hw101) (hc102 := hc102) ?_ (Int.toNat (3 - 0)) 0 rfl (by omega) _ (Mem.sub (Mem.nil ⟨0, []⟩) .slnil) hres)
      · exact ((sub_cons rfl (sub_cons rfl (sub_cons rfl (sub_cons rfl (sub_nil _))))))
      · intro h140 M140 hres
        refine px_blk ?_
        refine pn_seq ?_
        refine rc_seq ?_
        refine rc_region ?_
        obtain ⟨y141, hw141, hres⟩ := let_ex hres
        have f141 := f33_ok   
        rw [hw141] at f141
        refine rd_call (cv_fn rfl rfl clL_nil f141) ?_
        refine rd_op (ov_move rfl) ?_
        refine rd_nil ?_
        refine pn_seq ?_
        subst hres
        exact rc_retV (.tmp rfl .nil) (deep_closed rfl) rfl

end Go.Proofs.Ytklfdkbemkommaa
